/- A part of the proof. -/
import Derived.Test.YtfldiegfenndjaaGreatDoorTopCvG8
import Derived.Test.YtfldiegfenndjaaGreatDoorTopCvG17
import Derived.Test.YtfldiegfenndjaaGreatDoorTopCvG6
set_option linter.unusedSimpArgs false
set_option linter.unusedVariables false
namespace Go.Proofs.YtfldiegfenndjaaGreatDoor
open Go Go.Fw Go.Proofs.Tryz
set_option maxRecDepth 100000
set_option maxHeartbeats 1000000
theorem ent94 : qAF prog 94 := qAF.of func94 rfl (by kernel_rfl)
theorem ent185 : qAF prog 185 := qAF.of func185 rfl (by kernel_rfl)
theorem ent219 : qAF prog 219 := qAF.of func219 rfl (by kernel_rfl)
theorem ent242 : qAF prog 242 := qAF.of func242 rfl (by kernel_rfl)
theorem qHs (F : Hp) (k : List UInt8) (z : Int) : Ct prog 94 [Str (k), I (z)] [F] (fun _ : Unit => .bool (decide (k.length = 16 ∧ 0 ≤ z ∧ z ≤ 128))) (fun _ => True) (fun _ => [F]) := by
 refine Ct.walk func94 rfl ntmps94 rfl (fun w0 hw0 => ?_)
 change J _ [(0, _), (1, _)] _ _ _
 refine J.g fun K1 hK1 => J.b rfl <| J.c hK1 <| J.G 0 1 ?_
 refine J.g fun K2 hK2 => J.b rfl <| J.f (qA7 u9_ rfl rfl) rfl <| J.f (qAa rfl rfl rfl) rfl <| J.b rfl <| J.c2 (d := 8) rfl (fun h8 => ?_) (fun h8 => ?_)
 ·
  refine J.b rfl <| J.E (qBR rfl rfl rfl) rfl <| J.j 2 rfl <| J.c2 (d := 12) rfl (fun h12 => ?_) (fun h12 => ?_)
  ·
   refine J.b rfl <| J.E (qB1 rfl rfl rfl) rfl <| J.j 2 rfl <| J.c hK2 <| J.u 4 ?_
   exact J.D <| J.H hw0 rfl () (by first | rw [decide_eq_false (by omega)] | rw [decide_eq_true (by omega)] | exact congrArg Value.bool (decide_eq_decide.2 (by omega))) trivial [0] rfl (by decide)
  refine J.j 4 rfl <| J.c hK2 <| J.u 4 ?_
  exact J.D <| J.H hw0 rfl () (by first | rw [decide_eq_false (by omega)] | rw [decide_eq_true (by omega)] | exact congrArg Value.bool (decide_eq_decide.2 (by omega))) trivial [0] rfl (by decide)
 refine J.j 8 rfl <| J.c hK2 <| J.u 4 ?_
 exact J.D <| J.H hw0 rfl () (by first | rw [decide_eq_false (by omega)] | rw [decide_eq_true (by omega)] | exact congrArg Value.bool (decide_eq_decide.2 (by omega))) trivial [0] rfl (by decide)
theorem qL7 (F : Hp) (k : List UInt8) (hk : k.length = 16) (d : Nat) (hd : d < 128) : Ct prog 101 [Str (k), I ((d : Nat) : Int)] [F] (fun _ : Unit => Str (turn k d)) (fun _ => True) (fun _ => [F]) := by
 refine Ct.walk func101 rfl ntmps101 rfl (fun w0 hw0 => ?_)
 change J _ [(0, _), (1, _)] _ _ _
 refine J.g fun K1 hK1 => J.b rfl <| J.c hK1 <| J.G 0 1 ?_
 refine J.g fun K2 hK2 => J.b rfl <| J.q (qGI rfl rfl u9_ qBd u5_) rfl ?_
 rintro ⟨g7, c7, m7⟩ h7
 try dsimp only at h7
 change J _ ((7, .slice (some ⟨g7, 0, none⟩) k.length c7) :: _) _ [F, m7] _
 refine J.b rfl <| J.c hK2 <| J.G 1 5 ?_
 refine J.p fun K3 hK3 => J.c0 [F, m7] [11] (.y 0 (.y 1 (.y 2 (.y 3 (.y 4 (.y 5 (.y 6 (.y 7 (.y 8 (.y 9 (.y 10 (.e 11 .nil)))))))))))) Tryz.wide (by decide +kernel) (by simp) ?_
 refine J.V ?_
 refine J.V ?_
 refine J.k rfl ((qJt rfl rfl rfl (by first | omega | (simp only [List.length_append, List.length_cons, List.length_nil, List.length_take, List.length_drop] at *; omega))).nat (d / 8) (by omega)) rfl rfl <| J.k rfl (qAV (i := d / 8) (j := 0 + (d / 8) * 1) rfl rfl rfl qBd z5_ (by first | omega | (simp only [List.length_append, List.length_cons, List.length_nil, List.length_take, List.length_drop] at *; omega)) (by omega)) rfl rfl <| J.k rfl (qAQ rfl rfl b5_ (m := m7) (by simp) (h7.sl.cells (qBe (qAl 0 (by first | omega | (simp only [List.length_append, List.length_cons, List.length_nil, List.length_take, List.length_drop] at *; omega)))))) rfl rfl <| J.V ?_
 refine J.k rfl ((qHz rfl rfl rfl (by first | omega | (simp only [List.length_append, List.length_cons, List.length_nil, List.length_take, List.length_drop] at *; omega))).nat (d % 8) (by omega)) rfl rfl <| J.k rfl ((qBI rfl rfl rfl (by omega)).nat (7 - d % 8) (by omega)) rfl rfl <| J.k rfl ((qRv (a := 1) (m := 7 - d % 8) rfl rfl rfl).as (v' := B8 (UInt8.ofNat (1 * 2 ^ (7 - d % 8)))) (by rw [Nat.min_eq_left (by omega)]; rfl)) rfl rfl <| J.k rfl (qRt rfl rfl rfl) rfl rfl <| J.k rfl (qAV (i := d / 8) (j := 0 + (d / 8) * 1) rfl rfl rfl qBd z5_ (by first | omega | (simp only [List.length_append, List.length_cons, List.length_nil, List.length_take, List.length_drop] at *; omega)) (by omega)) rfl rfl <| J.c8 rfl (qAu (i := 1) (k := d / 8) (off := 0) (b := [B8 (k.getD (d / 8) 0 ^^^ UInt8.ofNat (1 * 2 ^ (7 - d % 8)))]) rfl rfl rfl rfl h7 (vs := [B8 (k.getD (d / 8) 0 ^^^ UInt8.ofNat (1 * 2 ^ (7 - d % 8)))]) rfl z5_ rfl (by omega) (qBe (qAl 0 (by first | omega | (simp only [List.length_append, List.length_cons, List.length_nil, List.length_take, List.length_drop] at *; omega)))) rfl (Nat.le_refl _)) rfl rfl rfl ?_
 rintro m2_1 hm2_1
 change J _ _ _ [_, m2_1] _
 rw [qEZ] at hm2_1
 refine J.b3 <| J.A (J.L hK3 ?_)
 refine J.u 5 ?_
 refine J.g fun K4 hK4 => J.b rfl <| J.f (qBT (l := k.set (d / 8) (k.getD (d / 8) 0 ^^^ UInt8.ofNat (1 * 2 ^ (7 - d % 8)))) rfl rfl qBd u5_ u9_ (m := m2_1) (by simp) hm2_1.sl) rfl <| J.b rfl <| J.c hK4 <| J.u 4 ?_
 exact J.D <| J.H hw0 rfl () (by unfold turn; rfl) trivial [0] rfl (by decide)
theorem qOu (F : Hp) (s : List UInt8) : Ct prog 185 [Str (s)] [F] (fun _ : Unit => .bool (qM6 s)) (fun _ => True) (fun _ => [F]) := by
 refine Ct.walk func185 rfl ntmps185 rfl (fun w0 hw0 => ?_)
 change J _ [(0, _)] _ _ _
 refine J.g fun K1 hK1 => J.b rfl <| J.c hK1 <| J.u 0 ?_
 refine J.g fun K2 hK2 => J.b rfl <| J.f (qBH rfl rfl rfl) rfl <| J.b rfl <| J.c2 (d := 5) rfl (fun h5 => ?_) (fun h5 => ?_)
 ·
  refine J.j 4 rfl <| J.d0 (Wan.un rfl rfl rfl rfl) rfl rfl ?_
  refine J.d0 (Wan.un rfl rfl rfl rfl) rfl rfl ?_
  refine J.d0 (Wan.un rfl rfl rfl rfl) rfl rfl ?_
  refine J.d0 (Wan.un rfl rfl rfl rfl) rfl rfl ?_
  refine J.d0 (Wan.un rfl rfl rfl rfl) rfl rfl ?_
  refine J.d0 (Wan.un rfl rfl rfl rfl) rfl rfl ?_
  refine J.d0 (Wan.un rfl rfl rfl rfl) rfl rfl ?_
  refine J.d0 (Wan.un rfl rfl rfl rfl) rfl rfl ?_
  refine J.j 3 rfl <| J.c hK2 <| J.u 2 ?_
  exact J.D <| J.H hw0 rfl () (by first | rw [qJ1 (by assumption)] | rw [qEi (by omega) (by omega)] | rw [qC9 (by assumption) (by omega)] | (by_cases q : (s.getD 0 0).toNat = 2; rw [qEi (by omega) (.inr q), decide_eq_true (by omega)]; rw [qC9 (by assumption) (by omega), decide_eq_false (by omega)])) trivial [0] rfl (by decide)
 refine J.b rfl <| J.E (qA7 u9_ rfl rfl) rfl <| J.E (qAa rfl rfl rfl) rfl <| J.b rfl <| J.c2 (d := 9) rfl (fun h9 => ?_) (fun h9 => ?_)
 ·
  refine J.b rfl <| J.E (qBj (c := s.getD 0 0) u9_ rfl rfl rfl (qAl 0 (by first | omega | (simp only [List.length_append, List.length_cons, List.length_nil, List.length_take, List.length_drop] at *; omega)))) rfl <| J.E (qAa rfl rfl rfl) rfl <| J.b rfl <| J.c2 (d := 13) rfl (fun h13 => ?_) (fun h13 => ?_)
  ·
   refine J.j 7 rfl <| J.c hK2 <| J.u 2 ?_
   exact J.D <| J.H hw0 rfl () (by first | rw [qJ1 (by assumption)] | rw [qEi (by omega) (by omega)] | rw [qC9 (by assumption) (by omega)] | (by_cases q : (s.getD 0 0).toNat = 2; rw [qEi (by omega) (.inr q), decide_eq_true (by omega)]; rw [qC9 (by assumption) (by omega), decide_eq_false (by omega)])) trivial [0] rfl (by decide)
  refine J.b rfl <| J.E (qBj (c := s.getD 0 0) u9_ rfl rfl rfl (qAl 0 (by first | omega | (simp only [List.length_append, List.length_cons, List.length_nil, List.length_take, List.length_drop] at *; omega)))) rfl <| J.E (qAa rfl rfl rfl) rfl <| J.j 4 rfl <| J.c hK2 <| J.u 2 ?_
  exact J.D <| J.H hw0 rfl () (by first | rw [qJ1 (by assumption)] | rw [qEi (by omega) (by omega)] | rw [qC9 (by assumption) (by omega)] | (by_cases q : (s.getD 0 0).toNat = 2; rw [qEi (by omega) (.inr q), decide_eq_true (by omega)]; rw [qC9 (by assumption) (by omega), decide_eq_false (by omega)])) trivial [0] rfl (by decide)
 refine J.j 4 rfl <| J.d0 (Wan.un rfl rfl rfl rfl) rfl rfl ?_
 refine J.d0 (Wan.un rfl rfl rfl rfl) rfl rfl ?_
 refine J.d0 (Wan.un rfl rfl rfl rfl) rfl rfl ?_
 refine J.j 4 rfl <| J.c hK2 <| J.u 2 ?_
 exact J.D <| J.H hw0 rfl () (by first | rw [qJ1 (by assumption)] | rw [qEi (by omega) (by omega)] | rw [qC9 (by assumption) (by omega)] | (by_cases q : (s.getD 0 0).toNat = 2; rw [qEi (by omega) (.inr q), decide_eq_true (by omega)]; rw [qC9 (by assumption) (by omega), decide_eq_false (by omega)])) trivial [0] rfl (by decide)
theorem qNM (F : Hp) (A : Option Addr) (c : Nat) (bs : List (List UInt8)) (hs : Sl F 1 A bs.length c (qAJ bs)) (th : Bool) (pk pv k : List UInt8) (d : Nat) (hg : qN8 bs th pk pv k d) : Ct prog 149 [.agg #[.slice A bs.length c, .bool (th), Str (pk), Str (pv)], Str (k), I ((d : Nat) : Int)] [F] (fun _ : Unit => .bool true) (fun _ => True) (fun _ => [F]) := by
 have hle := hg.le
 have hk16 := hg.k16
 refine Ct.walk func149 rfl ntmps149 rfl (fun w0 hw0 => ?_)
 change J _ [(0, _), (1, _), (2, _)] _ _ _
 refine J.g fun K1 hK1 => J.q (qAi (l := [.slice A bs.length c, .bool (th), Str (pk), Str (pv)]) rfl rfl rfl) rfl fun g3 _ => ?_
 change J _ _ _ [F, blk g3 [.slice A bs.length c, .bool (th), Str (pk), Str (pv)] 58] _
 refine J.b rfl <| J.c hK1 <| J.O 1 2 3 ?_
 refine J.g fun K2 hK2 => J.a7 0 qDT qEe rfl rfl rfl rfl rfl <| J.f (qAE 1 (v := .slice A bs.length c) rfl rfl rfl qDv rfl) rfl <| J.f (qAh qAo rfl rfl) rfl <| J.b rfl <| J.c hK2 <| J.T 1 2 3 7 ?_
 refine J.p fun K3 hK3 => J.g fun K4 hK4 => J.j 2 rfl <| J.q (qAC rfl rfl ent94 (Ct.use0 (fun F' hF => qHs F' k ((d : Nat) : Int)))) rfl fun g16 _ => J.f ((qA3 rfl rfl).as (v' := .bool false) (by rw [decide_eq_true (show k.length = 16 ∧ (0 : Int) ≤ ((d : Nat) : Int) ∧ ((d : Nat) : Int) ≤ 128 from ⟨hk16, by omega, by omega⟩)]; rfl)) rfl <| J.j 3 rfl <| J.E (qBI rfl rfl rfl (by first | omega | (simp only [List.length_append, List.length_cons, List.length_nil, List.length_take, List.length_drop] at *; omega))) rfl <| J.E ((qBQ rfl rfl rfl).no (by omega)) rfl <| J.b rfl <| J.c hK4 <| J.a3 1 2 3 7 23 ?_
 refine J.b2 ?_
 refine J.a1 hK3 <| J.T 1 2 3 7 ?_
 refine J.p fun K5 hK5 => J.g fun K6 hK6 => J.a7 0 qDT qEe rfl rfl rfl rfl rfl <| J.f (qAE 1 (v := .slice A bs.length c) rfl rfl rfl qDv rfl) rfl <| J.f (qAh qAo rfl rfl) rfl <| J.b rfl <| J.c hK6 <| J.c3 1 2 3 7 25 26 27 ?_
 refine J.W <| J.b6 (X := Nat) (fun ζ => [(1, Str (k)), (2, I ((d : Nat) : Int)), (3, Ptr g3), (7, I ((bs.length : Nat) : Int)), (25, .slice A bs.length c), (26, I ((bs.length : Nat) : Int)), (27, I ((ζ : Nat) : Int))]) (fun ζ => [F, blk g3 [.slice A bs.length c, .bool (th), Str (pk), Str (pv)] 58]) (fun ζ => ζ ≤ bs.length) (fun ζ => bs.length - ζ) 0 (Nat.zero_le _) ⟨rfl, rfl, rfl, rfl, rfl, rfl, rfl, trivial⟩ (fun _ h => h) ?_
 rintro i hi I0 hI0
 refine J.g fun K7 hK7 => J.f (qAX rfl rfl rfl) rfl <| J.c hK7 <| J.d8 1 2 3 7 25 26 27 28 ?_
 refine J.p fun K8 hK8 => J.a0 rfl (fun h28 => ?_) (fun h28 => ?_)
 ·
  refine J.a1 hK8 <| J.c3 1 2 3 7 25 26 27 ?_
  refine J.p fun K9 hK9 => J.W <| J.g fun K10 hK10 => J.f (qAK (i := i) rfl rfl rfl qAo z9_ hs (by first | omega | (simp only [List.length_append, List.length_cons, List.length_nil, List.length_take, List.length_drop] at *; omega))) rfl <| J.f (qAQ rfl rfl b9_ (m := F) (by simp) (hs.elem (qAZ (qAl [] (by first | omega | (simp only [List.length_append, List.length_cons, List.length_nil, List.length_take, List.length_drop] at *; omega)))))) rfl <| J.b rfl <| J.c hK10 <| J.d8 1 2 3 7 9 25 26 27 ?_
  refine J.g fun K11 hK11 => J.b rfl <| J.q (qAC rfl rfl ent185 (Ct.use0 (fun F' hF => qOu F' (bs.getD i [])))) rfl fun g32 _ => J.f ((qA3 rfl rfl).as (v' := .bool false) (by rw [hg.nodes i (by omega)]; rfl)) rfl <| J.c hK11 <| J.d8 1 2 3 7 25 26 27 33 ?_
  refine J.b2 ?_
  refine J.b9 <| J.a5 <| J.A (J.L hK9 ?_)
  refine J.c3 1 2 3 7 25 26 27 ?_
  exact J.M <| J.f ((qAU rfl rfl rfl (by first | omega | (simp only [List.length_append, List.length_cons, List.length_nil, List.length_take, List.length_drop] at *; omega))).nat (i + 1) (by omega)) rfl <| J.b rfl <| J.a6 <| J.A <| J.a8 (i + 1) (fun η (hη : _ ∧ bs.length - η < bs.length - i) => hI0 η hη.1 hη.2) ⟨(by omega), by first | omega | (dsimp only; omega)⟩ ⟨rfl, rfl, rfl, rfl, rfl, rfl, rfl, trivial⟩ (fun _ h => h)
 refine J.b5 <| J.a4 <| J.a4 <| J.b7 ?_
 refine J.A (J.L hK5 ?_)
 refine J.T 1 2 3 7 ?_
 refine J.p fun K12 hK12 => J.g fun K13 hK13 => J.b rfl <| J.f (qBQ rfl rfl rfl) rfl <| J.c hK13 <| J.a3 1 2 3 7 36 ?_
 refine J.a0 rfl (fun h36 => ?_) (fun h36 => ?_)
 ·
  obtain ⟨hl1, hl2⟩ := hg.last (by omega)
  refine J.g fun K14 hK14 => J.a7 0 qDT qEe rfl rfl rfl rfl rfl <| J.f (qAE 1 (v := .slice A bs.length c) rfl rfl rfl qDv rfl) rfl <| J.b rfl <| J.f ((qBI rfl rfl rfl (by omega)).nat (bs.length - 1) (by omega)) rfl <| J.f (qAK (i := bs.length - 1) rfl rfl rfl qAo z9_ hs (by first | omega | (simp only [List.length_append, List.length_cons, List.length_nil, List.length_take, List.length_drop] at *; omega))) rfl <| J.f (qAQ rfl rfl b9_ (m := F) (by simp) (hs.elem (qAZ (qAl [] (by first | omega | (simp only [List.length_append, List.length_cons, List.length_nil, List.length_take, List.length_drop] at *; omega)))))) rfl <| J.b rfl <| J.c hK14 <| J.a3 1 2 3 7 10 ?_
  refine J.g fun K15 hK15 => J.b rfl <| J.f ((qBH rfl rfl rfl).no (hl1)) rfl <| J.b rfl <| J.E (qAA (j := 1) rfl rfl qDT rfl z4_ rfl) rfl <| J.E (qAE 1 (v := .bool (th)) rfl rfl rfl b4_ rfl) rfl <| J.E (qA3 rfl rfl) rfl <| J.b rfl <| J.f8 (d := 49) rfl (fun h49 => ?_) (fun h49 => ?_)
  ·
   refine J.b rfl ?_
   have hl3 := qPa (hl2 (by simpa using h49))
   refine J.E (qBj (c := (bs.getD (bs.length - 1) []).getD 0 0) u9_ rfl rfl rfl (qAl 0 (by first | omega | (simp only [List.length_append, List.length_cons, List.length_nil, List.length_take, List.length_drop] at *; omega)))) rfl <| J.E ((qAz rfl rfl rfl).no (by have := hl2 (by simpa using h49); omega)) rfl <| J.j 2 rfl <| J.c hK15 <| J.a3 1 2 3 7 54 ?_
   refine J.b2 ?_
   refine J.a1 hK12 <| J.T 1 2 3 7 ?_
   refine J.p fun K16 hK16 => J.g fun K17 hK17 => J.a7 1 qDT z4_ rfl rfl rfl rfl rfl <| J.f (qAE 1 (v := .bool (th)) rfl rfl rfl b4_ rfl) rfl <| J.f (qA3 rfl rfl) rfl <| J.c hK17 <| J.a3 1 2 3 7 57 ?_
   refine J.d1 rfl (fun h57 => ?_) (fun h57 => ?_)
   ·
    refine J.g fun K18 hK18 => J.a7 2 qDT z9_ rfl rfl rfl rfl rfl <| J.f (qAE 1 (v := Str (pk)) rfl rfl rfl b9_ rfl) rfl <| J.f ((qBH rfl rfl rfl).yes ((hg.no (by simpa using h57)).1)) rfl <| J.b rfl <| J.E (qAA (j := 3) rfl rfl qDT rfl z9_ rfl) rfl <| J.E (qAE 1 (v := Str (pv)) rfl rfl rfl b9_ rfl) rfl <| J.E ((qBH rfl rfl rfl).yes ((hg.no (by simpa using h57)).2)) rfl <| J.j 2 rfl <| J.c hK18 <| J.u 6 ?_
    exact J.D <| J.Z <| J.H hw0 rfl () (by first | rfl | (rw [Int.toNat_natCast, Nat.min_eq_left (by omega), (hg.yes (by simpa using h57)).2])) trivial [0] rfl (by decide)
   refine J.a1 hK16 <| J.T 1 2 3 7 ?_
   refine J.g fun K19 hK19 => J.a7 2 qDT z9_ rfl rfl rfl rfl rfl <| J.f (qAE 1 (v := Str (pk)) rfl rfl rfl b9_ rfl) rfl <| J.f (qA7 u9_ rfl rfl) rfl <| J.f ((qAa rfl rfl rfl).yes (by have := (hg.yes (by simpa using h57)).1; omega)) rfl <| J.b rfl <| J.E (qAA (j := 2) rfl rfl qDT rfl z9_ rfl) rfl <| J.E (qAE 1 (v := Str (pk)) rfl rfl rfl b9_ rfl) rfl <| J.j 3 rfl <| J.E ((qAU rfl rfl rfl (by first | omega | (simp only [List.length_append, List.length_cons, List.length_nil, List.length_take, List.length_drop] at *; omega))).nat (d + bs.length) (by omega)) rfl ?_
   have hpl := (hg.yes (by simpa using h57)).1
   refine J.d5 (qAC rfl rfl ent100 (Ct.use0 (fun F' hF => qEH F' pk (by omega) k (by omega) ((d + bs.length : Nat) : Int)))) rfl fun g77 _ => J.j 2 rfl <| J.c hK19 <| J.u 6 ?_
   exact J.D <| J.H hw0 rfl () (by first | rfl | (rw [Int.toNat_natCast, Nat.min_eq_left (by omega), (hg.yes (by simpa using h57)).2])) trivial [0] rfl (by decide)
  refine J.j 5 rfl <| J.c hK15 <| J.a3 1 2 3 7 54 ?_
  refine J.b2 ?_
  refine J.a1 hK12 <| J.T 1 2 3 7 ?_
  refine J.p fun K20 hK20 => J.g fun K21 hK21 => J.a7 1 qDT z4_ rfl rfl rfl rfl rfl <| J.f (qAE 1 (v := .bool (th)) rfl rfl rfl b4_ rfl) rfl <| J.f (qA3 rfl rfl) rfl <| J.c hK21 <| J.a3 1 2 3 7 57 ?_
  refine J.d1 rfl (fun h57 => ?_) (fun h57 => ?_)
  ·
   refine J.g fun K22 hK22 => J.a7 2 qDT z9_ rfl rfl rfl rfl rfl <| J.f (qAE 1 (v := Str (pk)) rfl rfl rfl b9_ rfl) rfl <| J.f ((qBH rfl rfl rfl).yes ((hg.no (by simpa using h57)).1)) rfl <| J.b rfl <| J.E (qAA (j := 3) rfl rfl qDT rfl z9_ rfl) rfl <| J.E (qAE 1 (v := Str (pv)) rfl rfl rfl b9_ rfl) rfl <| J.E ((qBH rfl rfl rfl).yes ((hg.no (by simpa using h57)).2)) rfl <| J.j 2 rfl <| J.c hK22 <| J.u 6 ?_
   exact J.D <| J.Z <| J.H hw0 rfl () (by first | rfl | (rw [Int.toNat_natCast, Nat.min_eq_left (by omega), (hg.yes (by simpa using h57)).2])) trivial [0] rfl (by decide)
  refine J.a1 hK20 <| J.T 1 2 3 7 ?_
  refine J.g fun K23 hK23 => J.a7 2 qDT z9_ rfl rfl rfl rfl rfl <| J.f (qAE 1 (v := Str (pk)) rfl rfl rfl b9_ rfl) rfl <| J.f (qA7 u9_ rfl rfl) rfl <| J.f ((qAa rfl rfl rfl).yes (by have := (hg.yes (by simpa using h57)).1; omega)) rfl <| J.b rfl <| J.E (qAA (j := 2) rfl rfl qDT rfl z9_ rfl) rfl <| J.E (qAE 1 (v := Str (pk)) rfl rfl rfl b9_ rfl) rfl <| J.j 3 rfl <| J.E ((qAU rfl rfl rfl (by first | omega | (simp only [List.length_append, List.length_cons, List.length_nil, List.length_take, List.length_drop] at *; omega))).nat (d + bs.length) (by omega)) rfl ?_
  have hpl := (hg.yes (by simpa using h57)).1
  refine J.d5 (qAC rfl rfl ent100 (Ct.use0 (fun F' hF => qEH F' pk (by omega) k (by omega) ((d + bs.length : Nat) : Int)))) rfl fun g77 _ => J.j 2 rfl <| J.c hK23 <| J.u 6 ?_
  exact J.D <| J.H hw0 rfl () (by first | rfl | (rw [Int.toNat_natCast, Nat.min_eq_left (by omega), (hg.yes (by simpa using h57)).2])) trivial [0] rfl (by decide)
 refine J.a1 hK12 <| J.T 1 2 3 7 ?_
 refine J.p fun K24 hK24 => J.g fun K25 hK25 => J.a7 1 qDT z4_ rfl rfl rfl rfl rfl <| J.f (qAE 1 (v := .bool (th)) rfl rfl rfl b4_ rfl) rfl <| J.f (qA3 rfl rfl) rfl <| J.c hK25 <| J.a3 1 2 3 7 57 ?_
 refine J.d1 rfl (fun h57 => ?_) (fun h57 => ?_)
 ·
  refine J.g fun K26 hK26 => J.a7 2 qDT z9_ rfl rfl rfl rfl rfl <| J.f (qAE 1 (v := Str (pk)) rfl rfl rfl b9_ rfl) rfl <| J.f ((qBH rfl rfl rfl).yes ((hg.no (by simpa using h57)).1)) rfl <| J.b rfl <| J.E (qAA (j := 3) rfl rfl qDT rfl z9_ rfl) rfl <| J.E (qAE 1 (v := Str (pv)) rfl rfl rfl b9_ rfl) rfl <| J.E ((qBH rfl rfl rfl).yes ((hg.no (by simpa using h57)).2)) rfl <| J.j 2 rfl <| J.c hK26 <| J.u 6 ?_
  exact J.D <| J.Z <| J.H hw0 rfl () (by first | rfl | (rw [Int.toNat_natCast, Nat.min_eq_left (by omega), (hg.yes (by simpa using h57)).2])) trivial [0] rfl (by decide)
 refine J.a1 hK24 <| J.T 1 2 3 7 ?_
 refine J.g fun K27 hK27 => J.a7 2 qDT z9_ rfl rfl rfl rfl rfl <| J.f (qAE 1 (v := Str (pk)) rfl rfl rfl b9_ rfl) rfl <| J.f (qA7 u9_ rfl rfl) rfl <| J.f ((qAa rfl rfl rfl).yes (by have := (hg.yes (by simpa using h57)).1; omega)) rfl <| J.b rfl <| J.E (qAA (j := 2) rfl rfl qDT rfl z9_ rfl) rfl <| J.E (qAE 1 (v := Str (pk)) rfl rfl rfl b9_ rfl) rfl <| J.j 3 rfl <| J.E ((qAU rfl rfl rfl (by first | omega | (simp only [List.length_append, List.length_cons, List.length_nil, List.length_take, List.length_drop] at *; omega))).nat (d + bs.length) (by omega)) rfl ?_
 have hpl := (hg.yes (by simpa using h57)).1
 refine J.d5 (qAC rfl rfl ent100 (Ct.use0 (fun F' hF => qEH F' pk (by omega) k (by omega) ((d + bs.length : Nat) : Int)))) rfl fun g77 _ => J.j 2 rfl <| J.c hK27 <| J.u 6 ?_
 exact J.D <| J.H hw0 rfl () (by first | rfl | (rw [Int.toNat_natCast, Nat.min_eq_left (by omega), (hg.yes (by simpa using h57)).2])) trivial [0] rfl (by decide)
theorem qP7 (F : Hp) (B : Option Addr) (n e : Nat) : Ct prog 219 [.slice B n e] [F] (fun x : Nat => .func (.func 242) #[] #[Ptr x]) (fun _ => True) (fun x => [F, blk x [.slice B n e] 37]) := by
 refine Ct.walk func219 rfl ntmps219 rfl (fun w0 hw0 => ?_)
 change J _ [(0, _)] _ _ _
 refine J.g fun K1 hK1 => J.q (qAi (l := [.slice B n e]) rfl rfl rfl) rfl fun g1 _ => ?_
 change J _ _ _ [F, blk g1 [.slice B n e] 37] _
 refine J.b rfl <| J.c hK1 <| J.u 1 ?_
 refine J.g fun K2 hK2 => J.f (qBb rfl rfl) rfl <| J.b rfl <| J.c hK2 <| J.u 2 ?_
 exact J.D <| J.H hw0 rfl g1 rfl trivial [0, 1] rfl (by decide)
theorem qNv (Fr : Hp) (gB : Nat) (B : Option Addr) (W : List (List UInt8)) (e : Nat) (hn2 : W.length ≤ 1073741824) (ha : qAS Fr ⟨gB, 0, none⟩ [.slice B W.length e]) (hs : Sl Fr 1 B W.length e (qAJ W)) :
    qJO prog 242 [Ptr gB] Fr (fun i => [I ((W.length - 1 - i : Nat) : Int), Str (W.getD (W.length - 1 - i) [])]) W.length := by
  refine qJO.walk func242 rfl ntmps242 rfl (fun {X} M IY S l x0 w0 hw0 h0 hY => ?_)
  change J _ [(0, _), (1, _)] _ _ _
  refine J.g fun K1 hK1 => J.f (qAQ (v := .slice B W.length e) rfl rfl qDv (m := Fr) (by simp) (ha)) rfl <| J.f (qAh qAo rfl rfl) rfl <| J.f ((qBI rfl rfl rfl (by omega)).as (v' := I ((W.length : Int) - 1 - ((0 : Nat) : Int))) (congrArg I (by omega))) rfl <| J.b rfl <| J.c hK1 <| J.O 0 1 3 ?_
  refine J.W <| J.b6 (X := Nat × X) (fun y => [(0, .func (.yield l) #[] #[]), (1, Ptr gB), (3, I ((W.length : Int) - 1 - (y.1 : Int)))]) (fun y => [Fr, M y.2]) (fun y => y.1 ≤ W.length ∧ IY y.1 y.2) (fun y => W.length - y.1) (0, x0) (⟨Nat.zero_le _, h0⟩) ⟨rfl, rfl, rfl, trivial⟩ (fun _ h => h) ?_
  rintro ⟨i, x⟩ ⟨hi, hI⟩ I0 hI0
  dsimp only at hi hI ⊢
  refine J.p fun K2 hK2 => J.g fun K3 hK3 => J.b rfl <| J.f (qBR rfl rfl rfl) rfl <| J.c hK3 <| J.T 0 1 3 8 ?_
  refine J.a0 rfl (fun h8 => ?_) (fun h8 => ?_)
  ·
    refine J.a1 hK2 <| J.O 0 1 3 ?_
    refine J.p fun K4 hK4 => J.W <| J.p fun K5 hK5 => J.g2 ?_
    refine J.d3 (qAv rfl rfl) rfl rfl rfl ?_
    refine J.d3 ((qAv rfl rfl).nat (W.length - 1 - i) (by omega)) rfl rfl rfl ?_
    refine J.d3 (qAQ (v := .slice B W.length e) rfl rfl qDv (m := Fr) (by simp) (ha)) rfl rfl rfl ?_
    refine J.d3 ((qAv rfl rfl).nat (W.length - 1 - i) (by omega)) rfl rfl rfl ?_
    refine J.d3 (qAK (i := W.length - 1 - i) rfl rfl rfl qAo z9_ hs (by first | omega | (simp only [List.length_append, List.length_cons, List.length_nil, List.length_take, List.length_drop] at *; omega))) rfl rfl rfl ?_
    refine J.d3 (qAQ rfl rfl b9_ (m := Fr) (by simp) (hs.elem (qAZ (qAl [] (by first | omega | (simp only [List.length_append, List.length_cons, List.length_nil, List.length_take, List.length_drop] at *; omega)))))) rfl rfl rfl ?_
    refine J.g3 (ex := []) rfl rfl rfl rfl rfl rfl (hY i x (by omega) hI) ?_
    rintro x' b hb1 hb2
    cases b
    ·
      have hyb := hb2 rfl
      change J _ _ _ [Fr, M x'] _
      refine J.d3 (qA3 rfl rfl) rfl rfl rfl ?_
      refine J.f2 ?_
      refine J.A (J.L hK5 ?_)
      refine J.T 0 1 3 18 ?_
      refine J.c9 ?_
      exact J.D <| J.a9 <| J.Z <| J.Z <| J.a9 <| J.b8 hw0 (fun _ _ h => h) (qLd rfl) (fun w hs => ⟨x', ⟨_, rfl⟩, .inr hyb, hs⟩)
    have hyb := hb1 rfl
    change J _ _ _ [Fr, M x'] _
    refine J.d3 (qA3 rfl rfl) rfl rfl rfl ?_
    refine J.f2 ?_
    refine J.A (J.L hK5 ?_)
    refine J.T 0 1 3 18 ?_
    refine J.b2 ?_
    refine J.b9 <| J.a5 <| J.A (J.L hK4 ?_)
    refine J.O 0 1 3 ?_
    exact J.M <| J.b rfl <| J.f ((qBI rfl rfl rfl (by omega)).as (v' := I ((W.length : Int) - 1 - ((i + 1 : Nat) : Int))) (congrArg I (by omega))) rfl <| J.b rfl <| J.a6 <| J.A <| J.a8 (i + 1, x') (fun y (hy : _ ∧ W.length - y.1 < W.length - i) => hI0 y hy.1 hy.2) ⟨⟨by dsimp only; omega, hyb⟩, by dsimp only; omega⟩ ⟨rfl, rfl, rfl, trivial⟩ (fun _ h => h)
  refine J.b5 <| J.a4 <| J.a4 <| J.b7 ?_
  exact J.e0 hw0 (fun _ _ h => h) (qLd rfl) (fun w hs => ⟨x, ⟨_, rfl⟩, .inl (by rw [show W.length = i by omega]; exact hI), hs⟩)
theorem qHw (F : Hp) (hK : KF F) (A : Option Addr) (c : Nat) (bs : List (List UInt8)) (hs : Sl F 1 A bs.length c (qAJ bs)) (th : Bool) (pk pv xx k : List UInt8) (d : Nat) (hle : d + bs.length ≤ 128) (hk16 : k.length = 16) (hsm : ∀ s ∈ bs, s.length ≤ 17) (hx : xx.length ≤ 17) :
    Ct prog 186 [.agg #[.slice A bs.length c, .bool (th), Str (pk), Str (pv)], Str xx, Str k, I ((d : Nat) : Int)] [F] (fun _ : Unit => Str (clm k d bs xx bs.length)) (fun _ => True) (fun _ => [F]) := by
  refine Ct.walk func186 rfl ntmps186 rfl (fun w0 hw0 => ?_)
  change J _ [(0, _), (1, _), (2, _), (3, _)] _ _ _
  refine J.g fun K1 hK1 => J.q (qAi (l := [.slice A bs.length c, .bool (th), Str (pk), Str (pv)]) rfl rfl rfl) rfl fun g4 _ => ?_
  change J _ _ _ [F, blk g4 [.slice A bs.length c, .bool (th), Str (pk), Str (pv)] 58] _
  refine J.q (qAi (l := [Str (xx)]) rfl rfl rfl) rfl fun g5 _ => ?_
  change J _ _ _ [_, _, blk g5 [Str (xx)] 9] _
  refine J.q (qAi (l := [Str (k)]) rfl rfl rfl) rfl fun g6 _ => ?_
  change J _ _ _ [_, _, _, blk g6 [Str (k)] 9] _
  refine J.q (qAi (l := [I ((d : Nat) : Int)]) rfl rfl rfl) rfl fun g7 _ => ?_
  change J _ _ _ [_, _, _, _, blk g7 [I ((d : Nat) : Int)] 3] _
  refine J.b rfl <| J.c hK1 <| J.T 4 5 6 7 ?_
  refine J.p fun K2 hK2 => J.g fun K3 hK3 => J.a7 0 qDT qEe rfl rfl rfl rfl rfl <| J.f (qAE 1 (v := .slice A bs.length c) rfl rfl rfl qDv rfl) rfl <| J.q (qAC rfl rfl ent219 (Ct.use (new := fun x : Nat => [blk x [.slice A bs.length c] 37]) (fun F' _ => qP7 F' A bs.length c))) rfl ?_
  rintro gB _
  change J _ ((13, .func (.func 242) #[] #[Ptr gB]) :: _) _ [_, _, _, _, _, blk gB [.slice A bs.length c] 37] _
  refine J.c hK3 <| J.T 5 6 7 13 ?_
  refine J.W <| J.c4 [2, 0, 1, 3, 4, 5] [blk g5 [Str (xx)] 9, F, blk g4 [.slice A bs.length c, .bool (th), Str (pk), Str (pv)] 58, blk g6 [Str (k)] 9, blk g7 [I ((d : Nat) : Int)] 3, blk gB [.slice A bs.length c] 37] rfl (by decide) <| J.h2 (fun x : List UInt8 => [blk g5 [Str (x)] 9]) [F, blk g4 [.slice A bs.length c, .bool (th), Str (pk), Str (pv)] 58, blk g6 [Str (k)] 9, blk g7 [I ((d : Nat) : Int)] 3, blk gB [.slice A bs.length c] 37] (fun i x => x = clm k d bs xx i) (fun _ _ => False) xx rfl ent242 (fun Fr hF => qNv Fr gB A bs c (by omega) (qAS.blk0.mono (hF (blk gB [.slice A bs.length c] 37) (by simp))) (hs.mono (hF F (by simp)))) (fun _ _ => rfl) rfl (rfl) ?_ ?_ ?_
  ·
    intro i x l wa wb hi hI K4 Post4 hK4 hN4 hR4 hE4
    subst hI
    obtain ⟨y, hy⟩ : ∃ y, y = clm k d bs xx i := ⟨_, rfl⟩
    obtain ⟨s, hsd⟩ : ∃ s, s = bs.getD (bs.length - 1 - i) [] := ⟨_, rfl⟩
    have hyl : y.length ≤ 17 := by rw [hy]; exact qIQ hsm hx i
    have hsl : s.length ≤ 17 := by rw [hsd, List.getD_eq_getElem?_getD, List.getElem?_eq_getElem (show bs.length - 1 - i < bs.length by omega)]; exact hsm _ (List.getElem_mem _)
    rw [← hy, ← hsd]
    change J _ ((15, Str s) :: (14, I ((bs.length - 1 - i : Nat) : Int)) :: _) _ [blk g5 [Str (y)] 9, F, blk g4 [.slice A bs.length c, .bool (th), Str (pk), Str (pv)] 58, blk g6 [Str (k)] 9, blk g7 [I ((d : Nat) : Int)] 3, blk gB [.slice A bs.length c] 37] _
    refine J.h1 (fun K5 hK5 => ?_)
    refine J.e1 ?_
    refine J.b rfl <| J.e2 ?_
    refine J.A (J.L hK5 ?_)
    refine J.a3 5 6 7 9 15 ?_
    refine J.e1 ?_
    refine J.b rfl <| J.e2 ?_
    refine J.A (hK4 _ _ ?_)
    refine J.a3 5 6 7 9 10 ?_
    refine J.g1 ?_
    refine J.h1 (fun K6 hK6 => ?_)
    refine J.e1 ?_
    refine J.d2 3 b9_ rfl rfl rfl rfl rfl <| J.d2 4 b3_ rfl rfl rfl rfl rfl <| J.b rfl <| J.f ((qAU rfl rfl rfl (by omega)).nat (d + (bs.length - 1 - i)) (by omega)) rfl <| J.q (qAC rfl rfl ent147 (Ct.use0 (fun F' hF => qKL F' k (by omega) (d + (bs.length - 1 - i)) (by omega)))) rfl fun g20 _ => J.f (qAa rfl rfl rfl) rfl <| J.e2 ?_
    refine J.A (J.L hK6 ?_)
    refine J.O 5 10 21 ?_
    refine J.h9 rfl (fun h21 => ?_) (fun h21 => ?_)
    ·
      refine J.e1 ?_
      refine J.d2 0 b9_ rfl rfl rfl rfl rfl <| J.b rfl <| J.q (qAC rfl rfl ent177 (Ct.use0 (fun F' hF => qEt F' (hK.mo hF) y s (by omega) (by omega)))) rfl fun g24 _ => J.b4 (qAP (l := [Str (y)]) (i := 0) (vs := [Str (Sb.join y s)]) rfl rfl rfl rfl rfl z9_ rfl rfl) rfl rfl fun _ _ => ?_
      change J _ _ _ [blk g5 [Str (Sb.join y s)] 9, _, _, _, _, _] _
      refine J.e2 ?_
      refine J.a5 ?_
      exact hN4 _ (Sb.join y s) (by rw [clm, up, if_pos (by omega), ← hy, ← hsd])
    refine J.e1 ?_
    refine J.b rfl <| J.d2 0 b9_ rfl rfl rfl rfl rfl <| J.q (qAC rfl rfl ent177 (Ct.use0 (fun F' hF => qEt F' (hK.mo hF) s y (by omega) (by omega)))) rfl fun g27 _ => J.b4 (qAP (l := [Str (y)]) (i := 0) (vs := [Str (Sb.join s y)]) rfl rfl rfl rfl rfl z9_ rfl rfl) rfl rfl fun _ _ => ?_
    change J _ _ _ [blk g5 [Str (Sb.join s y)] 9, _, _, _, _, _] _
    refine J.e2 ?_
    refine J.a5 ?_
    exact hN4 _ (Sb.join s y) (by rw [clm, up, if_neg (by omega), ← hy, ← hsd])
  ·
    intro w4 x hx4 hI
    subst hI
    change J _ _ _ [blk g5 [Str (clm k d bs xx bs.length)] 9, F, blk g4 [.slice A bs.length c, .bool (th), Str (pk), Str (pv)] 58, blk g6 [Str (k)] 9, blk g7 [I ((d : Nat) : Int)] 3, blk gB [.slice A bs.length c] 37] _
    refine J.a5 <| J.A (J.L hK2 ?_)
    refine J.u 5 ?_
    refine J.g fun K7 hK7 => J.d2 0 b9_ rfl rfl rfl rfl rfl <| J.b rfl <| J.c hK7 <| J.u 8 ?_
    exact J.D <| J.g4 hw0 hx4 (fun _ _ h => h) (qOB rfl rfl) (qA6 () rfl trivial [1] rfl (by decide))
  intro w4 x c hx4 hS
  exact hS.elim
theorem ent96 : qAF prog 96 := qAF.of func96 rfl (by kernel_rfl)
theorem ent99 : qAF prog 99 := qAF.of func99 rfl (by kernel_rfl)
theorem ent101 : qAF prog 101 := qAF.of func101 rfl (by kernel_rfl)
theorem ent102 : qAF prog 102 := qAF.of func102 rfl (by kernel_rfl)
theorem ent149 : qAF prog 149 := qAF.of func149 rfl (by kernel_rfl)
theorem ent150 : qAF prog 150 := qAF.of func150 rfl (by kernel_rfl)
theorem ent186 : qAF prog 186 := qAF.of func186 rfl (by kernel_rfl)
def qGH (bs : List (List UInt8)) (th : Bool) (pk pv k : List UInt8) (d : Nat) : List UInt8 := clm k d bs (if th = true then Sb.leafN pk pv else [0]) bs.length
def qOD (bs : List (List UInt8)) (th : Bool) (pk pv nd k v : List UInt8) (d : Nat) : Bool := th && (decide (pk = k) && (decide (pv = v) && decide (qGH bs th pk pv k d = nd)))
theorem qJ9 (k v : List UInt8) : (Sb.leafN k v).length ≤ 17 := by unfold Sb.leafN; rw [List.length_cons, Sha.tagged_length]; exact Nat.le_refl _
theorem qOx (F : Hp) (hK : KF F) (A : Option Addr) (c : Nat) (bs : List (List UInt8)) (hs : Sl F 1 A bs.length c (qAJ bs)) (th : Bool) (pk pv k : List UInt8) (d : Nat) (hg : qN8 bs th pk pv k d) (hpv : pv.length ≤ 1000000) : Ct prog 150 [.agg #[.slice A bs.length c, .bool (th), Str (pk), Str (pv)], Str (k), I ((d : Nat) : Int)] [F] (fun _ : Unit => Str (qGH bs th pk pv k d)) (fun _ => True) (fun _ => [F]) := by
 have hle := hg.le
 have hk16 := hg.k16
 have hsm := hg.small
 refine Ct.walk func150 rfl ntmps150 rfl (fun w0 hw0 => ?_)
 change J _ [(0, _), (1, _), (2, _)] _ _ _
 refine J.g fun K1 hK1 => J.q (qAi (l := [.slice A bs.length c, .bool (th), Str (pk), Str (pv)]) rfl rfl rfl) rfl fun g3 _ => ?_
 change J _ _ _ [F, blk g3 [.slice A bs.length c, .bool (th), Str (pk), Str (pv)] 58] _
 refine J.b rfl <| J.c hK1 <| J.O 1 2 3 ?_
 refine J.p fun K2 hK2 => J.g fun K3 hK3 => J.c5 1 qLV qFr rfl rfl rfl rfl rfl <| J.j 2 rfl <| J.q (qAC rfl rfl ent149 (Ct.use0 (fun F' hF => qNM F' A c bs (hs.mono (hF F (by simp))) th pk pv k d (by assumption)))) rfl fun g11 _ => J.f (qA3 rfl rfl) rfl <| J.c hK3 <| J.T 1 2 3 12 ?_
 refine J.b2 ?_
 refine J.a1 hK2 <| J.O 1 2 3 ?_
 refine J.g fun K4 hK4 => J.b rfl <| J.c hK4 <| J.T 1 2 3 7 ?_
 refine J.p fun K5 hK5 => J.g fun K6 hK6 => J.a7 1 qDT z4_ rfl rfl rfl rfl rfl <| J.f (qAE 1 (v := .bool (th)) rfl rfl rfl b4_ rfl) rfl <| J.c hK6 <| J.a3 1 2 3 7 14 ?_
 refine J.d1 rfl (fun h14 => ?_) (fun h14 => ?_)
 ·
  have hpl := (hg.yes h14).1
  refine J.M <| J.a7 2 qDT z9_ rfl rfl rfl rfl rfl <| J.f (qAE 1 (v := Str (pk)) rfl rfl rfl b9_ rfl) rfl <| J.a7 3 qDT z9_ rfl rfl rfl rfl rfl <| J.f (qAE 1 (v := Str (pv)) rfl rfl rfl b9_ rfl) rfl <| J.q (qAC rfl rfl ent176 (Ct.use0 (fun F' hF => qJi F' (hK.mo hF) pk pv (by first | omega | exact Nat.le_of_ble_eq_true rfl) (by first | omega | exact Nat.le_of_ble_eq_true rfl)))) rfl fun g19 _ => J.b rfl <| J.c hK5 <| J.T 1 2 3 7 ?_
  refine J.g fun K7 hK7 => J.c5 1 qLV qFr rfl rfl rfl rfl rfl <| J.j 3 rfl <| J.q (qAC rfl rfl ent186 (Ct.use0 (fun F' hF => qHw F' (hK.mo hF) A c bs (hs.mono (hF F (by simp))) th pk pv (Sb.leafN pk pv) k d (by assumption) (by assumption) (by assumption) (by first | assumption | exact qJ9 _ _ | exact Nat.le_of_ble_eq_true rfl)))) rfl fun g24 _ => J.b rfl <| J.c hK7 <| J.u 6 ?_
  exact J.D <| J.H hw0 rfl () (by unfold qGH; first | rw [if_pos (by assumption)] | rw [if_neg (by simp [*])]) trivial [0] rfl (by decide)
 refine J.a1 hK5 <| J.T 1 2 3 7 ?_
 refine J.g fun K8 hK8 => J.c5 1 qLV qFr rfl rfl rfl rfl rfl <| J.j 3 rfl <| J.q (qAC rfl rfl ent186 (Ct.use0 (fun F' hF => qHw F' (hK.mo hF) A c bs (hs.mono (hF F (by simp))) th pk pv ([0]) k d (by assumption) (by assumption) (by assumption) (by first | assumption | exact qJ9 _ _ | exact Nat.le_of_ble_eq_true rfl)))) rfl fun g24 _ => J.b rfl <| J.c hK8 <| J.u 6 ?_
 exact J.D <| J.H hw0 rfl () (by unfold qGH; first | rw [if_pos (by assumption)] | rw [if_neg (by simp [*])]) trivial [0] rfl (by decide)
theorem qPp (F : Hp) (hK : KF F) (A : Option Addr) (c : Nat) (bs : List (List UInt8)) (hs : Sl F 1 A bs.length c (qAJ bs)) (th : Bool) (pk pv k : List UInt8) (d : Nat) (hg : qN8 bs th pk pv k d) (nd v : List UInt8) (hpv : pv.length ≤ 1000000) : Ct prog 104 [.agg #[.slice A bs.length c, .bool (th), Str (pk), Str (pv)], Str (nd), Str (k), Str (v), I ((d : Nat) : Int)] [F] (fun _ : Unit => .bool (qOD bs th pk pv nd k v d)) (fun _ => True) (fun _ => [F]) := by
 have hle := hg.le
 have hk16 := hg.k16
 have hsm := hg.small
 refine Ct.walk func104 rfl ntmps104 rfl (fun w0 hw0 => ?_)
 change J _ [(0, _), (1, _), (2, _), (3, _), (4, _)] _ _ _
 refine J.g fun K1 hK1 => J.q (qAi (l := [.slice A bs.length c, .bool (th), Str (pk), Str (pv)]) rfl rfl rfl) rfl fun g5 _ => ?_
 change J _ _ _ [F, blk g5 [.slice A bs.length c, .bool (th), Str (pk), Str (pv)] 58] _
 refine J.b rfl <| J.c hK1 <| J.a3 1 2 3 4 5 ?_
 refine J.g fun K2 hK2 => J.c5 1 qLV qFr rfl rfl rfl rfl rfl <| J.j 2 rfl <| J.q (qAC rfl rfl ent149 (Ct.use0 (fun F' hF => qNM F' A c bs (hs.mono (hF F (by simp))) th pk pv k d (by assumption)))) rfl fun g14 _ => J.b rfl <| J.E (qAA (j := 1) rfl rfl qDT rfl z4_ rfl) rfl <| J.E (qAE 1 (v := .bool (th)) rfl rfl rfl b4_ rfl) rfl <| J.j 2 rfl <| J.f8 (d := 19) rfl (fun h19 => ?_) (fun h19 => ?_)
 ·
  refine J.E (qAA (j := 2) rfl rfl qDT rfl z9_ rfl) rfl <| J.E (qAE 1 (v := Str (pk)) rfl rfl rfl b9_ rfl) rfl <| J.b rfl <| J.E (qBH rfl rfl rfl) rfl <| J.j 2 rfl <| J.c2 (d := 25) rfl (fun h25 => ?_) (fun h25 => ?_)
  ·
   refine J.E (qAA (j := 3) rfl rfl qDT rfl z9_ rfl) rfl <| J.E (qAE 1 (v := Str (pv)) rfl rfl rfl b9_ rfl) rfl <| J.b rfl <| J.E (qBH rfl rfl rfl) rfl <| J.j 2 rfl <| J.c2 (d := 31) rfl (fun h31 => ?_) (fun h31 => ?_)
   ·
    refine J.E (qAg 1 rfl rfl rfl qLV qFr rfl) rfl <| J.j 2 rfl <| J.d5 (qAC rfl rfl ent150 (Ct.use0 (fun F' hF => qOx F' (hK.mo hF) A c bs (hs.mono (hF F (by simp))) th pk pv k d (by assumption) (by assumption)))) rfl fun g35 _ => J.b rfl <| J.E (qBH rfl rfl rfl) rfl <| J.j 2 rfl <| J.c hK2 <| J.u 10 ?_
    exact J.D <| J.H hw0 rfl () (by unfold qOD; simp [*]) trivial [0] rfl (by decide)
   refine J.j 8 rfl <| J.c hK2 <| J.u 10 ?_
   exact J.D <| J.H hw0 rfl () (by unfold qOD; simp [*]) trivial [0] rfl (by decide)
  refine J.j 14 rfl <| J.c hK2 <| J.u 10 ?_
  exact J.D <| J.H hw0 rfl () (by unfold qOD; simp [*]) trivial [0] rfl (by decide)
 refine J.j 20 rfl <| J.c hK2 <| J.u 10 ?_
 exact J.D <| J.H hw0 rfl () (by unfold qOD; simp [*]) trivial [0] rfl (by decide)
theorem qH5 (F : Hp) (k : List UInt8) (hk : k.length ≤ 1000000) (pb pd : Nat) (b : List UInt8) (d : Int) (hpb : qAS F ⟨pb, 0, none⟩ [Str b]) (hpd : qAS F ⟨pd, 0, none⟩ [I d]) (hb : b.length ≤ 1000000) : Ct prog 99 [Str (k), Ptr pb, Ptr pd] [F] (fun _ : Unit => .bool (nbl b d k)) (fun _ => True) (fun _ => [F]) := by
 refine Ct.walk func99 rfl ntmps99 rfl (fun w0 hw0 => ?_)
 change J _ [(0, _), (1, _), (2, _)] _ _ _
 refine J.g fun K1 hK1 => J.b rfl <| J.c hK1 <| J.O 0 1 2 ?_
 refine J.g fun K2 hK2 => J.b rfl <| J.f (qAQ (v := Str (b)) rfl rfl b9_ (m := F) (by simp) (hpb)) rfl <| J.f (qAQ (v := I (d)) rfl rfl b3_ (m := F) (by simp) (hpd)) rfl <| J.q (qAC rfl rfl ent100 (Ct.use0 (fun F' hF => qEH F' k (by omega) b (by omega) d))) rfl fun g8 _ => J.f (qA3 rfl rfl) rfl <| J.b rfl <| J.c hK2 <| J.u 4 ?_
 exact J.D <| J.H hw0 rfl () (by unfold nbl; rfl) trivial [0] rfl (by decide)
theorem qOa (F : Hp) (A : Option Addr) (n c : Nat) (ks : List (List UInt8)) (hs : Sl F 1 A n c (qAJ ks)) (hn : n ≤ 1000000) (hsm : ∀ k : Nat, (ks.getD k []).length ≤ 1000000) (pb pd : Nat) (b : List UInt8) (d : Int) (hpb : qAS F ⟨pb, 0, none⟩ [Str b]) (hpd : qAS F ⟨pd, 0, none⟩ [I d]) (hb : b.length ≤ 1000000) : Ct prog 146 [.slice A n c, .func (.func 99) #[] #[Ptr pb, Ptr pd]] [F] (fun _ : Unit => I (ixS (nbl b d) ks)) (fun _ => True) (fun _ => [F]) := by
 have hkn : ks.length = n := by have := hs.1; simpa [qAJ] using this
 refine Ct.walk func146 rfl ntmps146 rfl (fun w0 hw0 => ?_)
 change J _ [(0, _), (1, _)] _ _ _
 refine J.g fun K1 hK1 => J.b rfl <| J.c hK1 <| J.G 0 1 ?_
 refine J.p fun K2 hK2 => J.g fun K3 hK3 => J.b rfl <| J.f (qAh qAo rfl rfl) rfl <| J.b rfl <| J.c hK3 <| J.T 0 1 7 8 ?_
 refine J.W <| J.b6 (X := Nat) (fun ζ => [(0, .slice A n c), (1, .func (.func 99) #[] #[Ptr pb, Ptr pd]), (7, I ((n : Nat) : Int)), (8, I ((ζ : Nat) : Int))]) (fun ζ => [F]) (fun ζ => ζ ≤ n ∧ ∀ j < ζ, nbl b d (ks.getD j []) = false) (fun ζ => n - ζ) 0 (⟨Nat.zero_le _, fun j h => absurd h (Nat.not_lt_zero j)⟩) ⟨rfl, rfl, rfl, rfl, trivial⟩ (fun _ h => h) ?_
 rintro k ⟨hk, hno⟩ I0 hI0
 refine J.g fun K4 hK4 => J.f (qAX rfl rfl rfl) rfl <| J.c hK4 <| J.a3 0 1 7 8 9 ?_
 refine J.p fun K5 hK5 => J.a0 rfl (fun h9 => ?_) (fun h9 => ?_)
 ·
  refine J.a1 hK5 <| J.T 0 1 7 8 ?_
  refine J.p fun K6 hK6 => J.W <| J.g fun K7 hK7 => J.j 2 rfl <| J.c hK7 <| J.a3 0 1 5 7 8 ?_
  refine J.g fun K8 hK8 => J.j 3 rfl <| J.f (qAK (i := k) rfl rfl rfl qAo z9_ hs (by omega)) rfl <| J.f (qAQ rfl rfl b9_ (m := F) (by simp) (hs.elem (qAZ (qAl [] (by omega))))) rfl <| J.q (qCk rfl rfl rfl ent99 (Ct.use0 (fun F' hF => qH5 F' (ks.getD k []) (by first | omega | (exact hsm _)) pb pd b d (hpb.mono (hF F (by simp))) (hpd.mono (hF F (by simp))) (by omega)))) rfl fun g16 _ => J.c hK8 <| J.b1 0 1 5 7 8 16 ?_
  refine J.d1 rfl (fun h16 => ?_) (fun h16 => ?_)
  ·
   refine J.g fun K9 hK9 => J.j 2 rfl <| J.c hK9 <| J.u 4 ?_
   exact J.D <| J.a9 <| J.Z <| J.Z <| J.a9 <| J.Z <| J.H hw0 rfl () (by rw [qQq (k := k) (by omega) (by simpa using h16) hno]) trivial [0] rfl (by decide)
  refine J.b9 <| J.a5 <| J.A (J.L hK6 ?_)
  refine J.T 0 1 7 8 ?_
  exact J.M <| J.f ((qAU rfl rfl rfl (by omega)).nat (k + 1) (by omega)) rfl <| J.b rfl <| J.a6 <| J.A <| J.a8 (k + 1) (fun η (hη : _ ∧ n - η < n - k) => hI0 η hη.1 hη.2) ⟨⟨by omega, fun j hj => by rcases Nat.lt_succ_iff_lt_or_eq.1 hj with h | rfl; exact hno j h; simpa using h16⟩, by first | omega | (dsimp only; omega)⟩ ⟨rfl, rfl, rfl, rfl, trivial⟩ (fun _ h => h)
 refine J.b5 <| J.a4 <| J.a4 <| J.b7 ?_
 refine J.A (J.L hK2 ?_)
 refine J.c7 [] trivial <| J.g fun K10 hK10 => J.b rfl <| J.c hK10 <| J.u 4 ?_
 exact J.D <| J.H hw0 rfl () (by rw [qQo (fun j hj => hno j (by omega))]) trivial [0] rfl (by decide)
theorem qOd (F m : Hp) (A : Option Addr) (n c : Nat) (ks : List (List UInt8)) (hr : Row m 9 1 A n c (qAJ ks)) (hn : n ≤ 1000000) (hsm : ∀ k : Nat, (ks.getD k []).length ≤ 1000000) (pb pd : Nat) (b : List UInt8) (d : Int) (hpb : qAS F ⟨pb, 0, none⟩ [Str b]) (hpd : qAS F ⟨pd, 0, none⟩ [I d]) (hb : b.length ≤ 1000000) :
    Ct prog 97 [.slice A n c, .func (.func 99) #[] #[Ptr pb, Ptr pd]] [m, F] (fun _ : Hp => .slice A (ks.filter fun k => !nbl b d k).length c) (fun m' => Row m' 9 1 A (ks.filter fun k => !nbl b d k).length c (qAJ (ks.filter fun k => !nbl b d k))) (fun m' => [m', F]) := by
  have hkn : ks.length = n := by have := hr.len; simpa [qAJ] using this
  have hnc := hr.2.2.1
  refine Ct.walk func97 rfl ntmps97 rfl (fun w0 hw0 => ?_)
  change J _ [(0, _), (1, _)] _ _ _
  refine J.g fun K1 hK1 => J.b rfl <| J.c hK1 <| J.G 0 1 ?_
  refine J.g fun K2 hK2 => J.j 2 rfl <| J.q (qAC rfl rfl ent146 (Ct.use0 (fun F' hF => qOa F' A n c ks (hr.sl.mono (hF m (by simp))) (by omega) (hsm) pb pd b d (hpb.mono (hF F (by simp))) (hpd.mono (hF F (by simp))) (by omega)))) rfl fun g10 _ => J.b rfl <| J.c hK2 <| J.O 0 1 5 ?_
  refine J.p fun K3 hK3 => J.g fun K4 hK4 => J.b rfl <| J.f (qAa rfl rfl rfl) rfl <| J.c hK4 <| J.T 0 1 5 12 ?_
  refine J.a0 rfl (fun h12 => ?_) (fun h12 => ?_)
  ·
    refine J.g fun K5 hK5 => J.j 2 rfl <| J.c hK5 <| J.u 4 ?_
    refine J.D <| J.Z ?_
    have hf : (ks.filter fun k => !nbl b d k) = ks := qKC h12
    exact J.H hw0 rfl m (by rw [hf, hkn]) (by rw [hf, hkn]; exact hr) [0, 1] rfl (by decide)
  refine J.a1 hK3 <| J.O 0 1 5 ?_
  refine J.p fun K6 hK6 => J.p fun K7 hK7 => ?_
  obtain ⟨i0, h5, hi0, hf0⟩ := qQp h12
  obtain ⟨ga, rfl⟩ := hr.at (by omega)
  rw [h5]
  refine J.M <| J.b rfl <| J.f ((qAU rfl rfl rfl (by omega)).nat (i0 + 1) (by omega)) rfl <| J.b rfl <| J.c hK7 <| J.T 0 1 5 6 ?_
  refine J.W <| J.b6 (X := Nat × Nat × List (List UInt8) × Hp) (fun ζ => [(0, .slice (some ⟨ga, 0, none⟩) n c), (1, .func (.func 99) #[] #[Ptr pb, Ptr pd]), (5, I ((ζ.1 : Nat) : Int)), (6, I ((ζ.2.1 : Nat) : Int))]) (fun ζ => [ζ.2.2.2, F]) (fun ζ => ζ.1 < ζ.2.1 ∧ ζ.2.1 ≤ n ∧ ζ.2.2.1.length = n ∧ ζ.2.2.1.take ζ.1 = (ks.take ζ.2.1).filter (fun k => !nbl b d k) ∧ ζ.2.2.1.drop ζ.2.1 = ks.drop ζ.2.1 ∧ Row ζ.2.2.2 9 1 (some ⟨ga, 0, none⟩) n c (qAJ ζ.2.2.1)) (fun ζ => n - ζ.2.1) (i0, i0 + 1, ks, m) (⟨by dsimp only; omega, by dsimp only; omega, hkn, hf0, rfl, hr⟩) ⟨rfl, rfl, rfl, rfl, trivial⟩ (fun _ h => h) ?_
  rintro ⟨w, j, L, m⟩ ⟨hw, hj, hL, hA, hB, hr⟩ I0 hI0
  dsimp only at hw hj hL hA hB hr ⊢
  refine J.p fun K8 hK8 => J.g fun K9 hK9 => J.j 2 rfl <| J.f (qAh qAo rfl rfl) rfl <| J.f (qAX rfl rfl rfl) rfl <| J.c hK9 <| J.a3 0 1 5 6 19 ?_
  refine J.a0 rfl (fun h19 => ?_) (fun h19 => ?_)
  ·
    refine J.a1 hK8 <| J.T 0 1 5 6 ?_
    refine J.p fun K10 hK10 => J.W <| J.g fun K11 hK11 => J.j 2 rfl <| J.f (qAV (i := j) (j := 0 + j * 1) rfl rfl rfl qAo z9_ (by omega) (by omega)) rfl ?_
    have hnw : w < j := hw
    refine J.f (qAQ rfl rfl b9_ (m := m) (by simp) (hr.sl.cells (qAZ (qAl [] (by omega))))) rfl <| J.b rfl <| J.c hK11 <| J.a3 0 1 5 6 7 ?_
    refine J.p fun K12 hK12 => ?_
    have hgj : (L.getD j []).length ≤ 1000000 := by
      have e0 := congrArg (fun z => z.getD 0 []) hB
      have e1 : L.getD j [] = ks.getD j [] := by simpa [List.getD_eq_getElem?_getD, List.getElem?_drop] using e0
      rw [e1]; exact hsm j
    refine J.M <| J.j 2 rfl <| J.q (qCk rfl rfl rfl ent99 (Ct.use0 (fun F' hF => qH5 F' (L.getD j []) (by first | omega | (exact hsm _)) pb pd b d (hpb.mono (hF F (by simp))) (hpd.mono (hF F (by simp))) (by omega)))) rfl fun g28 _ => J.f (qA3 rfl rfl) rfl <| J.c hK12 <| J.b1 0 1 5 6 7 29 ?_
    refine J.d1 rfl (fun h29 => ?_) (fun h29 => ?_)
    ·
      refine J.g fun K13 hK13 => J.j 3 rfl <| J.f (qAV (i := w) (j := 0 + w * 1) rfl rfl rfl qAo z9_ (by omega) (by omega)) rfl <| J.b4 (qAu (i := 0) (k := w) (off := 0) (b := [Str (L.getD j [])]) rfl rfl rfl rfl hr (vs := [Str (L.getD j [])]) rfl z9_ rfl (by omega) (qAZ (qAl [] (by omega))) rfl (Nat.le_refl _)) rfl rfl ?_
      rintro m9_1 hm9_1
      change J _ _ _ [m9_1, F] _
      rw [qFB] at hm9_1
      refine J.c hK13 <| J.T 0 1 5 6 ?_
      refine J.M <| J.b rfl <| J.f ((qAU rfl rfl rfl (by omega)).nat (w + 1) (by omega)) rfl <| J.b rfl <| J.a6 <| J.a5 <| J.A (J.L hK10 ?_)
      refine J.T 0 1 5 6 ?_
      exact J.M <| J.b rfl <| J.f ((qAU rfl rfl rfl (by omega)).nat (j + 1) (by omega)) rfl <| J.b rfl <| J.a6 <| J.A <| J.a8 (w + 1, j + 1, L.set w (L.getD j []), m9_1) (fun η (hη : _ ∧ n - η.2.1 < n - j) => hI0 η hη.1 hη.2) ⟨⟨by dsimp only; omega, by dsimp only; omega, by dsimp only; rw [List.length_set]; exact hL, (qE0 hw (by omega) (by omega) hA hB (by simpa using h29)).1, (qE0 hw (by omega) (by omega) hA hB (by simpa using h29)).2, by assumption⟩, by first | omega | (dsimp only; omega)⟩ ⟨rfl, rfl, rfl, rfl, trivial⟩ (fun _ h => h)
    refine J.b9 <| J.a5 <| J.A (J.L hK10 ?_)
    refine J.T 0 1 5 6 ?_
    exact J.M <| J.b rfl <| J.f ((qAU rfl rfl rfl (by omega)).nat (j + 1) (by omega)) rfl <| J.b rfl <| J.a6 <| J.A <| J.a8 (w, j + 1, L, m) (fun η (hη : _ ∧ n - η.2.1 < n - j) => hI0 η hη.1 hη.2) ⟨⟨by dsimp only; omega, by dsimp only; omega, hL, (qE1 (by omega) hA hB (by simpa using h29)).1, (qE1 (by omega) hA hB (by simpa using h29)).2, hr⟩, by first | omega | (dsimp only; omega)⟩ ⟨rfl, rfl, rfl, rfl, trivial⟩ (fun _ h => h)
  refine J.b5 <| J.a4 <| J.a4 <| J.b7 ?_
  refine J.A (J.L hK6 ?_)
  refine J.G 0 5 ?_
  refine J.g fun K14 hK14 => J.j 2 rfl <| J.f (qCi (l := w) (h := n) rfl rfl qAo z9_ rfl rfl (by omega)) rfl <| J.b4 (qEA (i := 0) (l := w) (h := n) rfl rfl (by split <;> simp [Addr.add_lit]) qAo el9 rfl rfl rfl (hr.shrink (by omega)) rfl (by omega) (by omega)) rfl rfl ?_
  rintro mc hmc
  change J _ _ _ [mc, F] _
  refine J.c hK14 <| J.G 0 5 ?_
  refine J.g fun K15 hK15 => J.j 2 rfl <| J.f (qDM (h := w) rfl rfl qAo z9_ rfl (by omega)) rfl <| J.b rfl <| J.c hK15 <| J.u 4 ?_
  refine J.D ?_
  have hfl : (ks.filter fun k => !nbl b d k) = L.take w := by rw [hA, List.take_of_length_le (by omega)]
  have hfw : (ks.filter fun k => !nbl b d k).length = w := by rw [hfl, List.length_take]; omega
  rw [qDH, ← hfl] at hmc
  exact J.H hw0 rfl mc (by rw [hfw]) (by rw [hfw]; exact hmc) [0, 1] rfl (by decide)
theorem qPy (F : Hp) (A : Option Addr) (n c : Nat) (ks : List (List UInt8)) (hs : Sl F 1 A n c (qAJ ks)) (hn : n ≤ 1000000) : Ct prog 98 [.slice A n c] [F] (fun x : Option Addr × Nat × Hp => .slice x.1 (ks).length x.2.1) (fun x => Row x.2.2 9 1 x.1 (ks).length x.2.1 (qAJ ks)) (fun x => [F, x.2.2]) := by
 have hkn : ks.length = n := by have := hs.1; simpa [qAJ] using this
 refine Ct.walk func98 rfl ntmps98 rfl (fun w0 hw0 => ?_)
 change J _ [(0, _)] _ _ _
 refine J.g fun K1 hK1 => J.b rfl <| J.c hK1 <| J.u 0 ?_
 refine J.p fun K2 hK2 => J.g fun K3 hK3 => J.b rfl <| J.f ((qOy qAo rfl rfl rfl).as (v' := .bool (decide (A.isNone = true))) (congrArg Value.bool (by cases A <;> rfl))) rfl <| J.c hK3 <| J.G 0 4 ?_
 refine J.a0 rfl (fun h4 => ?_) (fun h4 => ?_)
 ·
  refine J.g fun K4 hK4 => J.b rfl <| J.c hK4 <| J.u 2 ?_
  refine J.D <| J.Z ?_
  have hk0 : ks = [] := by
   refine List.eq_nil_of_length_eq_zero ?_
   rcases Nat.eq_zero_or_pos n with h | h
   · omega
   · obtain ⟨g, o, rfl⟩ := hs.at h; cases h4
  exact J.d6 [0, 1] [F, (fun _ => none)] rfl (by decide) <| J.H hw0 rfl (none, 0, (fun _ => none)) (by rw [hk0]; rfl) (by rw [hk0]; exact qCA.nil) [0, 1] rfl (by decide)
 refine J.a1 hK2 <| J.u 0 ?_
 refine J.g fun K5 hK5 => J.q (qCN rfl qAo el9) rfl fun g5 _ => ?_
 change J _ _ _ [F, blk g5 [] 9] _
 refine J.b rfl <| J.q (qAY (i := 1) (xs := qAJ ([])) (m2 := F) (ys := qAJ ks) rfl rfl rfl qAo qAo el9 rfl (qAn (q := True) (xs := qAJ ([])) rfl (by intro x hx; first | exact absurd hx (List.not_mem_nil) | (rw [List.mem_singleton.1 hx]; rfl))) (by simp) (hs) (qCH _) (by omega) (by omega)) rfl ?_
 rintro ⟨A7, c7, m7⟩ h7
 try dsimp only at h7
 change J _ ((7, .slice A7 (0 + n) c7) :: _) _ [_, m7] _
 replace h7 : Row m7 9 1 A7 (0 + n) c7 (qAJ (ks)) := h7
 refine J.b rfl <| J.c hK5 <| J.u 2 ?_
 refine J.D ?_
 rw [show 0 + n = ks.length by omega] at h7
 exact J.H hw0 rfl (A7, c7, m7) (by rw [← hkn, Nat.zero_add]) h7 [0, 1] rfl (by decide)
theorem qHr (F : Hp) (d : Int) (p9 p4 : Nat) (A : Option Addr) (n c : Nat) (ks : List (List UInt8)) (hs : Sl F 1 A n c (qAJ ks)) (h9 : qAS F ⟨p9, 0, none⟩ [.slice A n c]) (b : List UInt8) (h4 : qAS F ⟨p4, 0, none⟩ [Str b]) (hn : n ≤ 1000000) (hb : b.length ≤ 1000000) (hsm : ∀ k : Nat, (ks.getD k []).length ≤ 1000000) : Ct prog 96 [I (d), Ptr p9, Ptr p4] [F] (fun x : Option Addr × Nat × Hp => .slice x.1 (ks.filter (fun q => !nbl b d q)).length x.2.1) (fun x => Row x.2.2 9 1 x.1 (ks.filter (fun q => !nbl b d q)).length x.2.1 (qAJ (ks.filter (fun q => !nbl b d q)))) (fun x => [F, x.2.2]) := by
 have hkn : ks.length = n := by have := hs.1; simpa [qAJ] using this
 refine Ct.walk func96 rfl ntmps96 rfl (fun w0 hw0 => ?_)
 change J _ [(0, _), (1, _), (2, _)] _ _ _
 refine J.g fun K1 hK1 => J.q (qAi (l := [I (d)]) rfl rfl rfl) rfl fun g3 _ => ?_
 change J _ _ _ [F, blk g3 [I (d)] 3] _
 refine J.b rfl <| J.c hK1 <| J.O 1 2 3 ?_
 refine J.g fun K2 hK2 => J.f (qAQ (v := .slice A n c) rfl rfl qDv (m := F) (by simp) (h9)) rfl <| J.q (qAC rfl rfl ent98 (Ct.use (new := fun x : Option Addr × Nat × Hp => [x.2.2]) (fun F' hF => qPy F' A n c ks (hs.mono (hF F (by simp))) (by omega)))) rfl ?_
 rintro ⟨A6, c6, m6⟩ h6
 try dsimp only at h6
 change J _ ((6, .slice A6 (ks).length c6) :: _) _ [_, _, m6] _
 refine J.f (qBb rfl rfl) rfl <| J.q (qAC rfl rfl ent97 (Ct.use1 2 (m' := fun x : Hp => x) (new := fun _ => []) rfl (fun F' hF => qOd F' m6 A6 ks.length c6 ks h6 (by omega) hsm p4 g3 b d (h4.mono (hF F (by simp))) (qAS.blk0.mono (hF (blk g3 [I (d)] 3) (by simp))) hb))) rfl ?_
 rintro m8 h8
 change J _ ((8, .slice A6 (ks.filter fun q => !nbl b d q).length c6) :: _) _ [_, _, m8] _
 refine J.b rfl <| J.c hK2 <| J.u 4 ?_
 exact J.D <| J.H hw0 rfl (A6, c6, m8) rfl h8 [0, 2] rfl (by decide)
theorem qTs (l : List Sm.PR) (k : List UInt8) {d : Nat} (hd : d ≤ 128) : (Sm.keysS l).filter (fun q => !nbl k ((d : Nat) : Int) q) = kd l k d := by
 unfold kd nbl
 refine List.filter_congr fun q _ => ?_
 rw [Bool.not_not, Int.toNat_natCast, Nat.min_eq_left hd]
theorem qSV (l : List Sm.PR) (k : List UInt8) {d : Nat} (hd : d + 1 ≤ 128) : (kd l k d).filter (fun q => !nbl k ((d + 1 : Nat) : Int) q) = kd l k (d + 1) := by
 rw [← qSN]
 refine List.filter_congr fun q _ => ?_
 unfold nbl
 rw [Bool.not_not, Int.toNat_natCast, Nat.min_eq_left hd]
theorem qPf {l : List Sm.PR} (hf : qEq l) (k : List UInt8) (d j : Nat) : ((kd l k d).getD j []).length ≤ 1000000 := by
  by_cases hj : j < (kd l k d).length
  · rw [List.getD_eq_getElem?_getD, List.getElem?_eq_getElem hj]
    obtain ⟨⟨v, hv⟩, _⟩ := qQn (List.getElem_mem hj)
    show ((kd l k d)[j]).length ≤ 1000000
    rw [show (kd l k d)[j].length = 16 from hf.k16 _ hv]; decide
  · rw [List.getD_eq_getElem?_getD, List.getElem?_eq_none (by omega)]; decide
theorem qTo (l : List Sm.PR) (k : List UInt8) (d : Nat) : (kd l k d).length ≤ l.length := by
 have := List.length_filter_le (fun q => Sm.belowB q k d) (Sm.keysS l)
 rw [Sm.keysS_len] at this; exact this
theorem qGx (F : Hp) (hK : KF F) (g : Nat) (l : List Sm.PR) (hT : qEb F g l) (hf : qEq l) (k : List UInt8) (hk : k.length = 16) (d : Nat) (hd : d ≤ 128) :
    Ct prog 47 [Ptr g, Str k, I ((d : Nat) : Int)] [F] (fun x : Nat × Option Addr × Nat × Hp => .tuple #[.agg #[.slice x.2.1 (bsd l k d (x.1 - d)).length x.2.2.1, .bool (qAw l k x.1), Str (qCB l k x.1), Str (qCL l k x.1)], I 0]) (fun x => qLa l k d x.1 ∧ Row x.2.2.2 9 1 x.2.1 (bsd l k d (x.1 - d)).length x.2.2.1 (qAJ (bsd l k d (x.1 - d)))) (fun x => [F, x.2.2.2]) := by
  have hln := hf.few
  have hkl := Sm.keysS_len l
  have hsm := qFY hf.k16
  have hk0 := qTs l k hd
  have hkd0 := qTo l k d
  refine Ct.walk func47 rfl ntmps47 rfl (fun w0 hw0 => ?_)
  change J _ [(0, _), (1, _), (2, _)] _ _ _
  refine J.g fun K1 hK1 => J.q (qAi (l := [Str (k)]) rfl rfl rfl) rfl fun g4 _ => ?_
  change J _ _ _ [F, blk g4 [Str (k)] 9] _
  refine J.q (qAe (l := [.slice none 0 0, .bool false, Str [], Str []]) rfl qS3 rfl) rfl fun g6 _ => ?_
  change J _ _ _ [_, _, blk g6 [.slice none 0 0, .bool false, Str [], Str []] 58] _
  refine J.b rfl <| J.c hK1 <| J.T 0 2 4 6 ?_
  refine J.p fun K2 hK2 => J.g fun K3 hK3 => J.f (qAE 1 (v := Str (k)) rfl rfl rfl b9_ rfl) rfl <| J.b rfl <| J.q (qAC rfl rfl ent94 (Ct.use0 (fun F' hF => qHs F' k ((d : Nat) : Int)))) rfl fun g14 _ => J.f ((qA3 rfl rfl).as (v' := .bool false) (by rw [decide_eq_true (show k.length = 16 ∧ (0 : Int) ≤ ((d : Nat) : Int) ∧ ((d : Nat) : Int) ≤ 128 from ⟨hk, by omega, by omega⟩)]; rfl)) rfl <| J.c hK3 <| J.a3 0 2 4 6 15 ?_
  refine J.b2 ?_
  refine J.a1 hK2 <| J.T 0 2 4 6 ?_
  refine J.g fun K4 hK4 => J.q (qAe (l := [.slice none 0 0, .bool false, Str [], Str []]) rfl qS3 rfl) rfl fun g8 _ => ?_
  change J _ _ _ [_, _, _, blk g8 [.slice none 0 0, .bool false, Str [], Str []] 58] _
  refine J.c hK4 <| J.a3 0 2 4 6 8 ?_
  refine J.g fun K5 hK5 => J.b rfl <| J.q (qAC rfl rfl ent95 (Ct.use (new := fun x : Option Addr × Nat × Hp => [x.2.2]) (fun F' hF => qJc F' g l (hT.mono (hF F (by simp))) (by omega)))) rfl ?_
  rintro ⟨A18, c18, m18⟩ h18
  try dsimp only at h18
  change J _ ((18, .slice A18 (Sm.keysS l).length c18) :: _) _ [_, _, _, _, m18] _
  refine J.q (qAe (l := [.slice none 0 0]) rfl zeroValue37 rfl) rfl fun g9 _ => ?_
  change J _ _ _ [_, _, _, _, _, blk g9 [.slice none 0 0] 37] _
  refine J.b4 (qAP (i := 5) (l := [.slice none 0 0]) (vs := [.slice A18 ((Sm.keysS l).length) c18]) rfl rfl rfl rfl rfl qEe rfl rfl) rfl rfl fun _ _ => ?_
  change J _ _ _ [_, _, _, _, _, blk g9 [.slice A18 ((Sm.keysS l).length) c18] 37] _
  refine J.c hK5 <| J.b1 0 2 4 6 8 9 ?_
  refine J.g fun K6 hK6 => J.f (qBb rfl rfl) rfl <| J.b rfl <| J.c hK6 <| J.c3 0 2 4 6 8 9 10 ?_
  refine J.g fun K7 hK7 => J.j 2 rfl <| J.q (qCk rfl rfl rfl ent96 (Ct.use (new := fun x : Option Addr × Nat × Hp => [x.2.2]) (fun F' hF => qHr F' ((d : Nat) : Int) g9 g4 A18 ((Sm.keysS l).length) c18 (Sm.keysS l) (h18.sl.mono (hF m18 (by simp))) (qAS.blk0.mono (hF (blk g9 [.slice A18 ((Sm.keysS l).length) c18] 37) (by simp))) k (qAS.blk0.mono (hF (blk g4 [Str (k)] 9) (by simp))) (by omega) (by omega) (by assumption)))) rfl ?_
  rintro ⟨A22, c22, m22⟩ h22
  try dsimp only at h22
  change J _ ((22, .slice A22 ((Sm.keysS l).filter (fun q => !nbl k ((d : Nat) : Int) q)).length c22) :: _) _ [_, _, _, _, _, _, m22] _
  rw [hk0] at h22 ⊢
  refine J.b4 (qAP (i := 5) (l := [.slice A18 ((Sm.keysS l).length) c18]) (vs := [.slice A22 ((kd l k (d)).length) c22]) rfl rfl rfl rfl rfl qEe rfl rfl) rfl rfl fun _ _ => ?_
  change J _ _ _ [_, _, _, _, _, blk g9 [.slice A22 ((kd l k (d)).length) c22] 37, _] _
  refine J.c hK7 <| J.c3 0 2 4 6 8 9 10 ?_
  refine J.p fun K8 hK8 => J.g fun K9 hK9 => J.j 2 rfl <| J.c hK9 <| J.c3 0 4 6 8 9 10 11 ?_
  refine J.W <| J.b6 (X := Nat × Option Addr × Nat × Hp × Option Addr × Nat × Hp) (fun ζ => [(0, Ptr g), (4, Ptr g4), (6, Ptr g6), (8, Ptr g8), (9, Ptr g9), (10, .func (.func 96) #[] #[Ptr g9, Ptr g4]), (11, I ((d + ζ.1 : Nat) : Int))]) (fun ζ => [F, blk g4 [Str (k)] 9, blk g6 [.slice none 0 0, .bool false, Str [], Str []] 58, blk g8 [.slice ζ.2.2.2.2.1 (bsd l k d (ζ.1)).length ζ.2.2.2.2.2.1, .bool false, Str [], Str []] 58, blk g9 [.slice ζ.2.1 (kd l k (d + ζ.1)).length ζ.2.2.1] 37, ζ.2.2.2.1, ζ.2.2.2.2.2.2]) (fun ζ => d + ζ.1 ≤ 128 ∧ (∀ x, d ≤ x → x < d + ζ.1 → 2 ≤ (cur l k x).length) ∧ Row ζ.2.2.2.1 9 1 ζ.2.1 (kd l k (d + ζ.1)).length ζ.2.2.1 (qAJ (kd l k (d + ζ.1))) ∧ Row ζ.2.2.2.2.2.2 9 1 ζ.2.2.2.2.1 (bsd l k d (ζ.1)).length ζ.2.2.2.2.2.1 (qAJ (bsd l k d (ζ.1)))) (fun ζ => 128 - (d + ζ.1)) (0, A22, c22, m22, none, 0, (fun _ => none)) (⟨hd, fun x h1 h2 => absurd h2 (by omega), h22, qCA.nil⟩) ⟨rfl, rfl, rfl, rfl, rfl, rfl, rfl, trivial⟩ (fun _ h => h.empty.pick [0, 1, 2, 3, 5, 6, 7] (by decide)) ?_
  rintro ⟨n, A9, c9, m9, Ab, cb, mb⟩ ⟨he, htw, hr9, hrb⟩ I0 hI0
  dsimp only at he htw hr9 hrb ⊢
  have hbl := qCp l k d n
  refine J.p fun K10 hK10 => J.g fun K11 hK11 => J.f (qAE 4 (v := .slice A9 (kd l k (d + n)).length c9) rfl rfl rfl qDv rfl) rfl <| J.f (qAh qAo rfl rfl) rfl <| J.f (qBQ rfl rfl rfl) rfl <| J.c hK11 <| J.d8 0 4 6 8 9 10 11 26 ?_
  refine J.a0 rfl (fun h26 => ?_) (fun h26 => ?_)
  ·
    have hcl := qIB hf.once k (d + n)
    have hlt : d + n < 128 := by
      rcases Nat.lt_or_ge (d + n) 128 with h | h
      · exact h
      · have hct := qSc hf hk
        rw [show d + n = 128 by omega] at h26 hcl
        omega
    have htl : (turn k (d + n)).length = 16 := (qB5 k _).trans hk
    have hmn : min (((d + n + 1 : Nat) : Int)).toNat 128 = d + n + 1 := by rw [Int.toNat_natCast]; omega
    have hsmk := qPf hf k (d + n)
    have hkdl := qTo l k (d + n)
    refine J.a1 hK10 <| J.c3 0 4 6 8 9 10 11 ?_
    refine J.p fun K12 hK12 => J.W <| J.p fun K13 hK13 => J.c0 [blk g8 [.slice Ab (bsd l k d (n)).length cb, .bool false, Str [], Str []] 58, blk g4 [Str (k)] 9] [12] (.y 0 (.y 1 (.y 2 (.y 3 (.y 4 (.y 6 (.y 7 (.e 5 (.e 8 (.e 9 (.e 10 (.y 11 (.e 12 .nil))))))))))))) Tryz.wide (by decide +kernel) (by simp) ?_
    refine J.k rfl (qAA (j := 0) rfl rfl qDT rfl qEe rfl) rfl rfl <| J.k rfl (qAE 0 (v := .slice Ab (bsd l k d (n)).length cb) rfl rfl rfl qDv rfl) rfl rfl <| J.V ?_
    refine J.k rfl (qAE 1 (v := Str (k)) rfl rfl rfl b9_ rfl) rfl rfl <| J.V ?_
    refine J.V ?_
    refine J.k rfl ((qAU rfl rfl rfl (by omega)).nat (d + n + 1) (by omega)) rfl rfl <| J.a2 rfl (qAC rfl rfl ent101 (Ct.use0 (fun F' hF => qL7 F' k (by assumption) (d + n) (by omega)))) rfl (by simp) fun g34 _ => J.a2 rfl (qAC rfl rfl ent75 (Ct.use0 (fun F' hF => qJd F' (hK.mo hF) g l (hT.mono (hF F (by simp))) (by assumption) (turn k (d + n)) (by first | omega | decide) ((d + n + 1 : Nat) : Int) (by first | assumption | exact qLp (by assumption) | exact qQQ (by assumption) (by assumption))))) rfl (by simp) fun g37 _ => J.a2 rfl (qAH (l := [.tmp 37]) (xs := [[Str (Sm.ndB l (turn k (d + n)) (min ((d + n + 1 : Nat) : Int).toNat 128))]]) rfl rfl rfl rfl qAo el9 rfl (by decide) (by decide) (by simp)) rfl (by simp) fun g38 _ => ?_
    change J _ _ _ [F, blk g4 [Str (k)] 9, blk g6 [.slice none 0 0, .bool false, Str [], Str []] 58, blk g8 [.slice Ab (bsd l k d (n)).length cb, .bool false, Str [], Str []] 58, blk g9 [.slice A9 (kd l k (d + n)).length c9] 37, m9, mb, blk g38 [Str (Sm.ndB l (turn k (d + n)) (min ((d + n + 1 : Nat) : Int).toNat 128))] 9] _
    refine J.a2 rfl (qAY (i := 6) (xs := qAJ (bsd l k d (n))) (m2 := blk g38 [Str (Sm.ndB l (turn k (d + n)) (min ((d + n + 1 : Nat) : Int).toNat 128))] 9) (ys := [[Str (Sm.ndB l (turn k (d + n)) (min ((d + n + 1 : Nat) : Int).toNat 128))]]) rfl rfl rfl qAo qAo el9 rfl hrb (by simp) ((qBG (q := True) (qAJ [Sm.ndB l (turn k (d + n)) (min ((d + n + 1 : Nat) : Int).toNat 128)]) rfl (by simp [qAJ]) rfl).sl) rfl (by omega) (by omega)) rfl (by simp) ?_
    rintro ⟨A39, c39, m39⟩ h39
    try dsimp only at h39
    change J _ ((39, .slice A39 (((bsd l k d (n)).length) + 1) c39) :: _) _ [_, _, _, _, _, _, m39, _] _
    rw [← qDI, hmn, ← qP3] at h39
    rw [show (bsd l k d (n)).length + 1 = (bsd l k d (n + 1)).length by rw [qCp, qCp]] at h39 ⊢
    refine J.k rfl (qAA (j := 0) rfl rfl qDT rfl qEe rfl) rfl rfl <| J.c8 rfl (qAc (i := 3) (l := [.slice Ab (bsd l k d (n)).length cb, .bool false, Str [], Str []]) (vs := [.slice A39 ((bsd l k d (n + 1)).length) c39]) rfl rfl rfl rfl rfl qEe rfl (by simp)) rfl rfl rfl fun _ _ => ?_
    change J _ _ _ [_, _, _, blk g8 [.slice A39 ((bsd l k d (n + 1)).length) c39, .bool false, Str [], Str []] 58, _, _, _, _] _
    refine J.b3 <| J.A (J.L hK13 ?_)
    refine J.c3 0 4 6 8 9 10 11 ?_
    refine J.M <| J.j 2 rfl <| J.f ((qAU rfl rfl rfl (by omega)).nat (d + n + 1) (by omega)) rfl <| J.q (qCk rfl rfl rfl ent96 (Ct.use (new := fun x : Option Addr × Nat × Hp => [x.2.2]) (fun F' hF => qHr F' ((d + n + 1 : Nat) : Int) g9 g4 A9 ((kd l k (d + n)).length) c9 (kd l k (d + n)) (hr9.sl.mono (hF m9 (by simp))) (qAS.blk0.mono (hF (blk g9 [.slice A9 (kd l k (d + n)).length c9] 37) (by simp))) k (qAS.blk0.mono (hF (blk g4 [Str (k)] 9) (by simp))) (by omega) (by omega) (by assumption)))) rfl ?_
    rintro ⟨A44, c44, m44⟩ h44
    try dsimp only at h44
    change J _ ((44, .slice A44 ((kd l k (d + n)).filter (fun q => !nbl k ((d + n + 1 : Nat) : Int) q)).length c44) :: _) _ [_, _, _, _, _, _, _, _, m44] _
    rw [qSV l k (by omega)] at h44 ⊢
    refine J.b4 (qAP (i := 4) (l := [.slice A9 (kd l k (d + n)).length c9]) (vs := [.slice A44 ((kd l k (d + n + 1)).length) c44]) rfl rfl rfl rfl rfl qEe rfl rfl) rfl rfl fun _ _ => ?_
    change J _ _ _ [_, _, _, _, blk g9 [.slice A44 ((kd l k (d + n + 1)).length) c44] 37, _, _, _, _] _
    refine J.a6 <| J.a5 <| J.A (J.L hK12 ?_)
    refine J.c3 0 4 6 8 9 10 11 ?_
    exact J.M <| J.b rfl <| J.f ((qAU rfl rfl rfl (by omega)).nat (d + n + 1) (by omega)) rfl <| J.b rfl <| J.a6 <| J.A <| J.a8 (n + 1, A44, c44, m44, A39, c39, m39) (fun η (hη : _ ∧ 128 - (d + η.1) < 128 - (d + n)) => hI0 η hη.1 hη.2) ⟨⟨by dsimp only; omega, fun x h1 h2 => by rcases Nat.lt_or_ge x (d + n) with h | h; exact htw x h1 h; rw [show x = d + n by dsimp only at h2; omega, ← hcl]; omega, h44, h39⟩, by dsimp only; omega⟩ ⟨rfl, rfl, rfl, rfl, rfl, rfl, rfl, trivial⟩ (fun _ h => h.pick [0, 1, 2, 3, 4, 8, 6] (by decide))
  have hst : qLa l k d (d + n) := ⟨by omega, he, by rw [← qIB hf.once]; omega, fun x h1 h2 => htw x h1 h2⟩
  have hdn : d + n - d = n := by omega
  refine J.b5 <| J.a4 <| J.a4 <| J.b7 ?_
  refine J.A (J.L hK8 ?_)
  refine J.T 0 6 8 9 ?_
  refine J.p fun K14 hK14 => J.g fun K15 hK15 => J.f (qAE 4 (v := .slice A9 (kd l k (d + n)).length c9) rfl rfl rfl qDv rfl) rfl <| J.f (qAh qAo rfl rfl) rfl <| J.f (qAa rfl rfl rfl) rfl <| J.c hK15 <| J.a3 0 6 8 9 47 ?_
  refine J.a0 rfl (fun h47 => ?_) (fun h47 => ?_)
  ·
    refine J.p fun K16 hK16 => J.c0 [blk g9 [.slice A9 (kd l k (d + n)).length c9] 37, m9] [] (.y 0 (.y 1 (.y 2 (.y 3 (.e 4 (.y 5 (.e 6 .nil))))))) Tryz.wide (by decide +kernel) (by simp) ?_
    refine J.k rfl (qAE 0 (v := .slice A9 (kd l k (d + n)).length c9) rfl rfl rfl qDv rfl) rfl rfl <| J.k rfl (qAK (i := 0) rfl rfl rfl qAo z9_ hr9.sl (by omega)) rfl rfl <| J.k rfl (qAQ rfl rfl b9_ (m := m9) (by simp) (hr9.sl.elem (qAZ (qAl [] (by omega))))) rfl rfl <| J.k rfl (qAA (j := 1) rfl rfl qDT rfl z4_ rfl) rfl rfl <| J.h0 rfl (qAc (i := 3) (l := [.slice Ab (bsd l k d (n)).length cb, .bool false, Str [], Str []]) (vs := [.bool true]) rfl rfl rfl rfl rfl z4_ rfl (by simp)) rfl rfl (by simp) fun _ _ => ?_
    change J _ _ _ [F, blk g4 [Str (k)] 9, blk g6 [.slice none 0 0, .bool false, Str [], Str []] 58, blk g8 [.slice Ab (bsd l k d (n)).length cb, .bool true, Str [], Str []] 58, blk g9 [.slice A9 (kd l k (d + n)).length c9] 37, m9, mb] _
    refine J.k rfl (qAA (j := 2) rfl rfl qDT rfl z9_ rfl) rfl rfl <| J.h0 rfl (qAc (i := 3) (l := [.slice Ab (bsd l k d (n)).length cb, .bool true, Str [], Str []]) (vs := [Str ((kd l k (d + n)).getD 0 [])]) rfl rfl rfl rfl rfl z9_ rfl (by simp)) rfl rfl (by simp) fun _ _ => ?_
    change J _ _ _ [_, _, _, blk g8 [.slice Ab (bsd l k d (n)).length cb, .bool true, Str ((kd l k (d + n)).getD 0 []), Str []] 58, _, _, _] _
    refine J.b3 <| J.A (J.L hK16 ?_)
    refine J.O 0 6 8 ?_
    refine J.M <| J.b rfl <| J.a7 2 qDT z9_ rfl rfl rfl rfl rfl <| J.f (qAE 3 (v := Str ((kd l k (d + n)).getD 0 [])) rfl rfl rfl b9_ rfl) rfl <| J.q (qAC rfl rfl ent102 (Ct.use0 (fun F' hF => qRH F' g l (hT.mono (hF F (by simp))) ((kd l k (d + n)).getD 0 [])))) rfl fun g57 _ => J.j 3 rfl <| J.a7 3 qDT z9_ rfl rfl rfl rfl rfl <| J.b4 (qAc (i := 3) (l := [.slice Ab (bsd l k d (n)).length cb, .bool true, Str ((kd l k (d + n)).getD 0 []), Str []]) (vs := [Str ((Sm.getP l ((kd l k (d + n)).getD 0 [])).getD [])]) rfl rfl rfl rfl rfl z9_ rfl (by simp)) rfl rfl fun _ _ => ?_
    change J _ _ _ [_, _, _, blk g8 [.slice Ab (bsd l k d (n)).length cb, .bool true, Str ((kd l k (d + n)).getD 0 []), Str ((Sm.getP l ((kd l k (d + n)).getD 0 [])).getD [])] 58, _, _, _] _
    refine J.c hK14 <| J.G 6 8 ?_
    refine J.g fun K17 hK17 => J.c5 3 qLV qFr rfl rfl rfl rfl rfl <| J.b4 (qAP (i := 2) (l := [.slice none 0 0, .bool false, Str [], Str []]) (vs := [.slice Ab (bsd l k d (n)).length cb, .bool true, Str ((kd l k (d + n)).getD 0 []), Str ((Sm.getP l ((kd l k (d + n)).getD 0 [])).getD [])]) rfl rfl rfl rfl rfl qFr rfl rfl) rfl rfl fun _ _ => ?_
    change J _ _ _ [_, _, blk g6 [.slice Ab (bsd l k d (n)).length cb, .bool true, Str ((kd l k (d + n)).getD 0 []), Str ((Sm.getP l ((kd l k (d + n)).getD 0 [])).getD [])] 58, _, _, _, _] _
    refine J.b rfl <| J.c hK17 <| J.G 6 7 ?_
    exact J.D <| J.b8 hw0 (fun _ _ h => h) (rv2 rfl (RV.blkA 2 rfl rfl qLV qFr) rfl) (qA6 (d + n, Ab, cb, mb) (by dsimp only; rw [hdn]; unfold qAw qCB qCL; rw [if_pos (by omega), if_pos (by omega), decide_eq_true (by omega)]) ⟨hst, by dsimp only; rw [hdn]; exact hrb⟩ [0, 6] rfl (by decide))
  refine J.a1 hK14 <| J.G 6 8 ?_
  refine J.g fun K18 hK18 => J.c5 3 qLV qFr rfl rfl rfl rfl rfl <| J.b4 (qAP (i := 2) (l := [.slice none 0 0, .bool false, Str [], Str []]) (vs := [.slice Ab (bsd l k d (n)).length cb, .bool false, Str [], Str []]) rfl rfl rfl rfl rfl qFr rfl rfl) rfl rfl fun _ _ => ?_
  change J _ _ _ [F, blk g4 [Str (k)] 9, blk g6 [.slice Ab (bsd l k d (n)).length cb, .bool false, Str [], Str []] 58, blk g8 [.slice Ab (bsd l k d (n)).length cb, .bool false, Str [], Str []] 58, blk g9 [.slice A9 (kd l k (d + n)).length c9] 37, m9, mb] _
  refine J.b rfl <| J.c hK18 <| J.G 6 7 ?_
  exact J.D <| J.b8 hw0 (fun _ _ h => h) (rv2 rfl (RV.blkA 2 rfl rfl qLV qFr) rfl) (qA6 (d + n, Ab, cb, mb) (by dsimp only; rw [hdn]; unfold qAw qCB qCL; rw [if_neg (by omega), if_neg (by omega), decide_eq_false (by omega)]) ⟨hst, by dsimp only; rw [hdn]; exact hrb⟩ [0, 6] rfl (by decide))
structure Pz where
 a : UInt8
 b : UInt8
 v : List UInt8
 deriving DecidableEq
def Pz.cells (x : Pz) : List Value := [B8 (x.a), B8 (x.b), Str (x.v)]
theorem qKy {kv : List Sm.PR} (hf : qEq kv) {k : List UInt8} (hk : k.length = 16) {d s : Nat} (h : qLa kv k d s) : qGH (bsd kv k d (s - d)) (qAw kv k s) (qCB kv k s) (qCL kv k s) k d = Sm.ndB kv k d := by
 have h1 := h.le
 have h2 := h.ge
 have h3 := qKJ hf hk (d := d) (n := s - d) (by omega) (s - d) (Nat.le_refl _)
 rw [show d + (s - d) = s by omega, show s - (s - d) = d by omega] at h3
 unfold qGH
 rw [qPt hf h, qCp]
 exact h3
theorem qMh {kv : List Sm.PR} (hf : qEq kv) {k : List UInt8} (hk : k.length = 16) {d s : Nat} (h : qLa kv k d s) :
    qOD (bsd kv k d (s - d)) (qAw kv k s) (qCB kv k s) (qCL kv k s) (Sm.ndB kv k d) k ((Sm.getP kv k).getD []) d = (Sm.getP kv k).isSome := by
  obtain ⟨t1, t2⟩ := qTG hf h
  unfold qOD
  rw [qKy hf hk h, decide_eq_true rfl, Bool.and_true, t1]
  cases ht : qAw kv k s with
  | false => rfl
  | true =>
    by_cases hkk : qCB kv k s = k
    · rw [t2 ht hkk, decide_eq_true hkk]; simp
    · rw [decide_eq_false hkk]; rfl
theorem qIv {kv : List Sm.PR} (hf : qEq kv) {k : List UInt8} (hk : k.length = 16) {d s : Nat} (h : qLa kv k d s) {v : List UInt8} (hv : v ≠ (Sm.getP kv k).getD []) :
    qOD (bsd kv k d (s - d)) (qAw kv k s) (qCB kv k s) (qCL kv k s) (Sm.ndB kv k d) k v d = false := by
  obtain ⟨t1, t2⟩ := qTG hf h
  unfold qOD
  cases ht : qAw kv k s with
  | false => rfl
  | true =>
    by_cases hkk : qCB kv k s = k
    · rw [t2 ht hkk] at hv
      rw [decide_eq_false (show ¬ qCL kv k s = v from fun e => hv e.symm)]; simp
    · rw [decide_eq_false hkk]; rfl
theorem qK5 {kv : List Sm.PR} (hf : qEq kv) (k : List UInt8) (s : Nat) : (qCL kv k s).length ≤ 1000000 := by
 unfold qCL
 split
 · exact qGT hf.small _
 · exact Nat.zero_le _
end Go.Proofs.YtfldiegfenndjaaGreatDoor
