/- A part of the proof. -/
import Derived.Test.YtfldiegfenndjaaGreatDoorTopAkG7
import Derived.Test.YtfldiegfenndjaaGreatDoorTopAkG23
import Derived.Test.YtfldiegfenndjaaGreatDoorTopAkG24
import Derived.Test.YtfldiegfenndjaaGreatDoorTopAkG21
import Derived.Test.YtfldiegfenndjaaGreatDoorTopAkG19
set_option linter.unusedSimpArgs false
set_option linter.unusedVariables false
namespace Go.Proofs.YtfldiegfenndjaaGreatDoor
open Go Go.Fw Go.Proofs.Tryz
set_option maxRecDepth 100000
set_option maxHeartbeats 1000000
theorem ent161 : qAE prog 161 := qAE.of func161 rfl (by kernel_rfl)
theorem ent162 : qAE prog 162 := qAE.of func162 rfl (by kernel_rfl)
theorem qNk (F : Hp) (g : Nat) (l : List Sm.PR) (hT : qDT F g l) : Ct prog 119 [Ptr g] [F] (fun x : Nat × Hp => Ptr x.1) (fun x => qIV x.2 x.1 l) (fun x => [x.2, F]) := by
 have hT0 := hT
 obtain ⟨gm, hc, hm⟩ := hT0
 refine Ct.walk func119 rfl ntmps119 rfl (fun w0 hw0 => ?_)
 change J _ [(0, _)] _ _ _
 refine J.g fun K1 hK1 => J.b rfl <| J.c hK1 <| J.u 0 ?_
 refine J.k fun K2 hK2 => J.g fun K3 hK3 => J.b rfl <| J.f ((qAu qRV rfl rfl rfl).as (v' := .bool false) rfl) rfl <| J.c hK3 <| J.E 0 4 ?_
 refine J.a8 ?_
 refine J.W hK2 <| J.u 0 ?_
 refine J.g fun K4 hK4 => J.b rfl <| J.f (qAD rfl rfl) rfl <| J.a2 0 qIj sizeOf164 rfl rfl rfl rfl rfl <| J.f (qAN (v := .map (some gm)) rfl rfl isAgg164 (m := F) (by simp) (hc)) rfl <| J.p (qAB rfl rfl ent162 (Ct.use (new := fun x : Nat × Hp => [x.2]) (fun F' hF => qMi F' gm (ssM l) (hm.mono (hF F (by simp)))))) rfl ?_
 rintro ⟨g9, m9⟩ h9
 try dsimp only at h9
 change J _ ((9, .map (some g9)) :: _) _ [F, m9] _
 refine J.f (qAM (l := [(0, .tmp 9)]) (vs := [.map (some g9)]) (places := [(0, 1)]) (r := [.map (some g9)]) rfl rfl rfl qIj zeroValue166 (fun _ => by kernel_rfl) rfl) rfl <| J.p (qAf (l := [.map (some g9)]) rfl rfl rfl) rfl fun g11 _ => ?_
 change J _ _ _ [_, _, blk g11 [.map (some g9)] 166] _
 refine J.b rfl <| J.c hK4 <| J.u 2 ?_
 exact J.D <| J.b4 hw0 (fun _ _ h => h) (qIc rfl rfl) (qDW (g11, U [blk g11 [.map (some g9)] 166, m9]) (rfl) (fun hd => ⟨g9, m9, rfl, hd, h9⟩) [2, 1, 0] rfl rfl (by decide))
theorem qIk (F : Hp) (b z : Int) (A : Option Addr) (n c : Nat) (ks : List (List UInt8)) (hs : Sl F 1 A n c (qAI ks)) (hn : n ≤ 1000000) (hsm : ∀ k : Nat, (ks.getD k []).length ≤ 1000000) : Ct prog 118 [I (b), I (z), .slice A n c] [F] (fun _ : Unit => I ((qIz b z ks : Nat) : Int)) (fun _ => True) (fun _ => [F]) := by
 have hkn : ks.length = n := by have := hs.1; simpa [qAI] using this
 refine Ct.walk func118 rfl ntmps118 rfl (fun w0 hw0 => ?_)
 change J _ [(0, _), (1, _), (2, _)] _ _ _
 refine J.g fun K1 hK1 => J.b rfl <| J.c hK1 <| J.H 0 1 2 ?_
 refine J.g fun K2 hK2 => J.b rfl <| J.p (qAB rfl rfl ent38 (Ct.use0 (fun F' hF => qD9 F' z))) rfl fun g13 _ => J.b rfl <| J.c hK2 <| J.M 0 1 2 7 ?_
 refine J.k fun K3 hK3 => J.a1 <| J.g fun K4 hK4 => J.b rfl <| J.f (qAV rfl rfl rfl) rfl <| J.b rfl <| J.c hK4 <| J.a0 0 1 2 7 14 ?_
 refine J.a5 rfl (fun h14 => ?_) (fun h14 => ?_)
 ·
  refine J.g fun K5 hK5 => J.b rfl <| J.c hK5 <| J.u 6 ?_
  exact J.D <| J.b6 <| J.a3 <| J.V hw0 rfl () (by (first | rw [qEc (by omega)] | rw [qDi (by omega) (by omega)] | rw [qDj (by omega) (by omega) (by omega)] | rw [qC8 hc0 h256 hbn hno (fun e => by have := hib.1 e; omega)] | rw [qEd hc0 h256 hbn hall]) <;> rfl) trivial [0] rfl (by decide)
 refine J.g fun K6 hK6 => J.b rfl <| J.f (qAa qAh rfl rfl) rfl <| J.f (qAx rfl rfl rfl) rfl <| J.b rfl <| J.c hK6 <| J.a0 0 1 2 7 17 ?_
 refine J.a5 rfl (fun h17 => ?_) (fun h17 => ?_)
 ·
  refine J.g fun K7 hK7 => J.b rfl <| J.c hK7 <| J.u 6 ?_
  exact J.D <| J.b6 <| J.a3 <| J.V hw0 rfl () (by (first | rw [qEc (by omega)] | rw [qDi (by omega) (by omega)] | rw [qDj (by omega) (by omega) (by omega)] | rw [qC8 hc0 h256 hbn hno (fun e => by have := hib.1 e; omega)] | rw [qEd hc0 h256 hbn hall]) <;> rfl) trivial [0] rfl (by decide)
 refine J.g fun K8 hK8 => J.b rfl <| J.f (qAW rfl rfl rfl) rfl <| J.b rfl <| J.c5 (d := 24) rfl (fun h24 => ?_) (fun h24 => ?_)
 ·
  refine J.j 5 rfl <| J.c hK8 <| J.M 0 1 2 21 ?_
  refine J.c6 ?_
  refine J.g fun K9 hK9 => J.b rfl <| J.c hK9 <| J.u 6 ?_
  exact J.D <| J.b6 <| J.a3 <| J.V hw0 rfl () (by (first | rw [qEc (by omega)] | rw [qDi (by omega) (by omega)] | rw [qDj (by omega) (by omega) (by omega)] | rw [qC8 hc0 h256 hbn hno (fun e => by have := hib.1 e; omega)] | rw [qEd hc0 h256 hbn hall]) <;> rfl) trivial [0] rfl (by decide)
 refine J.j 2 rfl <| J.T (qBN rfl rfl rfl) rfl <| J.j 2 rfl <| J.c hK8 <| J.M 0 1 2 21 ?_
 refine J.a5 rfl (fun h21 => ?_) (fun h21 => ?_)
 ·
  refine J.g fun K10 hK10 => J.b rfl <| J.c hK10 <| J.u 6 ?_
  exact J.D <| J.b6 <| J.a3 <| J.V hw0 rfl () (by (first | rw [qEc (by omega)] | rw [qDi (by omega) (by omega)] | rw [qDj (by omega) (by omega) (by omega)] | rw [qC8 hc0 h256 hbn hno (fun e => by have := hib.1 e; omega)] | rw [qEd hc0 h256 hbn hall]) <;> rfl) trivial [0] rfl (by decide)
 refine J.c7 <| J.a9 <| J.A (J.L hK3 ?_)
 refine J.H 0 1 2 ?_
 refine J.k fun K11 hK11 => J.k fun K12 hK12 => ?_
 obtain ⟨d, rfl⟩ := Int.eq_ofNat_of_zero_le (show 0 ≤ z by unfold cnt at h14; split at h14 <;> omega)
 have hd : d ≤ 4 := by unfold cnt at h14; split at h14 <;> omega
 have hb0 : 0 ≤ b := by omega
 have hbn : ¬ (b < 0 ∨ ((cnt (d : Int) : Nat) : Int) ≤ b) := by omega
 have hc0 : ¬ cnt (d : Int) = 0 := by omega
 have h256 : ¬ 256 < ks.length := by omega
 refine J.G <| J.b rfl <| J.f (qAa qAh rfl rfl) rfl <| J.b rfl <| J.c hK12 <| J.a0 0 1 29 30 31 ?_
 refine J.a1 <| J.c0 (X := Nat) (fun ζ => [(0, I (b)), (1, I ((d : Nat) : Int)), (29, .slice A n c), (30, I ((n : Nat) : Int)), (31, I ((ζ : Nat) : Int))]) (fun ζ => [F]) (fun ζ => ζ ≤ n ∧ ∀ k ∈ ks.take ζ, inB b.toNat d k) (fun ζ => n - ζ) 0 (⟨Nat.zero_le _, fun k h => by simp at h⟩) ⟨rfl, rfl, rfl, rfl, rfl, trivial⟩ (fun _ h => h) ?_
 rintro i ⟨hi, hall⟩ I1 hI1
 refine J.g fun K13 hK13 => J.f (qAW rfl rfl rfl) rfl <| J.c hK13 <| J.b3 0 1 29 30 31 32 ?_
 refine J.k fun K14 hK14 => J.a5 rfl (fun h32 => ?_) (fun h32 => ?_)
 ·
  refine J.W hK14 <| J.a0 0 1 29 30 31 ?_
  refine J.k fun K15 hK15 => J.a1 <| J.g fun K16 hK16 => J.f (qAH (i := i) rfl rfl rfl qAh z9_ hs (by omega)) rfl <| J.f (qAN rfl rfl b9_ (m := F) (by simp) (hs.elem (qAZ (qAg [] (by omega))))) rfl <| J.b rfl <| J.c hK16 <| J.b3 0 1 9 29 30 31 ?_
  refine J.g fun K17 hK17 => J.j 2 rfl <| J.p (qAB rfl rfl ent161 (Ct.use0 (fun F' hF => qSW F' (ks.getD i []) (by first | omega | exact hsm _ | exact Nat.le_of_ble_eq_true rfl) d (by omega)))) rfl fun g38 _ => J.j 5 rfl <| J.c hK17 <| J.c2 0 1 10 11 29 30 31 ?_
  refine J.k fun K18 hK18 => ?_
  have hib := qSO (b := b) (d := d) (k := ks.getD i []) hb0
  refine J.G <| J.b rfl <| J.f (qAY rfl rfl rfl) rfl <| J.b rfl <| J.c5 (d := 43) rfl (fun h43 => ?_) (fun h43 => ?_)
  ·
   refine J.j 4 rfl <| J.c hK18 <| J.b3 0 1 29 30 31 47 ?_
   refine J.c6 ?_
   refine J.k fun K19 hK19 => ?_
   have hno := qJ7 (ks := ks) (i := i) (by omega)
   refine J.G <| J.b rfl <| J.c hK19 <| J.u 6 ?_
   exact J.D <| J.b6 <| J.a3 <| J.a3 <| J.b6 <| J.a3 <| J.V hw0 rfl () (by (first | rw [qEc (by omega)] | rw [qDi (by omega) (by omega)] | rw [qDj (by omega) (by omega) (by omega)] | rw [qC8 hc0 h256 hbn hno (fun e => by have := hib.1 e; omega)] | rw [qEd hc0 h256 hbn hall]) <;> rfl) trivial [0] rfl (by decide)
  refine J.j 2 rfl <| J.T (qAY rfl rfl rfl) rfl <| J.b rfl <| J.c hK18 <| J.b3 0 1 29 30 31 47 ?_
  refine J.a5 rfl (fun h47 => ?_) (fun h47 => ?_)
  ·
   refine J.k fun K20 hK20 => ?_
   have hno := qJ7 (ks := ks) (i := i) (by omega)
   refine J.G <| J.b rfl <| J.c hK20 <| J.u 6 ?_
   exact J.D <| J.b6 <| J.a3 <| J.a3 <| J.b6 <| J.a3 <| J.V hw0 rfl () (by (first | rw [qEc (by omega)] | rw [qDi (by omega) (by omega)] | rw [qDj (by omega) (by omega) (by omega)] | rw [qC8 hc0 h256 hbn hno (fun e => by have := hib.1 e; omega)] | rw [qEd hc0 h256 hbn hall]) <;> rfl) trivial [0] rfl (by decide)
  refine J.c7 <| J.a9 <| J.A (J.L hK15 ?_)
  refine J.a0 0 1 29 30 31 ?_
  exact J.G <| J.f ((qAR rfl rfl rfl (by omega)).nat (i + 1) (by omega)) rfl <| J.b rfl <| J.a7 <| J.A <| J.b0 (i + 1) (fun η (hη : _ ∧ n - η < n - i) => hI1 η hη.1 hη.2) ⟨⟨by omega, qO0 (by omega) hall (hib.2 ⟨by omega, by omega⟩)⟩, by first | omega | (dsimp only; omega)⟩ ⟨rfl, rfl, rfl, rfl, rfl, trivial⟩ (fun _ h => h)
 refine J.b7 <| J.a6 <| J.a6 <| J.b8 ?_
 refine J.A (J.L hK11 ?_)
 refine J.c8 [] trivial <| J.k fun K21 hK21 => ?_
 obtain rfl : i = ks.length := by omega
 rw [List.take_length] at hall
 refine J.G <| J.b rfl <| J.c hK21 <| J.u 6 ?_
 exact J.D <| J.V hw0 rfl () (by (first | rw [qEc (by omega)] | rw [qDi (by omega) (by omega)] | rw [qDj (by omega) (by omega) (by omega)] | rw [qC8 hc0 h256 hbn hno (fun e => by have := hib.1 e; omega)] | rw [qEd hc0 h256 hbn hall]) <;> rfl) trivial [0] rfl (by decide)
theorem ent163 : qAE prog 163 := qAE.of func163 rfl (by kernel_rfl)
theorem qPm (L : List qAm) {i : Nat} (h : i < L.length) : (L.map qAm.chg).getD i qAc = (L.getD i qAF).chg := by
 rw [List.getD_eq_getElem?_getD, List.getD_eq_getElem?_getD, List.getElem?_map, List.getElem?_eq_getElem h]; rfl
theorem qKB (L : List qAm) : (L.map qAm.chg).map Chg.k = L.map qAm.k := by rw [List.map_map]; rfl
theorem qBy.next {l : List Sm.PR} {d b : Nat} {L : List qAm} (hok : qBy l d L) (hch : qJN b d (L.map qAm.chg)) (hf : qCj l) (hln : l.length ≤ 90000) (hd : d ≤ 4) {i : Nat} (hi : i < L.length) :
    qFN (L.getD i qAF).bs (L.getD i qAF).th (L.getD i qAF).pk (L.getD i qAF).pv (L.getD i qAF).k d = Sm.ndB (kvC l ((L.map qAm.chg).take i)) (kF b d) d ∧
    qEk (L.getD i qAF).bs (L.getD i qAF).th (L.getD i qAF).pk (L.getD i qAF).pv (L.getD i qAF).k (L.getD i qAF).v d = Sm.ndB (kvC l ((L.map qAm.chg).take (i + 1))) (kF b d) d := by
  have hs := hok i hi
  have hc := hch.at (i := i) (by rw [List.length_map]; exact hi)
  rw [qPm L hi] at hc
  have h1 := (hch.fine hf hln i).k16
  have h2 := (hch.fine hf hln (i + 1)).k16
  refine ⟨hs.node.trans (qJr h1 hc.1 hd hc.2.1), ?_⟩
  rw [qJ0 (by rw [List.length_map]; exact hi), qPm L hi] at h2 ⊢
  exact hs.after.trans (qJr h2 hc.1 hd hc.2.1)
theorem qGL {L : List qAm} (h : ∀ x ∈ L, x.k.length ≤ 1000000) (j : Nat) : ((L.map qAm.k).getD j []).length ≤ 1000000 := by
 rw [List.getD_eq_getElem?_getD, List.getElem?_map]
 by_cases hj : j < L.length
 · rw [List.getElem?_eq_getElem hj]; exact h _ (List.getElem_mem hj)
 · rw [List.getElem?_eq_none (by omega)]; decide
theorem qJN.small {b d : Nat} {L : List qAm} (h : qJN b d (L.map qAm.chg)) : ∀ x ∈ L, x.k.length ≤ 1000000 := fun x hx => by
 have := h.k16 x.chg (List.mem_map.2 ⟨x, hx, rfl⟩)
 rw [show x.k.length = 16 from this]; decide
theorem qF2 (F : Hp) (b z : Int) (old new : List UInt8) (A0 : Option Addr) (n0 c0 : Nat) (L : List qAm) (hs : Sl F 6 A0 n0 c0 (qDb L)) (hsmL : ∀ x ∈ L, x.k.length ≤ 1000000) (hn : n0 ≤ 100000) (he : ¬ qIz b z (L.map qAm.k) = 0) : Ct prog 120 [.agg #[I (b), I (z), Str (old), Str (new), .slice A0 n0 c0]] [F] (fun _ : Unit => I ((qIz b z (L.map qAm.k) : Nat) : Int)) (fun _ => True) (fun _ => [F]) := by
 have hLn : L.length = n0 := by have := hs.1; simpa [qDb] using this
 have hsk := qGL hsmL
 refine Ct.walk func120 rfl ntmps120 rfl (fun w0 hw0 => ?_)
 change J _ [(0, _)] _ _ _
 refine J.g fun K1 hK1 => J.p (qAf (l := [I (b), I (z), Str (old), Str (new), .slice A0 n0 c0]) rfl rfl rfl) rfl fun g1 _ => ?_
 change J _ _ _ [F, blk g1 [I (b), I (z), Str (old), Str (new), .slice A0 n0 c0] 79] _
 refine J.b rfl <| J.c hK1 <| J.u 1 ?_
 refine J.g fun K2 hK2 => J.b rfl <| J.c hK2 <| J.E 1 3 ?_
 refine J.k fun K3 hK3 => J.g fun K4 hK4 => J.a2 4 qDp sizeOf77 rfl rfl rfl rfl rfl <| J.f (qAC 1 (v := .slice A0 n0 c0) rfl rfl rfl isAgg77 rfl) rfl <| J.f (qAa qNf rfl rfl) rfl <| J.b rfl <| J.c hK4 <| J.a0 1 3 13 14 15 ?_
 refine J.a1 <| J.c0 (X := Nat × Option Addr × Nat × Hp) (fun ζ => [(1, Ptr g1), (3, .slice ζ.2.1 ((qDQ L ζ.1).length) ζ.2.2.1), (13, .slice A0 n0 c0), (14, I ((n0 : Nat) : Int)), (15, I ((ζ.1 : Nat) : Int))]) (fun ζ => [F, blk g1 [I (b), I (z), Str (old), Str (new), .slice A0 n0 c0] 79, ζ.2.2.2]) (fun ζ => ζ.1 ≤ n0 ∧ Row ζ.2.2.2 9 1 ζ.2.1 (qDQ L ζ.1).length ζ.2.2.1 (qAI (qDQ L ζ.1))) (fun ζ => n0 - ζ.1) (0, none, 0, (fun _ => none)) (⟨Nat.zero_le _, qBa.nil⟩) ⟨rfl, rfl, rfl, rfl, rfl, trivial⟩ (fun _ h => h.empty.pick [0, 1, 2] (by decide)) ?_
 rintro ⟨i, A1, c1, m1⟩ ⟨hi, hr1⟩ I0 hI0
 dsimp only at hi hr1 ⊢
 have hkl := qH1 (L := L) (i := i) (by omega)
 refine J.g fun K5 hK5 => J.f (qAW rfl rfl rfl) rfl <| J.c hK5 <| J.b3 1 3 13 14 15 16 ?_
 refine J.k fun K6 hK6 => J.a5 rfl (fun h16 => ?_) (fun h16 => ?_)
 ·
  refine J.W hK6 <| J.a0 1 3 13 14 15 ?_
  refine J.k fun K7 hK7 => J.a1 <| J.g fun K8 hK8 => J.f (qAH (i := i) rfl rfl rfl qNf qGZ hs (by omega)) rfl <| J.f (qAo (vs := [Str ((L.getD i qAF).k), Str ((L.getD i qAF).v), .slice (L.getD i qAF).bsA (L.getD i qAF).bs.length (L.getD i qAF).bsc, .bool ((L.getD i qAF).th), Str ((L.getD i qAF).pk), Str ((L.getD i qAF).pv)]) rfl rfl isAgg229 qGZ (m := F) (by simp) (hs.elem (qFG (by omega))) rfl) rfl <| J.p (qAO (l := [Str [], Str [], .slice none 0 0, .bool false, Str [], Str []]) rfl zeroValue229 rfl) rfl fun g5 _ => ?_
  change J _ _ _ [F, blk g1 [I (b), I (z), Str (old), Str (new), .slice A0 n0 c0] 79, m1, blk g5 [Str [], Str [], .slice none 0 0, .bool false, Str [], Str []] 229] _
  refine J.b1 (qAG (i := 3) (l := [Str [], Str [], .slice none 0 0, .bool false, Str [], Str []]) (vs := [Str ((L.getD i qAF).k), Str ((L.getD i qAF).v), .slice (L.getD i qAF).bsA (L.getD i qAF).bs.length (L.getD i qAF).bsc, .bool ((L.getD i qAF).th), Str ((L.getD i qAF).pk), Str ((L.getD i qAF).pv)]) rfl rfl rfl rfl rfl qGZ rfl rfl) rfl rfl fun _ _ => ?_
  change J _ _ _ [_, _, _, blk g5 [Str ((L.getD i qAF).k), Str ((L.getD i qAF).v), .slice (L.getD i qAF).bsA (L.getD i qAF).bs.length (L.getD i qAF).bsc, .bool ((L.getD i qAF).th), Str ((L.getD i qAF).pk), Str ((L.getD i qAF).pv)] 229] _
  refine J.c hK8 <| J.b3 1 3 5 13 14 15 ?_
  refine J.G <| J.b rfl <| J.a2 0 qFq qEG rfl rfl rfl rfl rfl <| J.a2 0 qFB z9_ rfl rfl rfl rfl rfl <| J.f (qAC 3 (v := Str ((L.getD i qAF).k)) rfl rfl rfl b9_ rfl) rfl <| J.p (qAJ (l := [.tmp 22]) (xs := [[Str ((L.getD i qAF).k)]]) rfl rfl rfl rfl qAh el9 rfl (by decide) (by decide) (by simp)) rfl fun g23 _ => ?_
  change J _ _ _ [_, _, _, _, blk g23 [Str ((L.getD i qAF).k)] 9] _
  refine J.p (qAd (i := 2) (xs := qAI (qDQ L i)) (m2 := blk g23 [Str ((L.getD i qAF).k)] 9) (ys := [[Str ((L.getD i qAF).k)]]) rfl rfl rfl qAh qAh el9 rfl hr1 (by simp) ((qBm (q := True) (qAI [(L.getD i qAF).k]) rfl (by simp [qAI]) rfl).sl) rfl (by omega) (by omega)) rfl ?_
  rintro ⟨A24, c24, m24⟩ h24
  try dsimp only at h24
  change J _ ((24, .slice A24 (((qDQ L i).length) + 1) c24) :: _) _ [_, _, m24, _, _] _
  rw [← qBY] at h24
  refine J.b rfl <| J.a7 <| J.a9 <| J.A (J.L hK7 ?_)
  refine J.a0 1 3 13 14 15 ?_
  exact J.G <| J.f ((qAR rfl rfl rfl (by omega)).nat (i + 1) (by omega)) rfl <| J.b rfl <| J.a7 <| J.A <| J.b0 (i + 1, A24, c24, m24) (fun η (hη : _ ∧ n0 - η.1 < n0 - i) => hI0 η hη.1 hη.2) ⟨⟨by dsimp only; omega, by dsimp only; rw [qDK (by omega), List.length_append]; exact h24⟩, by first | omega | (dsimp only; omega)⟩ ⟨rfl, by dsimp only; rw [qDK (by omega), List.length_append]; rfl, rfl, rfl, rfl, trivial⟩ (fun _ h => h.pick [0, 1, 2] (by decide))
 refine J.b7 <| J.a6 <| J.a6 <| J.b8 ?_
 refine J.A (J.L hK3 ?_)
 refine J.E 1 3 ?_
 refine J.k fun K9 hK9 => J.k fun K10 hK10 => ?_
 obtain rfl : i = L.length := by omega
 rw [qH2] at hr1 hkl ⊢
 refine J.G <| J.a2 0 qDp z3_ rfl rfl rfl rfl rfl <| J.f (qAC 1 (v := I (b)) rfl rfl rfl b3_ rfl) rfl <| J.a2 1 qDp z3_ rfl rfl rfl rfl rfl <| J.f (qAC 1 (v := I (z)) rfl rfl rfl b3_ rfl) rfl <| J.b rfl <| J.p (qAB rfl rfl ent118 (Ct.use0 (fun F' hF => qIk F' b z A1 ((L.map qAm.k).length) c1 (L.map qAm.k) (hr1.sl.mono (hF m1 (by simp))) (by omega) (by assumption)))) rfl fun g31 _ => J.b rfl <| J.c hK10 <| J.E 1 6 ?_
 refine J.g fun K11 hK11 => J.b rfl <| J.f ((qAY rfl rfl rfl).yes (by omega)) rfl <| J.c hK11 <| J.H 1 6 33 ?_
 refine J.c6 ?_
 refine J.g fun K12 hK12 => J.j 2 rfl <| J.c hK12 <| J.u 2 ?_
 exact J.D <| J.a3 <| J.V hw0 rfl () (by rfl) trivial [0] rfl (by decide)
theorem qLi (F : Hp) (hK : KF F) (b d : Nat) (hd : d ≤ 4) (hb : b < 2 ^ d) (old new : List UInt8) (A0 : Option Addr) (n0 c0 : Nat) (L : List qAm) (hs : Sl F 6 A0 n0 c0 (qDb L)) (l : List Sm.PR) (hf : qCj l) (hln : l.length ≤ 90000) (hch : qJN b d (L.map qAm.chg)) (hok : qBy l d L) (hbs : qK8 F L) (hold : old = Sm.ndB l (kF b d) d) : Ct prog 120 [.agg #[I ((b : Nat) : Int), I ((d : Nat) : Int), Str (old), Str (new), .slice A0 n0 c0]] [F] (fun _ : Unit => I ((if new = Sm.ndB (kvC l (L.map qAm.chg)) (kF b d) d then 0 else 15 : Nat) : Int)) (fun _ => True) (fun _ => [F]) := by
 have hLn : L.length = n0 := by have := hs.1; simpa [qDb] using this
 have hsk := qGL hch.small
 have hmay := hch.may hd hb
 rw [qKB] at hmay
 have hl256 := hch.len
 rw [List.length_map] at hl256
 refine Ct.walk func120 rfl ntmps120 rfl (fun w0 hw0 => ?_)
 change J _ [(0, _)] _ _ _
 refine J.g fun K1 hK1 => J.p (qAf (l := [I ((b : Nat) : Int), I ((d : Nat) : Int), Str (old), Str (new), .slice A0 n0 c0]) rfl rfl rfl) rfl fun g1 _ => ?_
 change J _ _ _ [F, blk g1 [I ((b : Nat) : Int), I ((d : Nat) : Int), Str (old), Str (new), .slice A0 n0 c0] 79] _
 refine J.b rfl <| J.c hK1 <| J.u 1 ?_
 refine J.g fun K2 hK2 => J.b rfl <| J.c hK2 <| J.E 1 3 ?_
 refine J.k fun K3 hK3 => J.g fun K4 hK4 => J.a2 4 qDp sizeOf77 rfl rfl rfl rfl rfl <| J.f (qAC 1 (v := .slice A0 n0 c0) rfl rfl rfl isAgg77 rfl) rfl <| J.f (qAa qNf rfl rfl) rfl <| J.b rfl <| J.c hK4 <| J.a0 1 3 13 14 15 ?_
 refine J.a1 <| J.c0 (X := Nat × Option Addr × Nat × Hp) (fun ζ => [(1, Ptr g1), (3, .slice ζ.2.1 ((qDQ L ζ.1).length) ζ.2.2.1), (13, .slice A0 n0 c0), (14, I ((n0 : Nat) : Int)), (15, I ((ζ.1 : Nat) : Int))]) (fun ζ => [F, blk g1 [I ((b : Nat) : Int), I ((d : Nat) : Int), Str (old), Str (new), .slice A0 n0 c0] 79, ζ.2.2.2]) (fun ζ => ζ.1 ≤ n0 ∧ Row ζ.2.2.2 9 1 ζ.2.1 (qDQ L ζ.1).length ζ.2.2.1 (qAI (qDQ L ζ.1))) (fun ζ => n0 - ζ.1) (0, none, 0, (fun _ => none)) (⟨Nat.zero_le _, qBa.nil⟩) ⟨rfl, rfl, rfl, rfl, rfl, trivial⟩ (fun _ h => h.empty.pick [0, 1, 2] (by decide)) ?_
 rintro ⟨i, A1, c1, m1⟩ ⟨hi, hr1⟩ I0 hI0
 dsimp only at hi hr1 ⊢
 have hkl := qH1 (L := L) (i := i) (by omega)
 refine J.g fun K5 hK5 => J.f (qAW rfl rfl rfl) rfl <| J.c hK5 <| J.b3 1 3 13 14 15 16 ?_
 refine J.k fun K6 hK6 => J.a5 rfl (fun h16 => ?_) (fun h16 => ?_)
 ·
  refine J.W hK6 <| J.a0 1 3 13 14 15 ?_
  refine J.k fun K7 hK7 => J.a1 <| J.g fun K8 hK8 => J.f (qAH (i := i) rfl rfl rfl qNf qGZ hs (by omega)) rfl <| J.f (qAo (vs := [Str ((L.getD i qAF).k), Str ((L.getD i qAF).v), .slice (L.getD i qAF).bsA (L.getD i qAF).bs.length (L.getD i qAF).bsc, .bool ((L.getD i qAF).th), Str ((L.getD i qAF).pk), Str ((L.getD i qAF).pv)]) rfl rfl isAgg229 qGZ (m := F) (by simp) (hs.elem (qFG (by omega))) rfl) rfl <| J.p (qAO (l := [Str [], Str [], .slice none 0 0, .bool false, Str [], Str []]) rfl zeroValue229 rfl) rfl fun g5 _ => ?_
  change J _ _ _ [F, blk g1 [I ((b : Nat) : Int), I ((d : Nat) : Int), Str (old), Str (new), .slice A0 n0 c0] 79, m1, blk g5 [Str [], Str [], .slice none 0 0, .bool false, Str [], Str []] 229] _
  refine J.b1 (qAG (i := 3) (l := [Str [], Str [], .slice none 0 0, .bool false, Str [], Str []]) (vs := [Str ((L.getD i qAF).k), Str ((L.getD i qAF).v), .slice (L.getD i qAF).bsA (L.getD i qAF).bs.length (L.getD i qAF).bsc, .bool ((L.getD i qAF).th), Str ((L.getD i qAF).pk), Str ((L.getD i qAF).pv)]) rfl rfl rfl rfl rfl qGZ rfl rfl) rfl rfl fun _ _ => ?_
  change J _ _ _ [_, _, _, blk g5 [Str ((L.getD i qAF).k), Str ((L.getD i qAF).v), .slice (L.getD i qAF).bsA (L.getD i qAF).bs.length (L.getD i qAF).bsc, .bool ((L.getD i qAF).th), Str ((L.getD i qAF).pk), Str ((L.getD i qAF).pv)] 229] _
  refine J.c hK8 <| J.b3 1 3 5 13 14 15 ?_
  refine J.G <| J.b rfl <| J.a2 0 qFq qEG rfl rfl rfl rfl rfl <| J.a2 0 qFB z9_ rfl rfl rfl rfl rfl <| J.f (qAC 3 (v := Str ((L.getD i qAF).k)) rfl rfl rfl b9_ rfl) rfl <| J.p (qAJ (l := [.tmp 22]) (xs := [[Str ((L.getD i qAF).k)]]) rfl rfl rfl rfl qAh el9 rfl (by decide) (by decide) (by simp)) rfl fun g23 _ => ?_
  change J _ _ _ [_, _, _, _, blk g23 [Str ((L.getD i qAF).k)] 9] _
  refine J.p (qAd (i := 2) (xs := qAI (qDQ L i)) (m2 := blk g23 [Str ((L.getD i qAF).k)] 9) (ys := [[Str ((L.getD i qAF).k)]]) rfl rfl rfl qAh qAh el9 rfl hr1 (by simp) ((qBm (q := True) (qAI [(L.getD i qAF).k]) rfl (by simp [qAI]) rfl).sl) rfl (by omega) (by omega)) rfl ?_
  rintro ⟨A24, c24, m24⟩ h24
  try dsimp only at h24
  change J _ ((24, .slice A24 (((qDQ L i).length) + 1) c24) :: _) _ [_, _, m24, _, _] _
  rw [← qBY] at h24
  refine J.b rfl <| J.a7 <| J.a9 <| J.A (J.L hK7 ?_)
  refine J.a0 1 3 13 14 15 ?_
  exact J.G <| J.f ((qAR rfl rfl rfl (by omega)).nat (i + 1) (by omega)) rfl <| J.b rfl <| J.a7 <| J.A <| J.b0 (i + 1, A24, c24, m24) (fun η (hη : _ ∧ n0 - η.1 < n0 - i) => hI0 η hη.1 hη.2) ⟨⟨by dsimp only; omega, by dsimp only; rw [qDK (by omega), List.length_append]; exact h24⟩, by first | omega | (dsimp only; omega)⟩ ⟨rfl, by dsimp only; rw [qDK (by omega), List.length_append]; rfl, rfl, rfl, rfl, trivial⟩ (fun _ h => h.pick [0, 1, 2] (by decide))
 refine J.b7 <| J.a6 <| J.a6 <| J.b8 ?_
 refine J.A (J.L hK3 ?_)
 refine J.E 1 3 ?_
 refine J.k fun K9 hK9 => J.k fun K10 hK10 => ?_
 obtain rfl : i = L.length := by omega
 rw [qH2] at hr1 hkl ⊢
 refine J.G <| J.a2 0 qDp z3_ rfl rfl rfl rfl rfl <| J.f (qAC 1 (v := I ((b : Nat) : Int)) rfl rfl rfl b3_ rfl) rfl <| J.a2 1 qDp z3_ rfl rfl rfl rfl rfl <| J.f (qAC 1 (v := I ((d : Nat) : Int)) rfl rfl rfl b3_ rfl) rfl <| J.b rfl <| J.p (qAB rfl rfl ent118 (Ct.use0 (fun F' hF => qIk F' ((b : Nat) : Int) ((d : Nat) : Int) A1 ((L.map qAm.k).length) c1 (L.map qAm.k) (hr1.sl.mono (hF m1 (by simp))) (by omega) (by assumption)))) rfl fun g31 _ => J.b rfl <| J.c hK10 <| J.E 1 6 ?_
 refine J.g fun K11 hK11 => J.b rfl <| J.f ((qAY rfl rfl rfl).no (by rw [hmay]; decide)) rfl <| J.c hK11 <| J.H 1 6 33 ?_
 refine J.a8 ?_
 refine J.W hK9 <| J.u 1 ?_
 refine J.g fun K12 hK12 => J.a2 2 qDp z9_ rfl rfl rfl rfl rfl <| J.f (qAC 1 (v := Str (old)) rfl rfl rfl b9_ rfl) rfl <| J.b rfl <| J.c hK12 <| J.E 1 7 ?_
 refine J.k fun K13 hK13 => J.g fun K14 hK14 => J.a2 4 qDp sizeOf77 rfl rfl rfl rfl rfl <| J.f (qAC 1 (v := .slice A0 n0 c0) rfl rfl rfl isAgg77 rfl) rfl <| J.f (qAa qNf rfl rfl) rfl <| J.b rfl <| J.c hK14 <| J.a0 1 7 38 39 40 ?_
 refine J.a1 <| J.c0 (X := Nat) (fun ζ => [(1, Ptr g1), (7, Str (Sm.ndB (kvC l ((L.map qAm.chg).take ζ)) (kF b d) d)), (38, .slice A0 n0 c0), (39, I ((n0 : Nat) : Int)), (40, I ((ζ : Nat) : Int))]) (fun ζ => [F, blk g1 [I ((b : Nat) : Int), I ((d : Nat) : Int), Str (old), Str (new), .slice A0 n0 c0] 79, m1]) (fun ζ => ζ ≤ L.length) (fun ζ => L.length - ζ) 0 (Nat.zero_le _) ⟨rfl, congrArg (fun z => some (Str z)) hold, rfl, rfl, rfl, trivial⟩ (fun _ h => h) ?_
 rintro i hi I2 hI2
 refine J.g fun K15 hK15 => J.f (qAW rfl rfl rfl) rfl <| J.c hK15 <| J.b3 1 7 38 39 40 41 ?_
 refine J.k fun K16 hK16 => J.a5 rfl (fun h41 => ?_) (fun h41 => ?_)
 ·
  refine J.W hK16 <| J.a0 1 7 38 39 40 ?_
  refine J.k fun K17 hK17 => J.a1 <| J.k fun K18 hK18 => ?_
  have hso := hok i (by omega)
  have hgo := hso.good
  have hpv := hso.pv
  have hvl := hso.val
  have hnx := hok.next hch hf hln hd (i := i) (by omega)
  have hk16 := hgo.k16
  refine J.G <| J.f (qAH (i := i) rfl rfl rfl qNf qGZ hs (by omega)) rfl <| J.f (qAo (vs := [Str ((L.getD i qAF).k), Str ((L.getD i qAF).v), .slice (L.getD i qAF).bsA (L.getD i qAF).bs.length (L.getD i qAF).bsc, .bool ((L.getD i qAF).th), Str ((L.getD i qAF).pk), Str ((L.getD i qAF).pv)]) rfl rfl isAgg229 qGZ (m := F) (by simp) (hs.elem (qFG (by omega))) rfl) rfl <| J.p (qAO (l := [Str [], Str [], .slice none 0 0, .bool false, Str [], Str []]) rfl zeroValue229 rfl) rfl fun g9 _ => ?_
  change J _ _ _ [F, blk g1 [I ((b : Nat) : Int), I ((d : Nat) : Int), Str (old), Str (new), .slice A0 n0 c0] 79, m1, blk g9 [Str [], Str [], .slice none 0 0, .bool false, Str [], Str []] 229] _
  refine J.b1 (qAG (i := 3) (l := [Str [], Str [], .slice none 0 0, .bool false, Str [], Str []]) (vs := [Str ((L.getD i qAF).k), Str ((L.getD i qAF).v), .slice (L.getD i qAF).bsA (L.getD i qAF).bs.length (L.getD i qAF).bsc, .bool ((L.getD i qAF).th), Str ((L.getD i qAF).pk), Str ((L.getD i qAF).pv)]) rfl rfl rfl rfl rfl qGZ rfl rfl) rfl rfl fun _ _ => ?_
  change J _ _ _ [_, _, _, blk g9 [Str ((L.getD i qAF).k), Str ((L.getD i qAF).v), .slice (L.getD i qAF).bsA (L.getD i qAF).bs.length (L.getD i qAF).bsc, .bool ((L.getD i qAF).th), Str ((L.getD i qAF).pk), Str ((L.getD i qAF).pv)] 229] _
  refine J.c hK18 <| J.b3 1 7 9 38 39 40 ?_
  refine J.k fun K19 hK19 => J.g fun K20 hK20 => J.a2 2 qFq qFn rfl rfl rfl rfl rfl <| J.f (qAo (vs := [.slice (L.getD i qAF).bsA (L.getD i qAF).bs.length (L.getD i qAF).bsc, .bool ((L.getD i qAF).th), Str ((L.getD i qAF).pk), Str ((L.getD i qAF).pv)]) rfl rfl qJH qFn (m := blk g9 [Str ((L.getD i qAF).k), Str ((L.getD i qAF).v), .slice (L.getD i qAF).bsA (L.getD i qAF).bs.length (L.getD i qAF).bsc, .bool ((L.getD i qAF).th), Str ((L.getD i qAF).pk), Str ((L.getD i qAF).pv)] 229) (by simp) (qAQ.blk0.sub 2 4) rfl) rfl <| J.a2 0 qFq qEG rfl rfl rfl rfl rfl <| J.a2 0 qFB z9_ rfl rfl rfl rfl rfl <| J.f (qAC 3 (v := Str ((L.getD i qAF).k)) rfl rfl rfl b9_ rfl) rfl <| J.a2 1 qDp z3_ rfl rfl rfl rfl rfl <| J.f (qAC 1 (v := I ((d : Nat) : Int)) rfl rfl rfl b3_ rfl) rfl <| J.p (qAB rfl rfl ent149 (Ct.use0 (fun F' hF => qI3 F' ((L.getD i qAF).bsA) ((L.getD i qAF).bsc) ((L.getD i qAF).bs) ((hbs i (by omega)).mono (hF F (by simp))) ((L.getD i qAF).th) ((L.getD i qAF).pk) ((L.getD i qAF).pv) ((L.getD i qAF).k) d (by assumption)))) rfl fun g51 _ => J.f (qA1 rfl rfl) rfl <| J.b rfl <| J.T (qAA (j := 2) rfl rfl qFq rfl qFn rfl) rfl <| J.T (qAo (vs := [.slice (L.getD i qAF).bsA (L.getD i qAF).bs.length (L.getD i qAF).bsc, .bool ((L.getD i qAF).th), Str ((L.getD i qAF).pk), Str ((L.getD i qAF).pv)]) rfl rfl qJH qFn (m := blk g9 [Str ((L.getD i qAF).k), Str ((L.getD i qAF).v), .slice (L.getD i qAF).bsA (L.getD i qAF).bs.length (L.getD i qAF).bsc, .bool ((L.getD i qAF).th), Str ((L.getD i qAF).pk), Str ((L.getD i qAF).pv)] 229) (by simp) (qAQ.blk0.sub 2 4) rfl) rfl <| J.T (qAA (j := 0) rfl rfl qFq rfl qEG rfl) rfl <| J.T (qAA (j := 0) rfl rfl qFB rfl z9_ rfl) rfl <| J.T (qAC 3 (v := Str ((L.getD i qAF).k)) rfl rfl rfl b9_ rfl) rfl <| J.T (qAA (j := 1) rfl rfl qDp rfl z3_ rfl) rfl <| J.T (qAC 1 (v := I ((d : Nat) : Int)) rfl rfl rfl b3_ rfl) rfl <| J.d6 (qAB rfl rfl ent150 (Ct.use0 (fun F' hF => qOB F' (hK.mo hF) ((L.getD i qAF).bsA) ((L.getD i qAF).bsc) ((L.getD i qAF).bs) ((hbs i (by omega)).mono (hF F (by simp))) ((L.getD i qAF).th) ((L.getD i qAF).pk) ((L.getD i qAF).pv) ((L.getD i qAF).k) d (by assumption) (by assumption)))) rfl fun g61 _ => J.b rfl <| J.T ((qC5 rfl rfl rfl).no (fun h => h hnx.1)) rfl <| J.b rfl <| J.c hK20 <| J.b3 1 9 38 39 40 64 ?_
  refine J.a8 ?_
  refine J.W hK19 <| J.a0 1 9 38 39 40 ?_
  refine J.g fun K21 hK21 => J.a2 2 qFq qFn rfl rfl rfl rfl rfl <| J.f (qAo (vs := [.slice (L.getD i qAF).bsA (L.getD i qAF).bs.length (L.getD i qAF).bsc, .bool ((L.getD i qAF).th), Str ((L.getD i qAF).pk), Str ((L.getD i qAF).pv)]) rfl rfl qJH qFn (m := blk g9 [Str ((L.getD i qAF).k), Str ((L.getD i qAF).v), .slice (L.getD i qAF).bsA (L.getD i qAF).bs.length (L.getD i qAF).bsc, .bool ((L.getD i qAF).th), Str ((L.getD i qAF).pk), Str ((L.getD i qAF).pv)] 229) (by simp) (qAQ.blk0.sub 2 4) rfl) rfl <| J.a2 0 qFq qEG rfl rfl rfl rfl rfl <| J.a2 0 qFB z9_ rfl rfl rfl rfl rfl <| J.f (qAC 3 (v := Str ((L.getD i qAF).k)) rfl rfl rfl b9_ rfl) rfl <| J.a2 0 qFq qEG rfl rfl rfl rfl rfl <| J.a2 1 qFB z9_ rfl rfl rfl rfl rfl <| J.f (qAC 3 (v := Str ((L.getD i qAF).v)) rfl rfl rfl b9_ rfl) rfl <| J.a2 1 qDp z3_ rfl rfl rfl rfl rfl <| J.f (qAC 1 (v := I ((d : Nat) : Int)) rfl rfl rfl b3_ rfl) rfl <| J.p (qAB rfl rfl ent163 (Ct.use0 (fun F' hF => qLD F' (hK.mo hF) ((L.getD i qAF).bsA) ((L.getD i qAF).bsc) ((L.getD i qAF).bs) ((hbs i (by omega)).mono (hF F (by simp))) ((L.getD i qAF).th) ((L.getD i qAF).pk) ((L.getD i qAF).pv) ((L.getD i qAF).k) d (by assumption) ((L.getD i qAF).v) (by first | assumption | omega) (by assumption)))) rfl fun g76 _ => J.j 5 rfl <| J.c hK21 <| J.b3 1 10 11 38 39 40 ?_
  refine J.k fun K22 hK22 => J.g fun K23 hK23 => J.b rfl <| J.f ((qAY rfl rfl rfl).no (by decide)) rfl <| J.c hK23 <| J.c2 1 10 11 38 39 40 80 ?_
  refine J.a8 ?_
  refine J.W hK22 <| J.a0 1 10 38 39 40 ?_
  refine J.G <| J.j 2 rfl <| J.a7 <| J.a9 <| J.A (J.L hK17 ?_)
  refine J.a0 1 7 38 39 40 ?_
  exact J.G <| J.f ((qAR rfl rfl rfl (by omega)).nat (i + 1) (by omega)) rfl <| J.b rfl <| J.a7 <| J.A <| J.b0 (i + 1) (fun η (hη : _ ∧ L.length - η < L.length - i) => hI2 η hη.1 hη.2) ⟨(by omega), by first | omega | (dsimp only; omega)⟩ ⟨rfl, congrArg (fun z => some (Str z)) hnx.2, rfl, rfl, rfl, trivial⟩ (fun _ h => h.pick [0, 1, 2] (by decide))
 refine J.b7 <| J.a6 <| J.a6 <| J.b8 ?_
 refine J.A (J.L hK13 ?_)
 refine J.E 1 7 ?_
 refine J.k fun K24 hK24 => J.k fun K25 hK25 => ?_
 obtain rfl : i = L.length := by omega
 rw [show (L.map qAm.chg).take L.length = L.map qAm.chg from List.take_of_length_le (by rw [List.length_map]; exact Nat.le_refl _)]
 refine J.G <| J.b rfl <| J.a2 3 qDp z9_ rfl rfl rfl rfl rfl <| J.f (qAC 1 (v := Str (new)) rfl rfl rfl b9_ rfl) rfl <| J.f (qC5 rfl rfl rfl) rfl <| J.c hK25 <| J.u 87 ?_
 refine J.a5 rfl (fun h87 => ?_) (fun h87 => ?_)
 ·
  refine J.g fun K26 hK26 => J.b rfl <| J.c hK26 <| J.u 2 ?_
  exact J.D <| J.a3 <| J.V hw0 rfl () (by first | (rw [if_neg (fun e => h87 e.symm)]; rfl) | (rw [if_pos (Decidable.not_not.1 h87).symm]; rfl)) trivial [0] rfl (by decide)
 refine J.W hK24 <| J.c8 [] trivial <| J.g fun K27 hK27 => J.b rfl <| J.c hK27 <| J.u 2 ?_
 exact J.D <| J.V hw0 rfl () (by first | (rw [if_neg (fun e => h87 e.symm)]; rfl) | (rw [if_pos (Decidable.not_not.1 h87).symm]; rfl)) trivial [0] rfl (by decide)
theorem ent49 : qAE prog 49 := qAE.of func49 rfl (by kernel_rfl)
theorem ent120 : qAE prog 120 := qAE.of func120 rfl (by kernel_rfl)
theorem qED (F : Hp) (hK : KF F) (x : Hd) (A : Option Addr) (c : Nat) (hg : x.good) (hsl : Sl F 1 A x.nodes.length c (qAI x.nodes)) (y : Hd) (B : Option Addr) (e : Nat) (hgy : y.good) (hsy : Sl F 1 B y.nodes.length e (qAI y.nodes)) (b : Nat) (dp : Int) (old nw : List UInt8) (As : Option Addr) (ns cs : Nat) (ck : Int) (hC : ∀ F' : Hp, Le F F' → Ct prog 120 [.agg #[I ((b : Nat) : Int), I dp, Str old, Str nw, .slice As ns cs]] [F'] (fun _ : Unit => I ck) (fun _ => True) (fun _ => [F'])) (hix : x.next y = 0 → ck = 0 → dp = y.dep → b < x.nodes.length ∧ b < y.nodes.length) : Ct prog 59 [.agg #[N64 x.ep, Str (x.par), I (x.dep), I (x.aud), .slice A x.nodes.length c], .agg #[N64 y.ep, Str (y.par), I (y.dep), I (y.aud), .slice B y.nodes.length e], .agg #[I ((b : Nat) : Int), I (dp), Str (old), Str (nw), .slice As ns cs]] [F] (fun _ : Unit => I (qFm x y ck b dp old nw)) (fun _ => True) (fun _ => [F]) := by
 refine Ct.walk func59 rfl ntmps59 rfl (fun w0 hw0 => ?_)
 change J _ [(0, _), (1, _), (2, _)] _ _ _
 refine J.g fun K1 hK1 => J.p (qAf (l := [N64 x.ep, Str (x.par), I (x.dep), I (x.aud), .slice A x.nodes.length c]) rfl rfl rfl) rfl fun g3 _ => ?_
 change J _ _ _ [F, blk g3 [N64 x.ep, Str (x.par), I (x.dep), I (x.aud), .slice A x.nodes.length c] 39] _
 refine J.p (qAf (l := [N64 y.ep, Str (y.par), I (y.dep), I (y.aud), .slice B y.nodes.length e]) rfl rfl rfl) rfl fun g4 _ => ?_
 change J _ _ _ [_, _, blk g4 [N64 y.ep, Str (y.par), I (y.dep), I (y.aud), .slice B y.nodes.length e] 39] _
 refine J.p (qAf (l := [I ((b : Nat) : Int), I (dp), Str (old), Str (nw), .slice As ns cs]) rfl rfl rfl) rfl fun g5 _ => ?_
 change J _ _ _ [_, _, _, blk g5 [I ((b : Nat) : Int), I (dp), Str (old), Str (nw), .slice As ns cs] 79] _
 refine J.b rfl <| J.c hK1 <| J.H 3 4 5 ?_
 refine J.k fun K2 hK2 => J.g fun K3 hK3 => J.c4 1 qDD qB6 rfl rfl rfl rfl rfl <| J.c4 2 qDD qB6 rfl rfl rfl rfl rfl <| J.p (qAB rfl rfl ent49 (Ct.use0 (fun F' hF => qOi F' (hK.mo hF) x A c hg (hsl.mono (hF F (by simp))) y B e hgy (hsy.mono (hF F (by simp)))))) rfl fun g11 _ => J.b rfl <| J.c hK3 <| J.M 3 4 5 7 ?_
 refine J.g fun K4 hK4 => J.b rfl <| J.f (qAY rfl rfl rfl) rfl <| J.c hK4 <| J.a0 3 4 5 7 13 ?_
 refine J.a5 rfl (fun h13 => ?_) (fun h13 => ?_)
 ·
  refine J.g fun K5 hK5 => J.j 2 rfl <| J.c hK5 <| J.u 6 ?_
  exact J.D <| J.a3 <| J.V hw0 rfl () (by rw [qRN (by omega)]) trivial [0] rfl (by decide)
 refine J.W hK2 <| J.H 3 4 5 ?_
 refine J.k fun K6 hK6 => J.g fun K7 hK7 => J.c4 3 qId qEF rfl rfl rfl rfl rfl <| J.p (qAB rfl rfl ent120 (Ct.use0 (fun F' hF => hC F' (hF F (by simp))))) rfl fun g16 _ => J.b rfl <| J.c hK7 <| J.M 3 4 5 8 ?_
 refine J.g fun K8 hK8 => J.b rfl <| J.f (qAY rfl rfl rfl) rfl <| J.c hK8 <| J.a0 3 4 5 8 18 ?_
 refine J.a5 rfl (fun h18 => ?_) (fun h18 => ?_)
 ·
  refine J.g fun K9 hK9 => J.j 2 rfl <| J.c hK9 <| J.u 6 ?_
  exact J.D <| J.a3 <| J.V hw0 rfl () (by rw [qO5 (by omega) (by omega)]) trivial [0] rfl (by decide)
 refine J.W hK6 <| J.H 3 4 5 ?_
 refine J.k fun K10 hK10 => J.k fun K11 hK11 => J.c1 [blk g3 [N64 x.ep, Str (x.par), I (x.dep), I (x.aud), .slice A x.nodes.length c] 39, blk g4 [N64 y.ep, Str (y.par), I (y.dep), I (y.aud), .slice B y.nodes.length e] 39, blk g5 [I ((b : Nat) : Int), I (dp), Str (old), Str (nw), .slice As ns cs] 79, F] [] (.y 0 (.y 1 (.y 2 (.y 3 (.y 4 (.y 5 (.y 6 (.y 7 (.y 8 (.y 9 (.y 10 (.y 11 (.y 12 (.y 13 (.y 14 (.y 15 (.y 16 (.y 17 (.y 18 (.y 19 (.y 20 (.y 21 (.y 22 (.y 23 (.y 24 (.y 25 (.y 26 .nil))))))))))))))))))))))))))) Tryz.wide (by decide +kernel) (by simp) ?_
 refine J.q rfl (qAA (j := 1) rfl rfl qDp rfl z3_ rfl) rfl rfl <| J.q rfl (qAC 2 (v := I (dp)) rfl rfl rfl b3_ rfl) rfl rfl <| J.q rfl (qAA (j := 2) rfl rfl qDG rfl z3_ rfl) rfl rfl <| J.q rfl (qAC 1 (v := I (y.dep)) rfl rfl rfl b3_ rfl) rfl rfl <| J.q rfl (qAY rfl rfl rfl) rfl rfl <| J.O ?_
 refine J.c5 (d := 25) rfl (fun h25 => ?_) (fun h25 => ?_)
 ·
  iterate 9 refine J.Z ?_
  refine J.d2 ?_
  refine J.O ?_
  iterate 9 refine J.Z ?_
  refine J.d2 ?_
  refine J.b5 <| J.A (J.L hK11 ?_)
  refine J.u 46 ?_
  refine J.c6 ?_
  refine J.g fun K12 hK12 => J.b rfl <| J.c hK12 <| J.u 6 ?_
  exact J.D <| J.a3 <| J.V hw0 rfl () (by first | (rw [qEC (by omega) (by omega) (fun h => h25 h.1)]) | (rw [qEC (by omega) (by omega) (fun h => h36 h.2.1)]) | (rw [qEC (by omega) (by omega) (fun h => h46 h.2.2)]) | (rw [qNM (by omega) (by omega) ⟨Decidable.not_not.1 h25, Decidable.not_not.1 h36, Decidable.not_not.1 h46⟩])) trivial [0] rfl (by decide)
 obtain ⟨hb1, hb2⟩ := hix (by omega) (by omega) (by omega)
 refine J.a4 rfl (qAA (j := 2) rfl rfl qDp rfl z9_ rfl) rfl rfl <| J.a4 rfl (qAC 2 (v := Str (old)) rfl rfl rfl b9_ rfl) rfl rfl <| J.a4 rfl (qAA (j := 4) rfl rfl qDG rfl qB0 rfl) rfl rfl <| J.a4 rfl (qAC 0 (v := .slice A x.nodes.length c) rfl rfl rfl qCQ rfl) rfl rfl <| J.a4 rfl (qAA (j := 0) rfl rfl qDp rfl z3_ rfl) rfl rfl <| J.a4 rfl (qAC 2 (v := I ((b : Nat) : Int)) rfl rfl rfl b3_ rfl) rfl rfl <| J.a4 rfl (qAH (i := b) rfl rfl rfl qAh z9_ hsl (by omega)) rfl rfl <| J.a4 rfl (qAN rfl rfl b9_ (m := F) (by simp) (hsl.elem (qAZ (qAg [] (by omega))))) rfl rfl <| J.a4 rfl (qC5 rfl rfl rfl) rfl rfl <| J.e2 ?_
 refine J.O ?_
 refine J.c5 (d := 36) rfl (fun h36 => ?_) (fun h36 => ?_)
 ·
  iterate 9 refine J.Z ?_
  refine J.d2 ?_
  refine J.b5 <| J.A (J.L hK11 ?_)
  refine J.u 46 ?_
  refine J.c6 ?_
  refine J.g fun K13 hK13 => J.b rfl <| J.c hK13 <| J.u 6 ?_
  exact J.D <| J.a3 <| J.V hw0 rfl () (by first | (rw [qEC (by omega) (by omega) (fun h => h25 h.1)]) | (rw [qEC (by omega) (by omega) (fun h => h36 h.2.1)]) | (rw [qEC (by omega) (by omega) (fun h => h46 h.2.2)]) | (rw [qNM (by omega) (by omega) ⟨Decidable.not_not.1 h25, Decidable.not_not.1 h36, Decidable.not_not.1 h46⟩])) trivial [0] rfl (by decide)
 refine J.a4 rfl (qAA (j := 3) rfl rfl qDp rfl z9_ rfl) rfl rfl <| J.a4 rfl (qAC 2 (v := Str (nw)) rfl rfl rfl b9_ rfl) rfl rfl <| J.a4 rfl (qAA (j := 4) rfl rfl qDG rfl qB0 rfl) rfl rfl <| J.a4 rfl (qAC 1 (v := .slice B y.nodes.length e) rfl rfl rfl qCQ rfl) rfl rfl <| J.a4 rfl (qAA (j := 0) rfl rfl qDp rfl z3_ rfl) rfl rfl <| J.a4 rfl (qAC 2 (v := I ((b : Nat) : Int)) rfl rfl rfl b3_ rfl) rfl rfl <| J.a4 rfl (qAH (i := b) rfl rfl rfl qAh z9_ hsy (by omega)) rfl rfl <| J.a4 rfl (qAN rfl rfl b9_ (m := F) (by simp) (hsy.elem (qAZ (qAg [] (by omega))))) rfl rfl <| J.a4 rfl (qC5 rfl rfl rfl) rfl rfl <| J.e2 ?_
 refine J.b5 <| J.A (J.L hK11 ?_)
 refine J.u 46 ?_
 refine J.a5 rfl (fun h46 => ?_) (fun h46 => ?_)
 ·
  refine J.g fun K14 hK14 => J.b rfl <| J.c hK14 <| J.u 6 ?_
  exact J.D <| J.a3 <| J.V hw0 rfl () (by first | (rw [qEC (by omega) (by omega) (fun h => h25 h.1)]) | (rw [qEC (by omega) (by omega) (fun h => h36 h.2.1)]) | (rw [qEC (by omega) (by omega) (fun h => h46 h.2.2)]) | (rw [qNM (by omega) (by omega) ⟨Decidable.not_not.1 h25, Decidable.not_not.1 h36, Decidable.not_not.1 h46⟩])) trivial [0] rfl (by decide)
 refine J.W hK10 <| J.c8 [] trivial <| J.g fun K15 hK15 => J.b rfl <| J.c hK15 <| J.u 6 ?_
 exact J.D <| J.V hw0 rfl () (by first | (rw [qEC (by omega) (by omega) (fun h => h25 h.1)]) | (rw [qEC (by omega) (by omega) (fun h => h36 h.2.1)]) | (rw [qEC (by omega) (by omega) (fun h => h46 h.2.2)]) | (rw [qNM (by omega) (by omega) ⟨Decidable.not_not.1 h25, Decidable.not_not.1 h36, Decidable.not_not.1 h46⟩])) trivial [0] rfl (by decide)
theorem ent21 : qAE prog 21 := qAE.of func21 rfl (by kernel_rfl)
theorem ent59 : qAE prog 59 := qAE.of func59 rfl (by kernel_rfl)
theorem ent60 : qAE prog 60 := qAE.of func60 rfl (by kernel_rfl)
theorem ent61 : qAE prog 61 := qAE.of func61 rfl (by kernel_rfl)
theorem qLC {X : Type} (F BQ md mm : Hp) (hK : KF F) (x : Hd) (A : Option Addr) (c : Nat) (hg : x.good) (hsl : Sl F 1 A x.nodes.length c (qAI x.nodes)) (y : Hd) (B : Option Addr) (e : Nat) (hgy : y.good) (hsy : Sl F 1 B y.nodes.length e (qAI y.nodes)) (b : Nat) (dp : Int) (old nw : List UInt8) (As : Option Addr) (ns cs : Nat) (ck : Int) (hC : ∀ F' : Hp, Le F F' → Ct prog 120 [.agg #[I ((b : Nat) : Int), I dp, Str old, Str nw, .slice As ns cs]] [F'] (fun _ : Unit => I ck) (fun _ => True) (fun _ => [F'])) (hix : x.next y = 0 → ck = 0 → dp = y.dep → b < x.nodes.length ∧ b < y.nodes.length) (ga gs gq cnt gm : Nat) (hA : qAQ F ⟨ga, 0, none⟩ [Ptr gs, I ((cnt : Nat) : Int), Ptr gq, .map (some gm)]) (gk gb nx : Nat) (hcn : cnt ≤ 1000) (hnx : nx ≤ 100000) (hl : nx < cnt) (Ms : Mrk) (hM : qDF plK mm gm (mkV Ms)) (hm : qDR Ms (y.ep, ((b : Nat) : Int)) = none) (hE : qFm x y ck b dp old nw = 0) (h1 : y.ep ≤ 4294967295) (h2 : b < 16) (nm : Nat) (h3 : nm < 64) (h4 : y.dig.length = 16) (φ : X → Prop) (B1 M1 N1 : X → Hp) (hP : ∀ F' : Hp, Le F F' → Ct prog 121 [Ptr gq, Str (mkB y.ep b y.dig)] [BQ, md, F'] (fun _ : X => I (0)) φ (fun x => [B1 x, M1 x, F', N1 x])) {Y : Type} (BB : Hp) (ψ : Y → Prop) (P Q : Y → Option Addr) (p q : Y → Nat) (n1 n2 : Nat) (BB1 M2 N2 U2 W2 : Y → Hp) (hG : ∀ x, φ x → ∀ F' : Hp, Le F F' → Ct prog 61 [Ptr gs, Str (atM y.ep b nm y.dig)] [blk gs [Ptr gk, Ptr gb, I ((nx : Nat) : Int)] 216, BB, M1 x, F'] (fun z : Y => .tuple #[.agg #[I ((nx : Nat) : Int), .slice (P z) n1 (p z), .slice (Q z) n2 (q z)], I ((0 : Nat) : Int)]) ψ (fun z => [blk gs [Ptr gk, Ptr gb, I ((nx + 1 : Nat) : Int)] 216, BB1 z, M2 z, F', N2 z, U2 z, W2 z])) : Ct prog 19 [Ptr ga, I ((nm : Nat) : Int), .agg #[N64 x.ep, Str x.par, I x.dep, I x.aud, .slice A x.nodes.length c], .agg #[N64 y.ep, Str y.par, I y.dep, I y.aud, .slice B y.nodes.length e], .agg #[I ((b : Nat) : Int), I dp, Str old, Str nw, .slice As ns cs]] [blk gs [Ptr gk, Ptr gb, I ((nx : Nat) : Int)] 216, BB, BQ, md, mm, F] (fun r : (X × Hp) × Y => .tuple #[.agg #[N64 y.ep, I ((b : Nat) : Int), Str y.dig, I ((nm : Nat) : Int), I ((nx : Nat) : Int), .slice (P r.2) n1 (p r.2), .slice (Q r.2) n2 (q r.2)], I ((0 : Nat) : Int)]) (fun r => φ r.1.1 ∧ qDF plK r.1.2 gm (mkV (Ms ++ [((y.ep, ((b : Nat) : Int)), y.dig)])) ∧ ψ r.2) (fun r => [blk gs [Ptr gk, Ptr gb, I ((nx + 1 : Nat) : Int)] 216, BB1 r.2, B1 r.1.1, M2 r.2, r.1.2, F, N1 r.1.1, N2 r.2, U2 r.2, W2 r.2]) := by
 refine Ct.walk func19 rfl ntmps19 rfl (fun w0 hw0 => ?_)
 change J _ [(0, _), (1, _), (2, _), (3, _), (4, _)] _ _ _
 refine J.g fun K1 hK1 => J.p (qAf (l := [N64 x.ep, Str (x.par), I (x.dep), I (x.aud), .slice A x.nodes.length c]) rfl rfl rfl) rfl fun g7 _ => ?_
 change J _ _ _ [blk gs [Ptr gk, Ptr gb, I ((nx : Nat) : Int)] 216, BB, BQ, md, mm, F, blk g7 [N64 x.ep, Str (x.par), I (x.dep), I (x.aud), .slice A x.nodes.length c] 39] _
 refine J.p (qAf (l := [N64 y.ep, Str (y.par), I (y.dep), I (y.aud), .slice B y.nodes.length e]) rfl rfl rfl) rfl fun g8 _ => ?_
 change J _ _ _ [_, _, _, _, _, _, _, blk g8 [N64 y.ep, Str (y.par), I (y.dep), I (y.aud), .slice B y.nodes.length e] 39] _
 refine J.p (qAf (l := [I ((b : Nat) : Int), I (dp), Str (old), Str (nw), .slice As ns cs]) rfl rfl rfl) rfl fun g9 _ => ?_
 change J _ _ _ [_, _, _, _, _, _, _, _, blk g9 [I ((b : Nat) : Int), I (dp), Str (old), Str (nw), .slice As ns cs] 79] _
 refine J.p (qAO (l := [.int .u64 0, I 0, Str [], I 0, I 0, .slice none 0 0, .slice none 0 0]) rfl qDr rfl) rfl fun g10 _ => ?_
 change J _ _ _ [_, _, _, _, _, _, _, _, _, blk g10 [.int .u64 0, I 0, Str [], I 0, I 0, .slice none 0 0, .slice none 0 0] 52] _
 refine J.b rfl <| J.c hK1 <| J.b3 0 1 7 8 9 10 ?_
 refine J.k fun K2 hK2 => J.g fun K3 hK3 => J.b rfl <| J.f ((qAu qNS rfl rfl rfl).as (v' := .bool false) rfl) rfl <| J.c hK3 <| J.c2 0 1 7 8 9 10 21 ?_
 refine J.a8 ?_
 refine J.W hK2 <| J.b3 0 1 7 8 9 10 ?_
 refine J.k fun K4 hK4 => J.g fun K5 hK5 => J.c4 6 qDD qB6 rfl rfl rfl rfl rfl <| J.c4 7 qDD qB6 rfl rfl rfl rfl rfl <| J.c4 8 qId qEF rfl rfl rfl rfl rfl <| J.p (qAB rfl rfl ent59 (Ct.use0 (fun F' hF => qED F' (hK.mo hF) x A c hg (hsl.mono (hF F (by simp))) y B e hgy (hsy.mono (hF F (by simp))) b dp old nw As ns cs ck (fun F2 h2 => hC F2 ((hF F (by simp)).trans h2)) hix))) rfl fun g26 _ => J.b rfl <| J.c hK5 <| J.b3 0 1 8 9 10 12 ?_
 refine J.g fun K6 hK6 => J.b rfl <| J.f ((qAY rfl rfl rfl).no (by omega)) rfl <| J.c hK6 <| J.c2 0 1 8 9 10 12 28 ?_
 refine J.a8 ?_
 refine J.W hK4 <| J.a0 0 1 8 9 10 ?_
 refine J.e4 (X := Nat) (fun ζ => [(0, Ptr ga), (8, Ptr g8), (9, Ptr g9), (10, Ptr g10), (13, Ptr ζ)]) (fun ζ => [blk gs [Ptr gk, Ptr gb, I ((nx : Nat) : Int)] 216, BB, BQ, md, mm, F, blk g7 [N64 x.ep, Str (x.par), I (x.dep), I (x.aud), .slice A x.nodes.length c] 39, blk g8 [N64 y.ep, Str (y.par), I (y.dep), I (y.aud), .slice B y.nodes.length e] 39, blk g9 [I ((b : Nat) : Int), I (dp), Str (old), Str (nw), .slice As ns cs] 79, blk g10 [.int .u64 0, I 0, Str [], I 0, I 0, .slice none 0 0, .slice none 0 0] 52, blk ζ [N64 y.ep, I ((b : Nat) : Int), Str (y.dig), I ((nm : Nat) : Int), I 0, .slice none 0 0, .slice none 0 0] 52]) (fun ζ => True) (fun K7 hK7 => ?_) ?_
 ·
  refine J.c1 [blk g7 [N64 x.ep, Str (x.par), I (x.dep), I (x.aud), .slice A x.nodes.length c] 39, blk g8 [N64 y.ep, Str (y.par), I (y.dep), I (y.aud), .slice B y.nodes.length e] 39, blk g9 [I ((b : Nat) : Int), I (dp), Str (old), Str (nw), .slice As ns cs] 79, F] [9] (.y 0 (.y 1 (.y 2 (.y 3 (.y 4 (.y 6 (.br (.e 5 (.y 7 (.e 8 (.e 9 .nil)))) (.e 8 (.e 5 (.y 7 (.e 9 .nil))))))))))) Tryz.wide (by decide +kernel) (by simp) ?_
  refine J.q rfl (qAA (j := 0) rfl rfl qDG rfl qCm rfl) rfl rfl <| J.q rfl (qAC 1 (v := N64 y.ep) rfl rfl rfl qDN rfl) rfl rfl <| J.q rfl (qAA (j := 0) rfl rfl qDp rfl z3_ rfl) rfl rfl <| J.q rfl (qAC 2 (v := I ((b : Nat) : Int)) rfl rfl rfl b3_ rfl) rfl rfl <| J.q rfl (qAi 1 rfl rfl rfl qDD qB6 rfl) rfl rfl <| J.O ?_
  refine J.f1 ?_ ?_
  ·
   refine J.b2 rfl (qAB rfl rfl ent11 (Ct.use0 (fun F' hF => qBH F' (hK.mo hF) y B e hgy (hsy.mono (hF F (by simp)))))) rfl (by simp) fun g36 _ => J.q rfl (qAM (l := [(0, .tmp 32), (1, .tmp 34), (2, .tmp 36), (3, .tmp 37)]) (vs := [N64 (y.ep), I ((b : Nat) : Int), Str (y.dig), I ((nm : Nat) : Int)]) (places := [(0, 1), (1, 1), (2, 1), (3, 1), (4, 3)]) (r := [N64 (y.ep), I ((b : Nat) : Int), Str (y.dig), I ((nm : Nat) : Int), I 0, .slice none 0 0, .slice none 0 0]) rfl rfl rfl qEX qDr (fun _ => by kernel_rfl) (by kernel_rfl)) rfl rfl <| J.b2 rfl (qAO (l := [.int .u64 0, I 0, Str [], I 0, I 0, .slice none 0 0, .slice none 0 0]) rfl qDr rfl) rfl (by simp) fun g13 _ => ?_
   change J _ _ _ [blk gs [Ptr gk, Ptr gb, I ((nx : Nat) : Int)] 216, BB, BQ, md, mm, F, blk g7 [N64 x.ep, Str (x.par), I (x.dep), I (x.aud), .slice A x.nodes.length c] 39, blk g8 [N64 y.ep, Str (y.par), I (y.dep), I (y.aud), .slice B y.nodes.length e] 39, blk g9 [I ((b : Nat) : Int), I (dp), Str (old), Str (nw), .slice As ns cs] 79, blk g10 [.int .u64 0, I 0, Str [], I 0, I 0, .slice none 0 0, .slice none 0 0] 52, blk g13 [.int .u64 0, I 0, Str [], I 0, I 0, .slice none 0 0, .slice none 0 0] 52] _
   refine J.d7 rfl (qAG (i := 10) (l := [.int .u64 0, I 0, Str [], I 0, I 0, .slice none 0 0, .slice none 0 0]) (vs := [N64 (y.ep), I ((b : Nat) : Int), Str (y.dig), I ((nm : Nat) : Int), I 0, .slice none 0 0, .slice none 0 0]) rfl rfl rfl rfl rfl qCl rfl rfl) rfl rfl rfl fun _ _ => ?_
   change J _ _ _ [_, _, _, _, _, _, _, _, _, _, blk g13 [N64 (y.ep), I ((b : Nat) : Int), Str (y.dig), I ((nm : Nat) : Int), I 0, .slice none 0 0, .slice none 0 0] 52] _
   exact J.b5 <| J.A <| J.b0 (g13) hK7 (trivial) ⟨rfl, rfl, rfl, rfl, rfl, trivial⟩ (fun _ h => h)
  refine J.b2 rfl (qAO (l := [.int .u64 0, I 0, Str [], I 0, I 0, .slice none 0 0, .slice none 0 0]) rfl qDr rfl) rfl (by simp) fun g13 _ => ?_
  change J _ _ _ [blk gs [Ptr gk, Ptr gb, I ((nx : Nat) : Int)] 216, BB, BQ, md, mm, F, blk g7 [N64 x.ep, Str (x.par), I (x.dep), I (x.aud), .slice A x.nodes.length c] 39, blk g8 [N64 y.ep, Str (y.par), I (y.dep), I (y.aud), .slice B y.nodes.length e] 39, blk g9 [I ((b : Nat) : Int), I (dp), Str (old), Str (nw), .slice As ns cs] 79, blk g10 [.int .u64 0, I 0, Str [], I 0, I 0, .slice none 0 0, .slice none 0 0] 52, blk g13 [.int .u64 0, I 0, Str [], I 0, I 0, .slice none 0 0, .slice none 0 0] 52] _
  refine J.b2 rfl (qAB rfl rfl ent11 (Ct.use0 (fun F' hF => qBH F' (hK.mo hF) y B e hgy (hsy.mono (hF F (by simp)))))) rfl (by simp) fun g36 _ => J.q rfl (qAM (l := [(0, .tmp 32), (1, .tmp 34), (2, .tmp 36), (3, .tmp 37)]) (vs := [N64 (y.ep), I ((b : Nat) : Int), Str (y.dig), I ((nm : Nat) : Int)]) (places := [(0, 1), (1, 1), (2, 1), (3, 1), (4, 3)]) (r := [N64 (y.ep), I ((b : Nat) : Int), Str (y.dig), I ((nm : Nat) : Int), I 0, .slice none 0 0, .slice none 0 0]) rfl rfl rfl qEX qDr (fun _ => by kernel_rfl) (by kernel_rfl)) rfl rfl <| J.d7 rfl (qAG (i := 10) (l := [.int .u64 0, I 0, Str [], I 0, I 0, .slice none 0 0, .slice none 0 0]) (vs := [N64 (y.ep), I ((b : Nat) : Int), Str (y.dig), I ((nm : Nat) : Int), I 0, .slice none 0 0, .slice none 0 0]) rfl rfl rfl rfl rfl qCl rfl rfl) rfl rfl rfl fun _ _ => ?_
  change J _ _ _ [_, _, _, _, _, _, _, _, _, _, blk g13 [N64 (y.ep), I ((b : Nat) : Int), Str (y.dig), I ((nm : Nat) : Int), I 0, .slice none 0 0, .slice none 0 0] 52] _
  exact J.b5 <| J.A <| J.b0 (g13) hK7 (trivial) ⟨rfl, rfl, rfl, rfl, rfl, trivial⟩ (fun _ h => h)
 rintro g13 _
 refine J.g fun K8 hK8 => J.a2 0 qDG qCm rfl rfl rfl rfl rfl <| J.f (qAC 7 (v := N64 y.ep) rfl rfl rfl qDN rfl) rfl <| J.a2 0 qDp z3_ rfl rfl rfl rfl rfl <| J.f (qAC 8 (v := I ((b : Nat) : Int)) rfl rfl rfl b3_ rfl) rfl <| J.f (qAM (l := [(0, .tmp 40), (1, .tmp 42)]) (vs := [N64 (y.ep), I ((b : Nat) : Int)]) (places := [(0, 1), (1, 1)]) (r := [N64 (y.ep), I ((b : Nat) : Int)]) rfl rfl rfl qHV qJB (fun _ => by kernel_rfl) rfl) rfl <| J.p (qAO (l := [.int .u64 0, I 0]) rfl qJB rfl) rfl fun g14 _ => ?_
 change J _ _ _ [blk gs [Ptr gk, Ptr gb, I ((nx : Nat) : Int)] 216, BB, BQ, md, mm, F, blk g7 [N64 x.ep, Str (x.par), I (x.dep), I (x.aud), .slice A x.nodes.length c] 39, blk g8 [N64 y.ep, Str (y.par), I (y.dep), I (y.aud), .slice B y.nodes.length e] 39, blk g9 [I ((b : Nat) : Int), I (dp), Str (old), Str (nw), .slice As ns cs] 79, blk g10 [.int .u64 0, I 0, Str [], I 0, I 0, .slice none 0 0, .slice none 0 0] 52, blk g13 [N64 y.ep, I ((b : Nat) : Int), Str (y.dig), I ((nm : Nat) : Int), I 0, .slice none 0 0, .slice none 0 0] 52, blk g14 [.int .u64 0, I 0] 148] _
 refine J.b1 (qAG (i := 11) (l := [.int .u64 0, I 0]) (vs := [N64 (y.ep), I ((b : Nat) : Int)]) rfl rfl rfl rfl rfl sizeOf148 rfl rfl) rfl rfl fun _ _ => ?_
 change J _ _ _ [_, _, _, _, _, _, _, _, _, _, _, blk g14 [N64 (y.ep), I ((b : Nat) : Int)] 148] _
 refine J.c hK8 <| J.M 0 10 13 14 ?_
 refine J.k fun K9 hK9 => J.c1 [F, mm, blk g14 [N64 (y.ep), I ((b : Nat) : Int)] 148] [] (.y 0 (.y 1 (.y 2 (.y 3 (.y 4 (.y 5 (.y 6 (.y 7 (.y 8 (.y 9 (.y 10 .nil))))))))))) Tryz.wide (by decide +kernel) (by simp) ?_
 refine J.O ?_
 refine J.q rfl (qAD rfl rfl) rfl rfl <| J.q rfl (qAA (j := 3) rfl rfl qFC rfl sizeOf143 rfl) rfl rfl <| J.q rfl (qAN (v := .map (some gm)) rfl rfl isAgg143 (m := F) (by simp) (hA.at (i := 3) rfl)) rfl rfl <| J.q rfl (qAi 2 rfl rfl rfl isAgg148 sizeOf148 rfl) rfl rfl <| J.q rfl ((qCe (K := plK) (l := mkV Ms) (s := (y.ep, ((b : Nat) : Int))) qMr rfl rfl rfl qLb e9_ (m := mm) (by simp) hM.at).as (v' := .tuple #[Str [], .bool false]) (by rw [qES, hm]; rfl)) rfl rfl <| J.O ?_
 refine J.d0 (Str ([])) ?_
 refine J.d0 (.bool false) ?_
 refine J.b9 ?_
 refine J.b9 ?_
 refine J.b5 <| J.A (J.L hK9 ?_)
 refine J.b3 0 10 13 14 15 16 ?_
 refine J.k fun K10 hK10 => J.a1 <| J.g fun K11 hK11 => J.c4 10 qHN qCl rfl rfl rfl rfl rfl <| J.p (qAB rfl rfl ent22 (Ct.use0 (fun F' hF => qCC F' (hK.mo hF) y.ep b nm y.dig 0 none none 0 0 0 0 h1 h2 h3 h4))) rfl fun g55 _ => J.f ((qBL rfl rfl rfl).no (fun h => by have q := qHJ y.ep b nm y.dig; rw [h] at q; exact absurd q (by decide))) rfl <| J.b rfl <| J.c hK11 <| J.c2 0 10 13 14 15 16 53 ?_
 refine J.a8 ?_
 refine J.g fun K12 hK12 => J.j 8 rfl <| J.c hK12 <| J.b3 0 10 13 14 16 58 ?_
 refine J.a8 ?_
 refine J.g fun K13 hK13 => J.b rfl <| J.p (qAB rfl rfl ent21 (Ct.use0 (fun F' hF => qDP F' ga gs gq cnt gm (hA.mono (hF F (by simp))) gk gb nx (qAQ.blk0.mono (hF (blk gs [Ptr gk, Ptr gb, I ((nx : Nat) : Int)] 216) (by simp))) hcn hnx))) rfl fun g69 _ => J.f ((qAV rfl rfl rfl).no (by omega)) rfl <| J.b rfl <| J.c hK13 <| J.b3 0 10 13 14 16 67 ?_
 refine J.a8 ?_
 refine J.c7 <| J.a9 <| J.A (J.L hK10 ?_)
 refine J.a0 0 10 13 14 16 ?_
 refine J.k fun K14 hK14 => J.g fun K15 hK15 => J.b rfl <| J.f ((qA1 rfl rfl).as (v' := .bool true) rfl) rfl <| J.c hK15 <| J.a0 0 10 13 14 73 ?_
 refine J.c6 ?_
 refine J.k fun K16 hK16 => J.c9 [2, 3, 4, 5, 0, 1, 9, 10, 11] [BQ, md, mm, F, blk gs [Ptr gk, Ptr gb, I ((nx : Nat) : Int)] 216, BB, blk g10 [.int .u64 0, I 0, Str [], I 0, I 0, .slice none 0 0, .slice none 0 0] 52, blk g13 [N64 y.ep, I ((b : Nat) : Int), Str (y.dig), I ((nm : Nat) : Int), I 0, .slice none 0 0, .slice none 0 0] 52, blk g14 [N64 (y.ep), I ((b : Nat) : Int)] 148] rfl (by decide) <| J.G <| J.b rfl <| J.c4 8 isAgg148 sizeOf148 rfl rfl rfl rfl rfl <| J.a2 2 qEX z9_ rfl rfl rfl rfl rfl <| J.f (qAC 7 (v := Str (y.dig)) rfl rfl rfl b9_ rfl) rfl <| J.p (qAB rfl rfl ent60 (Ct.useA [BQ, md, mm] [F, blk gs [Ptr gk, Ptr gb, I ((nx : Nat) : Int)] 216, BB, blk g10 [.int .u64 0, I 0, Str [], I 0, I 0, .slice none 0 0, .slice none 0 0] 52, blk g13 [N64 y.ep, I ((b : Nat) : Int), Str (y.dig), I ((nm : Nat) : Int), I 0, .slice none 0 0, .slice none 0 0] 52, blk g14 [N64 y.ep, I ((b : Nat) : Int)] 148] (A' := fun q : X × Hp => [B1 q.1, M1 q.1, q.2]) (new := fun q => [N1 q.1]) (fun F' hF => qRJ F' BQ md mm ga gs gq cnt gm (hA.mono (hF F (by simp))) y.ep b h1 h2 y.dig h4 Ms hM hm φ B1 M1 N1 (fun F2 h2' => hP F2 ((hF F (by simp)).trans h2'))))) rfl ?_
 rintro ⟨x78, q78⟩ ⟨hx78, hq78⟩
 change J _ _ _ [B1 x78, M1 x78, q78, F, blk gs [Ptr gk, Ptr gb, I ((nx : Nat) : Int)] 216, BB, blk g10 [.int .u64 0, I 0, Str [], I 0, I 0, .slice none 0 0, .slice none 0 0] 52, blk g13 [N64 y.ep, I ((b : Nat) : Int), Str (y.dig), I ((nm : Nat) : Int), I 0, .slice none 0 0, .slice none 0 0] 52, blk g14 [N64 y.ep, I ((b : Nat) : Int)] 148, N1 x78] _
 refine J.b rfl <| J.c hK16 <| J.M 0 10 13 17 ?_
 refine J.g fun K17 hK17 => J.b rfl <| J.f ((qAY rfl rfl rfl).no (by decide)) rfl <| J.c hK17 <| J.a0 0 10 13 17 80 ?_
 refine J.a8 ?_
 refine J.W hK14 <| J.H 0 10 13 ?_
 refine J.e4 (X := Y × Nat) (fun ζ => [(10, Ptr g10), (13, Ptr g13), (18, Ptr ζ.2), (19, I ((0 : Nat) : Int))]) (fun ζ => [blk gs [Ptr gk, Ptr gb, I ((nx + 1 : Nat) : Int)] 216, BB1 ζ.1, M2 ζ.1, F, B1 x78, q78, N1 x78, blk g10 [.int .u64 0, I 0, Str [], I 0, I 0, .slice none 0 0, .slice none 0 0] 52, blk g13 [N64 y.ep, I ((b : Nat) : Int), Str (y.dig), I ((nm : Nat) : Int), I 0, .slice none 0 0, .slice none 0 0] 52, N2 ζ.1, U2 ζ.1, W2 ζ.1, blk ζ.2 [I ((nx : Nat) : Int), .slice (P ζ.1) n1 (p ζ.1), .slice (Q ζ.1) n2 (q ζ.1)] 50]) (fun ζ => ψ ζ.1) (fun K18 hK18 => ?_) ?_
 ·
  refine J.c9 [4, 5, 1, 3, 0, 2, 9, 6, 7] [blk gs [Ptr gk, Ptr gb, I ((nx : Nat) : Int)] 216, BB, M1 x78, F, B1 x78, q78, N1 x78, blk g10 [.int .u64 0, I 0, Str [], I 0, I 0, .slice none 0 0, .slice none 0 0] 52, blk g13 [N64 y.ep, I ((b : Nat) : Int), Str (y.dig), I ((nm : Nat) : Int), I 0, .slice none 0 0, .slice none 0 0] 52] rfl (by decide) <| J.c1 [F, blk g13 [N64 y.ep, I ((b : Nat) : Int), Str (y.dig), I ((nm : Nat) : Int), I 0, .slice none 0 0, .slice none 0 0] 52] [] (.y 0 (.y 1 (.y 2 (.y 3 (.y 4 (.br (.e 5 (.br (.e 6 (.y 7 (.y 8 (.y 9 (.e 10 (.e 11 (.y 12 .nil))))))) (.e 10 (.e 6 (.y 7 (.y 8 (.y 9 (.e 11 (.y 12 .nil))))))))) (.e 10 (.e 5 (.e 6 (.y 7 (.y 8 (.y 9 (.e 11 (.y 12 .nil)))))))))))))) Tryz.wide (by decide +kernel) (by simp) ?_
  refine J.O ?_
  refine J.q rfl (qAD rfl rfl) rfl rfl <| J.q rfl (qAA (j := 0) rfl rfl qFC rfl sizeOf137 rfl) rfl rfl <| J.q rfl (qAN (v := Ptr gs) rfl rfl isAgg137 (m := F) (by simp) (hA.at (i := 0) rfl)) rfl rfl <| J.q rfl (qAi 1 rfl rfl rfl qHN qCl rfl) rfl rfl <| J.f1 ?_ ?_
  ·
   refine J.b2 rfl (qAB rfl rfl ent22 (Ct.use0 (fun F' hF => qCC F' (hK.mo hF) y.ep b nm y.dig 0 none none 0 0 0 0 h1 h2 h3 h4))) rfl (by simp) fun g89 _ => J.f1 ?_ ?_
   ·
    refine J.b2 rfl (qAB rfl rfl ent61 (Ct.useA [blk gs [Ptr gk, Ptr gb, I ((nx : Nat) : Int)] 216, BB, M1 x78] [F, B1 x78, q78, N1 x78, blk g10 [.int .u64 0, I 0, Str [], I 0, I 0, .slice none 0 0, .slice none 0 0] 52, blk g13 [N64 y.ep, I ((b : Nat) : Int), Str (y.dig), I ((nm : Nat) : Int), I 0, .slice none 0 0, .slice none 0 0] 52] (A' := fun z : Y => [blk gs [Ptr gk, Ptr gb, I ((nx + 1 : Nat) : Int)] 216, BB1 z, M2 z]) (new := fun z => [N2 z, U2 z, W2 z]) (fun F' hF => hG x78 hx78 F' (hF F (by simp))))) rfl (by simp) ?_
    rintro z90 hz90
    change J _ ((90, .tuple #[.agg #[I ((nx : Nat) : Int), .slice (P z90) n1 (p z90), .slice (Q z90) n2 (q z90)], I ((0 : Nat) : Int)]) :: _) _ [blk gs [Ptr gk, Ptr gb, I ((nx + 1 : Nat) : Int)] 216, BB1 z90, M2 z90, F, B1 x78, q78, N1 x78, blk g10 [.int .u64 0, I 0, Str [], I 0, I 0, .slice none 0 0, .slice none 0 0] 52, blk g13 [N64 y.ep, I ((b : Nat) : Int), Str (y.dig), I ((nm : Nat) : Int), I 0, .slice none 0 0, .slice none 0 0] 52, N2 z90, U2 z90, W2 z90] _
    refine J.O ?_
    refine J.d0 (.agg #[I ((nx : Nat) : Int), .slice (P z90) n1 (p z90), .slice (Q z90) n2 (q z90)]) ?_
    refine J.d0 (I ((0 : Nat) : Int)) ?_
    refine J.b2 rfl (qAO (l := [I 0, .slice none 0 0, .slice none 0 0]) rfl qRX rfl) rfl (by simp) fun g18 _ => ?_
    change J _ _ _ [_, _, _, _, _, _, _, _, _, _, _, _, blk g18 [I 0, .slice none 0 0, .slice none 0 0] 50] _
    refine J.e1 rfl (qAG (i := 12) (l := [I 0, .slice none 0 0, .slice none 0 0]) (vs := [I ((nx : Nat) : Int), .slice (P z90) n1 (p z90), .slice (Q z90) n2 (q z90)]) rfl rfl rfl rfl rfl qLG rfl rfl) rfl rfl (by simp) fun _ _ => ?_
    change J _ _ _ [_, _, _, _, _, _, _, _, _, _, _, _, blk g18 [I ((nx : Nat) : Int), .slice (P z90) n1 (p z90), .slice (Q z90) n2 (q z90)] 50] _
    refine J.b9 ?_
    exact J.b5 <| J.A <| J.b0 (z90, g18) hK18 (hz90) ⟨rfl, rfl, rfl, rfl, trivial⟩ (fun _ h => h)
   refine J.b2 rfl (qAO (l := [I 0, .slice none 0 0, .slice none 0 0]) rfl qRX rfl) rfl (by simp) fun g18 _ => ?_
   change J _ _ _ [blk gs [Ptr gk, Ptr gb, I ((nx : Nat) : Int)] 216, BB, M1 x78, F, B1 x78, q78, N1 x78, blk g10 [.int .u64 0, I 0, Str [], I 0, I 0, .slice none 0 0, .slice none 0 0] 52, blk g13 [N64 y.ep, I ((b : Nat) : Int), Str (y.dig), I ((nm : Nat) : Int), I 0, .slice none 0 0, .slice none 0 0] 52, blk g18 [I 0, .slice none 0 0, .slice none 0 0] 50] _
   refine J.b2 rfl (qAB rfl rfl ent61 (Ct.useA [blk gs [Ptr gk, Ptr gb, I ((nx : Nat) : Int)] 216, BB, M1 x78] [F, B1 x78, q78, N1 x78, blk g10 [.int .u64 0, I 0, Str [], I 0, I 0, .slice none 0 0, .slice none 0 0] 52, blk g13 [N64 y.ep, I ((b : Nat) : Int), Str (y.dig), I ((nm : Nat) : Int), I 0, .slice none 0 0, .slice none 0 0] 52, blk g18 [I 0, .slice none 0 0, .slice none 0 0] 50] (A' := fun z : Y => [blk gs [Ptr gk, Ptr gb, I ((nx + 1 : Nat) : Int)] 216, BB1 z, M2 z]) (new := fun z => [N2 z, U2 z, W2 z]) (fun F' hF => hG x78 hx78 F' (hF F (by simp))))) rfl (by simp) ?_
   rintro z90 hz90
   change J _ ((90, .tuple #[.agg #[I ((nx : Nat) : Int), .slice (P z90) n1 (p z90), .slice (Q z90) n2 (q z90)], I ((0 : Nat) : Int)]) :: _) _ [blk gs [Ptr gk, Ptr gb, I ((nx + 1 : Nat) : Int)] 216, BB1 z90, M2 z90, _, _, _, _, _, _, _, N2 z90, U2 z90, W2 z90] _
   refine J.O ?_
   refine J.d0 (.agg #[I ((nx : Nat) : Int), .slice (P z90) n1 (p z90), .slice (Q z90) n2 (q z90)]) ?_
   refine J.d0 (I ((0 : Nat) : Int)) ?_
   refine J.e1 rfl (qAG (i := 9) (l := [I 0, .slice none 0 0, .slice none 0 0]) (vs := [I ((nx : Nat) : Int), .slice (P z90) n1 (p z90), .slice (Q z90) n2 (q z90)]) rfl rfl rfl rfl rfl qLG rfl rfl) rfl rfl (by simp) fun _ _ => ?_
   change J _ _ _ [_, _, _, _, _, _, _, _, _, blk g18 [I ((nx : Nat) : Int), .slice (P z90) n1 (p z90), .slice (Q z90) n2 (q z90)] 50, _, _, _] _
   refine J.b9 ?_
   exact J.b5 <| J.A <| J.b0 (z90, g18) hK18 (hz90) ⟨rfl, rfl, rfl, rfl, trivial⟩ (fun _ h => h.pick [0, 1, 2, 3, 4, 5, 6, 7, 8, 10, 11, 12, 9] (by decide))
  refine J.b2 rfl (qAO (l := [I 0, .slice none 0 0, .slice none 0 0]) rfl qRX rfl) rfl (by simp) fun g18 _ => ?_
  change J _ _ _ [blk gs [Ptr gk, Ptr gb, I ((nx : Nat) : Int)] 216, BB, M1 x78, F, B1 x78, q78, N1 x78, blk g10 [.int .u64 0, I 0, Str [], I 0, I 0, .slice none 0 0, .slice none 0 0] 52, blk g13 [N64 y.ep, I ((b : Nat) : Int), Str (y.dig), I ((nm : Nat) : Int), I 0, .slice none 0 0, .slice none 0 0] 52, blk g18 [I 0, .slice none 0 0, .slice none 0 0] 50] _
  refine J.b2 rfl (qAB rfl rfl ent22 (Ct.use0 (fun F' hF => qCC F' (hK.mo hF) y.ep b nm y.dig 0 none none 0 0 0 0 h1 h2 h3 h4))) rfl (by simp) fun g89 _ => J.b2 rfl (qAB rfl rfl ent61 (Ct.useA [blk gs [Ptr gk, Ptr gb, I ((nx : Nat) : Int)] 216, BB, M1 x78] [F, B1 x78, q78, N1 x78, blk g10 [.int .u64 0, I 0, Str [], I 0, I 0, .slice none 0 0, .slice none 0 0] 52, blk g13 [N64 y.ep, I ((b : Nat) : Int), Str (y.dig), I ((nm : Nat) : Int), I 0, .slice none 0 0, .slice none 0 0] 52, blk g18 [I 0, .slice none 0 0, .slice none 0 0] 50] (A' := fun z : Y => [blk gs [Ptr gk, Ptr gb, I ((nx + 1 : Nat) : Int)] 216, BB1 z, M2 z]) (new := fun z => [N2 z, U2 z, W2 z]) (fun F' hF => hG x78 hx78 F' (hF F (by simp))))) rfl (by simp) ?_
  rintro z90 hz90
  change J _ ((90, .tuple #[.agg #[I ((nx : Nat) : Int), .slice (P z90) n1 (p z90), .slice (Q z90) n2 (q z90)], I ((0 : Nat) : Int)]) :: _) _ [blk gs [Ptr gk, Ptr gb, I ((nx + 1 : Nat) : Int)] 216, BB1 z90, M2 z90, _, _, _, _, _, _, _, N2 z90, U2 z90, W2 z90] _
  refine J.O ?_
  refine J.d0 (.agg #[I ((nx : Nat) : Int), .slice (P z90) n1 (p z90), .slice (Q z90) n2 (q z90)]) ?_
  refine J.d0 (I ((0 : Nat) : Int)) ?_
  refine J.e1 rfl (qAG (i := 9) (l := [I 0, .slice none 0 0, .slice none 0 0]) (vs := [I ((nx : Nat) : Int), .slice (P z90) n1 (p z90), .slice (Q z90) n2 (q z90)]) rfl rfl rfl rfl rfl qLG rfl rfl) rfl rfl (by simp) fun _ _ => ?_
  change J _ _ _ [_, _, _, _, _, _, _, _, _, blk g18 [I ((nx : Nat) : Int), .slice (P z90) n1 (p z90), .slice (Q z90) n2 (q z90)] 50, _, _, _] _
  refine J.b9 ?_
  exact J.b5 <| J.A <| J.b0 (z90, g18) hK18 (hz90) ⟨rfl, rfl, rfl, rfl, trivial⟩ (fun _ h => h.pick [0, 1, 2, 3, 4, 5, 6, 7, 8, 10, 11, 12, 9] (by decide))
 rintro ⟨z90, g18⟩ hz90
 dsimp only at hz90 ⊢
 refine J.k fun K19 hK19 => J.g fun K20 hK20 => J.b rfl <| J.f ((qAY rfl rfl rfl).no (by decide)) rfl <| J.c hK20 <| J.a0 10 13 18 19 94 ?_
 refine J.a8 ?_
 refine J.W hK19 <| J.H 10 13 18 ?_
 refine J.g fun K21 hK21 => J.c4 12 isAgg50 qLG rfl rfl rfl rfl rfl <| J.a2 4 qEX qLG rfl rfl rfl rfl rfl <| J.b1 (qAT (i := 8) (l := [N64 y.ep, I ((b : Nat) : Int), Str (y.dig), I ((nm : Nat) : Int), I 0, .slice none 0 0, .slice none 0 0]) (vs := [I ((nx : Nat) : Int), .slice (P z90) n1 (p z90), .slice (Q z90) n2 (q z90)]) rfl rfl rfl rfl rfl qLG rfl (by simp)) rfl rfl fun _ _ => ?_
 change J _ _ _ [blk gs [Ptr gk, Ptr gb, I ((nx + 1 : Nat) : Int)] 216, BB1 z90, M2 z90, F, B1 x78, q78, N1 x78, blk g10 [.int .u64 0, I 0, Str [], I 0, I 0, .slice none 0 0, .slice none 0 0] 52, blk g13 [N64 y.ep, I ((b : Nat) : Int), Str (y.dig), I ((nm : Nat) : Int), I ((nx : Nat) : Int), .slice (P z90) n1 (p z90), .slice (Q z90) n2 (q z90)] 52, N2 z90, U2 z90, W2 z90, blk g18 [I ((nx : Nat) : Int), .slice (P z90) n1 (p z90), .slice (Q z90) n2 (q z90)] 50] _
 refine J.c hK21 <| J.E 10 13 ?_
 refine J.g fun K22 hK22 => J.c4 8 qHN qCl rfl rfl rfl rfl rfl <| J.b1 (qAG (i := 7) (l := [.int .u64 0, I 0, Str [], I 0, I 0, .slice none 0 0, .slice none 0 0]) (vs := [N64 y.ep, I ((b : Nat) : Int), Str (y.dig), I ((nm : Nat) : Int), I ((nx : Nat) : Int), .slice (P z90) n1 (p z90), .slice (Q z90) n2 (q z90)]) rfl rfl rfl rfl rfl qCl rfl rfl) rfl rfl fun _ _ => ?_
 change J _ _ _ [_, _, _, _, _, _, _, blk g10 [N64 y.ep, I ((b : Nat) : Int), Str (y.dig), I ((nm : Nat) : Int), I ((nx : Nat) : Int), .slice (P z90) n1 (p z90), .slice (Q z90) n2 (q z90)] 52, _, _, _, _, _] _
 refine J.b rfl <| J.c hK22 <| J.E 10 11 ?_
 exact J.D <| J.b4 hw0 (fun _ _ h => h) (rv2 rfl (RV.blkA 7 rfl rfl qHN qCl) rfl) (qAj ((x78, q78), z90) rfl ⟨hx78, hq78, hz90⟩ [0, 1, 4, 2, 5, 3, 6, 9, 10, 11] rfl (by decide))
theorem ent47 : qAE prog 47 := qAE.of func47 rfl (by kernel_rfl)
theorem ent119 : qAE prog 119 := qAE.of func119 rfl (by kernel_rfl)
theorem el229 : qCu prog 229 [Str [], Str [], .slice none 0 0, .bool false, Str [], Str []] 96 := qCu.of (by kernel_rfl) rfl
theorem qNi (F : Hp) (hK : KF F) (g : Nat) (l : List Sm.PR) (hT : qDT F g l) (hf : qCj l) (hln : l.length ≤ 90000) (b d : Nat) (hd : d ≤ 4) (hb : b < 2 ^ d) (A0 : Option Addr) (n0 c0 : Nat) (cl : List Chg) (hs : Sl F 2 A0 n0 c0 (qM9 cl)) (hch : qJN b d cl) :
    Ct prog 58 [Ptr g, I ((b : Nat) : Int), I ((d : Nat) : Int), .slice A0 n0 c0] [F] (fun r : MkR => .tuple #[.agg #[I ((b : Nat) : Int), I ((d : Nat) : Int), Str (Sm.ndB l (kF b d) d), Str (Sm.ndB (kvC l cl) (kF b d) d), .slice r.A r.L.length r.c], Ptr r.g, I 0]) (MkP l d cl) (fun r => [F, r.mt, r.ms, r.M]) := by
  have hcn : cl.length = n0 := by have := hs.1; simpa [qM9] using this
  have hc256 := hch.len
  have hmay := hch.may hd hb
  have hmd : min (((d : Nat) : Int)).toNat 128 = d := by rw [Int.toNat_natCast]; omega
  have hkb := qEf b d
  refine Ct.walk func58 rfl ntmps58 rfl (fun w0 hw0 => ?_)
  change J _ [(0, _), (1, _), (2, _), (3, _)] _ _ _
  refine J.g fun K1 hK1 => J.p (qAO (l := [I 0, I 0, Str [], Str [], .slice none 0 0]) rfl qRW rfl) rfl fun g8 _ => ?_
  change J _ _ _ [F, blk g8 [I 0, I 0, Str [], Str [], .slice none 0 0] 79] _
  refine J.j 2 rfl <| J.c hK1 <| J.a0 0 1 2 3 8 ?_
  refine J.g fun K2 hK2 => J.b rfl <| J.c hK2 <| J.b3 0 1 2 3 8 11 ?_
  refine J.k fun K3 hK3 => J.g fun K4 hK4 => J.b rfl <| J.f (qAa qLY rfl rfl) rfl <| J.b rfl <| J.c hK4 <| J.d8 0 1 2 3 8 11 22 23 24 ?_
  refine J.a1 <| J.c0 (X := Nat × Option Addr × Nat × Hp) (fun ζ => [(0, Ptr g), (1, I ((b : Nat) : Int)), (2, I ((d : Nat) : Int)), (3, .slice A0 n0 c0), (8, Ptr g8), (11, .slice ζ.2.1 ((qFY cl ζ.1).length) ζ.2.2.1), (22, .slice A0 n0 c0), (23, I ((n0 : Nat) : Int)), (24, I ((ζ.1 : Nat) : Int))]) (fun ζ => [F, blk g8 [I 0, I 0, Str [], Str [], .slice none 0 0] 79, ζ.2.2.2]) (fun ζ => ζ.1 ≤ n0 ∧ Row ζ.2.2.2 9 1 ζ.2.1 (qFY cl ζ.1).length ζ.2.2.1 (qAI (qFY cl ζ.1))) (fun ζ => n0 - ζ.1) (0, none, 0, (fun _ => none)) (⟨Nat.zero_le _, qBa.nil⟩) ⟨rfl, rfl, rfl, rfl, rfl, rfl, rfl, rfl, rfl, trivial⟩ (fun _ h => h.empty.pick [0, 1, 2] (by decide)) ?_
  rintro ⟨i, A1, c1, m1⟩ ⟨hi, hr1⟩ I0 hI0
  dsimp only at hi hr1 ⊢
  have hkl := qMp (cl := cl) (i := i) (by omega)
  refine J.g fun K5 hK5 => J.f (qAW rfl rfl rfl) rfl <| J.c hK5 <| J.f0 0 1 2 3 8 11 22 23 24 25 ?_
  refine J.k fun K6 hK6 => J.a5 rfl (fun h25 => ?_) (fun h25 => ?_)
  ·
    refine J.W hK6 <| J.d8 0 1 2 3 8 11 22 23 24 ?_
    refine J.k fun K7 hK7 => J.a1 <| J.g fun K8 hK8 => J.f (qAH (i := i) rfl rfl rfl qLY qEG hs (by omega)) rfl <| J.f (qAo (vs := [Str ((cl.getD i qAc).k), Str ((cl.getD i qAc).v)]) rfl rfl isAgg155 qEG (m := F) (by simp) (hs.elem (qII (by omega))) rfl) rfl <| J.p (qAO (l := [Str [], Str []]) rfl zeroValue155 rfl) rfl fun g13 _ => ?_
    change J _ _ _ [F, blk g8 [I 0, I 0, Str [], Str [], .slice none 0 0] 79, m1, blk g13 [Str [], Str []] 155] _
    refine J.b1 (qAG (i := 3) (l := [Str [], Str []]) (vs := [Str ((cl.getD i qAc).k), Str ((cl.getD i qAc).v)]) rfl rfl rfl rfl rfl qEG rfl rfl) rfl rfl fun _ _ => ?_
    change J _ _ _ [_, _, _, blk g13 [Str ((cl.getD i qAc).k), Str ((cl.getD i qAc).v)] 155] _
    refine J.c hK8 <| J.f0 0 1 2 3 8 11 13 22 23 24 ?_
    refine J.G <| J.b rfl <| J.a2 0 qFB z9_ rfl rfl rfl rfl rfl <| J.f (qAC 3 (v := Str ((cl.getD i qAc).k)) rfl rfl rfl b9_ rfl) rfl <| J.p (qAJ (l := [.tmp 30]) (xs := [[Str ((cl.getD i qAc).k)]]) rfl rfl rfl rfl qAh el9 rfl (by decide) (by decide) (by simp)) rfl fun g31 _ => ?_
    change J _ _ _ [_, _, _, _, blk g31 [Str ((cl.getD i qAc).k)] 9] _
    refine J.p (qAd (i := 2) (xs := qAI (qFY cl i)) (m2 := blk g31 [Str ((cl.getD i qAc).k)] 9) (ys := [[Str ((cl.getD i qAc).k)]]) rfl rfl rfl qAh qAh el9 rfl hr1 (by simp) ((qBm (q := True) (qAI [(cl.getD i qAc).k]) rfl (by simp [qAI]) rfl).sl) rfl (by omega) (by omega)) rfl ?_
    rintro ⟨A32, c32, m32⟩ h32
    try dsimp only at h32
    change J _ ((32, .slice A32 (((qFY cl i).length) + 1) c32) :: _) _ [_, _, m32, _, _] _
    rw [← qBY] at h32
    refine J.b rfl <| J.a7 <| J.a9 <| J.A (J.L hK7 ?_)
    refine J.d8 0 1 2 3 8 11 22 23 24 ?_
    exact J.G <| J.f ((qAR rfl rfl rfl (by omega)).nat (i + 1) (by omega)) rfl <| J.b rfl <| J.a7 <| J.A <| J.b0 (i + 1, A32, c32, m32) (fun η (hη : _ ∧ n0 - η.1 < n0 - i) => hI0 η hη.1 hη.2) ⟨⟨by dsimp only; omega, by dsimp only; rw [qGM (by omega), List.length_append]; exact h32⟩, by first | omega | (dsimp only; omega)⟩ ⟨rfl, rfl, rfl, rfl, rfl, by dsimp only; rw [qGM (by omega), List.length_append]; rfl, rfl, rfl, rfl, trivial⟩ (fun _ h => h.pick [0, 1, 2] (by decide))
  refine J.b7 <| J.a6 <| J.a6 <| J.b8 ?_
  refine J.A (J.L hK3 ?_)
  refine J.b3 0 1 2 3 8 11 ?_
  refine J.k fun K9 hK9 => J.k fun K10 hK10 => ?_
  obtain rfl : i = cl.length := by omega
  rw [qMq] at hr1 hkl ⊢
  have hsk := hch.smallK
  refine J.G <| J.j 3 rfl <| J.p (qAB rfl rfl ent118 (Ct.use0 (fun F' hF => qIk F' ((b : Nat) : Int) ((d : Nat) : Int) A1 ((cl.map Chg.k).length) c1 (cl.map Chg.k) (hr1.sl.mono (hF m1 (by simp))) (by omega) (by assumption)))) rfl fun g37 _ => J.b rfl <| J.c hK10 <| J.b3 0 1 2 3 8 14 ?_
  refine J.g fun K11 hK11 => J.b rfl <| J.f ((qAY rfl rfl rfl).no (by rw [hmay]; decide)) rfl <| J.j 2 rfl <| J.T ((qAu qRV rfl rfl rfl).as (v' := .bool false) rfl) rfl <| J.b rfl <| J.c hK11 <| J.c2 0 1 2 3 8 14 43 ?_
  refine J.a8 ?_
  refine J.W hK9 <| J.a0 0 1 2 3 8 ?_
  refine J.g fun K12 hK12 => J.j 2 rfl <| J.p (qAB rfl rfl ent76 (Ct.use0 (fun F' hF => qH9 F' b d (by omega) (by assumption)))) rfl fun g50 _ => J.b rfl <| J.c hK12 <| J.b3 0 1 2 3 8 15 ?_
  refine J.g fun K13 hK13 => J.b rfl <| J.p (qAB rfl rfl ent119 (Ct.use (new := fun x : Nat × Hp => [x.2]) (fun F' hF => Ct.swap2 (qNk F' g l (hT.mono (hF F (by simp))))))) rfl ?_
  rintro ⟨g52, m52⟩ h52
  try dsimp only at h52
  change J _ ((52, Ptr g52) :: _) _ [F, blk g8 [I 0, I 0, Str [], Str [], .slice none 0 0] 79, m1, m52] _
  refine J.b rfl <| J.c hK13 <| J.c2 0 1 2 3 8 15 16 ?_
  refine J.g fun K14 hK14 => J.j 5 rfl <| J.p (qAB rfl rfl ent75 (Ct.use0 (fun F' hF => qEs F' (hK.mo hF) g l (hT.mono (hF F (by simp))) (by assumption) (kF b d) (by first | omega | decide) ((d : Nat) : Int) (by first | assumption | exact qGd (by assumption) | exact qJS (by assumption) (by assumption))))) rfl fun g58 _ => ?_
  rw [hmd]
  refine J.f (qAM (l := [(0, .tmp 53), (1, .tmp 54), (2, .tmp 58)]) (vs := [I ((b : Nat) : Int), I ((d : Nat) : Int), Str (Sm.ndB l (kF b d) d)]) (places := [(0, 1), (1, 1), (2, 1), (3, 1), (4, 1)]) (r := [I ((b : Nat) : Int), I ((d : Nat) : Int), Str (Sm.ndB l (kF b d) d), Str [], .slice none 0 0]) rfl rfl rfl qDp qRW (fun _ => by kernel_rfl) rfl) rfl <| J.p (qAO (l := [I 0, I 0, Str [], Str [], .slice none 0 0]) rfl qRW rfl) rfl fun g17 _ => ?_
  change J _ _ _ [_, _, _, _, blk g17 [I 0, I 0, Str [], Str [], .slice none 0 0] 79] _
  refine J.b1 (qAG (i := 4) (l := [I 0, I 0, Str [], Str [], .slice none 0 0]) (vs := [I ((b : Nat) : Int), I ((d : Nat) : Int), Str (Sm.ndB l (kF b d) d), Str [], .slice none 0 0]) rfl rfl rfl rfl rfl qEF rfl rfl) rfl rfl fun _ _ => ?_
  change J _ _ _ [_, _, _, _, blk g17 [I ((b : Nat) : Int), I ((d : Nat) : Int), Str (Sm.ndB l (kF b d) d), Str [], .slice none 0 0] 79] _
  refine J.c hK14 <| J.b3 2 3 8 15 16 17 ?_
  refine J.k fun K15 hK15 => J.g fun K16 hK16 => J.b rfl <| J.f (qAa qLY rfl rfl) rfl <| J.b rfl <| J.c hK16 <| J.d3 2 8 15 16 17 60 61 62 ?_
  refine J.a1 <| J.c0 (X := Nat × List qAm × Option Addr × Nat × Hp × Hp × Hp) (fun ζ => [(2, I ((d : Nat) : Int)), (8, Ptr g8), (15, Str (kF b d)), (16, Ptr g52), (17, Ptr g17), (60, .slice A0 n0 c0), (61, I ((n0 : Nat) : Int)), (62, I ((ζ.1 : Nat) : Int))]) (fun ζ => [ζ.2.2.2.2.2.2, F, blk g8 [I 0, I 0, Str [], Str [], .slice none 0 0] 79, blk g17 [I ((b : Nat) : Int), I ((d : Nat) : Int), Str (Sm.ndB l (kF b d) d), Str ([]), .slice ζ.2.2.1 ζ.2.1.length ζ.2.2.2.1] 79, ζ.2.2.2.2.2.1, ζ.2.2.2.2.1]) (fun ζ => ζ.1 ≤ cl.length ∧ ζ.2.1.map qAm.chg = cl.take ζ.1 ∧ qBy l d ζ.2.1 ∧ Row ζ.2.2.2.2.1 229 6 ζ.2.2.1 ζ.2.1.length ζ.2.2.2.1 (qDb ζ.2.1) ∧ qIV ζ.2.2.2.2.2.1 g52 ((kvC l (cl.take ζ.1))) ∧ qK8 ζ.2.2.2.2.2.2 ζ.2.1) (fun ζ => cl.length - ζ.1) (0, [], none, 0, (fun _ => none), m52, (fun _ => none)) (⟨Nat.zero_le _, rfl, qBy.nil _ _, qBa.nil, h52, qK8.nil _⟩) ⟨rfl, rfl, rfl, rfl, rfl, rfl, rfl, rfl, trivial⟩ (fun _ h => h.empty.empty.pick [5, 0, 1, 4, 3, 6] (by decide)) ?_
  rintro ⟨i, L, As, cs, ms, mt, M⟩ ⟨hi, hL, hok, hst, ht, hbs⟩ I2 hI2
  dsimp only at hi hL hok hst ht hbs ⊢
  refine J.g fun K17 hK17 => J.f (qAW rfl rfl rfl) rfl <| J.c hK17 <| J.d8 2 8 15 16 17 60 61 62 63 ?_
  refine J.k fun K18 hK18 => J.a5 rfl (fun h63 => ?_) (fun h63 => ?_)
  ·
    refine J.W hK18 <| J.d3 2 8 15 16 17 60 61 62 ?_
    refine J.k fun K19 hK19 => J.a1 <| J.k fun K20 hK20 => ?_
    obtain ⟨hk16, hkb2, hkv⟩ := hch.at (i := i) (by omega)
    have hfi := hch.fine hf hln i
    have hLl := congrArg List.length hL
    rw [List.length_map, List.length_take] at hLl
    refine J.G <| J.f (qAH (i := i) rfl rfl rfl qLY qEG hs (by omega)) rfl <| J.f (qAo (vs := [Str ((cl.getD i qAc).k), Str ((cl.getD i qAc).v)]) rfl rfl isAgg155 qEG (m := F) (by simp) (hs.elem (qII (by omega))) rfl) rfl <| J.p (qAO (l := [Str [], Str []]) rfl zeroValue155 rfl) rfl fun g19 _ => ?_
    change J _ _ _ [M, F, blk g8 [I 0, I 0, Str [], Str [], .slice none 0 0] 79, blk g17 [I ((b : Nat) : Int), I ((d : Nat) : Int), Str (Sm.ndB l (kF b d) d), Str ([]), .slice As L.length cs] 79, mt, ms, blk g19 [Str [], Str []] 155] _
    refine J.b1 (qAG (i := 6) (l := [Str [], Str []]) (vs := [Str ((cl.getD i qAc).k), Str ((cl.getD i qAc).v)]) rfl rfl rfl rfl rfl qEG rfl rfl) rfl rfl fun _ _ => ?_
    change J _ _ _ [_, _, _, _, _, _, blk g19 [Str ((cl.getD i qAc).k), Str ((cl.getD i qAc).v)] 155] _
    refine J.c hK20 <| J.d8 2 8 15 16 17 19 60 61 62 ?_
    refine J.g fun K21 hK21 => J.b rfl <| J.a2 0 qFB z9_ rfl rfl rfl rfl rfl <| J.f (qAC 6 (v := Str ((cl.getD i qAc).k)) rfl rfl rfl b9_ rfl) rfl <| J.b rfl <| J.p (qAB rfl rfl ent47 (Ct.use (new := fun x : Nat × Option Addr × Nat × Hp => [x.2.2.2]) (fun F' hF => qN7 F' (hK.mo hF) g52 (kvC l (cl.take i)) (ht.at.mono (hF mt (by simp))) hfi (cl.getD i qAc).k hk16 d (by omega)))) rfl ?_
    rintro ⟨s71, A71, c71, m71⟩ ⟨hst71, hr71⟩
    change J _ ((71, .tuple #[.agg #[.slice A71 (bsd (kvC l (cl.take i)) (cl.getD i qAc).k d (s71 - d)).length c71, .bool (qBD (kvC l (cl.take i)) (cl.getD i qAc).k s71), Str (qDz (kvC l (cl.take i)) (cl.getD i qAc).k s71), Str (qEE (kvC l (cl.take i)) (cl.getD i qAc).k s71)], I 0]) :: _) _ [_, _, _, _, _, _, _, m71] _
    refine J.j 3 rfl <| J.p (qAO (l := [.slice none 0 0, .bool false, Str [], Str []]) rfl zeroValue58 rfl) rfl fun g20 _ => ?_
    change J _ _ _ [_, _, _, _, _, _, _, _, blk g20 [.slice none 0 0, .bool false, Str [], Str []] 58] _
    refine J.b1 (qAG (i := 8) (l := [.slice none 0 0, .bool false, Str [], Str []]) (vs := [.slice A71 ((bsd (kvC l (cl.take i)) (cl.getD i qAc).k d (s71 - d)).length) c71, .bool (qBD (kvC l (cl.take i)) (cl.getD i qAc).k s71), Str (qDz (kvC l (cl.take i)) (cl.getD i qAc).k s71), Str (qEE (kvC l (cl.take i)) (cl.getD i qAc).k s71)]) rfl rfl rfl rfl rfl qFn rfl rfl) rfl rfl fun _ _ => ?_
    change J _ _ _ [_, _, _, _, _, _, _, _, blk g20 [.slice A71 ((bsd (kvC l (cl.take i)) (cl.getD i qAc).k d (s71 - d)).length) c71, .bool (qBD (kvC l (cl.take i)) (cl.getD i qAc).k s71), Str (qDz (kvC l (cl.take i)) (cl.getD i qAc).k s71), Str (qEE (kvC l (cl.take i)) (cl.getD i qAc).k s71)] 58] _
    refine J.b rfl <| J.c hK21 <| J.e3 2 8 15 16 17 19 20 21 60 61 62 ?_
    refine J.k fun K22 hK22 => J.g fun K23 hK23 => J.b rfl <| J.f ((qAY rfl rfl rfl).no (by decide)) rfl <| J.c hK23 <| J.e0 2 8 15 16 17 19 20 21 60 61 62 75 ?_
    refine J.a8 ?_
    refine J.W hK22 <| J.f0 2 8 15 16 17 19 20 60 61 62 ?_
    refine J.k fun K24 hK24 => ?_
    obtain ⟨x, hx⟩ : ∃ x : qAm, x = (⟨(cl.getD i qAc).k, (cl.getD i qAc).v, A71, c71, bsd ((kvC l (cl.take i))) (cl.getD i qAc).k d (s71 - d), qBD ((kvC l (cl.take i))) (cl.getD i qAc).k s71, qDz ((kvC l (cl.take i))) (cl.getD i qAc).k s71, qEE ((kvC l (cl.take i))) (cl.getD i qAc).k s71⟩ : qAm) := ⟨_, rfl⟩
    refine J.G <| J.a2 4 qDp sizeOf77 rfl rfl rfl rfl rfl <| J.f (qAC 3 (v := .slice As L.length cs) rfl rfl rfl isAgg77 rfl) rfl <| J.c4 6 isAgg155 qEG rfl rfl rfl rfl rfl <| J.c4 8 qJH qFn rfl rfl rfl rfl rfl <| J.f (qAM (l := [(0, .tmp 80), (1, .tmp 81)]) (vs := [.agg #[Str ((cl.getD i qAc).k), Str ((cl.getD i qAc).v)], .agg #[.slice A71 ((bsd (kvC l (cl.take i)) (cl.getD i qAc).k d (s71 - d)).length) c71, .bool (qBD (kvC l (cl.take i)) (cl.getD i qAc).k s71), Str (qDz (kvC l (cl.take i)) (cl.getD i qAc).k s71), Str (qEE (kvC l (cl.take i)) (cl.getD i qAc).k s71)]]) (places := [(0, 2), (2, 4)]) (r := [Str ((cl.getD i qAc).k), Str ((cl.getD i qAc).v), .slice A71 ((bsd (kvC l (cl.take i)) (cl.getD i qAc).k d (s71 - d)).length) c71, .bool (qBD (kvC l (cl.take i)) (cl.getD i qAc).k s71), Str (qDz (kvC l (cl.take i)) (cl.getD i qAc).k s71), Str (qEE (kvC l (cl.take i)) (cl.getD i qAc).k s71)]) rfl rfl rfl qFq zeroValue229 (fun _ => by kernel_rfl) rfl) rfl <| J.p (qAJ (l := [.tmp 82]) (xs := [[Str ((cl.getD i qAc).k), Str ((cl.getD i qAc).v), .slice A71 ((bsd (kvC l (cl.take i)) (cl.getD i qAc).k d (s71 - d)).length) c71, .bool (qBD (kvC l (cl.take i)) (cl.getD i qAc).k s71), Str (qDz (kvC l (cl.take i)) (cl.getD i qAc).k s71), Str (qEE (kvC l (cl.take i)) (cl.getD i qAc).k s71)]]) rfl rfl rfl rfl qNf el229 rfl (by decide) (by decide) (by simp)) rfl fun g83 _ => ?_
    change J _ _ _ [_, _, _, _, _, _, _, _, _, blk g83 [Str ((cl.getD i qAc).k), Str ((cl.getD i qAc).v), .slice A71 ((bsd (kvC l (cl.take i)) (cl.getD i qAc).k d (s71 - d)).length) c71, .bool (qBD (kvC l (cl.take i)) (cl.getD i qAc).k s71), Str (qDz (kvC l (cl.take i)) (cl.getD i qAc).k s71), Str (qEE (kvC l (cl.take i)) (cl.getD i qAc).k s71)] 229] _
    refine J.p (qAd (i := 5) (xs := qDb L) (m2 := blk g83 [Str ((cl.getD i qAc).k), Str ((cl.getD i qAc).v), .slice A71 ((bsd (kvC l (cl.take i)) (cl.getD i qAc).k d (s71 - d)).length) c71, .bool (qBD (kvC l (cl.take i)) (cl.getD i qAc).k s71), Str (qDz (kvC l (cl.take i)) (cl.getD i qAc).k s71), Str (qEE (kvC l (cl.take i)) (cl.getD i qAc).k s71)] 229) (ys := [[Str ((cl.getD i qAc).k), Str ((cl.getD i qAc).v), .slice A71 ((bsd (kvC l (cl.take i)) (cl.getD i qAc).k d (s71 - d)).length) c71, .bool (qBD (kvC l (cl.take i)) (cl.getD i qAc).k s71), Str (qDz (kvC l (cl.take i)) (cl.getD i qAc).k s71), Str (qEE (kvC l (cl.take i)) (cl.getD i qAc).k s71)]]) rfl rfl rfl qNf qNf el229 rfl hst (by simp) ((qAv (q := True) (xs := qDb [(⟨(cl.getD i qAc).k, (cl.getD i qAc).v, A71, c71, (bsd (kvC l (cl.take i)) (cl.getD i qAc).k d (s71 - d)), qBD (kvC l (cl.take i)) (cl.getD i qAc).k s71, qDz (kvC l (cl.take i)) (cl.getD i qAc).k s71, qEE (kvC l (cl.take i)) (cl.getD i qAc).k s71⟩ : qAm)]) rfl (by intro x hx; rw [List.mem_singleton.1 hx]; rfl)).sl) rfl (by omega) (by omega)) rfl ?_
    rintro ⟨A84, c84, m84⟩ h84
    try dsimp only at h84
    change J _ ((84, .slice A84 (L.length + 1) c84) :: _) _ [_, _, _, _, _, m84, _, _, _, _] _
    replace h84 : Row m84 229 6 A84 (L.length + 1) c84 (qDb (L ++ [x])) := by rw [qKa, hx]; exact h84
    rw [show L.length + 1 = (L ++ [x]).length by rw [List.length_append]; rfl] at h84 ⊢
    refine J.a2 4 qDp sizeOf77 rfl rfl rfl rfl rfl <| J.b1 (qAT (i := 3) (l := [I ((b : Nat) : Int), I ((d : Nat) : Int), Str (Sm.ndB l (kF b d) d), Str ([]), .slice As L.length cs]) (vs := [.slice A84 ((L ++ [x]).length) c84]) rfl rfl rfl rfl rfl sizeOf77 rfl (by simp)) rfl rfl fun _ _ => ?_
    change J _ _ _ [_, _, _, blk g17 [I ((b : Nat) : Int), I ((d : Nat) : Int), Str (Sm.ndB l (kF b d) d), Str ([]), .slice A84 ((L ++ [x]).length) c84] 79, _, _, _, _, _, _] _
    refine J.c hK24 <| J.d8 2 8 15 16 17 19 60 61 62 ?_
    refine J.G <| J.b rfl <| J.a2 0 qFB z9_ rfl rfl rfl rfl rfl <| J.f (qAC 6 (v := Str ((cl.getD i qAc).k)) rfl rfl rfl b9_ rfl) rfl <| J.a2 1 qFB z9_ rfl rfl rfl rfl rfl <| J.f (qAC 6 (v := Str ((cl.getD i qAc).v)) rfl rfl rfl b9_ rfl) rfl <| J.p (qAB rfl rfl ent57 (Ct.use1 4 (m' := fun x : Hp => x) (new := fun _ => []) rfl (fun F' hF => qLf F' mt g52 (kvC l (cl.take i)) ht ((cl.getD i qAc).k) ((cl.getD i qAc).v) (by first | omega | rfl | assumption)))) rfl ?_
    rintro m91 h91
    change J _ ((91, I ((0 : Nat) : Int)) :: _) _ [_, _, _, _, m91, _, _, _, _, _] _
    refine J.c9 [0, 7, 1, 2, 3, 4, 5] [M, m71, F, blk g8 [I 0, I 0, Str [], Str [], .slice none 0 0] 79, blk g17 [I ((b : Nat) : Int), I ((d : Nat) : Int), Str (Sm.ndB l (kF b d) d), Str ([]), .slice A84 ((L ++ [x]).length) c84] 79, m91, m84] rfl (by decide) <| J.f2 (fun hj => ?_)
    refine J.a7 <| J.a9 <| J.A (J.L hK19 ?_)
    refine J.d3 2 8 15 16 17 60 61 62 ?_
    exact J.G <| J.f ((qAR rfl rfl rfl (by omega)).nat (i + 1) (by omega)) rfl <| J.b rfl <| J.a7 <| J.A <| J.b0 (i + 1, L ++ [x], A84, c84, m84, m91, U [M, m71]) (fun η (hη : _ ∧ cl.length - η.1 < cl.length - i) => hI2 η hη.1 hη.2) ⟨⟨by dsimp only; omega, qOt (by omega) hL (by rw [hx]) (by rw [hx]), hok.snoc (by rw [hL, hx]; exact qIW.of hfi (by have := qQ0 l (cl.take i); rw [List.length_take] at this; omega) hk16 hkv hst71 A71 c71), h84, by dsimp only; rw [qJ0 (by omega)]; exact h91, (hbs.mono (qGJ hj)).snoc (by rw [hx]; exact hr71.sl.mono (qPZ hj))⟩, by first | omega | (dsimp only; omega)⟩ ⟨rfl, rfl, rfl, rfl, rfl, rfl, rfl, rfl, trivial⟩ (fun _ h => h)
  refine J.b7 <| J.a6 <| J.a6 <| J.b8 ?_
  refine J.A (J.L hK15 ?_)
  refine J.a0 2 8 15 16 17 ?_
  refine J.k fun K25 hK25 => ?_
  have hfi := hch.fine hf hln i
  refine J.G <| J.j 3 rfl <| J.p (qAB rfl rfl ent75 (Ct.use0 (fun F' hF => qEs F' (hK.mo hF) g52 (kvC l (cl.take i)) (ht.at.mono (hF mt (by simp))) (by assumption) (kF b d) (by first | omega | decide) ((d : Nat) : Int) (by first | assumption | exact qGd (by assumption) | exact qJS (by assumption) (by assumption))))) rfl fun g96 _ => ?_
  rw [hmd]
  refine J.a2 3 qDp z9_ rfl rfl rfl rfl rfl <| J.b1 (qAT (i := 3) (l := [I ((b : Nat) : Int), I ((d : Nat) : Int), Str (Sm.ndB l (kF b d) d), Str ([]), .slice As L.length cs]) (vs := [Str (Sm.ndB (kvC l (cl.take i)) (kF b d) d)]) rfl rfl rfl rfl rfl z9_ rfl (by simp)) rfl rfl fun _ _ => ?_
  change J _ _ _ [M, F, blk g8 [I 0, I 0, Str [], Str [], .slice none 0 0] 79, blk g17 [I ((b : Nat) : Int), I ((d : Nat) : Int), Str (Sm.ndB l (kF b d) d), Str (Sm.ndB (kvC l (cl.take i)) (kF b d) d), .slice As L.length cs] 79, mt, ms] _
  refine J.c hK25 <| J.H 8 16 17 ?_
  refine J.g fun K26 hK26 => J.c4 3 qId qEF rfl rfl rfl rfl rfl <| J.b rfl <| J.b1 (qAG (i := 2) (l := [I 0, I 0, Str [], Str [], .slice none 0 0]) (vs := [I ((b : Nat) : Int), I ((d : Nat) : Int), Str (Sm.ndB l (kF b d) d), Str (Sm.ndB (kvC l (cl.take i)) (kF b d) d), .slice As L.length cs]) rfl rfl rfl rfl rfl qEF rfl rfl) rfl rfl fun _ _ => ?_
  change J _ _ _ [_, _, blk g8 [I ((b : Nat) : Int), I ((d : Nat) : Int), Str (Sm.ndB l (kF b d) d), Str (Sm.ndB (kvC l (cl.take i)) (kF b d) d), .slice As L.length cs] 79, _, _, _] _
  refine J.j 2 rfl <| J.c hK26 <| J.H 8 9 10 ?_
  exact J.D <| J.b4 hw0 (fun _ _ h => h) (rv3 rfl (RV.blkA 2 rfl rfl qId qEF) rfl rfl) (qAj (⟨As, cs, ms, g52, mt, M, L⟩ : MkR) (by rw [show i = cl.length by omega, List.take_length]) ⟨by rw [hL, show i = cl.length by omega, List.take_length], hok, hst, by rw [show i = cl.length by omega, List.take_length] at ht; exact ht, hbs⟩ [1, 4, 5, 0] rfl (by decide))
theorem ent31 : qAE prog 31 := qAE.of func31 rfl (by kernel_rfl)
theorem ent37 : qAE prog 37 := qAE.of func37 rfl (by kernel_rfl)
theorem ent58 : qAE prog 58 := qAE.of func58 rfl (by kernel_rfl)
theorem el39 : qCu prog 39 [.int .u64 0, Str [], .int .i64 0, .int .i64 0, .slice none 0 0] 64 := qCu.of (by kernel_rfl) rfl
theorem el79 : qCu prog 79 [.int .i64 0, .int .i64 0, Str [], Str [], .slice none 0 0] 72 := qCu.of (by kernel_rfl) rfl
theorem el80 : qCu prog 80 [.slice none 0 0] 24 := qCu.of (by kernel_rfl) rfl
theorem el155 : qCu prog 155 [Str [], Str []] 32 := qCu.of (by kernel_rfl) rfl
theorem qBJ : pH.good := ⟨by decide, by decide, by show (qAL rv0 1).length ≤ _; rw [qBG]; decide⟩
theorem rvX_0 (i : UInt8) : rvX i 0 = rv0 := rfl
theorem rvX_2 (i : UInt8) : rvX i 2 = qBA i := rfl
theorem rk_0 : [128] ++ ([0, 0, 0, 0, 0, 0, 0, 0, 0, 0, 0, 0, 0, 0, 0, 0] : List UInt8).drop 1 = qCJ 128 0 := rfl
theorem rk_b (b i : UInt8) : [b, i] ++ ([0, 0, 0, 0, 0, 0, 0, 0, 0, 0, 0, 0, 0, 0, 0, 0] : List UInt8).drop 2 = qCJ b i := rfl
theorem qQI : Sm.putP [] (qCJ 128 0) [111, 108, 100] = rv0 := rfl
attribute [local irreducible] rv0 qNW qBA rvX qCG qCJ
theorem qHf (F : Hp) (hK : KF F) (n : Nat) (hn : n ≤ 200) : Ct prog 18 [I ((n : Nat) : Int)] [F] (fun r : RvR => .tuple #[.agg #[N64 0, Str qAb, I 1, I 0, .slice r.An (qAL rv0 1).length r.cn], .slice r.Ah n r.ch, .slice r.Aa n r.ca]) (RvP n) (fun r => [F, r.mh, r.ma, r.G]) := by
 refine Ct.walk func18 rfl ntmps18 rfl (fun w0 hw0 => ?_)
 change J _ [(0, _)] _ _ _
 refine J.g fun K1 hK1 => J.p (qAO (l := [.int .u64 0, Str [], I 0, I 0, .slice none 0 0]) rfl qPj rfl) rfl fun g2 _ => ?_
 change J _ _ _ [F, blk g2 [.int .u64 0, Str [], I 0, I 0, .slice none 0 0] 39] _
 refine J.j 2 rfl <| J.c hK1 <| J.E 0 2 ?_
 refine J.g fun K2 hK2 => J.p (qAB rfl rfl ent31 (Ct.use (new := fun x : Nat × Hp => [x.2]) (fun F' hF => Ct.swap2 (qPz F' )))) rfl ?_
 rintro ⟨g21, m21⟩ h21
 try dsimp only at h21
 change J _ ((21, Ptr g21) :: _) _ [_, _, m21] _
 refine J.b rfl <| J.c hK2 <| J.H 0 2 5 ?_
 refine J.k fun K3 hK3 => ?_
 have hk0 := qCD 128 0
 refine J.G <| J.b rfl <| J.f ((qAz (a := [0, 0, 0, 0, 0, 0, 0, 0, 0, 0, 0, 0, 0, 0, 0, 0]) (l := 1) (h := ([0, 0, 0, 0, 0, 0, 0, 0, 0, 0, 0, 0, 0, 0, 0, 0]).length) u9_ rfl rfl rfl rfl ⟨by first | omega | (simp only [List.length_append, List.length_cons, List.length_nil, List.length_take, List.length_drop] at *; omega), by first | omega | (simp only [List.length_append, List.length_cons, List.length_nil, List.length_take, List.length_drop] at *; omega)⟩).as (v' := Str (([0, 0, 0, 0, 0, 0, 0, 0, 0, 0, 0, 0, 0, 0, 0, 0]).drop 1)) (by rw [List.take_length])) rfl <| J.f ((qBK (a := [128]) (b := [0, 0, 0, 0, 0, 0, 0, 0, 0, 0, 0, 0, 0, 0, 0, 0].drop 1) rfl rfl rfl (by decide)).as (v' := Str (qCJ 128 0)) (congrArg Str rk_0)) rfl <| J.p (qAB rfl rfl ent57 (Ct.use1 2 (m' := fun x : Hp => x) (new := fun _ => []) rfl (fun F' hF => qLf F' m21 g21 ([]) h21 (qCJ 128 0) ([111, 108, 100]) (by first | omega | rfl | assumption)))) rfl ?_
 rintro m25 h25
 change J _ ((25, I ((0 : Nat) : Int)) :: _) _ [_, _, m25] _
 refine J.c hK3 <| J.H 0 2 5 ?_
 refine J.k fun K4 hK4 => ?_
 rw [qQI] at h25
 have hf0 := qDv
 refine J.G <| J.b rfl <| J.p (qAB rfl rfl ent37 (Ct.use (new := fun x : Option Addr × Nat × Hp => [x.2.2]) (fun F' hF => qIP F' (hK.mo hF) g21 rv0 (h25.at.mono (hF m25 (by simp))) (by assumption) 1 (by omega)))) rfl ?_
 rintro ⟨A28, c28, m28⟩ h28
 try dsimp only at h28
 change J _ ((28, .tuple #[.slice A28 (qAL rv0 1).length c28, I ((0 : Nat) : Int)]) :: _) _ [_, _, _, m28] _
 refine J.j 5 rfl <| J.c hK4 <| J.M 0 2 5 6 ?_
 refine J.g fun K5 hK5 => J.b rfl <| J.f (qAM (l := [(1, .const ((Value.string (ByteArray.mk #[0, 0, 0, 0, 0, 0, 0, 0, 0, 0, 0, 0, 0, 0, 0, 0])))), (2, .const ((Value.int IntKind.i64 1))), (4, .tmp 31)]) (vs := [Str ([0, 0, 0, 0, 0, 0, 0, 0, 0, 0, 0, 0, 0, 0, 0, 0]), I ((1 : Nat) : Int), .slice A28 ((qAL rv0 1).length) c28]) (places := [(0, 1), (1, 1), (2, 1), (3, 1), (4, 1)]) (r := [.int .u64 0, Str ([0, 0, 0, 0, 0, 0, 0, 0, 0, 0, 0, 0, 0, 0, 0, 0]), I ((1 : Nat) : Int), I 0, .slice A28 ((qAL rv0 1).length) c28]) rfl rfl rfl qDG qPj (fun _ => by kernel_rfl) rfl) rfl <| J.p (qAO (l := [.int .u64 0, Str [], I 0, I 0, .slice none 0 0]) rfl qPj rfl) rfl fun g8 _ => ?_
 change J _ _ _ [_, _, _, _, blk g8 [.int .u64 0, Str [], I 0, I 0, .slice none 0 0] 39] _
 refine J.b1 (qAG (i := 4) (l := [.int .u64 0, Str [], I 0, I 0, .slice none 0 0]) (vs := [.int .u64 0, Str ([0, 0, 0, 0, 0, 0, 0, 0, 0, 0, 0, 0, 0, 0, 0, 0]), I ((1 : Nat) : Int), I 0, .slice A28 ((qAL rv0 1).length) c28]) rfl rfl rfl rfl rfl qB6 rfl rfl) rfl rfl fun _ _ => ?_
 change J _ _ _ [_, _, _, _, blk g8 [.int .u64 0, Str ([0, 0, 0, 0, 0, 0, 0, 0, 0, 0, 0, 0, 0, 0, 0, 0]), I ((1 : Nat) : Int), I 0, .slice A28 ((qAL rv0 1).length) c28] 39] _
 refine J.c hK5 <| J.M 0 2 5 8 ?_
 refine J.g fun K6 hK6 => J.b rfl <| J.c hK6 <| J.a0 0 2 5 8 9 ?_
 refine J.g fun K7 hK7 => J.b rfl <| J.c hK7 <| J.b3 0 2 5 8 9 10 ?_
 refine J.k fun K8 hK8 => J.g fun K9 hK9 => J.b rfl <| J.c9 [2, 3, 0, 1, 4] [m25, m28, F, blk g2 [.int .u64 0, Str [], I 0, I 0, .slice none 0 0] 39, blk g8 [.int .u64 0, Str ([0, 0, 0, 0, 0, 0, 0, 0, 0, 0, 0, 0, 0, 0, 0, 0]), I ((1 : Nat) : Int), I 0, .slice A28 ((qAL rv0 1).length) c28] 39] rfl (by decide) <| J.f2 (fun hj0 => ?_)
 refine J.c hK9 <| J.c2 0 2 5 8 9 10 11 ?_
 refine J.a1 <| J.c0 (X := Nat × List RhD × Option Addr × Nat × Hp × List TsD × Option Addr × Nat × Hp × Hp) (fun ζ => [(0, I ((n : Nat) : Int)), (2, Ptr g2), (5, Ptr g21), (8, Ptr g8), (9, .slice ζ.2.2.1 ζ.2.1.length ζ.2.2.2.1), (10, .slice ζ.2.2.2.2.2.2.1 ζ.2.2.2.2.2.1.length ζ.2.2.2.2.2.2.2.1), (11, I ((ζ.1 : Nat) : Int))]) (fun ζ => [ζ.2.2.2.2.2.2.2.2.2, F, blk g2 [.int .u64 0, Str [], I 0, I 0, .slice none 0 0] 39, blk g8 [.int .u64 0, Str ([0, 0, 0, 0, 0, 0, 0, 0, 0, 0, 0, 0, 0, 0, 0, 0]), I ((1 : Nat) : Int), I 0, .slice A28 (qAL rv0 1).length c28] 39, ζ.2.2.2.2.1, ζ.2.2.2.2.2.2.2.2.1]) (fun ζ => ζ.1 ≤ n ∧ ζ.2.1.length = ζ.1 ∧ Row ζ.2.2.2.2.1 39 5 ζ.2.2.1 ζ.2.1.length ζ.2.2.2.1 (qPK ζ.2.1) ∧ Row ζ.2.2.2.2.2.2.2.2.1 80 1 ζ.2.2.2.2.2.2.1 ζ.2.2.2.2.2.1.length ζ.2.2.2.2.2.2.2.1 (qHX ζ.2.2.2.2.2.1) ∧ qDT ζ.2.2.2.2.2.2.2.2.2 g21 rv0 ∧ Sl ζ.2.2.2.2.2.2.2.2.2 1 A28 (qAL rv0 1).length c28 (qAI (qAL rv0 1)) ∧ qFl ζ.2.2.2.2.2.2.2.2.2 ζ.2.1 ζ.2.2.2.2.2.1) (fun ζ => n - ζ.1) (0, [], none, 0, (fun _ => none), [], none, 0, (fun _ => none), U [m25, m28]) (⟨Nat.zero_le _, rfl, qBa.nil, qBa.nil, h25.at.mono (qGJ hj0), h28.sl.mono (qPZ hj0), qFl.nil _⟩) ⟨rfl, rfl, rfl, rfl, rfl, rfl, rfl, trivial⟩ (fun _ h => h.empty.empty.pick [0, 1, 2, 3, 4, 5] (by decide)) ?_
 rintro ⟨i, hs, Ah, ch, mh, ts, Aa, ca, ma, G⟩ ⟨hi, hhl, hrh, hra, hT, hnod, hok⟩ I0 hI0
 dsimp only at hi hhl hrh hra hT hnod hok ⊢
 have htl2 : ts.length = i := by rw [← hok.1]; exact hhl
 refine J.k fun K10 hK10 => J.g fun K11 hK11 => J.j 2 rfl <| J.f (qAW rfl rfl rfl) rfl <| J.c hK11 <| J.d3 0 2 5 8 9 10 11 35 ?_
 refine J.a5 rfl (fun h35 => ?_) (fun h35 => ?_)
 ·
  refine J.W hK10 <| J.c2 0 2 5 8 9 10 11 ?_
  refine J.k fun K12 hK12 => J.a1 <| J.g fun K13 hK13 => J.j 2 rfl <| J.c hK13 <| J.d3 0 2 5 8 9 10 11 12 ?_
  refine J.g fun K14 hK14 => J.b rfl <| J.c hK14 <| J.d8 0 2 5 8 9 10 11 12 13 ?_
  refine J.k fun K15 hK15 => J.g fun K16 hK16 => J.b rfl <| J.c hK16 <| J.f0 0 2 5 8 9 10 11 12 13 14 ?_
  refine J.a1 <| J.c0 (X := Nat × Nat × List TrD × Option Addr × Nat × Hp × Hp) (fun ζ => [(0, I ((n : Nat) : Int)), (2, Ptr g2), (5, Ptr g21), (8, Ptr g8), (9, .slice Ah hs.length ch), (10, .slice Aa ts.length ca), (11, I ((i : Nat) : Int)), (12, Ptr ζ.2.1), (13, .slice ζ.2.2.2.1 ζ.2.2.1.length ζ.2.2.2.2.1), (14, I ((ζ.1 : Nat) : Int))]) (fun ζ => [ζ.2.2.2.2.2.2, F, blk g2 [.int .u64 0, Str [], I 0, I 0, .slice none 0 0] 39, blk g8 [.int .u64 0, Str ([0, 0, 0, 0, 0, 0, 0, 0, 0, 0, 0, 0, 0, 0, 0, 0]), I ((1 : Nat) : Int), I 0, .slice A28 (qAL rv0 1).length c28] 39, G, mh, ma, ζ.2.2.2.2.2.1]) (fun ζ => ζ.1 ≤ 2 ∧ ζ.2.2.1.length = ζ.1 ∧ Row ζ.2.2.2.2.2.1 79 5 ζ.2.2.2.1 ζ.2.2.1.length ζ.2.2.2.2.1 (qFs ζ.2.2.1) ∧ (∀ F', Le G F' → Le ζ.2.2.2.2.2.2 F' → qDT F' ζ.2.1 (rvX (UInt8.ofNat i) ζ.1)) ∧ qIU ζ.2.2.2.2.2.2 (UInt8.ofNat i) ζ.2.2.1) (fun ζ => 2 - ζ.1) (0, g21, [], none, 0, (fun _ => none), (fun _ => none)) (⟨Nat.zero_le 2, rfl, qBa.nil, fun F' h1 _ => by dsimp only; rw [rvX_0]; exact hT.mono h1, fun j h => absurd h (Nat.not_lt_zero j)⟩) ⟨rfl, rfl, rfl, rfl, rfl, rfl, rfl, rfl, rfl, rfl, trivial⟩ (fun _ h => h.empty.empty.pick [6, 1, 2, 3, 0, 4, 5, 7] (by decide)) ?_
  rintro ⟨b, gu, tl, At, ct, mt, H⟩ ⟨hb, htl, hrt, hu, htr⟩ I2 hI2
  dsimp only at hb htl hrt hu htr ⊢
  refine J.k fun K17 hK17 => J.g fun K18 hK18 => J.b rfl <| J.f (qAW rfl rfl rfl) rfl <| J.c hK18 <| J.e3 0 2 5 8 9 10 11 12 13 14 40 ?_
  refine J.a5 rfl (fun h40 => ?_) (fun h40 => ?_)
  ·
   refine J.W hK17 <| J.f0 0 2 5 8 9 10 11 12 13 14 ?_
   refine J.k fun K19 hK19 => J.a1 <| J.k fun K20 hK20 => ?_
   obtain ⟨kb, hkb⟩ : ∃ kb, kb = UInt8.ofNat (128 * b) := ⟨_, rfl⟩
   obtain ⟨ki, hki⟩ : ∃ ki, ki = UInt8.ofNat i := ⟨_, rfl⟩
   refine J.c1 [F] [] (.y 0 (.y 1 (.y 2 (.y 3 (.y 4 (.y 7 (.e 5 (.y 6 (.y 8 (.y 9 .nil)))))))))) Tryz.wide (by decide +kernel) (by simp) ?_
   refine J.O ?_
   refine J.q rfl ((qB8 rfl rfl rfl (by omega)).nat (128 * b) (by omega)) rfl rfl <| J.q rfl ((qAq (m := 128 * b) rfl rfl u3_ u5_).as (v' := B8 kb) (by rw [hkb])) rfl rfl <| J.O ?_
   refine J.q rfl ((qAq (m := i) rfl rfl u3_ u5_).as (v' := B8 ki) (by rw [hki])) rfl rfl <| J.q rfl ((qAz (a := [0, 0, 0, 0, 0, 0, 0, 0, 0, 0, 0, 0, 0, 0, 0, 0]) (l := 2) (h := ([0, 0, 0, 0, 0, 0, 0, 0, 0, 0, 0, 0, 0, 0, 0, 0]).length) u9_ rfl rfl rfl rfl ⟨by first | omega | (simp only [List.length_append, List.length_cons, List.length_nil, List.length_take, List.length_drop] at *; omega), by first | omega | (simp only [List.length_append, List.length_cons, List.length_nil, List.length_take, List.length_drop] at *; omega)⟩).as (v' := Str (([0, 0, 0, 0, 0, 0, 0, 0, 0, 0, 0, 0, 0, 0, 0, 0]).drop 2)) (by rw [List.take_length])) rfl rfl <| J.h9 (fun g => _ ++ [blk g [B8 kb, B8 ki] 5]) rfl (qAJ (l := [.tmp 45, .tmp 47]) (xs := [[B8 (kb)], [B8 (ki)]]) rfl rfl rfl rfl qBl el5 rfl (by decide) (by decide) (by simp)) rfl rfl rfl (fun _ _ h => List.mem_append_left _ h) (by simp) ?_
   intro g48 _
   change J _ _ _ [H, F, blk g2 [.int .u64 0, Str [], I 0, I 0, .slice none 0 0] 39, blk g8 [.int .u64 0, Str ([0, 0, 0, 0, 0, 0, 0, 0, 0, 0, 0, 0, 0, 0, 0, 0]), I ((1 : Nat) : Int), I 0, .slice A28 (qAL rv0 1).length c28] 39, G, mh, ma, mt, blk g48 [B8 (kb), B8 (ki)] 5] _
   refine J.q rfl (qCE (l := [kb, ki]) rfl rfl qBl u5_ u9_ (m := blk g48 [B8 (kb), B8 (ki)] 5) (by simp) ((qBm (q := True) (qAX [kb, ki]) rfl (by simp [qAX]) rfl).sl)) rfl rfl <| J.q rfl ((qBK (a := [kb, ki]) (b := [0, 0, 0, 0, 0, 0, 0, 0, 0, 0, 0, 0, 0, 0, 0, 0].drop 2) rfl rfl rfl (by simp)).as (v' := Str (qCJ kb ki)) (congrArg Str (rk_b _ _))) rfl rfl <| J.b9 ?_
   refine J.c9 [0, 1, 2, 3, 4, 5, 6, 7] [H, F, blk g2 [.int .u64 0, Str [], I 0, I 0, .slice none 0 0] 39, blk g8 [.int .u64 0, Str ([0, 0, 0, 0, 0, 0, 0, 0, 0, 0, 0, 0, 0, 0, 0, 0]), I ((1 : Nat) : Int), I 0, .slice A28 (qAL rv0 1).length c28] 39, G, mh, ma, mt] rfl (by decide) <| J.b5 <| J.A (J.L hK20 ?_)
   refine J.e3 0 2 5 8 9 10 11 12 13 14 15 ?_
   refine J.k fun K21 hK21 => ?_
   subst hkb
   subst hki
   refine J.G <| J.j 3 rfl <| J.f (qAM (l := [(0, .tmp 55), (1, .const ((Value.string (ByteArray.mk #[110, 101, 119]))))]) (vs := [Str (qCJ (UInt8.ofNat (128 * b)) (UInt8.ofNat i)), Str ([110, 101, 119])]) (places := [(0, 1), (1, 1)]) (r := [Str (qCJ (UInt8.ofNat (128 * b)) (UInt8.ofNat i)), Str ([110, 101, 119])]) rfl rfl rfl qFB zeroValue155 (fun _ => by kernel_rfl) rfl) rfl <| J.p (qAJ (l := [.tmp 56]) (xs := [[Str (qCJ (UInt8.ofNat (128 * b)) (UInt8.ofNat i)), Str ([110, 101, 119])]]) rfl rfl rfl rfl qLY el155 rfl (by decide) (by decide) (by simp)) rfl fun g57 _ => ?_
   change J _ _ _ [H, F, blk g2 [.int .u64 0, Str [], I 0, I 0, .slice none 0 0] 39, blk g8 [.int .u64 0, Str ([0, 0, 0, 0, 0, 0, 0, 0, 0, 0, 0, 0, 0, 0, 0, 0]), I ((1 : Nat) : Int), I 0, .slice A28 (qAL rv0 1).length c28] 39, G, mh, ma, mt, blk g57 [Str (qCJ (UInt8.ofNat (128 * b)) (UInt8.ofNat i)), Str ([110, 101, 119])] 155] _
   refine J.p (qAB rfl rfl ent58 (Ct.use (new := fun r : MkR => [r.mt, r.ms, r.M]) (fun F' hF => qNi F' (hK.mo hF) gu (rvX (UInt8.ofNat i) b) (hu F' (hF G (by simp)) (hF H (by simp))) (qJZ _ _) (qLy _ _) b 1 (by decide) (by omega) _ 1 1 [rvC (UInt8.ofNat i) b] ((qAv (q := True) (xs := qM9 [rvC (UInt8.ofNat i) b]) rfl (by intro x hx; rw [List.mem_singleton.1 hx]; rfl)).sl.mono (hF (blk g57 [Str (qCJ (UInt8.ofNat (128 * b)) (UInt8.ofNat i)), Str ([110, 101, 119])] 155) (by simp))) (qPJ _ (by omega))))) rfl ?_
   rintro r58 hp58
   change J _ ((58, .tuple #[.agg #[I ((b : Nat) : Int), I ((1 : Nat) : Int), Str (Sm.ndB (rvX (UInt8.ofNat i) b) (kF b 1) 1), Str (Sm.ndB (kvC (rvX (UInt8.ofNat i) b) [rvC (UInt8.ofNat i) b]) (kF b 1) 1), .slice r58.A r58.L.length r58.c], Ptr r58.g, I 0]) :: _) _ [_, _, _, _, _, _, _, _, _, r58.mt, r58.ms, r58.M] _
   have ht58 := hp58.tree
   rw [qQG (UInt8.ofNat i) (show b < 2 by omega)] at ht58
   rw [qQG (UInt8.ofNat i) (show b < 2 by omega), qRl (UInt8.ofNat i) (show b < 2 by omega), qRm (UInt8.ofNat i) (show b < 2 by omega)]
   refine J.j 4 rfl <| J.p (qAO (l := [I 0, I 0, Str [], Str [], .slice none 0 0]) rfl qRW rfl) rfl fun g16 _ => ?_
   change J _ _ _ [_, _, _, _, _, _, _, _, _, _, _, _, blk g16 [I 0, I 0, Str [], Str [], .slice none 0 0] 79] _
   refine J.b1 (qAG (i := 12) (l := [I 0, I 0, Str [], Str [], .slice none 0 0]) (vs := [I ((b : Nat) : Int), I ((1 : Nat) : Int), Str (rvO (UInt8.ofNat i) b), Str (rvN (UInt8.ofNat i) b), .slice r58.A r58.L.length r58.c]) rfl rfl rfl rfl rfl qEF rfl rfl) rfl rfl fun _ _ => ?_
   change J _ _ _ [_, _, _, _, _, _, _, _, _, _, _, _, blk g16 [I ((b : Nat) : Int), I ((1 : Nat) : Int), Str (rvO (UInt8.ofNat i) b), Str (rvN (UInt8.ofNat i) b), .slice r58.A r58.L.length r58.c] 79] _
   refine J.j 2 rfl <| J.c hK21 <| J.e0 0 2 5 8 9 10 11 13 14 16 17 18 ?_
   refine J.k fun K22 hK22 => J.g fun K23 hK23 => J.b rfl <| J.f ((qAY rfl rfl rfl).no (by decide)) rfl <| J.c hK23 <| J.e0 0 2 5 8 9 10 11 13 14 16 17 63 ?_
   refine J.a8 ?_
   refine J.W hK22 <| J.e3 0 2 5 8 9 10 11 13 14 16 17 ?_
   obtain ⟨x, hx⟩ : ∃ x : TrD, x = ⟨b, 1, rvO (UInt8.ofNat i) b, rvN (UInt8.ofNat i) b, r58.A, r58.c, r58.L⟩ := ⟨_, rfl⟩
   refine J.G <| J.b rfl <| J.c4 12 qId qEF rfl rfl rfl rfl rfl <| J.p (qAJ (l := [.tmp 66]) (xs := [[I ((b : Nat) : Int), I ((1 : Nat) : Int), Str (rvO (UInt8.ofNat i) b), Str (rvN (UInt8.ofNat i) b), .slice r58.A r58.L.length r58.c]]) rfl rfl rfl rfl qPB el79 rfl (by decide) (by decide) (by simp)) rfl fun g67 _ => ?_
   change J _ _ _ [_, _, _, _, _, _, _, _, _, _, _, _, _, blk g67 [I ((b : Nat) : Int), I ((1 : Nat) : Int), Str (rvO (UInt8.ofNat i) b), Str (rvN (UInt8.ofNat i) b), .slice r58.A r58.L.length r58.c] 79] _
   refine J.p (qAd (i := 7) (xs := qFs tl) (m2 := blk g67 [I ((b : Nat) : Int), I ((1 : Nat) : Int), Str (rvO (UInt8.ofNat i) b), Str (rvN (UInt8.ofNat i) b), .slice r58.A r58.L.length r58.c] 79) (ys := [[I ((b : Nat) : Int), I ((1 : Nat) : Int), Str (rvO (UInt8.ofNat i) b), Str (rvN (UInt8.ofNat i) b), .slice r58.A r58.L.length r58.c]]) rfl rfl rfl qPB qPB el79 rfl hrt (by simp) ((qAv (q := True) (xs := qFs [(⟨b, 1, rvO (UInt8.ofNat i) b, rvN (UInt8.ofNat i) b, r58.A, r58.c, r58.L⟩ : TrD)]) rfl (by intro x hx; rw [List.mem_singleton.1 hx]; rfl)).sl) rfl (by omega) (by omega)) rfl ?_
   rintro ⟨A68, c68, m68⟩ h68
   try dsimp only at h68
   change J _ ((68, .slice A68 (tl.length + 1) c68) :: _) _ [_, _, _, _, _, _, _, m68, _, _, _, _, _, _] _
   replace h68 : Row m68 79 5 A68 (tl.length + 1) c68 (qFs (tl ++ [x])) := by rw [qKW, hx]; exact h68
   rw [show tl.length + 1 = (tl ++ [x]).length by rw [List.length_append]; rfl] at h68 ⊢
   refine J.j 3 rfl <| J.c9 [0, 9, 10, 11, 1, 2, 3, 4, 5, 6, 7] [H, r58.mt, r58.ms, r58.M, F, blk g2 [.int .u64 0, Str [], I 0, I 0, .slice none 0 0] 39, blk g8 [.int .u64 0, Str ([0, 0, 0, 0, 0, 0, 0, 0, 0, 0, 0, 0, 0, 0, 0, 0]), I ((1 : Nat) : Int), I 0, .slice A28 (qAL rv0 1).length c28] 39, G, mh, ma, m68] rfl (by decide) <| J.f2 (fun hj1 => ?_)
   refine J.f2 (fun hj2 => ?_)
   refine J.f2 (fun hj3 => ?_)
   refine J.a7 <| J.a9 <| J.A (J.L hK19 ?_)
   refine J.f0 0 2 5 8 9 10 11 12 13 14 ?_
   exact J.G <| J.b rfl <| J.f ((qAR rfl rfl rfl (by omega)).nat (b + 1) (by omega)) rfl <| J.b rfl <| J.a7 <| J.A <| J.b0 (b + 1, r58.g, tl ++ [x], A68, c68, m68, U [U [U [H, r58.mt], r58.ms], r58.M]) (fun η (hη : _ ∧ 2 - η.1 < 2 - b) => hI2 η hη.1 hη.2) ⟨⟨by dsimp only; omega, by dsimp only; rw [List.length_append, htl]; rfl, h68, fun F' _ h2 => ht58.at.mono ((qPZ hj1).trans ((qGJ hj2).trans ((qGJ hj3).trans h2))), (htr.mono ((qGJ hj1).trans ((qGJ hj2).trans (qGJ hj3)))).snoc (by rw [htl, hx]; exact ⟨rfl, rfl, rfl, rfl, hp58.chg, hp58.ok, hp58.row.sl.mono ((qPZ hj2).trans (qGJ hj3)), hp58.bs.mono (qPZ hj3)⟩)⟩, by first | omega | (dsimp only; omega)⟩ ⟨rfl, rfl, rfl, rfl, rfl, rfl, rfl, rfl, rfl, rfl, trivial⟩ (fun _ h => h)
  refine J.b7 <| J.a6 <| J.a6 <| J.b8 ?_
  refine J.A (J.L hK15 ?_)
  refine J.d8 0 2 5 8 9 10 11 12 13 ?_
  refine J.k fun K24 hK24 => ?_
  obtain rfl : b = 2 := by omega
  have hu2 : ∀ F', Le G F' → Le H F' → qDT F' gu (qBA (UInt8.ofNat i)) := fun F1 h1 h2 => by have := hu F1 h1 h2; rw [rvX_2] at this; exact this
  refine J.G <| J.b rfl <| J.p (qAB rfl rfl ent37 (Ct.use (new := fun x : Option Addr × Nat × Hp => [x.2.2]) (fun F' hF => qIP F' (hK.mo hF) gu (qBA (UInt8.ofNat i)) (hu2 F' (hF G (by simp)) (hF H (by simp))) (qB4 _) 1 (by decide)))) rfl ?_
  rintro ⟨A72, c72, m72⟩ h72
  try dsimp only at h72
  change J _ ((72, .tuple #[.slice A72 (qAL (qBA (UInt8.ofNat i)) 1).length c72, I ((0 : Nat) : Int)]) :: _) _ [H, F, blk g2 [.int .u64 0, Str [], I 0, I 0, .slice none 0 0] 39, blk g8 [.int .u64 0, Str ([0, 0, 0, 0, 0, 0, 0, 0, 0, 0, 0, 0, 0, 0, 0, 0]), I ((1 : Nat) : Int), I 0, .slice A28 (qAL rv0 1).length c28] 39, G, mh, ma, mt, m72] _
  refine J.j 5 rfl <| J.c hK24 <| J.d8 0 2 5 8 9 10 11 13 19 ?_
  obtain ⟨hx, hhx⟩ : ∃ x : RhD, x = ⟨1, pH.dig, 1, 0, A72, c72, qAL (qBA (UInt8.ofNat i)) 1⟩ := ⟨_, rfl⟩
  obtain ⟨tx, htx⟩ : ∃ x : TsD, x = ⟨At, ct, tl⟩ := ⟨_, rfl⟩
  refine J.G <| J.b rfl <| J.c4 3 qDD qB6 rfl rfl rfl rfl rfl <| J.p (qAB rfl rfl ent11 (Ct.use0 (fun F' hF => qBH F' (hK.mo hF) pH A28 c28 qBJ (hnod.mono (hF G (by simp)))))) rfl fun g77 _ => J.b rfl <| J.f (qAM (l := [(0, .const ((Value.int IntKind.u64 1))), (1, .tmp 77), (2, .const ((Value.int IntKind.i64 1))), (4, .tmp 78)]) (vs := [N64 (1), Str (pH.dig), I ((1 : Nat) : Int), .slice A72 ((qAL (qBA (UInt8.ofNat i)) 1).length) c72]) (places := [(0, 1), (1, 1), (2, 1), (3, 1), (4, 1)]) (r := [N64 (1), Str (pH.dig), I ((1 : Nat) : Int), I 0, .slice A72 ((qAL (qBA (UInt8.ofNat i)) 1).length) c72]) rfl rfl rfl qDG qPj (fun _ => by kernel_rfl) rfl) rfl <| J.p (qAJ (l := [.tmp 79]) (xs := [[N64 (1), Str (pH.dig), I ((1 : Nat) : Int), I 0, .slice A72 ((qAL (qBA (UInt8.ofNat i)) 1).length) c72]]) rfl rfl rfl rfl qNR el39 rfl (by decide) (by decide) (by simp)) rfl fun g80 _ => ?_
  change J _ _ _ [_, _, _, _, _, _, _, _, _, blk g80 [N64 (1), Str (pH.dig), I ((1 : Nat) : Int), I 0, .slice A72 ((qAL (qBA (UInt8.ofNat i)) 1).length) c72] 39] _
  refine J.p (qAd (i := 5) (xs := qPK hs) (m2 := blk g80 [N64 (1), Str (pH.dig), I ((1 : Nat) : Int), I 0, .slice A72 ((qAL (qBA (UInt8.ofNat i)) 1).length) c72] 39) (ys := [[N64 (1), Str (pH.dig), I ((1 : Nat) : Int), I 0, .slice A72 ((qAL (qBA (UInt8.ofNat i)) 1).length) c72]]) rfl rfl rfl qNR qNR el39 rfl hrh (by simp) ((qAv (q := True) (xs := qPK [(⟨1, pH.dig, 1, 0, A72, c72, (qAL (qBA (UInt8.ofNat i)) 1)⟩ : RhD)]) rfl (by intro x hx; rw [List.mem_singleton.1 hx]; rfl)).sl) rfl (by omega) (by omega)) rfl ?_
  rintro ⟨A81, c81, m81⟩ h81
  try dsimp only at h81
  change J _ ((81, .slice A81 (hs.length + 1) c81) :: _) _ [_, _, _, _, _, m81, _, _, _, _] _
  replace h81 : Row m81 39 5 A81 (hs.length + 1) c81 (qPK (hs ++ [hx])) := by rw [qL2, hhx]; exact h81
  rw [show hs.length + 1 = (hs ++ [hx]).length by rw [List.length_append]; rfl] at h81 ⊢
  refine J.j 2 rfl <| J.p (qAJ (l := [.tmp 83]) (xs := [[.slice At tl.length ct]]) rfl rfl rfl rfl qPC el80 rfl (by decide) (by decide) (by simp)) rfl fun g84 _ => ?_
  change J _ _ _ [_, _, _, _, _, _, _, _, _, _, blk g84 [.slice At tl.length ct] 80] _
  refine J.p (qAd (i := 6) (xs := qHX ts) (m2 := blk g84 [.slice At tl.length ct] 80) (ys := [[.slice At tl.length ct]]) rfl rfl rfl qPC qPC el80 rfl hra (by simp) ((qAv (q := True) (xs := qHX [(⟨At, ct, tl⟩ : TsD)]) rfl (by intro x hx; rw [List.mem_singleton.1 hx]; rfl)).sl) rfl (by omega) (by omega)) rfl ?_
  rintro ⟨A85, c85, m85⟩ h85
  try dsimp only at h85
  change J _ ((85, .slice A85 (ts.length + 1) c85) :: _) _ [_, _, _, _, _, _, m85, _, _, _, _] _
  replace h85 : Row m85 80 1 A85 (ts.length + 1) c85 (qHX (ts ++ [tx])) := by rw [qKV, htx]; exact h85
  rw [show ts.length + 1 = (ts ++ [tx]).length by rw [List.length_append]; rfl] at h85 ⊢
  refine J.j 2 rfl <| J.c9 [4, 0, 7, 8, 1, 2, 3, 5, 6] [G, H, mt, m72, F, blk g2 [.int .u64 0, Str [], I 0, I 0, .slice none 0 0] 39, blk g8 [.int .u64 0, Str ([0, 0, 0, 0, 0, 0, 0, 0, 0, 0, 0, 0, 0, 0, 0, 0]), I ((1 : Nat) : Int), I 0, .slice A28 (qAL rv0 1).length c28] 39, m81, m85] rfl (by decide) <| J.f2 (fun hj4 => ?_)
  refine J.f2 (fun hj5 => ?_)
  refine J.f2 (fun hj6 => ?_)
  refine J.a7 <| J.a9 <| J.A (J.L hK12 ?_)
  refine J.c2 0 2 5 8 9 10 11 ?_
  exact J.G <| J.b rfl <| J.f ((qAR rfl rfl rfl (by omega)).nat (i + 1) (by omega)) rfl <| J.b rfl <| J.a7 <| J.A <| J.b0 (i + 1, hs ++ [hx], A81, c81, m81, ts ++ [tx], A85, c85, m85, U [U [U [G, H], mt], m72]) (fun η (hη : _ ∧ n - η.1 < n - i) => hI0 η hη.1 hη.2) ⟨⟨by dsimp only; omega, by dsimp only; rw [List.length_append, hhl]; rfl, h81, h85, hT.mono ((qGJ hj4).trans ((qGJ hj5).trans (qGJ hj6))), hnod.mono ((qGJ hj4).trans ((qGJ hj5).trans (qGJ hj6))), (hok.mono ((qGJ hj4).trans ((qGJ hj5).trans (qGJ hj6)))).snoc (by rw [hhl, hhx, htx]; exact ⟨rfl, rfl, rfl, rfl, rfl, h72.sl.mono (qPZ hj6), htl, (htr.mono (qPZ hj4)).mono ((qGJ hj5).trans (qGJ hj6)), hrt.sl.mono ((qPZ hj5).trans (qGJ hj6))⟩)⟩, by first | omega | (dsimp only; omega)⟩ ⟨rfl, rfl, rfl, rfl, rfl, rfl, rfl, trivial⟩ (fun _ h => h)
 refine J.b7 <| J.a6 <| J.a6 <| J.b8 ?_
 refine J.A (J.L hK8 ?_)
 refine J.M 2 8 9 10 ?_
 refine J.g fun K25 hK25 => J.c4 3 qDD qB6 rfl rfl rfl rfl rfl <| J.j 2 rfl <| J.b1 (qAG (i := 2) (l := [.int .u64 0, Str [], I 0, I 0, .slice none 0 0]) (vs := [.int .u64 0, Str ([0, 0, 0, 0, 0, 0, 0, 0, 0, 0, 0, 0, 0, 0, 0, 0]), I ((1 : Nat) : Int), I 0, .slice A28 (qAL rv0 1).length c28]) rfl rfl rfl rfl rfl qB6 rfl rfl) rfl rfl fun _ _ => ?_
 change J _ _ _ [G, F, blk g2 [.int .u64 0, Str ([0, 0, 0, 0, 0, 0, 0, 0, 0, 0, 0, 0, 0, 0, 0, 0]), I ((1 : Nat) : Int), I 0, .slice A28 (qAL rv0 1).length c28] 39, blk g8 [.int .u64 0, Str ([0, 0, 0, 0, 0, 0, 0, 0, 0, 0, 0, 0, 0, 0, 0, 0]), I ((1 : Nat) : Int), I 0, .slice A28 (qAL rv0 1).length c28] 39, mh, ma] _
 refine J.j 2 rfl <| J.c hK25 <| J.H 2 3 4 ?_
 exact J.D <| J.b4 hw0 (fun _ _ h => h) (rv3 rfl (RV.blkA 2 rfl rfl qDD qB6) rfl rfl) (qAj (⟨hs, ts, A28, c28, Ah, ch, mh, Aa, ca, ma, G⟩ : RvR) (by rw [show n = hs.length by omega, hok.1, show ts.length = hs.length from hok.1.symm]; rfl) ⟨by dsimp only; omega, hnod, by rw [show n = hs.length by omega]; exact hrh, by rw [show n = ts.length by omega]; exact hra, hok⟩ [1, 4, 5, 0] rfl (by decide))
end Go.Proofs.YtfldiegfenndjaaGreatDoor
namespace Go.Proofs.YtfldiegfenndjaaGreatDoor
open Go Go.Fw Go.Proofs.Tryz
set_option maxRecDepth 100000
set_option maxHeartbeats 1000000
theorem qBp (F : Hp) (hK : KF F) (x : Hd) (A : Option Addr) (c : Nat) (hg : x.good) (hsl : Sl F 1 A x.nodes.length c (qAI x.nodes)) (y : Hd) (B : Option Addr) (e : Nat) (hgy : y.good) (hsy : Sl F 1 B y.nodes.length e (qAI y.nodes)) (b : Nat) (dp : Int) (old nw : List UInt8) (As : Option Addr) (ns cs : Nat) (ck : Int) (hC : ∀ F' : Hp, Le F F' → Ct prog 120 [.agg #[I ((b : Nat) : Int), I dp, Str old, Str nw, .slice As ns cs]] [F'] (fun _ : Unit => I ck) (fun _ => True) (fun _ => [F'])) (hix : x.next y = 0 → ck = 0 → dp = y.dep → b < x.nodes.length ∧ b < y.nodes.length) (ga gs gq cnt gm : Nat) (hA : qAQ F ⟨ga, 0, none⟩ [Ptr gs, I ((cnt : Nat) : Int), Ptr gq, .map (some gm)]) (nm : Int) (hE : ¬ qFm x y ck b dp old nw = 0) : Ct prog 19 [Ptr ga, I (nm), .agg #[N64 x.ep, Str (x.par), I (x.dep), I (x.aud), .slice A x.nodes.length c], .agg #[N64 y.ep, Str (y.par), I (y.dep), I (y.aud), .slice B y.nodes.length e], .agg #[I ((b : Nat) : Int), I (dp), Str (old), Str (nw), .slice As ns cs]] [F] (fun _ : Unit => .tuple #[.agg #[.int .u64 0, I 0, Str [], I 0, I 0, .slice none 0 0, .slice none 0 0], I (qFm x y ck b dp old nw)]) (fun _ => True) (fun _ => [F]) := by
 refine Ct.walk func19 rfl ntmps19 rfl (fun w0 hw0 => ?_)
 change J _ [(0, _), (1, _), (2, _), (3, _), (4, _)] _ _ _
 refine J.g fun K1 hK1 => J.p (qAf (l := [N64 x.ep, Str (x.par), I (x.dep), I (x.aud), .slice A x.nodes.length c]) rfl rfl rfl) rfl fun g7 _ => ?_
 change J _ _ _ [F, blk g7 [N64 x.ep, Str (x.par), I (x.dep), I (x.aud), .slice A x.nodes.length c] 39] _
 refine J.p (qAf (l := [N64 y.ep, Str (y.par), I (y.dep), I (y.aud), .slice B y.nodes.length e]) rfl rfl rfl) rfl fun g8 _ => ?_
 change J _ _ _ [_, _, blk g8 [N64 y.ep, Str (y.par), I (y.dep), I (y.aud), .slice B y.nodes.length e] 39] _
 refine J.p (qAf (l := [I ((b : Nat) : Int), I (dp), Str (old), Str (nw), .slice As ns cs]) rfl rfl rfl) rfl fun g9 _ => ?_
 change J _ _ _ [_, _, _, blk g9 [I ((b : Nat) : Int), I (dp), Str (old), Str (nw), .slice As ns cs] 79] _
 refine J.p (qAO (l := [.int .u64 0, I 0, Str [], I 0, I 0, .slice none 0 0, .slice none 0 0]) rfl qDr rfl) rfl fun g10 _ => ?_
 change J _ _ _ [_, _, _, _, blk g10 [.int .u64 0, I 0, Str [], I 0, I 0, .slice none 0 0, .slice none 0 0] 52] _
 refine J.b rfl <| J.c hK1 <| J.b3 0 1 7 8 9 10 ?_
 refine J.k fun K2 hK2 => J.g fun K3 hK3 => J.b rfl <| J.f ((qAu qNS rfl rfl rfl).as (v' := .bool false) rfl) rfl <| J.c hK3 <| J.c2 0 1 7 8 9 10 21 ?_
 refine J.a8 ?_
 refine J.W hK2 <| J.b3 0 1 7 8 9 10 ?_
 refine J.k fun K4 hK4 => J.g fun K5 hK5 => J.c4 1 qDD qB6 rfl rfl rfl rfl rfl <| J.c4 2 qDD qB6 rfl rfl rfl rfl rfl <| J.c4 3 qId qEF rfl rfl rfl rfl rfl <| J.p (qAB rfl rfl ent59 (Ct.use0 (fun F' hF => qED F' (hK.mo hF) x A c hg (hsl.mono (hF F (by simp))) y B e hgy (hsy.mono (hF F (by simp))) b dp old nw As ns cs ck (fun F2 h2 => hC F2 ((hF F (by simp)).trans h2)) hix))) rfl fun g26 _ => J.b rfl <| J.c hK5 <| J.b3 0 1 8 9 10 12 ?_
 refine J.g fun K6 hK6 => J.b rfl <| J.f ((qAY rfl rfl rfl).yes (by omega)) rfl <| J.c hK6 <| J.c2 0 1 8 9 10 12 28 ?_
 refine J.c6 ?_
 refine J.g fun K7 hK7 => J.f (qAM (l := []) (vs := []) (places := [(0, 1), (1, 1), (2, 1), (3, 1), (4, 3)]) (r := [.int .u64 0, I 0, Str [], I 0, I 0, .slice none 0 0, .slice none 0 0]) rfl rfl rfl qEX qDr (fun _ => by kernel_rfl) (by kernel_rfl)) rfl <| J.b rfl <| J.b1 (qAG (i := 4) (l := [.int .u64 0, I 0, Str [], I 0, I 0, .slice none 0 0, .slice none 0 0]) (vs := [.int .u64 0, I 0, Str [], I 0, I 0, .slice none 0 0, .slice none 0 0]) rfl rfl rfl rfl rfl qCl rfl rfl) rfl rfl fun _ _ => ?_
 change J _ _ _ [_, _, _, _, _] _
 refine J.b rfl <| J.c hK7 <| J.E 10 11 ?_
 exact J.D <| J.a3 <| J.b4 hw0 (fun _ _ h => h) (rv2 rfl (RV.blkA 4 rfl rfl qHN qCl) rfl) (qAj () rfl trivial [0] rfl (by decide))
theorem qGU (F : Hp) (hK : KF F) (x : Hd) (A : Option Addr) (c : Nat) (hg : x.good) (hsl : Sl F 1 A x.nodes.length c (qAI x.nodes)) (y : Hd) (B : Option Addr) (e : Nat) (hgy : y.good) (hsy : Sl F 1 B y.nodes.length e (qAI y.nodes)) (b : Nat) (dp : Int) (old nw : List UInt8) (As : Option Addr) (ns cs : Nat) (ck : Int) (hC : ∀ F' : Hp, Le F F' → Ct prog 120 [.agg #[I ((b : Nat) : Int), I dp, Str old, Str nw, .slice As ns cs]] [F'] (fun _ : Unit => I ck) (fun _ => True) (fun _ => [F'])) (hix : x.next y = 0 → ck = 0 → dp = y.dep → b < x.nodes.length ∧ b < y.nodes.length) (ga gs gq cnt gm : Nat) (hA : qAQ F ⟨ga, 0, none⟩ [Ptr gs, I ((cnt : Nat) : Int), Ptr gq, .map (some gm)]) (Ms : Mrk) (hM : qIZ plK F gm (mkV Ms))  (hE : qFm x y ck b dp old nw = 0) (nm : Int) (hn : ¬ qFV y.ep ((b : Nat) : Int) y.dig nm) : Ct prog 19 [Ptr ga, I (nm), .agg #[N64 x.ep, Str (x.par), I (x.dep), I (x.aud), .slice A x.nodes.length c], .agg #[N64 y.ep, Str (y.par), I (y.dep), I (y.aud), .slice B y.nodes.length e], .agg #[I ((b : Nat) : Int), I (dp), Str (old), Str (nw), .slice As ns cs]] [F] (fun _ : Unit => .tuple #[.agg #[.int .u64 0, I 0, Str [], I 0, I 0, .slice none 0 0, .slice none 0 0], I ((10 : Nat) : Int)]) (fun _ => True) (fun _ => [F]) := by
 refine Ct.walk func19 rfl ntmps19 rfl (fun w0 hw0 => ?_)
 change J _ [(0, _), (1, _), (2, _), (3, _), (4, _)] _ _ _
 refine J.g fun K1 hK1 => J.p (qAf (l := [N64 x.ep, Str (x.par), I (x.dep), I (x.aud), .slice A x.nodes.length c]) rfl rfl rfl) rfl fun g7 _ => ?_
 change J _ _ _ [F, blk g7 [N64 x.ep, Str (x.par), I (x.dep), I (x.aud), .slice A x.nodes.length c] 39] _
 refine J.p (qAf (l := [N64 y.ep, Str (y.par), I (y.dep), I (y.aud), .slice B y.nodes.length e]) rfl rfl rfl) rfl fun g8 _ => ?_
 change J _ _ _ [_, _, blk g8 [N64 y.ep, Str (y.par), I (y.dep), I (y.aud), .slice B y.nodes.length e] 39] _
 refine J.p (qAf (l := [I ((b : Nat) : Int), I (dp), Str (old), Str (nw), .slice As ns cs]) rfl rfl rfl) rfl fun g9 _ => ?_
 change J _ _ _ [_, _, _, blk g9 [I ((b : Nat) : Int), I (dp), Str (old), Str (nw), .slice As ns cs] 79] _
 refine J.p (qAO (l := [.int .u64 0, I 0, Str [], I 0, I 0, .slice none 0 0, .slice none 0 0]) rfl qDr rfl) rfl fun g10 _ => ?_
 change J _ _ _ [_, _, _, _, blk g10 [.int .u64 0, I 0, Str [], I 0, I 0, .slice none 0 0, .slice none 0 0] 52] _
 refine J.b rfl <| J.c hK1 <| J.b3 0 1 7 8 9 10 ?_
 refine J.k fun K2 hK2 => J.g fun K3 hK3 => J.b rfl <| J.f ((qAu qNS rfl rfl rfl).as (v' := .bool false) rfl) rfl <| J.c hK3 <| J.c2 0 1 7 8 9 10 21 ?_
 refine J.a8 ?_
 refine J.W hK2 <| J.b3 0 1 7 8 9 10 ?_
 refine J.k fun K4 hK4 => J.g fun K5 hK5 => J.c4 1 qDD qB6 rfl rfl rfl rfl rfl <| J.c4 2 qDD qB6 rfl rfl rfl rfl rfl <| J.c4 3 qId qEF rfl rfl rfl rfl rfl <| J.p (qAB rfl rfl ent59 (Ct.use0 (fun F' hF => qED F' (hK.mo hF) x A c hg (hsl.mono (hF F (by simp))) y B e hgy (hsy.mono (hF F (by simp))) b dp old nw As ns cs ck (fun F2 h2 => hC F2 ((hF F (by simp)).trans h2)) hix))) rfl fun g26 _ => J.b rfl <| J.c hK5 <| J.b3 0 1 8 9 10 12 ?_
 refine J.g fun K6 hK6 => J.b rfl <| J.f ((qAY rfl rfl rfl).no (by omega)) rfl <| J.c hK6 <| J.c2 0 1 8 9 10 12 28 ?_
 refine J.a8 ?_
 refine J.W hK4 <| J.a0 0 1 8 9 10 ?_
 refine J.e4 (X := Nat) (fun ζ => [(0, Ptr ga), (8, Ptr g8), (9, Ptr g9), (10, Ptr g10), (13, Ptr ζ)]) (fun ζ => [F, blk g7 [N64 x.ep, Str (x.par), I (x.dep), I (x.aud), .slice A x.nodes.length c] 39, blk g8 [N64 y.ep, Str (y.par), I (y.dep), I (y.aud), .slice B y.nodes.length e] 39, blk g9 [I ((b : Nat) : Int), I (dp), Str (old), Str (nw), .slice As ns cs] 79, blk g10 [.int .u64 0, I 0, Str [], I 0, I 0, .slice none 0 0, .slice none 0 0] 52, blk ζ [N64 y.ep, I ((b : Nat) : Int), Str (y.dig), I (nm), I 0, .slice none 0 0, .slice none 0 0] 52]) (fun ζ => True) (fun K7 hK7 => ?_) ?_
 ·
  refine J.c1 [blk g7 [N64 x.ep, Str (x.par), I (x.dep), I (x.aud), .slice A x.nodes.length c] 39, blk g8 [N64 y.ep, Str (y.par), I (y.dep), I (y.aud), .slice B y.nodes.length e] 39, blk g9 [I ((b : Nat) : Int), I (dp), Str (old), Str (nw), .slice As ns cs] 79, F] [9] (.y 0 (.y 1 (.y 2 (.y 3 (.y 4 (.y 6 (.br (.e 5 (.y 7 (.e 8 (.e 9 .nil)))) (.e 8 (.e 5 (.y 7 (.e 9 .nil))))))))))) Tryz.wide (by decide +kernel) (by simp) ?_
  refine J.q rfl (qAA (j := 0) rfl rfl qDG rfl qCm rfl) rfl rfl <| J.q rfl (qAC 1 (v := N64 y.ep) rfl rfl rfl qDN rfl) rfl rfl <| J.q rfl (qAA (j := 0) rfl rfl qDp rfl z3_ rfl) rfl rfl <| J.q rfl (qAC 2 (v := I ((b : Nat) : Int)) rfl rfl rfl b3_ rfl) rfl rfl <| J.q rfl (qAi 1 rfl rfl rfl qDD qB6 rfl) rfl rfl <| J.O ?_
  refine J.f1 ?_ ?_
  ·
   refine J.b2 rfl (qAB rfl rfl ent11 (Ct.use0 (fun F' hF => qBH F' (hK.mo hF) y B e hgy (hsy.mono (hF F (by simp)))))) rfl (by simp) fun g36 _ => J.q rfl (qAM (l := [(0, .tmp 32), (1, .tmp 34), (2, .tmp 36), (3, .tmp 37)]) (vs := [N64 (y.ep), I ((b : Nat) : Int), Str (y.dig), I (nm)]) (places := [(0, 1), (1, 1), (2, 1), (3, 1), (4, 3)]) (r := [N64 (y.ep), I ((b : Nat) : Int), Str (y.dig), I (nm), I 0, .slice none 0 0, .slice none 0 0]) rfl rfl rfl qEX qDr (fun _ => by kernel_rfl) (by kernel_rfl)) rfl rfl <| J.b2 rfl (qAO (l := [.int .u64 0, I 0, Str [], I 0, I 0, .slice none 0 0, .slice none 0 0]) rfl qDr rfl) rfl (by simp) fun g13 _ => ?_
   change J _ _ _ [F, blk g7 [N64 x.ep, Str (x.par), I (x.dep), I (x.aud), .slice A x.nodes.length c] 39, blk g8 [N64 y.ep, Str (y.par), I (y.dep), I (y.aud), .slice B y.nodes.length e] 39, blk g9 [I ((b : Nat) : Int), I (dp), Str (old), Str (nw), .slice As ns cs] 79, blk g10 [.int .u64 0, I 0, Str [], I 0, I 0, .slice none 0 0, .slice none 0 0] 52, blk g13 [.int .u64 0, I 0, Str [], I 0, I 0, .slice none 0 0, .slice none 0 0] 52] _
   refine J.d7 rfl (qAG (i := 5) (l := [.int .u64 0, I 0, Str [], I 0, I 0, .slice none 0 0, .slice none 0 0]) (vs := [N64 (y.ep), I ((b : Nat) : Int), Str (y.dig), I (nm), I 0, .slice none 0 0, .slice none 0 0]) rfl rfl rfl rfl rfl qCl rfl rfl) rfl rfl rfl fun _ _ => ?_
   change J _ _ _ [_, _, _, _, _, blk g13 [N64 (y.ep), I ((b : Nat) : Int), Str (y.dig), I (nm), I 0, .slice none 0 0, .slice none 0 0] 52] _
   exact J.b5 <| J.A <| J.b0 (g13) hK7 (trivial) ⟨rfl, rfl, rfl, rfl, rfl, trivial⟩ (fun _ h => h)
  refine J.b2 rfl (qAO (l := [.int .u64 0, I 0, Str [], I 0, I 0, .slice none 0 0, .slice none 0 0]) rfl qDr rfl) rfl (by simp) fun g13 _ => ?_
  change J _ _ _ [F, blk g7 [N64 x.ep, Str (x.par), I (x.dep), I (x.aud), .slice A x.nodes.length c] 39, blk g8 [N64 y.ep, Str (y.par), I (y.dep), I (y.aud), .slice B y.nodes.length e] 39, blk g9 [I ((b : Nat) : Int), I (dp), Str (old), Str (nw), .slice As ns cs] 79, blk g10 [.int .u64 0, I 0, Str [], I 0, I 0, .slice none 0 0, .slice none 0 0] 52, blk g13 [.int .u64 0, I 0, Str [], I 0, I 0, .slice none 0 0, .slice none 0 0] 52] _
  refine J.b2 rfl (qAB rfl rfl ent11 (Ct.use0 (fun F' hF => qBH F' (hK.mo hF) y B e hgy (hsy.mono (hF F (by simp)))))) rfl (by simp) fun g36 _ => J.q rfl (qAM (l := [(0, .tmp 32), (1, .tmp 34), (2, .tmp 36), (3, .tmp 37)]) (vs := [N64 (y.ep), I ((b : Nat) : Int), Str (y.dig), I (nm)]) (places := [(0, 1), (1, 1), (2, 1), (3, 1), (4, 3)]) (r := [N64 (y.ep), I ((b : Nat) : Int), Str (y.dig), I (nm), I 0, .slice none 0 0, .slice none 0 0]) rfl rfl rfl qEX qDr (fun _ => by kernel_rfl) (by kernel_rfl)) rfl rfl <| J.d7 rfl (qAG (i := 5) (l := [.int .u64 0, I 0, Str [], I 0, I 0, .slice none 0 0, .slice none 0 0]) (vs := [N64 (y.ep), I ((b : Nat) : Int), Str (y.dig), I (nm), I 0, .slice none 0 0, .slice none 0 0]) rfl rfl rfl rfl rfl qCl rfl rfl) rfl rfl rfl fun _ _ => ?_
  change J _ _ _ [_, _, _, _, _, blk g13 [N64 (y.ep), I ((b : Nat) : Int), Str (y.dig), I (nm), I 0, .slice none 0 0, .slice none 0 0] 52] _
  exact J.b5 <| J.A <| J.b0 (g13) hK7 (trivial) ⟨rfl, rfl, rfl, rfl, rfl, trivial⟩ (fun _ h => h)
 rintro g13 _
 refine J.g fun K8 hK8 => J.a2 0 qDG qCm rfl rfl rfl rfl rfl <| J.f (qAC 2 (v := N64 y.ep) rfl rfl rfl qDN rfl) rfl <| J.a2 0 qDp z3_ rfl rfl rfl rfl rfl <| J.f (qAC 3 (v := I ((b : Nat) : Int)) rfl rfl rfl b3_ rfl) rfl <| J.f (qAM (l := [(0, .tmp 40), (1, .tmp 42)]) (vs := [N64 (y.ep), I ((b : Nat) : Int)]) (places := [(0, 1), (1, 1)]) (r := [N64 (y.ep), I ((b : Nat) : Int)]) rfl rfl rfl qHV qJB (fun _ => by kernel_rfl) rfl) rfl <| J.p (qAO (l := [.int .u64 0, I 0]) rfl qJB rfl) rfl fun g14 _ => ?_
 change J _ _ _ [F, blk g7 [N64 x.ep, Str (x.par), I (x.dep), I (x.aud), .slice A x.nodes.length c] 39, blk g8 [N64 y.ep, Str (y.par), I (y.dep), I (y.aud), .slice B y.nodes.length e] 39, blk g9 [I ((b : Nat) : Int), I (dp), Str (old), Str (nw), .slice As ns cs] 79, blk g10 [.int .u64 0, I 0, Str [], I 0, I 0, .slice none 0 0, .slice none 0 0] 52, blk g13 [N64 y.ep, I ((b : Nat) : Int), Str (y.dig), I (nm), I 0, .slice none 0 0, .slice none 0 0] 52, blk g14 [.int .u64 0, I 0] 148] _
 refine J.b1 (qAG (i := 6) (l := [.int .u64 0, I 0]) (vs := [N64 (y.ep), I ((b : Nat) : Int)]) rfl rfl rfl rfl rfl sizeOf148 rfl rfl) rfl rfl fun _ _ => ?_
 change J _ _ _ [_, _, _, _, _, _, blk g14 [N64 (y.ep), I ((b : Nat) : Int)] 148] _
 refine J.c hK8 <| J.M 0 10 13 14 ?_
 refine J.k fun K9 hK9 => J.c1 [F, blk g14 [N64 (y.ep), I ((b : Nat) : Int)] 148] [] (.y 0 (.y 1 (.y 2 (.y 3 (.y 4 (.y 5 (.y 6 (.y 7 (.y 8 (.y 9 (.y 10 .nil))))))))))) Tryz.wide (by decide +kernel) (by simp) ?_
 refine J.O ?_
 refine J.q rfl (qAD rfl rfl) rfl rfl <| J.q rfl (qAA (j := 3) rfl rfl qFC rfl sizeOf143 rfl) rfl rfl <| J.q rfl (qAN (v := .map (some gm)) rfl rfl isAgg143 (m := F) (by simp) (hA.at (i := 3) rfl)) rfl rfl <| J.q rfl (qAi 1 rfl rfl rfl isAgg148 sizeOf148 rfl) rfl rfl <| J.q rfl ((qCe (K := plK) (l := mkV Ms) (s := (y.ep, ((b : Nat) : Int))) qMr rfl rfl rfl qLb e9_ (m := F) (by simp) hM).as (v' := .tuple #[Str ((qDR Ms (y.ep, ((b : Nat) : Int))).getD []), .bool (qDR Ms (y.ep, ((b : Nat) : Int))).isSome]) (by rw [qES, qJ6, Option.isSome_map])) rfl rfl <| J.O ?_
 refine J.d0 (Str ((qDR Ms (y.ep, ((b : Nat) : Int))).getD [])) ?_
 refine J.d0 (.bool ((qDR Ms (y.ep, ((b : Nat) : Int))).isSome)) ?_
 refine J.b9 ?_
 refine J.b9 ?_
 refine J.b5 <| J.A (J.L hK9 ?_)
 refine J.b3 0 10 13 14 15 16 ?_
 refine J.k fun K10 hK10 => J.a1 <| J.g fun K11 hK11 => J.c4 5 qHN qCl rfl rfl rfl rfl rfl <| J.p (qAB rfl rfl ent22 (Ct.use0 (fun F' hF => qFi F' y.ep ((b : Nat) : Int) y.dig nm 0 none none 0 0 0 0 hn))) rfl fun g55 _ => J.f ((qBL rfl rfl rfl).yes (rfl)) rfl <| J.b rfl <| J.c hK11 <| J.c2 0 10 13 14 15 16 53 ?_
 refine J.c6 ?_
 refine J.g fun K12 hK12 => J.f (qAM (l := []) (vs := []) (places := [(0, 1), (1, 1), (2, 1), (3, 1), (4, 3)]) (r := [.int .u64 0, I 0, Str [], I 0, I 0, .slice none 0 0, .slice none 0 0]) rfl rfl rfl qEX qDr (fun _ => by kernel_rfl) (by kernel_rfl)) rfl <| J.b1 (qAG (i := 4) (l := [.int .u64 0, I 0, Str [], I 0, I 0, .slice none 0 0, .slice none 0 0]) (vs := [.int .u64 0, I 0, Str [], I 0, I 0, .slice none 0 0, .slice none 0 0]) rfl rfl rfl rfl rfl qCl rfl rfl) rfl rfl fun _ _ => ?_
 change J _ _ _ [_, _, _, _, _, _, _] _
 refine J.b rfl <| J.c hK12 <| J.E 10 11 ?_
 exact J.D <| J.b6 <| J.a3 <| J.b4 hw0 (fun _ _ h => h) (rv2 rfl (RV.blkA 4 rfl rfl qHN qCl) rfl) (qAj () rfl trivial [0] rfl (by decide))
theorem qEV (F : Hp) (hK : KF F) (x : Hd) (A : Option Addr) (c : Nat) (hg : x.good) (hsl : Sl F 1 A x.nodes.length c (qAI x.nodes)) (y : Hd) (B : Option Addr) (e : Nat) (hgy : y.good) (hsy : Sl F 1 B y.nodes.length e (qAI y.nodes)) (b : Nat) (dp : Int) (old nw : List UInt8) (As : Option Addr) (ns cs : Nat) (ck : Int) (hC : ∀ F' : Hp, Le F F' → Ct prog 120 [.agg #[I ((b : Nat) : Int), I dp, Str old, Str nw, .slice As ns cs]] [F'] (fun _ : Unit => I ck) (fun _ => True) (fun _ => [F'])) (hix : x.next y = 0 → ck = 0 → dp = y.dep → b < x.nodes.length ∧ b < y.nodes.length) (ga gs gq cnt gm : Nat) (hA : qAQ F ⟨ga, 0, none⟩ [Ptr gs, I ((cnt : Nat) : Int), Ptr gq, .map (some gm)]) (Ms : Mrk) (hM : qIZ plK F gm (mkV Ms)) (hm : qDR Ms (y.ep, ((b : Nat) : Int)) = some y.dig) (hE : qFm x y ck b dp old nw = 0) (h1 : y.ep ≤ 4294967295) (h2 : b < 16) (nm : Nat) (h3 : nm < 64) (h4 : y.dig.length = 16) (gk gb nx : Nat) (hS : qAQ F ⟨gs, 0, none⟩ [Ptr gk, Ptr gb, I ((nx : Nat) : Int)]) (hcn : cnt ≤ 1000) (hnx : nx ≤ 100000) (hl : cnt ≤ nx) : Ct prog 19 [Ptr ga, I ((nm : Nat) : Int), .agg #[N64 x.ep, Str (x.par), I (x.dep), I (x.aud), .slice A x.nodes.length c], .agg #[N64 y.ep, Str (y.par), I (y.dep), I (y.aud), .slice B y.nodes.length e], .agg #[I ((b : Nat) : Int), I (dp), Str (old), Str (nw), .slice As ns cs]] [F] (fun _ : Unit => .tuple #[.agg #[.int .u64 0, I 0, Str [], I 0, I 0, .slice none 0 0, .slice none 0 0], I ((11 : Nat) : Int)]) (fun _ => True) (fun _ => [F]) := by
 refine Ct.walk func19 rfl ntmps19 rfl (fun w0 hw0 => ?_)
 change J _ [(0, _), (1, _), (2, _), (3, _), (4, _)] _ _ _
 refine J.g fun K1 hK1 => J.p (qAf (l := [N64 x.ep, Str (x.par), I (x.dep), I (x.aud), .slice A x.nodes.length c]) rfl rfl rfl) rfl fun g7 _ => ?_
 change J _ _ _ [F, blk g7 [N64 x.ep, Str (x.par), I (x.dep), I (x.aud), .slice A x.nodes.length c] 39] _
 refine J.p (qAf (l := [N64 y.ep, Str (y.par), I (y.dep), I (y.aud), .slice B y.nodes.length e]) rfl rfl rfl) rfl fun g8 _ => ?_
 change J _ _ _ [_, _, blk g8 [N64 y.ep, Str (y.par), I (y.dep), I (y.aud), .slice B y.nodes.length e] 39] _
 refine J.p (qAf (l := [I ((b : Nat) : Int), I (dp), Str (old), Str (nw), .slice As ns cs]) rfl rfl rfl) rfl fun g9 _ => ?_
 change J _ _ _ [_, _, _, blk g9 [I ((b : Nat) : Int), I (dp), Str (old), Str (nw), .slice As ns cs] 79] _
 refine J.p (qAO (l := [.int .u64 0, I 0, Str [], I 0, I 0, .slice none 0 0, .slice none 0 0]) rfl qDr rfl) rfl fun g10 _ => ?_
 change J _ _ _ [_, _, _, _, blk g10 [.int .u64 0, I 0, Str [], I 0, I 0, .slice none 0 0, .slice none 0 0] 52] _
 refine J.b rfl <| J.c hK1 <| J.b3 0 1 7 8 9 10 ?_
 refine J.k fun K2 hK2 => J.g fun K3 hK3 => J.b rfl <| J.f ((qAu qNS rfl rfl rfl).as (v' := .bool false) rfl) rfl <| J.c hK3 <| J.c2 0 1 7 8 9 10 21 ?_
 refine J.a8 ?_
 refine J.W hK2 <| J.b3 0 1 7 8 9 10 ?_
 refine J.k fun K4 hK4 => J.g fun K5 hK5 => J.c4 1 qDD qB6 rfl rfl rfl rfl rfl <| J.c4 2 qDD qB6 rfl rfl rfl rfl rfl <| J.c4 3 qId qEF rfl rfl rfl rfl rfl <| J.p (qAB rfl rfl ent59 (Ct.use0 (fun F' hF => qED F' (hK.mo hF) x A c hg (hsl.mono (hF F (by simp))) y B e hgy (hsy.mono (hF F (by simp))) b dp old nw As ns cs ck (fun F2 h2 => hC F2 ((hF F (by simp)).trans h2)) hix))) rfl fun g26 _ => J.b rfl <| J.c hK5 <| J.b3 0 1 8 9 10 12 ?_
 refine J.g fun K6 hK6 => J.b rfl <| J.f ((qAY rfl rfl rfl).no (by omega)) rfl <| J.c hK6 <| J.c2 0 1 8 9 10 12 28 ?_
 refine J.a8 ?_
 refine J.W hK4 <| J.a0 0 1 8 9 10 ?_
 refine J.e4 (X := Nat) (fun ζ => [(0, Ptr ga), (8, Ptr g8), (9, Ptr g9), (10, Ptr g10), (13, Ptr ζ)]) (fun ζ => [F, blk g7 [N64 x.ep, Str (x.par), I (x.dep), I (x.aud), .slice A x.nodes.length c] 39, blk g8 [N64 y.ep, Str (y.par), I (y.dep), I (y.aud), .slice B y.nodes.length e] 39, blk g9 [I ((b : Nat) : Int), I (dp), Str (old), Str (nw), .slice As ns cs] 79, blk g10 [.int .u64 0, I 0, Str [], I 0, I 0, .slice none 0 0, .slice none 0 0] 52, blk ζ [N64 y.ep, I ((b : Nat) : Int), Str (y.dig), I ((nm : Nat) : Int), I 0, .slice none 0 0, .slice none 0 0] 52]) (fun ζ => True) (fun K7 hK7 => ?_) ?_
 ·
  refine J.c1 [blk g7 [N64 x.ep, Str (x.par), I (x.dep), I (x.aud), .slice A x.nodes.length c] 39, blk g8 [N64 y.ep, Str (y.par), I (y.dep), I (y.aud), .slice B y.nodes.length e] 39, blk g9 [I ((b : Nat) : Int), I (dp), Str (old), Str (nw), .slice As ns cs] 79, F] [9] (.y 0 (.y 1 (.y 2 (.y 3 (.y 4 (.y 6 (.br (.e 5 (.y 7 (.e 8 (.e 9 .nil)))) (.e 8 (.e 5 (.y 7 (.e 9 .nil))))))))))) Tryz.wide (by decide +kernel) (by simp) ?_
  refine J.q rfl (qAA (j := 0) rfl rfl qDG rfl qCm rfl) rfl rfl <| J.q rfl (qAC 1 (v := N64 y.ep) rfl rfl rfl qDN rfl) rfl rfl <| J.q rfl (qAA (j := 0) rfl rfl qDp rfl z3_ rfl) rfl rfl <| J.q rfl (qAC 2 (v := I ((b : Nat) : Int)) rfl rfl rfl b3_ rfl) rfl rfl <| J.q rfl (qAi 1 rfl rfl rfl qDD qB6 rfl) rfl rfl <| J.O ?_
  refine J.f1 ?_ ?_
  ·
   refine J.b2 rfl (qAB rfl rfl ent11 (Ct.use0 (fun F' hF => qBH F' (hK.mo hF) y B e hgy (hsy.mono (hF F (by simp)))))) rfl (by simp) fun g36 _ => J.q rfl (qAM (l := [(0, .tmp 32), (1, .tmp 34), (2, .tmp 36), (3, .tmp 37)]) (vs := [N64 (y.ep), I ((b : Nat) : Int), Str (y.dig), I ((nm : Nat) : Int)]) (places := [(0, 1), (1, 1), (2, 1), (3, 1), (4, 3)]) (r := [N64 (y.ep), I ((b : Nat) : Int), Str (y.dig), I ((nm : Nat) : Int), I 0, .slice none 0 0, .slice none 0 0]) rfl rfl rfl qEX qDr (fun _ => by kernel_rfl) (by kernel_rfl)) rfl rfl <| J.b2 rfl (qAO (l := [.int .u64 0, I 0, Str [], I 0, I 0, .slice none 0 0, .slice none 0 0]) rfl qDr rfl) rfl (by simp) fun g13 _ => ?_
   change J _ _ _ [F, blk g7 [N64 x.ep, Str (x.par), I (x.dep), I (x.aud), .slice A x.nodes.length c] 39, blk g8 [N64 y.ep, Str (y.par), I (y.dep), I (y.aud), .slice B y.nodes.length e] 39, blk g9 [I ((b : Nat) : Int), I (dp), Str (old), Str (nw), .slice As ns cs] 79, blk g10 [.int .u64 0, I 0, Str [], I 0, I 0, .slice none 0 0, .slice none 0 0] 52, blk g13 [.int .u64 0, I 0, Str [], I 0, I 0, .slice none 0 0, .slice none 0 0] 52] _
   refine J.d7 rfl (qAG (i := 5) (l := [.int .u64 0, I 0, Str [], I 0, I 0, .slice none 0 0, .slice none 0 0]) (vs := [N64 (y.ep), I ((b : Nat) : Int), Str (y.dig), I ((nm : Nat) : Int), I 0, .slice none 0 0, .slice none 0 0]) rfl rfl rfl rfl rfl qCl rfl rfl) rfl rfl rfl fun _ _ => ?_
   change J _ _ _ [_, _, _, _, _, blk g13 [N64 (y.ep), I ((b : Nat) : Int), Str (y.dig), I ((nm : Nat) : Int), I 0, .slice none 0 0, .slice none 0 0] 52] _
   exact J.b5 <| J.A <| J.b0 (g13) hK7 (trivial) ⟨rfl, rfl, rfl, rfl, rfl, trivial⟩ (fun _ h => h)
  refine J.b2 rfl (qAO (l := [.int .u64 0, I 0, Str [], I 0, I 0, .slice none 0 0, .slice none 0 0]) rfl qDr rfl) rfl (by simp) fun g13 _ => ?_
  change J _ _ _ [F, blk g7 [N64 x.ep, Str (x.par), I (x.dep), I (x.aud), .slice A x.nodes.length c] 39, blk g8 [N64 y.ep, Str (y.par), I (y.dep), I (y.aud), .slice B y.nodes.length e] 39, blk g9 [I ((b : Nat) : Int), I (dp), Str (old), Str (nw), .slice As ns cs] 79, blk g10 [.int .u64 0, I 0, Str [], I 0, I 0, .slice none 0 0, .slice none 0 0] 52, blk g13 [.int .u64 0, I 0, Str [], I 0, I 0, .slice none 0 0, .slice none 0 0] 52] _
  refine J.b2 rfl (qAB rfl rfl ent11 (Ct.use0 (fun F' hF => qBH F' (hK.mo hF) y B e hgy (hsy.mono (hF F (by simp)))))) rfl (by simp) fun g36 _ => J.q rfl (qAM (l := [(0, .tmp 32), (1, .tmp 34), (2, .tmp 36), (3, .tmp 37)]) (vs := [N64 (y.ep), I ((b : Nat) : Int), Str (y.dig), I ((nm : Nat) : Int)]) (places := [(0, 1), (1, 1), (2, 1), (3, 1), (4, 3)]) (r := [N64 (y.ep), I ((b : Nat) : Int), Str (y.dig), I ((nm : Nat) : Int), I 0, .slice none 0 0, .slice none 0 0]) rfl rfl rfl qEX qDr (fun _ => by kernel_rfl) (by kernel_rfl)) rfl rfl <| J.d7 rfl (qAG (i := 5) (l := [.int .u64 0, I 0, Str [], I 0, I 0, .slice none 0 0, .slice none 0 0]) (vs := [N64 (y.ep), I ((b : Nat) : Int), Str (y.dig), I ((nm : Nat) : Int), I 0, .slice none 0 0, .slice none 0 0]) rfl rfl rfl rfl rfl qCl rfl rfl) rfl rfl rfl fun _ _ => ?_
  change J _ _ _ [_, _, _, _, _, blk g13 [N64 (y.ep), I ((b : Nat) : Int), Str (y.dig), I ((nm : Nat) : Int), I 0, .slice none 0 0, .slice none 0 0] 52] _
  exact J.b5 <| J.A <| J.b0 (g13) hK7 (trivial) ⟨rfl, rfl, rfl, rfl, rfl, trivial⟩ (fun _ h => h)
 rintro g13 _
 refine J.g fun K8 hK8 => J.a2 0 qDG qCm rfl rfl rfl rfl rfl <| J.f (qAC 2 (v := N64 y.ep) rfl rfl rfl qDN rfl) rfl <| J.a2 0 qDp z3_ rfl rfl rfl rfl rfl <| J.f (qAC 3 (v := I ((b : Nat) : Int)) rfl rfl rfl b3_ rfl) rfl <| J.f (qAM (l := [(0, .tmp 40), (1, .tmp 42)]) (vs := [N64 (y.ep), I ((b : Nat) : Int)]) (places := [(0, 1), (1, 1)]) (r := [N64 (y.ep), I ((b : Nat) : Int)]) rfl rfl rfl qHV qJB (fun _ => by kernel_rfl) rfl) rfl <| J.p (qAO (l := [.int .u64 0, I 0]) rfl qJB rfl) rfl fun g14 _ => ?_
 change J _ _ _ [F, blk g7 [N64 x.ep, Str (x.par), I (x.dep), I (x.aud), .slice A x.nodes.length c] 39, blk g8 [N64 y.ep, Str (y.par), I (y.dep), I (y.aud), .slice B y.nodes.length e] 39, blk g9 [I ((b : Nat) : Int), I (dp), Str (old), Str (nw), .slice As ns cs] 79, blk g10 [.int .u64 0, I 0, Str [], I 0, I 0, .slice none 0 0, .slice none 0 0] 52, blk g13 [N64 y.ep, I ((b : Nat) : Int), Str (y.dig), I ((nm : Nat) : Int), I 0, .slice none 0 0, .slice none 0 0] 52, blk g14 [.int .u64 0, I 0] 148] _
 refine J.b1 (qAG (i := 6) (l := [.int .u64 0, I 0]) (vs := [N64 (y.ep), I ((b : Nat) : Int)]) rfl rfl rfl rfl rfl sizeOf148 rfl rfl) rfl rfl fun _ _ => ?_
 change J _ _ _ [_, _, _, _, _, _, blk g14 [N64 (y.ep), I ((b : Nat) : Int)] 148] _
 refine J.c hK8 <| J.M 0 10 13 14 ?_
 refine J.k fun K9 hK9 => J.c1 [F, blk g14 [N64 (y.ep), I ((b : Nat) : Int)] 148] [] (.y 0 (.y 1 (.y 2 (.y 3 (.y 4 (.y 5 (.y 6 (.y 7 (.y 8 (.y 9 (.y 10 .nil))))))))))) Tryz.wide (by decide +kernel) (by simp) ?_
 refine J.O ?_
 refine J.q rfl (qAD rfl rfl) rfl rfl <| J.q rfl (qAA (j := 3) rfl rfl qFC rfl sizeOf143 rfl) rfl rfl <| J.q rfl (qAN (v := .map (some gm)) rfl rfl isAgg143 (m := F) (by simp) (hA.at (i := 3) rfl)) rfl rfl <| J.q rfl (qAi 1 rfl rfl rfl isAgg148 sizeOf148 rfl) rfl rfl <| J.q rfl ((qCe (K := plK) (l := mkV Ms) (s := (y.ep, ((b : Nat) : Int))) qMr rfl rfl rfl qLb e9_ (m := F) (by simp) hM).as (v' := .tuple #[Str y.dig, .bool true]) (by rw [qES, hm]; rfl)) rfl rfl <| J.O ?_
 refine J.d0 (Str (y.dig)) ?_
 refine J.d0 (.bool true) ?_
 refine J.b9 ?_
 refine J.b9 ?_
 refine J.b5 <| J.A (J.L hK9 ?_)
 refine J.b3 0 10 13 14 15 16 ?_
 refine J.k fun K10 hK10 => J.a1 <| J.g fun K11 hK11 => J.c4 5 qHN qCl rfl rfl rfl rfl rfl <| J.p (qAB rfl rfl ent22 (Ct.use0 (fun F' hF => qCC F' (hK.mo hF) y.ep b nm y.dig 0 none none 0 0 0 0 h1 h2 h3 h4))) rfl fun g55 _ => J.f ((qBL rfl rfl rfl).no (fun h => by have q := qHJ y.ep b nm y.dig; rw [h] at q; exact absurd q (by decide))) rfl <| J.b rfl <| J.c hK11 <| J.c2 0 10 13 14 15 16 53 ?_
 refine J.a8 ?_
 refine J.g fun K12 hK12 => J.j 3 rfl <| J.T (qAA (j := 2) rfl rfl qEX rfl z9_ rfl) rfl <| J.T (qAC 5 (v := Str (y.dig)) rfl rfl rfl b9_ rfl) rfl <| J.T ((qC5 rfl rfl rfl).no (fun h => h rfl)) rfl <| J.j 2 rfl <| J.c hK12 <| J.b3 0 10 13 14 16 58 ?_
 refine J.a8 ?_
 refine J.g fun K13 hK13 => J.b rfl <| J.p (qAB rfl rfl ent21 (Ct.use0 (fun F' hF => qDP F' ga gs gq cnt gm (hA.mono (hF F (by simp))) gk gb nx (hS.mono (hF F (by simp))) hcn hnx))) rfl fun g69 _ => J.f ((qAV rfl rfl rfl).yes (by omega)) rfl <| J.b rfl <| J.c hK13 <| J.b3 0 10 13 14 16 67 ?_
 refine J.c6 ?_
 refine J.g fun K14 hK14 => J.f (qAM (l := []) (vs := []) (places := [(0, 1), (1, 1), (2, 1), (3, 1), (4, 3)]) (r := [.int .u64 0, I 0, Str [], I 0, I 0, .slice none 0 0, .slice none 0 0]) rfl rfl rfl qEX qDr (fun _ => by kernel_rfl) (by kernel_rfl)) rfl <| J.b1 (qAG (i := 4) (l := [.int .u64 0, I 0, Str [], I 0, I 0, .slice none 0 0, .slice none 0 0]) (vs := [.int .u64 0, I 0, Str [], I 0, I 0, .slice none 0 0, .slice none 0 0]) rfl rfl rfl rfl rfl qCl rfl rfl) rfl rfl fun _ _ => ?_
 change J _ _ _ [_, _, _, _, _, _, _] _
 refine J.b rfl <| J.c hK14 <| J.E 10 11 ?_
 exact J.D <| J.b6 <| J.a3 <| J.b4 hw0 (fun _ _ h => h) (rv2 rfl (RV.blkA 4 rfl rfl qHN qCl) rfl) (qAj () rfl trivial [0] rfl (by decide))
theorem qDO (F : Hp) (ga : Option Addr) (x : Hd) (A : Option Addr) (c : Nat) (hg : x.good) (hsl : Sl F 1 A x.nodes.length c (qAI x.nodes)) (y : Hd) (B : Option Addr) (e : Nat) (hgy : y.good) (hsy : Sl F 1 B y.nodes.length e (qAI y.nodes)) (b : Nat) (dp : Int) (old nw : List UInt8) (As : Option Addr) (ns cs : Nat) (nm : Int) : Ct prog 19 [.pointer none, I (nm), .agg #[N64 x.ep, Str (x.par), I (x.dep), I (x.aud), .slice A x.nodes.length c], .agg #[N64 y.ep, Str (y.par), I (y.dep), I (y.aud), .slice B y.nodes.length e], .agg #[I ((b : Nat) : Int), I (dp), Str (old), Str (nw), .slice As ns cs]] [F] (fun _ : Unit => .tuple #[.agg #[.int .u64 0, I 0, Str [], I 0, I 0, .slice none 0 0, .slice none 0 0], I ((1 : Nat) : Int)]) (fun _ => True) (fun _ => [F]) := by
 refine Ct.walk func19 rfl ntmps19 rfl (fun w0 hw0 => ?_)
 change J _ [(0, _), (1, _), (2, _), (3, _), (4, _)] _ _ _
 refine J.g fun K1 hK1 => J.p (qAf (l := [N64 x.ep, Str (x.par), I (x.dep), I (x.aud), .slice A x.nodes.length c]) rfl rfl rfl) rfl fun g7 _ => ?_
 change J _ _ _ [F, blk g7 [N64 x.ep, Str (x.par), I (x.dep), I (x.aud), .slice A x.nodes.length c] 39] _
 refine J.p (qAf (l := [N64 y.ep, Str (y.par), I (y.dep), I (y.aud), .slice B y.nodes.length e]) rfl rfl rfl) rfl fun g8 _ => ?_
 change J _ _ _ [_, _, blk g8 [N64 y.ep, Str (y.par), I (y.dep), I (y.aud), .slice B y.nodes.length e] 39] _
 refine J.p (qAf (l := [I ((b : Nat) : Int), I (dp), Str (old), Str (nw), .slice As ns cs]) rfl rfl rfl) rfl fun g9 _ => ?_
 change J _ _ _ [_, _, _, blk g9 [I ((b : Nat) : Int), I (dp), Str (old), Str (nw), .slice As ns cs] 79] _
 refine J.p (qAO (l := [.int .u64 0, I 0, Str [], I 0, I 0, .slice none 0 0, .slice none 0 0]) rfl qDr rfl) rfl fun g10 _ => ?_
 change J _ _ _ [_, _, _, _, blk g10 [.int .u64 0, I 0, Str [], I 0, I 0, .slice none 0 0, .slice none 0 0] 52] _
 refine J.b rfl <| J.c hK1 <| J.b3 0 1 7 8 9 10 ?_
 refine J.k fun K2 hK2 => J.g fun K3 hK3 => J.b rfl <| J.f ((qAu qNS rfl rfl rfl).as (v' := .bool true) rfl) rfl <| J.c hK3 <| J.c2 0 1 7 8 9 10 21 ?_
 refine J.c6 ?_
 refine J.g fun K4 hK4 => J.f (qAM (l := []) (vs := []) (places := [(0, 1), (1, 1), (2, 1), (3, 1), (4, 3)]) (r := [.int .u64 0, I 0, Str [], I 0, I 0, .slice none 0 0, .slice none 0 0]) rfl rfl rfl qEX qDr (fun _ => by kernel_rfl) (by kernel_rfl)) rfl <| J.b1 (qAG (i := 4) (l := [.int .u64 0, I 0, Str [], I 0, I 0, .slice none 0 0, .slice none 0 0]) (vs := [.int .u64 0, I 0, Str [], I 0, I 0, .slice none 0 0, .slice none 0 0]) rfl rfl rfl rfl rfl qCl rfl rfl) rfl rfl fun _ _ => ?_
 change J _ _ _ [_, _, _, _, _] _
 refine J.b rfl <| J.c hK4 <| J.E 10 11 ?_
 exact J.D <| J.a3 <| J.b4 hw0 (fun _ _ h => h) (rv2 rfl (RV.blkA 4 rfl rfl qHN qCl) rfl) (qAj () rfl trivial [0] rfl (by decide))
end Go.Proofs.YtfldiegfenndjaaGreatDoor
