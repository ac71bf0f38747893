/- A part of the proof. -/
import Derived.Test.YtfldiegfenndjaaGreatDoorTopCcG8
import Derived.Test.YtfldiegfenndjaaGreatDoorTopCcG21
set_option linter.unusedSimpArgs false
set_option linter.unusedVariables false
namespace Go.Proofs.YtfldiegfenndjaaGreatDoor
open Go Go.Fw Go.Proofs.Tryz
set_option maxRecDepth 100000
set_option maxHeartbeats 1000000
theorem ent96 : qAC prog 96 := qAC.of func96 rfl (by kernel_rfl)
theorem ent99 : qAC prog 99 := qAC.of func99 rfl (by kernel_rfl)
theorem ent101 : qAC prog 101 := qAC.of func101 rfl (by kernel_rfl)
theorem ent102 : qAC prog 102 := qAC.of func102 rfl (by kernel_rfl)
theorem ent149 : qAC prog 149 := qAC.of func149 rfl (by kernel_rfl)
theorem ent150 : qAC prog 150 := qAC.of func150 rfl (by kernel_rfl)
theorem ent186 : qAC prog 186 := qAC.of func186 rfl (by kernel_rfl)
def qGL (bs : List (List UInt8)) (th : Bool) (pk pv k : List UInt8) (d : Nat) : List UInt8 := clm k d bs (if th = true then Sb.leafN pk pv else [0]) bs.length
def qRB (bs : List (List UInt8)) (th : Bool) (pk pv nd k v : List UInt8) (d : Nat) : Bool := th && (decide (pk = k) && (decide (pv = v) && decide (qGL bs th pk pv k d = nd)))
theorem qKE (k v : List UInt8) : (Sb.leafN k v).length ≤ 17 := by unfold Sb.leafN; rw [List.length_cons, Sha.tagged_length]; exact Nat.le_refl _
theorem qPN (F : Hp) (hK : KF F) (A : Option Addr) (c : Nat) (bs : List (List UInt8)) (hs : Sl F 1 A bs.length c (qAL bs)) (th : Bool) (pk pv k : List UInt8) (d : Nat) (hg : qOR bs th pk pv k d) (hpv : pv.length ≤ 1000000) : Ct prog 150 [.agg #[.slice A bs.length c, .bool (th), Str (pk), Str (pv)], Str (k), I ((d : Nat) : Int)] [F] (fun _ : Unit => Str (qGL bs th pk pv k d)) (fun _ => True) (fun _ => [F]) := by
 have hle := hg.le
 have hk16 := hg.k16
 have hsm := hg.small
 refine Ct.walk func150 rfl ntmps150 rfl (fun w0 hw0 => ?_)
 change J _ [(0, _), (1, _), (2, _)] _ _ _
 refine J.g fun K1 hK1 => J.u (qAl (l := [.slice A bs.length c, .bool (th), Str (pk), Str (pv)]) rfl rfl rfl) rfl fun g3 _ => ?_
 change J _ _ _ [F, blk g3 [.slice A bs.length c, .bool (th), Str (pk), Str (pv)] 58] _
 refine J.b rfl <| J.c hK1 <| J.V 1 2 3 ?_
 refine J.k fun K2 hK2 => J.g fun K3 hK3 => J.c7 1 qLp qGd rfl rfl rfl rfl rfl <| J.p 2 rfl <| J.u (qAB rfl rfl ent149 (Ct.use0 (fun F' hF => qNh F' A c bs (hs.mono (hF F (by simp))) th pk pv k d (by assumption)))) rfl fun g11 _ => J.f (qA2 rfl rfl) rfl <| J.c hK3 <| J.W 1 2 3 12 ?_
 refine J.b6 ?_
 refine J.a1 hK2 <| J.V 1 2 3 ?_
 refine J.g fun K4 hK4 => J.b rfl <| J.c hK4 <| J.W 1 2 3 7 ?_
 refine J.k fun K5 hK5 => J.g fun K6 hK6 => J.a8 1 qDX z4_ rfl rfl rfl rfl rfl <| J.f (qAF 1 (v := .bool (th)) rfl rfl rfl b4_ rfl) rfl <| J.c hK6 <| J.a3 1 2 3 7 14 ?_
 refine J.d0 rfl (fun h14 => ?_) (fun h14 => ?_)
 ·
  have hpl := (hg.yes h14).1
  refine J.E <| J.a8 2 qDX z9_ rfl rfl rfl rfl rfl <| J.f (qAF 1 (v := Str (pk)) rfl rfl rfl b9_ rfl) rfl <| J.a8 3 qDX z9_ rfl rfl rfl rfl rfl <| J.f (qAF 1 (v := Str (pv)) rfl rfl rfl b9_ rfl) rfl <| J.u (qAB rfl rfl ent176 (Ct.use0 (fun F' hF => qJh F' (hK.mo hF) pk pv (by first | omega | exact Nat.le_of_ble_eq_true rfl) (by first | omega | exact Nat.le_of_ble_eq_true rfl)))) rfl fun g19 _ => J.b rfl <| J.c hK5 <| J.W 1 2 3 7 ?_
  refine J.g fun K7 hK7 => J.c7 1 qLp qGd rfl rfl rfl rfl rfl <| J.p 3 rfl <| J.u (qAB rfl rfl ent186 (Ct.use0 (fun F' hF => qHx F' (hK.mo hF) A c bs (hs.mono (hF F (by simp))) th pk pv (Sb.leafN pk pv) k d (by assumption) (by assumption) (by assumption) (by first | assumption | exact qKE _ _ | exact Nat.le_of_ble_eq_true rfl)))) rfl fun g24 _ => J.b rfl <| J.c hK7 <| J.A 6 ?_
  exact J.D <| J.L hw0 rfl () (by unfold qGL; first | rw [if_pos (by assumption)] | rw [if_neg (by simp [*])]) trivial [0] rfl (by decide)
 refine J.a1 hK5 <| J.W 1 2 3 7 ?_
 refine J.g fun K8 hK8 => J.c7 1 qLp qGd rfl rfl rfl rfl rfl <| J.p 3 rfl <| J.u (qAB rfl rfl ent186 (Ct.use0 (fun F' hF => qHx F' (hK.mo hF) A c bs (hs.mono (hF F (by simp))) th pk pv ([0]) k d (by assumption) (by assumption) (by assumption) (by first | assumption | exact qKE _ _ | exact Nat.le_of_ble_eq_true rfl)))) rfl fun g24 _ => J.b rfl <| J.c hK8 <| J.A 6 ?_
 exact J.D <| J.L hw0 rfl () (by unfold qGL; first | rw [if_pos (by assumption)] | rw [if_neg (by simp [*])]) trivial [0] rfl (by decide)
theorem qQD (F : Hp) (hK : KF F) (A : Option Addr) (c : Nat) (bs : List (List UInt8)) (hs : Sl F 1 A bs.length c (qAL bs)) (th : Bool) (pk pv k : List UInt8) (d : Nat) (hg : qOR bs th pk pv k d) (nd v : List UInt8) (hpv : pv.length ≤ 1000000) : Ct prog 104 [.agg #[.slice A bs.length c, .bool (th), Str (pk), Str (pv)], Str (nd), Str (k), Str (v), I ((d : Nat) : Int)] [F] (fun _ : Unit => .bool (qRB bs th pk pv nd k v d)) (fun _ => True) (fun _ => [F]) := by
 have hle := hg.le
 have hk16 := hg.k16
 have hsm := hg.small
 refine Ct.walk func104 rfl ntmps104 rfl (fun w0 hw0 => ?_)
 change J _ [(0, _), (1, _), (2, _), (3, _), (4, _)] _ _ _
 refine J.g fun K1 hK1 => J.u (qAl (l := [.slice A bs.length c, .bool (th), Str (pk), Str (pv)]) rfl rfl rfl) rfl fun g5 _ => ?_
 change J _ _ _ [F, blk g5 [.slice A bs.length c, .bool (th), Str (pk), Str (pv)] 58] _
 refine J.b rfl <| J.c hK1 <| J.a3 1 2 3 4 5 ?_
 refine J.g fun K2 hK2 => J.c7 1 qLp qGd rfl rfl rfl rfl rfl <| J.p 2 rfl <| J.u (qAB rfl rfl ent149 (Ct.use0 (fun F' hF => qNh F' A c bs (hs.mono (hF F (by simp))) th pk pv k d (by assumption)))) rfl fun g14 _ => J.b rfl <| J.O (qAA (j := 1) rfl rfl qDX rfl z4_ rfl) rfl <| J.O (qAF 1 (v := .bool (th)) rfl rfl rfl b4_ rfl) rfl <| J.p 2 rfl <| J.f8 (d := 19) rfl (fun h19 => ?_) (fun h19 => ?_)
 ·
  refine J.O (qAA (j := 2) rfl rfl qDX rfl z9_ rfl) rfl <| J.O (qAF 1 (v := Str (pk)) rfl rfl rfl b9_ rfl) rfl <| J.b rfl <| J.O (qBM rfl rfl rfl) rfl <| J.p 2 rfl <| J.c3 (d := 25) rfl (fun h25 => ?_) (fun h25 => ?_)
  ·
   refine J.O (qAA (j := 3) rfl rfl qDX rfl z9_ rfl) rfl <| J.O (qAF 1 (v := Str (pv)) rfl rfl rfl b9_ rfl) rfl <| J.b rfl <| J.O (qBM rfl rfl rfl) rfl <| J.p 2 rfl <| J.c3 (d := 31) rfl (fun h31 => ?_) (fun h31 => ?_)
   ·
    refine J.O (qAk 1 rfl rfl rfl qLp qGd rfl) rfl <| J.p 2 rfl <| J.d7 (qAB rfl rfl ent150 (Ct.use0 (fun F' hF => qPN F' (hK.mo hF) A c bs (hs.mono (hF F (by simp))) th pk pv k d (by assumption) (by assumption)))) rfl fun g35 _ => J.b rfl <| J.O (qBM rfl rfl rfl) rfl <| J.p 2 rfl <| J.c hK2 <| J.A 10 ?_
    exact J.D <| J.L hw0 rfl () (by unfold qRB; simp [*]) trivial [0] rfl (by decide)
   refine J.p 8 rfl <| J.c hK2 <| J.A 10 ?_
   exact J.D <| J.L hw0 rfl () (by unfold qRB; simp [*]) trivial [0] rfl (by decide)
  refine J.p 14 rfl <| J.c hK2 <| J.A 10 ?_
  exact J.D <| J.L hw0 rfl () (by unfold qRB; simp [*]) trivial [0] rfl (by decide)
 refine J.p 20 rfl <| J.c hK2 <| J.A 10 ?_
 exact J.D <| J.L hw0 rfl () (by unfold qRB; simp [*]) trivial [0] rfl (by decide)
theorem qH6 (F : Hp) (k : List UInt8) (hk : k.length ≤ 1000000) (pb pd : Nat) (b : List UInt8) (d : Int) (hpb : qAV F ⟨pb, 0, none⟩ [Str b]) (hpd : qAV F ⟨pd, 0, none⟩ [I d]) (hb : b.length ≤ 1000000) : Ct prog 99 [Str (k), Ptr pb, Ptr pd] [F] (fun _ : Unit => .bool (nbl b d k)) (fun _ => True) (fun _ => [F]) := by
 refine Ct.walk func99 rfl ntmps99 rfl (fun w0 hw0 => ?_)
 change J _ [(0, _), (1, _), (2, _)] _ _ _
 refine J.g fun K1 hK1 => J.b rfl <| J.c hK1 <| J.V 0 1 2 ?_
 refine J.g fun K2 hK2 => J.b rfl <| J.f (qAK (v := Str (b)) rfl rfl b9_ (m := F) (by simp) (hpb)) rfl <| J.f (qAK (v := I (d)) rfl rfl b3_ (m := F) (by simp) (hpd)) rfl <| J.u (qAB rfl rfl ent100 (Ct.use0 (fun F' hF => qEF F' k (by omega) b (by omega) d))) rfl fun g8 _ => J.f (qA2 rfl rfl) rfl <| J.b rfl <| J.c hK2 <| J.A 4 ?_
 exact J.D <| J.L hw0 rfl () (by unfold nbl; rfl) trivial [0] rfl (by decide)
theorem qO0 (F : Hp) (A : Option Addr) (n c : Nat) (ks : List (List UInt8)) (hs : Sl F 1 A n c (qAL ks)) (hn : n ≤ 1000000) (hsm : ∀ k : Nat, (ks.getD k []).length ≤ 1000000) (pb pd : Nat) (b : List UInt8) (d : Int) (hpb : qAV F ⟨pb, 0, none⟩ [Str b]) (hpd : qAV F ⟨pd, 0, none⟩ [I d]) (hb : b.length ≤ 1000000) : Ct prog 146 [.slice A n c, .func (.func 99) #[] #[Ptr pb, Ptr pd]] [F] (fun _ : Unit => I (ixS (nbl b d) ks)) (fun _ => True) (fun _ => [F]) := by
 have hkn : ks.length = n := by have := hs.1; simpa [qAL] using this
 refine Ct.walk func146 rfl ntmps146 rfl (fun w0 hw0 => ?_)
 change J _ [(0, _), (1, _)] _ _ _
 refine J.g fun K1 hK1 => J.b rfl <| J.c hK1 <| J.M 0 1 ?_
 refine J.k fun K2 hK2 => J.g fun K3 hK3 => J.b rfl <| J.f (qAZ qAn rfl rfl) rfl <| J.b rfl <| J.c hK3 <| J.W 0 1 7 8 ?_
 refine J.T <| J.b2 (X := Nat) (fun ζ => [(0, .slice A n c), (1, .func (.func 99) #[] #[Ptr pb, Ptr pd]), (7, I ((n : Nat) : Int)), (8, I ((ζ : Nat) : Int))]) (fun ζ => [F]) (fun ζ => ζ ≤ n ∧ ∀ j < ζ, nbl b d (ks.getD j []) = false) (fun ζ => n - ζ) 0 (⟨Nat.zero_le _, fun j h => absurd h (Nat.not_lt_zero j)⟩) ⟨rfl, rfl, rfl, rfl, trivial⟩ (fun _ h => h) ?_
 rintro k ⟨hk, hno⟩ I0 hI0
 refine J.g fun K4 hK4 => J.f (qAS rfl rfl rfl) rfl <| J.c hK4 <| J.a3 0 1 7 8 9 ?_
 refine J.k fun K5 hK5 => J.a0 rfl (fun h9 => ?_) (fun h9 => ?_)
 ·
  refine J.a1 hK5 <| J.W 0 1 7 8 ?_
  refine J.k fun K6 hK6 => J.T <| J.g fun K7 hK7 => J.p 2 rfl <| J.c hK7 <| J.a3 0 1 5 7 8 ?_
  refine J.g fun K8 hK8 => J.p 3 rfl <| J.f (qAG (i := k) rfl rfl rfl qAn z9_ hs (by omega)) rfl <| J.f (qAK rfl rfl b9_ (m := F) (by simp) (hs.elem (qAa (qAi [] (by omega))))) rfl <| J.u (qCv rfl rfl rfl ent99 (Ct.use0 (fun F' hF => qH6 F' (ks.getD k []) (by first | omega | (exact hsm _)) pb pd b d (hpb.mono (hF F (by simp))) (hpd.mono (hF F (by simp))) (by omega)))) rfl fun g16 _ => J.c hK8 <| J.a9 0 1 5 7 8 16 ?_
  refine J.d0 rfl (fun h16 => ?_) (fun h16 => ?_)
  ·
   refine J.g fun K9 hK9 => J.p 2 rfl <| J.c hK9 <| J.A 4 ?_
   exact J.D <| J.b3 <| J.a5 <| J.a5 <| J.b3 <| J.a5 <| J.L hw0 rfl () (by rw [qRA (k := k) (by omega) (by simpa using h16) hno]) trivial [0] rfl (by decide)
  refine J.b7 <| J.a4 <| J.q (J.H hK6 ?_)
  refine J.W 0 1 7 8 ?_
  exact J.E <| J.f ((qAO rfl rfl rfl (by omega)).nat (k + 1) (by omega)) rfl <| J.b rfl <| J.a2 <| J.q <| J.a6 (k + 1) (fun η (hη : _ ∧ n - η < n - k) => hI0 η hη.1 hη.2) ⟨⟨by omega, fun j hj => by rcases Nat.lt_succ_iff_lt_or_eq.1 hj with h | rfl; exact hno j h; simpa using h16⟩, by first | omega | (dsimp only; omega)⟩ ⟨rfl, rfl, rfl, rfl, trivial⟩ (fun _ h => h)
 refine J.b0 <| J.Z <| J.Z <| J.b1 ?_
 refine J.q (J.H hK2 ?_)
 refine J.c6 [] trivial <| J.g fun K10 hK10 => J.b rfl <| J.c hK10 <| J.A 4 ?_
 exact J.D <| J.L hw0 rfl () (by rw [qQ8 (fun j hj => hno j (by omega))]) trivial [0] rfl (by decide)
theorem qO2 (F m : Hp) (A : Option Addr) (n c : Nat) (ks : List (List UInt8)) (hr : Row m 9 1 A n c (qAL ks)) (hn : n ≤ 1000000) (hsm : ∀ k : Nat, (ks.getD k []).length ≤ 1000000) (pb pd : Nat) (b : List UInt8) (d : Int) (hpb : qAV F ⟨pb, 0, none⟩ [Str b]) (hpd : qAV F ⟨pd, 0, none⟩ [I d]) (hb : b.length ≤ 1000000) :
    Ct prog 97 [.slice A n c, .func (.func 99) #[] #[Ptr pb, Ptr pd]] [m, F] (fun _ : Hp => .slice A (ks.filter fun k => !nbl b d k).length c) (fun m' => Row m' 9 1 A (ks.filter fun k => !nbl b d k).length c (qAL (ks.filter fun k => !nbl b d k))) (fun m' => [m', F]) := by
  have hkn : ks.length = n := by have := hr.len; simpa [qAL] using this
  have hnc := hr.2.2.1
  refine Ct.walk func97 rfl ntmps97 rfl (fun w0 hw0 => ?_)
  change J _ [(0, _), (1, _)] _ _ _
  refine J.g fun K1 hK1 => J.b rfl <| J.c hK1 <| J.M 0 1 ?_
  refine J.g fun K2 hK2 => J.p 2 rfl <| J.u (qAB rfl rfl ent146 (Ct.use0 (fun F' hF => qO0 F' A n c ks (hr.sl.mono (hF m (by simp))) (by omega) (hsm) pb pd b d (hpb.mono (hF F (by simp))) (hpd.mono (hF F (by simp))) (by omega)))) rfl fun g10 _ => J.b rfl <| J.c hK2 <| J.V 0 1 5 ?_
  refine J.k fun K3 hK3 => J.g fun K4 hK4 => J.b rfl <| J.f (qAd rfl rfl rfl) rfl <| J.c hK4 <| J.W 0 1 5 12 ?_
  refine J.a0 rfl (fun h12 => ?_) (fun h12 => ?_)
  ·
    refine J.g fun K5 hK5 => J.p 2 rfl <| J.c hK5 <| J.A 4 ?_
    refine J.D <| J.a5 ?_
    have hf : (ks.filter fun k => !nbl b d k) = ks := qKH h12
    exact J.L hw0 rfl m (by rw [hf, hkn]) (by rw [hf, hkn]; exact hr) [0, 1] rfl (by decide)
  refine J.a1 hK3 <| J.V 0 1 5 ?_
  refine J.k fun K6 hK6 => J.k fun K7 hK7 => ?_
  obtain ⟨i0, h5, hi0, hf0⟩ := qQ9 h12
  obtain ⟨ga, rfl⟩ := hr.at (by omega)
  rw [h5]
  refine J.E <| J.b rfl <| J.f ((qAO rfl rfl rfl (by omega)).nat (i0 + 1) (by omega)) rfl <| J.b rfl <| J.c hK7 <| J.W 0 1 5 6 ?_
  refine J.T <| J.b2 (X := Nat × Nat × List (List UInt8) × Hp) (fun ζ => [(0, .slice (some ⟨ga, 0, none⟩) n c), (1, .func (.func 99) #[] #[Ptr pb, Ptr pd]), (5, I ((ζ.1 : Nat) : Int)), (6, I ((ζ.2.1 : Nat) : Int))]) (fun ζ => [ζ.2.2.2, F]) (fun ζ => ζ.1 < ζ.2.1 ∧ ζ.2.1 ≤ n ∧ ζ.2.2.1.length = n ∧ ζ.2.2.1.take ζ.1 = (ks.take ζ.2.1).filter (fun k => !nbl b d k) ∧ ζ.2.2.1.drop ζ.2.1 = ks.drop ζ.2.1 ∧ Row ζ.2.2.2 9 1 (some ⟨ga, 0, none⟩) n c (qAL ζ.2.2.1)) (fun ζ => n - ζ.2.1) (i0, i0 + 1, ks, m) (⟨by dsimp only; omega, by dsimp only; omega, hkn, hf0, rfl, hr⟩) ⟨rfl, rfl, rfl, rfl, trivial⟩ (fun _ h => h) ?_
  rintro ⟨w, j, L, m⟩ ⟨hw, hj, hL, hA, hB, hr⟩ I0 hI0
  dsimp only at hw hj hL hA hB hr ⊢
  refine J.k fun K8 hK8 => J.g fun K9 hK9 => J.p 2 rfl <| J.f (qAZ qAn rfl rfl) rfl <| J.f (qAS rfl rfl rfl) rfl <| J.c hK9 <| J.a3 0 1 5 6 19 ?_
  refine J.a0 rfl (fun h19 => ?_) (fun h19 => ?_)
  ·
    refine J.a1 hK8 <| J.W 0 1 5 6 ?_
    refine J.k fun K10 hK10 => J.T <| J.g fun K11 hK11 => J.p 2 rfl <| J.f (qAJ (i := j) (j := 0 + j * 1) rfl rfl rfl qAn z9_ (by omega) (by omega)) rfl ?_
    have hnw : w < j := hw
    refine J.f (qAK rfl rfl b9_ (m := m) (by simp) (hr.sl.cells (qAa (qAi [] (by omega))))) rfl <| J.b rfl <| J.c hK11 <| J.a3 0 1 5 6 7 ?_
    refine J.k fun K12 hK12 => ?_
    have hgj : (L.getD j []).length ≤ 1000000 := by
      have e0 := congrArg (fun z => z.getD 0 []) hB
      have e1 : L.getD j [] = ks.getD j [] := by simpa [List.getD_eq_getElem?_getD, List.getElem?_drop] using e0
      rw [e1]; exact hsm j
    refine J.E <| J.p 2 rfl <| J.u (qCv rfl rfl rfl ent99 (Ct.use0 (fun F' hF => qH6 F' (L.getD j []) (by first | omega | (exact hsm _)) pb pd b d (hpb.mono (hF F (by simp))) (hpd.mono (hF F (by simp))) (by omega)))) rfl fun g28 _ => J.f (qA2 rfl rfl) rfl <| J.c hK12 <| J.a9 0 1 5 6 7 29 ?_
    refine J.d0 rfl (fun h29 => ?_) (fun h29 => ?_)
    ·
      refine J.g fun K13 hK13 => J.p 3 rfl <| J.f (qAJ (i := w) (j := 0 + w * 1) rfl rfl rfl qAn z9_ (by omega) (by omega)) rfl <| J.c1 (qA9 (i := 0) (k := w) (off := 0) (b := [Str (L.getD j [])]) rfl rfl rfl rfl hr (vs := [Str (L.getD j [])]) rfl z9_ rfl (by omega) (qAa (qAi [] (by omega))) rfl (Nat.le_refl _)) rfl rfl ?_
      rintro m9_1 hm9_1
      change J _ _ _ [m9_1, F] _
      rw [qFA] at hm9_1
      refine J.c hK13 <| J.W 0 1 5 6 ?_
      refine J.E <| J.b rfl <| J.f ((qAO rfl rfl rfl (by omega)).nat (w + 1) (by omega)) rfl <| J.b rfl <| J.a2 <| J.a4 <| J.q (J.H hK10 ?_)
      refine J.W 0 1 5 6 ?_
      exact J.E <| J.b rfl <| J.f ((qAO rfl rfl rfl (by omega)).nat (j + 1) (by omega)) rfl <| J.b rfl <| J.a2 <| J.q <| J.a6 (w + 1, j + 1, L.set w (L.getD j []), m9_1) (fun η (hη : _ ∧ n - η.2.1 < n - j) => hI0 η hη.1 hη.2) ⟨⟨by dsimp only; omega, by dsimp only; omega, by dsimp only; rw [List.length_set]; exact hL, (qEw hw (by omega) (by omega) hA hB (by simpa using h29)).1, (qEw hw (by omega) (by omega) hA hB (by simpa using h29)).2, by assumption⟩, by first | omega | (dsimp only; omega)⟩ ⟨rfl, rfl, rfl, rfl, trivial⟩ (fun _ h => h)
    refine J.b7 <| J.a4 <| J.q (J.H hK10 ?_)
    refine J.W 0 1 5 6 ?_
    exact J.E <| J.b rfl <| J.f ((qAO rfl rfl rfl (by omega)).nat (j + 1) (by omega)) rfl <| J.b rfl <| J.a2 <| J.q <| J.a6 (w, j + 1, L, m) (fun η (hη : _ ∧ n - η.2.1 < n - j) => hI0 η hη.1 hη.2) ⟨⟨by dsimp only; omega, by dsimp only; omega, hL, (qEx (by omega) hA hB (by simpa using h29)).1, (qEx (by omega) hA hB (by simpa using h29)).2, hr⟩, by first | omega | (dsimp only; omega)⟩ ⟨rfl, rfl, rfl, rfl, trivial⟩ (fun _ h => h)
  refine J.b0 <| J.Z <| J.Z <| J.b1 ?_
  refine J.q (J.H hK6 ?_)
  refine J.M 0 5 ?_
  refine J.g fun K14 hK14 => J.p 2 rfl <| J.f (qCu (l := w) (h := n) rfl rfl qAn z9_ rfl rfl (by omega)) rfl <| J.c1 (qD5 (i := 0) (l := w) (h := n) rfl rfl (by split <;> simp [Addr.add_lit]) qAn el9 rfl rfl rfl (hr.shrink (by omega)) rfl (by omega) (by omega)) rfl rfl ?_
  rintro mc hmc
  change J _ _ _ [mc, F] _
  refine J.c hK14 <| J.M 0 5 ?_
  refine J.g fun K15 hK15 => J.p 2 rfl <| J.f (qCe (h := w) rfl rfl qAn z9_ rfl (by omega)) rfl <| J.b rfl <| J.c hK15 <| J.A 4 ?_
  refine J.D ?_
  have hfl : (ks.filter fun k => !nbl b d k) = L.take w := by rw [hA, List.take_of_length_le (by omega)]
  have hfw : (ks.filter fun k => !nbl b d k).length = w := by rw [hfl, List.length_take]; omega
  rw [qDL, ← hfl] at hmc
  exact J.L hw0 rfl mc (by rw [hfw]) (by rw [hfw]; exact hmc) [0, 1] rfl (by decide)
theorem qQK (F : Hp) (A : Option Addr) (n c : Nat) (ks : List (List UInt8)) (hs : Sl F 1 A n c (qAL ks)) (hn : n ≤ 1000000) : Ct prog 98 [.slice A n c] [F] (fun x : Option Addr × Nat × Hp => .slice x.1 (ks).length x.2.1) (fun x => Row x.2.2 9 1 x.1 (ks).length x.2.1 (qAL ks)) (fun x => [F, x.2.2]) := by
 have hkn : ks.length = n := by have := hs.1; simpa [qAL] using this
 refine Ct.walk func98 rfl ntmps98 rfl (fun w0 hw0 => ?_)
 change J _ [(0, _)] _ _ _
 refine J.g fun K1 hK1 => J.b rfl <| J.c hK1 <| J.A 0 ?_
 refine J.k fun K2 hK2 => J.g fun K3 hK3 => J.b rfl <| J.f ((qPQ qAn rfl rfl rfl).as (v' := .bool (decide (A.isNone = true))) (congrArg Value.bool (by cases A <;> rfl))) rfl <| J.c hK3 <| J.M 0 4 ?_
 refine J.a0 rfl (fun h4 => ?_) (fun h4 => ?_)
 ·
  refine J.g fun K4 hK4 => J.b rfl <| J.c hK4 <| J.A 2 ?_
  refine J.D <| J.a5 ?_
  have hk0 : ks = [] := by
   refine List.eq_nil_of_length_eq_zero ?_
   rcases Nat.eq_zero_or_pos n with h | h
   · omega
   · obtain ⟨g, o, rfl⟩ := hs.at h; cases h4
  exact J.d6 [0, 1] [F, (fun _ => none)] rfl (by decide) <| J.L hw0 rfl (none, 0, (fun _ => none)) (by rw [hk0]; rfl) (by rw [hk0]; exact qB5.nil) [0, 1] rfl (by decide)
 refine J.a1 hK2 <| J.A 0 ?_
 refine J.g fun K5 hK5 => J.u (qDc rfl qAn el9) rfl fun g5 _ => ?_
 change J _ _ _ [F, blk g5 [] 9] _
 refine J.b rfl <| J.u (qAb (i := 1) (xs := qAL ([])) (m2 := F) (ys := qAL ks) rfl rfl rfl qAn qAn el9 rfl (qAr (q := True) (xs := qAL ([])) rfl (by intro x hx; first | exact absurd hx (List.not_mem_nil) | (rw [List.mem_singleton.1 hx]; rfl))) (by simp) (hs) (qCN _) (by omega) (by omega)) rfl ?_
 rintro ⟨A7, c7, m7⟩ h7
 try dsimp only at h7
 change J _ ((7, .slice A7 (0 + n) c7) :: _) _ [_, m7] _
 replace h7 : Row m7 9 1 A7 (0 + n) c7 (qAL (ks)) := h7
 refine J.b rfl <| J.c hK5 <| J.A 2 ?_
 refine J.D ?_
 rw [show 0 + n = ks.length by omega] at h7
 exact J.L hw0 rfl (A7, c7, m7) (by rw [← hkn, Nat.zero_add]) h7 [0, 1] rfl (by decide)
theorem qHt (F : Hp) (d : Int) (p9 p4 : Nat) (A : Option Addr) (n c : Nat) (ks : List (List UInt8)) (hs : Sl F 1 A n c (qAL ks)) (h9 : qAV F ⟨p9, 0, none⟩ [.slice A n c]) (b : List UInt8) (h4 : qAV F ⟨p4, 0, none⟩ [Str b]) (hn : n ≤ 1000000) (hb : b.length ≤ 1000000) (hsm : ∀ k : Nat, (ks.getD k []).length ≤ 1000000) : Ct prog 96 [I (d), Ptr p9, Ptr p4] [F] (fun x : Option Addr × Nat × Hp => .slice x.1 (ks.filter (fun q => !nbl b d q)).length x.2.1) (fun x => Row x.2.2 9 1 x.1 (ks.filter (fun q => !nbl b d q)).length x.2.1 (qAL (ks.filter (fun q => !nbl b d q)))) (fun x => [F, x.2.2]) := by
 have hkn : ks.length = n := by have := hs.1; simpa [qAL] using this
 refine Ct.walk func96 rfl ntmps96 rfl (fun w0 hw0 => ?_)
 change J _ [(0, _), (1, _), (2, _)] _ _ _
 refine J.g fun K1 hK1 => J.u (qAl (l := [I (d)]) rfl rfl rfl) rfl fun g3 _ => ?_
 change J _ _ _ [F, blk g3 [I (d)] 3] _
 refine J.b rfl <| J.c hK1 <| J.V 1 2 3 ?_
 refine J.g fun K2 hK2 => J.f (qAK (v := .slice A n c) rfl rfl qDq (m := F) (by simp) (h9)) rfl <| J.u (qAB rfl rfl ent98 (Ct.use (new := fun x : Option Addr × Nat × Hp => [x.2.2]) (fun F' hF => qQK F' A n c ks (hs.mono (hF F (by simp))) (by omega)))) rfl ?_
 rintro ⟨A6, c6, m6⟩ h6
 try dsimp only at h6
 change J _ ((6, .slice A6 (ks).length c6) :: _) _ [_, _, m6] _
 refine J.f (qBh rfl rfl) rfl <| J.u (qAB rfl rfl ent97 (Ct.use1 2 (m' := fun x : Hp => x) (new := fun _ => []) rfl (fun F' hF => qO2 F' m6 A6 ks.length c6 ks h6 (by omega) hsm p4 g3 b d (h4.mono (hF F (by simp))) (qAV.blk0.mono (hF (blk g3 [I (d)] 3) (by simp))) hb))) rfl ?_
 rintro m8 h8
 change J _ ((8, .slice A6 (ks.filter fun q => !nbl b d q).length c6) :: _) _ [_, _, m8] _
 refine J.b rfl <| J.c hK2 <| J.A 4 ?_
 exact J.D <| J.L hw0 rfl (A6, c6, m8) rfl h8 [0, 2] rfl (by decide)
theorem qUD (l : List Sm.PR) (k : List UInt8) {d : Nat} (hd : d ≤ 128) : (Sm.keysS l).filter (fun q => !nbl k ((d : Nat) : Int) q) = kd l k d := by
 unfold kd nbl
 refine List.filter_congr fun q _ => ?_
 rw [Bool.not_not, Int.toNat_natCast, Nat.min_eq_left hd]
theorem qSt (l : List Sm.PR) (k : List UInt8) {d : Nat} (hd : d + 1 ≤ 128) : (kd l k d).filter (fun q => !nbl k ((d + 1 : Nat) : Int) q) = kd l k (d + 1) := by
 rw [← qSl]
 refine List.filter_congr fun q _ => ?_
 unfold nbl
 rw [Bool.not_not, Int.toNat_natCast, Nat.min_eq_left hd]
theorem qP4 {l : List Sm.PR} (hf : qE1 l) (k : List UInt8) (d j : Nat) : ((kd l k d).getD j []).length ≤ 1000000 := by
  by_cases hj : j < (kd l k d).length
  · rw [List.getD_eq_getElem?_getD, List.getElem?_eq_getElem hj]
    obtain ⟨⟨v, hv⟩, _⟩ := qQ7 (List.getElem_mem hj)
    show ((kd l k d)[j]).length ≤ 1000000
    rw [show (kd l k d)[j].length = 16 from hf.k16 _ hv]; decide
  · rw [List.getD_eq_getElem?_getD, List.getElem?_eq_none (by omega)]; decide
theorem qT8 (l : List Sm.PR) (k : List UInt8) (d : Nat) : (kd l k d).length ≤ l.length := by
 have := List.length_filter_le (fun q => Sm.belowB q k d) (Sm.keysS l)
 rw [Sm.keysS_len] at this; exact this
theorem qGy (F : Hp) (hK : KF F) (g : Nat) (l : List Sm.PR) (hT : qEX F g l) (hf : qE1 l) (k : List UInt8) (hk : k.length = 16) (d : Nat) (hd : d ≤ 128) :
    Ct prog 47 [Ptr g, Str k, I ((d : Nat) : Int)] [F] (fun x : Nat × Option Addr × Nat × Hp => .tuple #[.agg #[.slice x.2.1 (bsd l k d (x.1 - d)).length x.2.2.1, .bool (qAv l k x.1), Str (qCT l k x.1), Str (qCd l k x.1)], I 0]) (fun x => qLz l k d x.1 ∧ Row x.2.2.2 9 1 x.2.1 (bsd l k d (x.1 - d)).length x.2.2.1 (qAL (bsd l k d (x.1 - d)))) (fun x => [F, x.2.2.2]) := by
  have hln := hf.few
  have hkl := Sm.keysS_len l
  have hsm := qFb hf.k16
  have hk0 := qUD l k hd
  have hkd0 := qT8 l k d
  refine Ct.walk func47 rfl ntmps47 rfl (fun w0 hw0 => ?_)
  change J _ [(0, _), (1, _), (2, _)] _ _ _
  refine J.g fun K1 hK1 => J.u (qAl (l := [Str (k)]) rfl rfl rfl) rfl fun g4 _ => ?_
  change J _ _ _ [F, blk g4 [Str (k)] 9] _
  refine J.u (qAf (l := [.slice none 0 0, .bool false, Str [], Str []]) rfl qUL rfl) rfl fun g6 _ => ?_
  change J _ _ _ [_, _, blk g6 [.slice none 0 0, .bool false, Str [], Str []] 58] _
  refine J.b rfl <| J.c hK1 <| J.W 0 2 4 6 ?_
  refine J.k fun K2 hK2 => J.g fun K3 hK3 => J.f (qAF 1 (v := Str (k)) rfl rfl rfl b9_ rfl) rfl <| J.b rfl <| J.u (qAB rfl rfl ent94 (Ct.use0 (fun F' hF => qHu F' k ((d : Nat) : Int)))) rfl fun g14 _ => J.f ((qA2 rfl rfl).as (v' := .bool false) (by rw [decide_eq_true (show k.length = 16 ∧ (0 : Int) ≤ ((d : Nat) : Int) ∧ ((d : Nat) : Int) ≤ 128 from ⟨hk, by omega, by omega⟩)]; rfl)) rfl <| J.c hK3 <| J.a3 0 2 4 6 15 ?_
  refine J.b6 ?_
  refine J.a1 hK2 <| J.W 0 2 4 6 ?_
  refine J.g fun K4 hK4 => J.u (qAf (l := [.slice none 0 0, .bool false, Str [], Str []]) rfl qUL rfl) rfl fun g8 _ => ?_
  change J _ _ _ [_, _, _, blk g8 [.slice none 0 0, .bool false, Str [], Str []] 58] _
  refine J.c hK4 <| J.a3 0 2 4 6 8 ?_
  refine J.g fun K5 hK5 => J.b rfl <| J.u (qAB rfl rfl ent95 (Ct.use (new := fun x : Option Addr × Nat × Hp => [x.2.2]) (fun F' hF => qJc F' g l (hT.mono (hF F (by simp))) (by omega)))) rfl ?_
  rintro ⟨A18, c18, m18⟩ h18
  try dsimp only at h18
  change J _ ((18, .slice A18 (Sm.keysS l).length c18) :: _) _ [_, _, _, _, m18] _
  refine J.u (qAf (l := [.slice none 0 0]) rfl zeroValue37 rfl) rfl fun g9 _ => ?_
  change J _ _ _ [_, _, _, _, _, blk g9 [.slice none 0 0] 37] _
  refine J.c1 (qAR (i := 5) (l := [.slice none 0 0]) (vs := [.slice A18 ((Sm.keysS l).length) c18]) rfl rfl rfl rfl rfl qEZ rfl rfl) rfl rfl fun _ _ => ?_
  change J _ _ _ [_, _, _, _, _, blk g9 [.slice A18 ((Sm.keysS l).length) c18] 37] _
  refine J.c hK5 <| J.a9 0 2 4 6 8 9 ?_
  refine J.g fun K6 hK6 => J.f (qBh rfl rfl) rfl <| J.b rfl <| J.c hK6 <| J.b9 0 2 4 6 8 9 10 ?_
  refine J.g fun K7 hK7 => J.p 2 rfl <| J.u (qCv rfl rfl rfl ent96 (Ct.use (new := fun x : Option Addr × Nat × Hp => [x.2.2]) (fun F' hF => qHt F' ((d : Nat) : Int) g9 g4 A18 ((Sm.keysS l).length) c18 (Sm.keysS l) (h18.sl.mono (hF m18 (by simp))) (qAV.blk0.mono (hF (blk g9 [.slice A18 ((Sm.keysS l).length) c18] 37) (by simp))) k (qAV.blk0.mono (hF (blk g4 [Str (k)] 9) (by simp))) (by omega) (by omega) (by assumption)))) rfl ?_
  rintro ⟨A22, c22, m22⟩ h22
  try dsimp only at h22
  change J _ ((22, .slice A22 ((Sm.keysS l).filter (fun q => !nbl k ((d : Nat) : Int) q)).length c22) :: _) _ [_, _, _, _, _, _, m22] _
  rw [hk0] at h22 ⊢
  refine J.c1 (qAR (i := 5) (l := [.slice A18 ((Sm.keysS l).length) c18]) (vs := [.slice A22 ((kd l k (d)).length) c22]) rfl rfl rfl rfl rfl qEZ rfl rfl) rfl rfl fun _ _ => ?_
  change J _ _ _ [_, _, _, _, _, blk g9 [.slice A22 ((kd l k (d)).length) c22] 37, _] _
  refine J.c hK7 <| J.b9 0 2 4 6 8 9 10 ?_
  refine J.k fun K8 hK8 => J.g fun K9 hK9 => J.p 2 rfl <| J.c hK9 <| J.b9 0 4 6 8 9 10 11 ?_
  refine J.T <| J.b2 (X := Nat × Option Addr × Nat × Hp × Option Addr × Nat × Hp) (fun ζ => [(0, Ptr g), (4, Ptr g4), (6, Ptr g6), (8, Ptr g8), (9, Ptr g9), (10, .func (.func 96) #[] #[Ptr g9, Ptr g4]), (11, I ((d + ζ.1 : Nat) : Int))]) (fun ζ => [F, blk g4 [Str (k)] 9, blk g6 [.slice none 0 0, .bool false, Str [], Str []] 58, blk g8 [.slice ζ.2.2.2.2.1 (bsd l k d (ζ.1)).length ζ.2.2.2.2.2.1, .bool false, Str [], Str []] 58, blk g9 [.slice ζ.2.1 (kd l k (d + ζ.1)).length ζ.2.2.1] 37, ζ.2.2.2.1, ζ.2.2.2.2.2.2]) (fun ζ => d + ζ.1 ≤ 128 ∧ (∀ x, d ≤ x → x < d + ζ.1 → 2 ≤ (cur l k x).length) ∧ Row ζ.2.2.2.1 9 1 ζ.2.1 (kd l k (d + ζ.1)).length ζ.2.2.1 (qAL (kd l k (d + ζ.1))) ∧ Row ζ.2.2.2.2.2.2 9 1 ζ.2.2.2.2.1 (bsd l k d (ζ.1)).length ζ.2.2.2.2.2.1 (qAL (bsd l k d (ζ.1)))) (fun ζ => 128 - (d + ζ.1)) (0, A22, c22, m22, none, 0, (fun _ => none)) (⟨hd, fun x h1 h2 => absurd h2 (by omega), h22, qB5.nil⟩) ⟨rfl, rfl, rfl, rfl, rfl, rfl, rfl, trivial⟩ (fun _ h => h.empty.pick [0, 1, 2, 3, 5, 6, 7] (by decide)) ?_
  rintro ⟨n, A9, c9, m9, Ab, cb, mb⟩ ⟨he, htw, hr9, hrb⟩ I0 hI0
  dsimp only at he htw hr9 hrb ⊢
  have hbl := qCy l k d n
  refine J.k fun K10 hK10 => J.g fun K11 hK11 => J.f (qAF 4 (v := .slice A9 (kd l k (d + n)).length c9) rfl rfl rfl qDq rfl) rfl <| J.f (qAZ qAn rfl rfl) rfl <| J.f (qBJ rfl rfl rfl) rfl <| J.c hK11 <| J.d2 0 4 6 8 9 10 11 26 ?_
  refine J.a0 rfl (fun h26 => ?_) (fun h26 => ?_)
  ·
    have hcl := qIB hf.once k (d + n)
    have hlt : d + n < 128 := by
      rcases Nat.lt_or_ge (d + n) 128 with h | h
      · exact h
      · have hct := qSz hf hk
        rw [show d + n = 128 by omega] at h26 hcl
        omega
    have htl : (qE8 k (d + n)).length = 16 := (qB9 k _).trans hk
    have hmn : min (((d + n + 1 : Nat) : Int)).toNat 128 = d + n + 1 := by rw [Int.toNat_natCast]; omega
    have hsmk := qP4 hf k (d + n)
    have hkdl := qT8 l k (d + n)
    refine J.a1 hK10 <| J.b9 0 4 6 8 9 10 11 ?_
    refine J.k fun K12 hK12 => J.T <| J.k fun K13 hK13 => J.b5 [blk g8 [.slice Ab (bsd l k d (n)).length cb, .bool false, Str [], Str []] 58, blk g4 [Str (k)] 9] [12] (.y 0 (.y 1 (.y 2 (.y 3 (.y 4 (.y 6 (.y 7 (.e 5 (.e 8 (.e 9 (.e 10 (.y 11 (.e 12 .nil))))))))))))) Tryz.wide (by decide +kernel) (by simp) ?_
    refine J.j rfl (qAA (j := 0) rfl rfl qDX rfl qEZ rfl) rfl rfl <| J.j rfl (qAF 0 (v := .slice Ab (bsd l k d (n)).length cb) rfl rfl rfl qDq rfl) rfl rfl <| J.G ?_
    refine J.j rfl (qAF 1 (v := Str (k)) rfl rfl rfl b9_ rfl) rfl rfl <| J.G ?_
    refine J.G ?_
    refine J.j rfl ((qAO rfl rfl rfl (by omega)).nat (d + n + 1) (by omega)) rfl rfl <| J.a7 rfl (qAB rfl rfl ent101 (Ct.use0 (fun F' hF => qMM F' k (by assumption) (d + n) (by omega)))) rfl (by simp) fun g34 _ => J.a7 rfl (qAB rfl rfl ent75 (Ct.use0 (fun F' hF => qJd F' (hK.mo hF) g l (hT.mono (hF F (by simp))) (by assumption) (qE8 k (d + n)) (by first | omega | decide) ((d + n + 1 : Nat) : Int) (by first | assumption | exact qMA (by assumption) | exact qQn (by assumption) (by assumption))))) rfl (by simp) fun g37 _ => J.a7 rfl (qAH (l := [.tmp 37]) (xs := [[Str (Sm.ndB l (qE8 k (d + n)) (min ((d + n + 1 : Nat) : Int).toNat 128))]]) rfl rfl rfl rfl qAn el9 rfl (by decide) (by decide) (by simp)) rfl (by simp) fun g38 _ => ?_
    change J _ _ _ [F, blk g4 [Str (k)] 9, blk g6 [.slice none 0 0, .bool false, Str [], Str []] 58, blk g8 [.slice Ab (bsd l k d (n)).length cb, .bool false, Str [], Str []] 58, blk g9 [.slice A9 (kd l k (d + n)).length c9] 37, m9, mb, blk g38 [Str (Sm.ndB l (qE8 k (d + n)) (min ((d + n + 1 : Nat) : Int).toNat 128))] 9] _
    refine J.a7 rfl (qAb (i := 6) (xs := qAL (bsd l k d (n))) (m2 := blk g38 [Str (Sm.ndB l (qE8 k (d + n)) (min ((d + n + 1 : Nat) : Int).toNat 128))] 9) (ys := [[Str (Sm.ndB l (qE8 k (d + n)) (min ((d + n + 1 : Nat) : Int).toNat 128))]]) rfl rfl rfl qAn qAn el9 rfl hrb (by simp) ((qA8 (q := True) (qAL [Sm.ndB l (qE8 k (d + n)) (min ((d + n + 1 : Nat) : Int).toNat 128)]) rfl (by simp [qAL]) rfl).sl) rfl (by omega) (by omega)) rfl (by simp) ?_
    rintro ⟨A39, c39, m39⟩ h39
    try dsimp only at h39
    change J _ ((39, .slice A39 (((bsd l k d (n)).length) + 1) c39) :: _) _ [_, _, _, _, _, _, m39, _] _
    rw [← qDM, hmn, ← qQP] at h39
    rw [show (bsd l k d (n)).length + 1 = (bsd l k d (n + 1)).length by rw [qCy, qCy]] at h39 ⊢
    refine J.j rfl (qAA (j := 0) rfl rfl qDX rfl qEZ rfl) rfl rfl <| J.c8 rfl (qAc (i := 3) (l := [.slice Ab (bsd l k d (n)).length cb, .bool false, Str [], Str []]) (vs := [.slice A39 ((bsd l k d (n + 1)).length) c39]) rfl rfl rfl rfl rfl qEZ rfl (by simp)) rfl rfl rfl fun _ _ => ?_
    change J _ _ _ [_, _, _, blk g8 [.slice A39 ((bsd l k d (n + 1)).length) c39, .bool false, Str [], Str []] 58, _, _, _, _] _
    refine J.b4 <| J.q (J.H hK13 ?_)
    refine J.b9 0 4 6 8 9 10 11 ?_
    refine J.E <| J.p 2 rfl <| J.f ((qAO rfl rfl rfl (by omega)).nat (d + n + 1) (by omega)) rfl <| J.u (qCv rfl rfl rfl ent96 (Ct.use (new := fun x : Option Addr × Nat × Hp => [x.2.2]) (fun F' hF => qHt F' ((d + n + 1 : Nat) : Int) g9 g4 A9 ((kd l k (d + n)).length) c9 (kd l k (d + n)) (hr9.sl.mono (hF m9 (by simp))) (qAV.blk0.mono (hF (blk g9 [.slice A9 (kd l k (d + n)).length c9] 37) (by simp))) k (qAV.blk0.mono (hF (blk g4 [Str (k)] 9) (by simp))) (by omega) (by omega) (by assumption)))) rfl ?_
    rintro ⟨A44, c44, m44⟩ h44
    try dsimp only at h44
    change J _ ((44, .slice A44 ((kd l k (d + n)).filter (fun q => !nbl k ((d + n + 1 : Nat) : Int) q)).length c44) :: _) _ [_, _, _, _, _, _, _, _, m44] _
    rw [qSt l k (by omega)] at h44 ⊢
    refine J.c1 (qAR (i := 4) (l := [.slice A9 (kd l k (d + n)).length c9]) (vs := [.slice A44 ((kd l k (d + n + 1)).length) c44]) rfl rfl rfl rfl rfl qEZ rfl rfl) rfl rfl fun _ _ => ?_
    change J _ _ _ [_, _, _, _, blk g9 [.slice A44 ((kd l k (d + n + 1)).length) c44] 37, _, _, _, _] _
    refine J.a2 <| J.a4 <| J.q (J.H hK12 ?_)
    refine J.b9 0 4 6 8 9 10 11 ?_
    exact J.E <| J.b rfl <| J.f ((qAO rfl rfl rfl (by omega)).nat (d + n + 1) (by omega)) rfl <| J.b rfl <| J.a2 <| J.q <| J.a6 (n + 1, A44, c44, m44, A39, c39, m39) (fun η (hη : _ ∧ 128 - (d + η.1) < 128 - (d + n)) => hI0 η hη.1 hη.2) ⟨⟨by dsimp only; omega, fun x h1 h2 => by rcases Nat.lt_or_ge x (d + n) with h | h; exact htw x h1 h; rw [show x = d + n by dsimp only at h2; omega, ← hcl]; omega, h44, h39⟩, by dsimp only; omega⟩ ⟨rfl, rfl, rfl, rfl, rfl, rfl, rfl, trivial⟩ (fun _ h => h.pick [0, 1, 2, 3, 4, 8, 6] (by decide))
  have hst : qLz l k d (d + n) := ⟨by omega, he, by rw [← qIB hf.once]; omega, fun x h1 h2 => htw x h1 h2⟩
  have hdn : d + n - d = n := by omega
  refine J.b0 <| J.Z <| J.Z <| J.b1 ?_
  refine J.q (J.H hK8 ?_)
  refine J.W 0 6 8 9 ?_
  refine J.k fun K14 hK14 => J.g fun K15 hK15 => J.f (qAF 4 (v := .slice A9 (kd l k (d + n)).length c9) rfl rfl rfl qDq rfl) rfl <| J.f (qAZ qAn rfl rfl) rfl <| J.f (qAd rfl rfl rfl) rfl <| J.c hK15 <| J.a3 0 6 8 9 47 ?_
  refine J.a0 rfl (fun h47 => ?_) (fun h47 => ?_)
  ·
    refine J.k fun K16 hK16 => J.b5 [blk g9 [.slice A9 (kd l k (d + n)).length c9] 37, m9] [] (.y 0 (.y 1 (.y 2 (.y 3 (.e 4 (.y 5 (.e 6 .nil))))))) Tryz.wide (by decide +kernel) (by simp) ?_
    refine J.j rfl (qAF 0 (v := .slice A9 (kd l k (d + n)).length c9) rfl rfl rfl qDq rfl) rfl rfl <| J.j rfl (qAG (i := 0) rfl rfl rfl qAn z9_ hr9.sl (by omega)) rfl rfl <| J.j rfl (qAK rfl rfl b9_ (m := m9) (by simp) (hr9.sl.elem (qAa (qAi [] (by omega))))) rfl rfl <| J.j rfl (qAA (j := 1) rfl rfl qDX rfl z4_ rfl) rfl rfl <| J.h0 rfl (qAc (i := 3) (l := [.slice Ab (bsd l k d (n)).length cb, .bool false, Str [], Str []]) (vs := [.bool true]) rfl rfl rfl rfl rfl z4_ rfl (by simp)) rfl rfl (by simp) fun _ _ => ?_
    change J _ _ _ [F, blk g4 [Str (k)] 9, blk g6 [.slice none 0 0, .bool false, Str [], Str []] 58, blk g8 [.slice Ab (bsd l k d (n)).length cb, .bool true, Str [], Str []] 58, blk g9 [.slice A9 (kd l k (d + n)).length c9] 37, m9, mb] _
    refine J.j rfl (qAA (j := 2) rfl rfl qDX rfl z9_ rfl) rfl rfl <| J.h0 rfl (qAc (i := 3) (l := [.slice Ab (bsd l k d (n)).length cb, .bool true, Str [], Str []]) (vs := [Str ((kd l k (d + n)).getD 0 [])]) rfl rfl rfl rfl rfl z9_ rfl (by simp)) rfl rfl (by simp) fun _ _ => ?_
    change J _ _ _ [_, _, _, blk g8 [.slice Ab (bsd l k d (n)).length cb, .bool true, Str ((kd l k (d + n)).getD 0 []), Str []] 58, _, _, _] _
    refine J.b4 <| J.q (J.H hK16 ?_)
    refine J.V 0 6 8 ?_
    refine J.E <| J.b rfl <| J.a8 2 qDX z9_ rfl rfl rfl rfl rfl <| J.f (qAF 3 (v := Str ((kd l k (d + n)).getD 0 [])) rfl rfl rfl b9_ rfl) rfl <| J.u (qAB rfl rfl ent102 (Ct.use0 (fun F' hF => qRb F' g l (hT.mono (hF F (by simp))) ((kd l k (d + n)).getD 0 [])))) rfl fun g57 _ => J.p 3 rfl <| J.a8 3 qDX z9_ rfl rfl rfl rfl rfl <| J.c1 (qAc (i := 3) (l := [.slice Ab (bsd l k d (n)).length cb, .bool true, Str ((kd l k (d + n)).getD 0 []), Str []]) (vs := [Str ((Sm.getP l ((kd l k (d + n)).getD 0 [])).getD [])]) rfl rfl rfl rfl rfl z9_ rfl (by simp)) rfl rfl fun _ _ => ?_
    change J _ _ _ [_, _, _, blk g8 [.slice Ab (bsd l k d (n)).length cb, .bool true, Str ((kd l k (d + n)).getD 0 []), Str ((Sm.getP l ((kd l k (d + n)).getD 0 [])).getD [])] 58, _, _, _] _
    refine J.c hK14 <| J.M 6 8 ?_
    refine J.g fun K17 hK17 => J.c7 3 qLp qGd rfl rfl rfl rfl rfl <| J.c1 (qAR (i := 2) (l := [.slice none 0 0, .bool false, Str [], Str []]) (vs := [.slice Ab (bsd l k d (n)).length cb, .bool true, Str ((kd l k (d + n)).getD 0 []), Str ((Sm.getP l ((kd l k (d + n)).getD 0 [])).getD [])]) rfl rfl rfl rfl rfl qGd rfl rfl) rfl rfl fun _ _ => ?_
    change J _ _ _ [_, _, blk g6 [.slice Ab (bsd l k d (n)).length cb, .bool true, Str ((kd l k (d + n)).getD 0 []), Str ((Sm.getP l ((kd l k (d + n)).getD 0 [])).getD [])] 58, _, _, _, _] _
    refine J.b rfl <| J.c hK17 <| J.M 6 7 ?_
    exact J.D <| J.c2 hw0 (fun _ _ h => h) (rv2 rfl (RV.blkA 2 rfl rfl qLp qGd) rfl) (qBD (d + n, Ab, cb, mb) (by dsimp only; rw [hdn]; unfold qAv qCT qCd; rw [if_pos (by omega), if_pos (by omega), decide_eq_true (by omega)]) ⟨hst, by dsimp only; rw [hdn]; exact hrb⟩ [0, 6] rfl (by decide))
  refine J.a1 hK14 <| J.M 6 8 ?_
  refine J.g fun K18 hK18 => J.c7 3 qLp qGd rfl rfl rfl rfl rfl <| J.c1 (qAR (i := 2) (l := [.slice none 0 0, .bool false, Str [], Str []]) (vs := [.slice Ab (bsd l k d (n)).length cb, .bool false, Str [], Str []]) rfl rfl rfl rfl rfl qGd rfl rfl) rfl rfl fun _ _ => ?_
  change J _ _ _ [F, blk g4 [Str (k)] 9, blk g6 [.slice Ab (bsd l k d (n)).length cb, .bool false, Str [], Str []] 58, blk g8 [.slice Ab (bsd l k d (n)).length cb, .bool false, Str [], Str []] 58, blk g9 [.slice A9 (kd l k (d + n)).length c9] 37, m9, mb] _
  refine J.b rfl <| J.c hK18 <| J.M 6 7 ?_
  exact J.D <| J.c2 hw0 (fun _ _ h => h) (rv2 rfl (RV.blkA 2 rfl rfl qLp qGd) rfl) (qBD (d + n, Ab, cb, mb) (by dsimp only; rw [hdn]; unfold qAv qCT qCd; rw [if_neg (by omega), if_neg (by omega), decide_eq_false (by omega)]) ⟨hst, by dsimp only; rw [hdn]; exact hrb⟩ [0, 6] rfl (by decide))
structure Pz where
 a : UInt8
 b : UInt8
 v : List UInt8
 deriving DecidableEq
def Pz.cells (x : Pz) : List Value := [B8 (x.a), B8 (x.b), Str (x.v)]
theorem qK7 {kv : List Sm.PR} (hf : qE1 kv) {k : List UInt8} (hk : k.length = 16) {d s : Nat} (h : qLz kv k d s) : qGL (bsd kv k d (s - d)) (qAv kv k s) (qCT kv k s) (qCd kv k s) k d = Sm.ndB kv k d := by
 have h1 := h.le
 have h2 := h.ge
 have h3 := qKQ hf hk (d := d) (n := s - d) (by omega) (s - d) (Nat.le_refl _)
 rw [show d + (s - d) = s by omega, show s - (s - d) = d by omega] at h3
 unfold qGL
 rw [qQH hf h, qCy]
 exact h3
theorem qM2 {kv : List Sm.PR} (hf : qE1 kv) {k : List UInt8} (hk : k.length = 16) {d s : Nat} (h : qLz kv k d s) :
    qRB (bsd kv k d (s - d)) (qAv kv k s) (qCT kv k s) (qCd kv k s) (Sm.ndB kv k d) k ((Sm.getP kv k).getD []) d = (Sm.getP kv k).isSome := by
  obtain ⟨t1, t2⟩ := tells hf h
  unfold qRB
  rw [qK7 hf hk h, decide_eq_true rfl, Bool.and_true, t1]
  cases ht : qAv kv k s with
  | false => rfl
  | true =>
    by_cases hkk : qCT kv k s = k
    · rw [t2 ht hkk, decide_eq_true hkk]; simp
    · rw [decide_eq_false hkk]; rfl
theorem qLF {kv : List Sm.PR} (hf : qE1 kv) (k : List UInt8) (s : Nat) : (qCd kv k s).length ≤ 1000000 := by
 unfold qCd
 split
 · exact qGV hf.small _
 · exact Nat.zero_le _
end Go.Proofs.YtfldiegfenndjaaGreatDoor
