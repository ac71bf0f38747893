/- A part of the proof. -/
import Derived.Test.YtfldiegfenndjaaGreatDoorTopCcG8
import Derived.Test.YtfldiegfenndjaaGreatDoorTopCcG29
import Derived.Test.YtfldiegfenndjaaGreatDoorTopCcG20
import Derived.Test.YtfldiegfenndjaaGreatDoorTopCcG17
import Derived.Test.YtfldiegfenndjaaGreatDoorTopCcG16
set_option linter.unusedSimpArgs false
set_option linter.unusedVariables false
namespace Go.Proofs.YtfldiegfenndjaaGreatDoor
open Go Go.Fw Go.Proofs.Tryz
set_option maxRecDepth 100000
set_option maxHeartbeats 1000000
theorem ent48 : qAC prog 48 := qAC.of func48 rfl (by kernel_rfl)
theorem ent74 : qAC prog 74 := qAC.of func74 rfl (by kernel_rfl)
theorem qId.see {m : Hp} {g : Nat} {l : List Aud} (h : qId m g l) : ∃ A n c, qAV m ⟨g, 0, none⟩ [.slice A n c] ∧ Sl m 4 A n c (qDK l) ∧ l.length = n := by
 obtain ⟨A, n, c, mr, rfl, hd, hr⟩ := h
 have hdd : Djs [blk g [.slice A n c] 169, mr] := qAW.2 (by simpa using hd)
 refine ⟨A, n, c, qAV.blk0.mono (qHJ hdd (.head _)), hr.sl.mono (qHJ hdd (.tail _ (.head _))), ?_⟩
 have := hr.len
 simpa [qDK] using this
theorem qDP (F : Hp) (hK : KF F) (n : Nat) (hn : n ≤ 1000000) : Ct prog 48 [I ((n : Nat) : Int)] [F] (fun _ : Unit => Str (qAM n)) (fun _ => True) (fun _ => [F]) := by
 refine Ct.walk func48 rfl ntmps48 rfl (fun w0 hw0 => ?_)
 refine J.g fun K1 hK1 => J.b rfl <| J.c hK1 <| J.A 0 ?_
 refine J.g fun K2 hK2 => J.b rfl <| J.f (qND (a := n) (m := 8) rfl rfl rfl (by omega)) rfl <| J.f (qAe rfl rfl u3_ u5_) rfl <| J.b rfl <| J.f (qAe rfl rfl u3_ u5_) rfl <| J.u (qAH (l := [.tmp 5, .tmp 7]) (xs := [[B8 (UInt8.ofNat (n / 2 ^ 8))], [B8 (UInt8.ofNat n)]]) rfl rfl rfl rfl qBP el5 rfl (by decide) (by decide) (by simp)) rfl fun g8 _ => J.f (qBB rfl rfl qBP u5_ u9_ (m := blk g8 [B8 (UInt8.ofNat (n / 2 ^ 8)), B8 (UInt8.ofNat n)] 5) (by simp) ((qA8 (q := True) (qAX [UInt8.ofNat (n / 2 ^ 8), UInt8.ofNat n]) rfl (by simp [qAX]) rfl).sl)) rfl <| J.u (qAH (l := [.tmp 9]) (xs := [[Str ([UInt8.ofNat (n / 2 ^ 8), UInt8.ofNat n])]]) rfl rfl rfl rfl qAn el9 rfl (by decide) (by decide) (by simp)) rfl fun g10 _ => J.u (qAB rfl rfl ent44 (Ct.use0 (fun F' hF => qA5 F' (hK.mo hF) 15 (some ⟨g10, 0, none⟩) 1 1 ([[UInt8.ofNat (n / 2 ^ 8), UInt8.ofNat n]]) (((qA8 (q := True) (qAL [[UInt8.ofNat (n / 2 ^ 8), UInt8.ofNat n]]) rfl (by simp [qAL]) rfl).sl).mono (hF (blk g10 [Str ([UInt8.ofNat (n / 2 ^ 8), UInt8.ofNat n])] 9) (by simp))) (by first | (simp; omega) | (simp; done) | decide) (by omega)))) rfl fun g11 _ => J.b rfl <| J.c hK2 <| J.A 2 ?_
 exact J.D <| J.L hw0 rfl () (rfl) trivial [0] rfl (by decide)
theorem qOG (F : Hp) (hK : KF F) (nm op rt : List UInt8) (ht : Int) (h1 : nm.length ≤ 1000000) (h2 : op.length ≤ 1048576) (h3 : rt.length ≤ 1048576) (hE : qBd op rt ht = 0) : Ct prog 74 [.agg #[Str (nm), Str (op), Str (rt), I (ht)]] [F] (fun _ : Unit => Str (Sha.tagged 16 [nm, qBe op rt ht])) (fun _ => True) (fun _ => [F]) := by
 have hpl := qK6 hE
 refine Ct.walk func74 rfl ntmps74 rfl (fun w0 hw0 => ?_)
 refine J.g fun K1 hK1 => J.u (qAl rfl rfl rfl) rfl fun g1 _ => J.b rfl <| J.c hK1 <| J.A 1 ?_
 refine J.g fun K2 hK2 => J.a8 1 qIm qF5 rfl rfl rfl rfl rfl <| J.f (qAh rfl rfl isAgg54 qF5 (m := blk g1 [Str (nm), Str (op), Str (rt), I (ht)] 56) (by simp) (qAV.blk0.sub 1 3) rfl) rfl <| J.u (qAB rfl rfl ent131 (Ct.use0 (fun F' hF => qEN F' op rt ht (by omega) (by omega)))) rfl fun g8 _ => J.p 5 rfl <| J.c hK2 <| J.V 1 3 4 ?_
 refine J.k fun K3 hK3 => J.g fun K4 hK4 => J.b rfl <| J.f ((qAx rfl rfl rfl).no (by omega)) rfl <| J.c hK4 <| J.V 1 3 12 ?_
 refine J.b6 ?_
 refine J.a1 hK3 <| J.M 1 3 ?_
 refine J.g fun K5 hK5 => J.a8 0 qIm z9_ rfl rfl rfl rfl rfl <| J.c4 1 b9_ rfl rfl rfl rfl rfl <| J.b rfl <| J.u (qAH (l := [.tmp 14, .tmp 15]) (xs := [[Str (nm)], [Str (qBe op rt ht)]]) rfl rfl rfl rfl qAn el9 rfl (by decide) (by decide) (by simp)) rfl fun g16 _ => J.u (qAB rfl rfl ent44 (Ct.use0 (fun F' hF => qA5 F' (hK.mo hF) 16 (some ⟨g16, 0, none⟩) 2 2 ([nm, qBe op rt ht]) (((qA8 (q := True) (qAL [nm, qBe op rt ht]) rfl (by simp [qAL]) rfl).sl).mono (hF (blk g16 [Str (nm), Str (qBe op rt ht)] 9) (by simp))) (by first | (simp; omega) | (simp; done) | decide) (by omega)))) rfl fun g17 _ => J.b rfl <| J.c hK5 <| J.A 2 ?_
 exact J.D <| J.L hw0 rfl () rfl trivial [0] rfl (by decide)
theorem qQW (F : Hp) (hK : KF F) (nm op rt : List UInt8) (ht : Int) (h2 : op.length ≤ 1048576) (h3 : rt.length ≤ 1048576) (hE : qBd op rt ht ≠ 0) : Ct prog 74 [.agg #[Str (nm), Str (op), Str (rt), I (ht)]] [F] (fun _ : Unit => Str ([])) (fun _ => True) (fun _ => [F]) := by
 refine Ct.walk func74 rfl ntmps74 rfl (fun w0 hw0 => ?_)
 refine J.g fun K1 hK1 => J.u (qAl rfl rfl rfl) rfl fun g1 _ => J.b rfl <| J.c hK1 <| J.A 1 ?_
 refine J.g fun K2 hK2 => J.a8 1 qIm qF5 rfl rfl rfl rfl rfl <| J.f (qAh rfl rfl isAgg54 qF5 (m := blk g1 [Str (nm), Str (op), Str (rt), I (ht)] 56) (by simp) (qAV.blk0.sub 1 3) rfl) rfl <| J.u (qAB rfl rfl ent131 (Ct.use0 (fun F' hF => qEN F' op rt ht (by omega) (by omega)))) rfl fun g8 _ => J.p 5 rfl <| J.c hK2 <| J.V 1 3 4 ?_
 refine J.k fun K3 hK3 => J.g fun K4 hK4 => J.b rfl <| J.f ((qAx rfl rfl rfl).yes (by omega)) rfl <| J.c hK4 <| J.V 1 3 12 ?_
 refine J.d1 ?_
 refine J.g fun K5 hK5 => J.b rfl <| J.c hK5 <| J.A 2 ?_
 exact J.D <| J.a5 <| J.L hw0 rfl () rfl trivial [0] rfl (by decide)
theorem qQX (F : Hp) (hK : KF F) (x : Aud) (h1 : x.nm.length ≤ 1000000) (h2 : x.op.length ≤ 1048576) (h3 : x.rt.length ≤ 1048576) : Ct prog 74 [.agg #[Str x.nm, Str x.op, Str x.rt, I x.ht]] [F] (fun _ : Unit => Str (qTB x)) (fun _ => True) (fun _ => [F]) := by
 unfold qTB
 by_cases hE : qBd x.op x.rt x.ht = 0
 · rw [if_pos hE]; exact qOG F hK x.nm x.op x.rt x.ht h1 h2 h3 hE
 · rw [if_neg hE]; exact qQW F hK x.nm x.op x.rt x.ht h2 h3 hE
theorem qR0 (F m : Hp) (hK : KF F) (g : Nat) (A : Option Addr) (n c : Nat) (l : List Aud) (hs : Sl F 4 A n c (qDK l)) (hnb : n ≤ 1073741824) (hp : qAV F ⟨g, 0, none⟩ [.slice A n c]) (gt : Nat) (kv : List Sm.PR) (ht : qHV m gt kv) (hsm : ∀ x ∈ l, x.nm.length ≤ 1000000 ∧ x.op.length ≤ 1048576 ∧ x.rt.length ≤ 1048576) (hn6 : n ≤ 1000000) : Ct prog 36 [Ptr g, Ptr gt] [m, F] (fun _ : Hp => I ((0 : Nat) : Int)) (fun m' => qHV m' gt (qSk kv l n)) (fun m' => [m', F]) := by
 have hkn : l.length = n := by have := hs.1; simpa [qDK] using this
 refine Ct.walk func36 rfl ntmps36 rfl (fun w0 hw0 => ?_)
 refine J.g fun K1 hK1 => J.b rfl <| J.c hK1 <| J.M 0 1 ?_
 refine J.k fun K2 hK2 => J.g fun K3 hK3 => J.b rfl <| J.f ((qBm underlying34 rfl rfl rfl).as (v' := .bool false) rfl) rfl <| J.p 2 rfl <| J.O ((qBm qTa rfl rfl rfl).as (v' := .bool false) rfl) rfl <| J.b rfl <| J.c hK3 <| J.V 0 1 12 ?_
 refine J.b6 ?_
 refine J.a1 hK2 <| J.M 0 1 ?_
 refine J.k fun K4 hK4 => J.g fun K5 hK5 => J.b rfl <| J.f (qAE rfl rfl) rfl <| J.a8 0 qGi qGe rfl rfl rfl rfl rfl <| J.f (qAK rfl rfl isAgg167 (m := F) (by simp) (hp)) rfl <| J.f (qAZ qE7 rfl rfl) rfl <| J.b rfl <| J.c hK5 <| J.W 1 16 17 18 ?_
 refine J.T <| J.b2 (X := Nat × Hp) (fun ζ => [(1, Ptr gt), (16, .slice A n c), (17, I ((n : Nat) : Int)), (18, I ((ζ.1 : Nat) : Int))]) (fun ζ => [ζ.2, F]) (fun ζ => ζ.1 ≤ n ∧ qHV ζ.2 gt (qSk kv l ζ.1)) (fun ζ => n - ζ.1) (0, m) (⟨Nat.zero_le _, ht⟩) ⟨rfl, rfl, rfl, rfl, trivial⟩ (fun _ h => h) ?_
 rintro ⟨i, mo⟩ ⟨hi, hto⟩ I0 hI0
 dsimp only at hi hto ⊢
 refine J.g fun K6 hK6 => J.f (qAS rfl rfl rfl) rfl <| J.c hK6 <| J.a3 1 16 17 18 19 ?_
 refine J.k fun K7 hK7 => J.a0 rfl (fun h19 => ?_) (fun h19 => ?_)
 ·
  refine J.a1 hK7 <| J.W 1 16 17 18 ?_
  refine J.k fun K8 hK8 => J.T <| J.k fun K9 hK9 => ?_
  obtain ⟨hx1, hx2, hx3⟩ : (l.getD i qBV).nm.length ≤ 1000000 ∧ (l.getD i qBV).op.length ≤ 1048576 ∧ (l.getD i qBV).rt.length ≤ 1048576 := by
   rw [List.getD_eq_getElem?_getD, List.getElem?_eq_getElem (show i < l.length by omega)]; exact hsm _ (List.getElem_mem _)
  have hpk := qCc i
  refine J.E <| J.b rfl <| J.f (qAG rfl rfl rfl qE7 qE2 hs (by omega)) rfl <| J.f (qAh rfl rfl qLq qE2 (m := F) (by simp) (hs.elem (qFp (by omega))) rfl) rfl <| J.u (qAf rfl qSx rfl) rfl fun g6 _ => J.b rfl <| J.c1 (qAR (i := 2) (l := [Str [], Str [], Str [], I 0]) (vs := [Str ((l.getD i qBV).nm), Str ((l.getD i qBV).op), Str ((l.getD i qBV).rt), I ((l.getD i qBV).ht)]) rfl rfl rfl rfl rfl qE2 rfl rfl) rfl rfl fun _ _ => J.c hK9 <| J.a9 1 5 6 16 17 18 ?_
  refine J.b5 [blk g6 [Str ((l.getD i qBV).nm), Str ((l.getD i qBV).op), Str ((l.getD i qBV).rt), I ((l.getD i qBV).ht)] 56] [] (.y 0 (.y 1 (.y 3 (.e 2 (.e 4 (.e 5 .nil)))))) Tryz.wide (by decide +kernel) (by simp) ?_
  refine J.G ?_
  refine J.G ?_
  refine J.j rfl (qAk 0 rfl rfl rfl qLq qE2 rfl) rfl rfl <| J.a7 rfl (qAB rfl rfl ent48 (Ct.use0 (fun F' hF => qDP F' (hK.mo hF) i (by omega)))) rfl (by simp) fun g25 _ => J.a7 rfl (qAB rfl rfl ent74 (Ct.use0 (fun F' hF => qQX F' (hK.mo hF) (l.getD i qBV) hx1 hx2 hx3))) rfl (by simp) fun g27 _ => J.a7 rfl (qAB rfl rfl ent57 (Ct.use1 0 rfl (fun F' hF => qRZ F' mo gt (qSk kv l i) hto (qAM i) (qTB (l.getD i qBV)) (by first | omega | rfl | assumption)))) rfl (by simp) ?_
  rintro m28 h28
  refine J.b4 <| J.a4 <| J.q (J.H hK8 ?_)
  refine J.W 1 16 17 18 ?_
  exact J.E <| J.f ((qAO rfl rfl rfl (by omega)).nat (i + 1) (by omega)) rfl <| J.b rfl <| J.a2 <| J.q <| J.a6 (i + 1, m28) (fun η (hη : _ ∧ n - η.1 < n - i) => hI0 η hη.1 hη.2) ⟨⟨by dsimp only; omega, h28⟩, by dsimp only; omega⟩ ⟨rfl, rfl, rfl, rfl, trivial⟩ (fun _ h => h.pick [0, 1] (by decide))
 refine J.b0 <| J.Z <| J.Z <| J.b1 ?_
 refine J.q (J.H hK4 ?_)
 refine J.c6 [] trivial <| J.g fun K10 hK10 => J.b rfl <| J.c hK10 <| J.A 4 ?_
 exact J.D <| J.L hw0 rfl mo rfl (by rw [show n = i by omega]; exact hto) [0, 1] rfl (by decide)
end Go.Proofs.YtfldiegfenndjaaGreatDoor
