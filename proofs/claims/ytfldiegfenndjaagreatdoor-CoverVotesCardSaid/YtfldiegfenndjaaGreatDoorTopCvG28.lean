/- A part of the proof. -/
import Derived.Test.YtfldiegfenndjaaGreatDoorTopCvG8
import Derived.Test.YtfldiegfenndjaaGreatDoorTopCvG27
import Derived.Test.YtfldiegfenndjaaGreatDoorTopCvG18
import Derived.Test.YtfldiegfenndjaaGreatDoorTopCvG15
import Derived.Test.YtfldiegfenndjaaGreatDoorTopCvG14
set_option linter.unusedSimpArgs false
set_option linter.unusedVariables false
namespace Go.Proofs.YtfldiegfenndjaaGreatDoor
open Go Go.Fw Go.Proofs.Tryz
set_option maxRecDepth 100000
set_option maxHeartbeats 1000000
theorem ent48 : qAF prog 48 := qAF.of func48 rfl (by kernel_rfl)
theorem ent74 : qAF prog 74 := qAF.of func74 rfl (by kernel_rfl)
theorem qJP.see {m : Hp} {g : Nat} {l : List Aud} (h : qJP m g l) : ∃ A n c, qAS m ⟨g, 0, none⟩ [.slice A n c] ∧ Sl m 4 A n c (qCv l) ∧ l.length = n := by
 obtain ⟨A, n, c, mr, rfl, hd, hr⟩ := h
 have hdd : Djs [blk g [.slice A n c] 169, mr] := qAT.2 (by simpa using hd)
 refine ⟨A, n, c, qAS.blk0.mono (qHJ hdd (.head _)), hr.sl.mono (qHJ hdd (.tail _ (.head _))), ?_⟩
 have := hr.len
 simpa [qCv] using this
theorem qDL (F : Hp) (hK : KF F) (n : Nat) (hn : n ≤ 1000000) : Ct prog 48 [I ((n : Nat) : Int)] [F] (fun _ : Unit => Str (qAM n)) (fun _ => True) (fun _ => [F]) := by
 refine Ct.walk func48 rfl ntmps48 rfl (fun w0 hw0 => ?_)
 change J _ [(0, _)] _ _ _
 refine J.g fun K1 hK1 => J.b rfl <| J.c hK1 <| J.u 0 ?_
 refine J.g fun K2 hK2 => J.b rfl <| J.f (qMt (a := n) (m := 8) rfl rfl rfl (by omega)) rfl <| J.f (qAk (m := n / 2 ^ 8) rfl rfl u3_ u5_) rfl <| J.b rfl <| J.f (qAk (m := n) rfl rfl u3_ u5_) rfl <| J.q (qAH (l := [.tmp 5, .tmp 7]) (xs := [[B8 (UInt8.ofNat (n / 2 ^ 8))], [B8 (UInt8.ofNat n)]]) rfl rfl rfl rfl qBd el5 rfl (by decide) (by decide) (by simp)) rfl fun g8 _ => ?_
 change J _ _ _ [F, blk g8 [B8 (UInt8.ofNat (n / 2 ^ 8)), B8 (UInt8.ofNat n)] 5] _
 refine J.f (qBT (l := [UInt8.ofNat (n / 2 ^ 8), UInt8.ofNat n]) rfl rfl qBd u5_ u9_ (m := blk g8 [B8 (UInt8.ofNat (n / 2 ^ 8)), B8 (UInt8.ofNat n)] 5) (by simp) ((qBG (q := True) (qAW [UInt8.ofNat (n / 2 ^ 8), UInt8.ofNat n]) rfl (by simp [qAW]) rfl).sl)) rfl <| J.q (qAH (l := [.tmp 9]) (xs := [[Str ([UInt8.ofNat (n / 2 ^ 8), UInt8.ofNat n])]]) rfl rfl rfl rfl qAo el9 rfl (by decide) (by decide) (by simp)) rfl fun g10 _ => ?_
 change J _ _ _ [_, _, blk g10 [Str ([UInt8.ofNat (n / 2 ^ 8), UInt8.ofNat n])] 9] _
 refine J.q (qAC rfl rfl ent44 (Ct.use0 (fun F' hF => qA4 F' (hK.mo hF) 15 (some ⟨g10, 0, none⟩) 1 1 ([[UInt8.ofNat (n / 2 ^ 8), UInt8.ofNat n]]) (((qBG (q := True) (qAJ [[UInt8.ofNat (n / 2 ^ 8), UInt8.ofNat n]]) rfl (by simp [qAJ]) rfl).sl).mono (hF (blk g10 [Str ([UInt8.ofNat (n / 2 ^ 8), UInt8.ofNat n])] 9) (by simp))) (by first | (simp; omega) | (simp; done) | decide) (by omega)))) rfl fun g11 _ => J.b rfl <| J.c hK2 <| J.u 2 ?_
 exact J.D <| J.H hw0 rfl () (rfl) trivial [0] rfl (by decide)
theorem qNw (F : Hp) (hK : KF F) (nm op rt : List UInt8) (ht : Int) (h1 : nm.length ≤ 1000000) (h2 : op.length ≤ 1048576) (h3 : rt.length ≤ 1048576) (hE : qBY op rt ht = 0) : Ct prog 74 [.agg #[Str (nm), Str (op), Str (rt), I (ht)]] [F] (fun _ : Unit => Str (Sha.tagged 16 [nm, qBM op rt ht])) (fun _ => True) (fun _ => [F]) := by
 have hpl := qKx hE
 refine Ct.walk func74 rfl ntmps74 rfl (fun w0 hw0 => ?_)
 change J _ [(0, _)] _ _ _
 refine J.g fun K1 hK1 => J.q (qAi (l := [Str (nm), Str (op), Str (rt), I (ht)]) rfl rfl rfl) rfl fun g1 _ => ?_
 change J _ _ _ [F, blk g1 [Str (nm), Str (op), Str (rt), I (ht)] 56] _
 refine J.b rfl <| J.c hK1 <| J.u 1 ?_
 refine J.g fun K2 hK2 => J.a7 1 qIe qF1 rfl rfl rfl rfl rfl <| J.f (qAd (vs := [Str (op), Str (rt), I (ht)]) rfl rfl isAgg54 qF1 (m := blk g1 [Str (nm), Str (op), Str (rt), I (ht)] 56) (by simp) (qAS.blk0.sub 1 3) rfl) rfl <| J.q (qAC rfl rfl ent131 (Ct.use0 (fun F' hF => qEP F' op rt ht (by omega) (by omega)))) rfl fun g8 _ => J.j 5 rfl <| J.c hK2 <| J.O 1 3 4 ?_
 refine J.p fun K3 hK3 => J.g fun K4 hK4 => J.b rfl <| J.f ((qAz rfl rfl rfl).no (by omega)) rfl <| J.c hK4 <| J.O 1 3 12 ?_
 refine J.b2 ?_
 refine J.a1 hK3 <| J.G 1 3 ?_
 refine J.g fun K5 hK5 => J.a7 0 qIe z9_ rfl rfl rfl rfl rfl <| J.f (qAE 1 (v := Str (nm)) rfl rfl rfl b9_ rfl) rfl <| J.b rfl <| J.q (qAH (l := [.tmp 14, .tmp 15]) (xs := [[Str (nm)], [Str (qBM op rt ht)]]) rfl rfl rfl rfl qAo el9 rfl (by decide) (by decide) (by simp)) rfl fun g16 _ => ?_
 change J _ _ _ [_, _, blk g16 [Str (nm), Str (qBM op rt ht)] 9] _
 refine J.q (qAC rfl rfl ent44 (Ct.use0 (fun F' hF => qA4 F' (hK.mo hF) 16 (some ⟨g16, 0, none⟩) 2 2 ([nm, qBM op rt ht]) (((qBG (q := True) (qAJ [nm, qBM op rt ht]) rfl (by simp [qAJ]) rfl).sl).mono (hF (blk g16 [Str (nm), Str (qBM op rt ht)] 9) (by simp))) (by first | (simp; omega) | (simp; done) | decide) (by omega)))) rfl fun g17 _ => J.b rfl <| J.c hK5 <| J.u 2 ?_
 exact J.D <| J.H hw0 rfl () rfl trivial [0] rfl (by decide)
theorem qQA (F : Hp) (hK : KF F) (nm op rt : List UInt8) (ht : Int) (h2 : op.length ≤ 1048576) (h3 : rt.length ≤ 1048576) (hE : qBY op rt ht ≠ 0) : Ct prog 74 [.agg #[Str (nm), Str (op), Str (rt), I (ht)]] [F] (fun _ : Unit => Str ([])) (fun _ => True) (fun _ => [F]) := by
 refine Ct.walk func74 rfl ntmps74 rfl (fun w0 hw0 => ?_)
 change J _ [(0, _)] _ _ _
 refine J.g fun K1 hK1 => J.q (qAi (l := [Str (nm), Str (op), Str (rt), I (ht)]) rfl rfl rfl) rfl fun g1 _ => ?_
 change J _ _ _ [F, blk g1 [Str (nm), Str (op), Str (rt), I (ht)] 56] _
 refine J.b rfl <| J.c hK1 <| J.u 1 ?_
 refine J.g fun K2 hK2 => J.a7 1 qIe qF1 rfl rfl rfl rfl rfl <| J.f (qAd (vs := [Str (op), Str (rt), I (ht)]) rfl rfl isAgg54 qF1 (m := blk g1 [Str (nm), Str (op), Str (rt), I (ht)] 56) (by simp) (qAS.blk0.sub 1 3) rfl) rfl <| J.q (qAC rfl rfl ent131 (Ct.use0 (fun F' hF => qEP F' op rt ht (by omega) (by omega)))) rfl fun g8 _ => J.j 5 rfl <| J.c hK2 <| J.O 1 3 4 ?_
 refine J.p fun K3 hK3 => J.g fun K4 hK4 => J.b rfl <| J.f ((qAz rfl rfl rfl).yes (by omega)) rfl <| J.c hK4 <| J.O 1 3 12 ?_
 refine J.c9 ?_
 refine J.g fun K5 hK5 => J.b rfl <| J.c hK5 <| J.u 2 ?_
 exact J.D <| J.Z <| J.H hw0 rfl () rfl trivial [0] rfl (by decide)
theorem qQB (F : Hp) (hK : KF F) (x : Aud) (h1 : x.nm.length ≤ 1000000) (h2 : x.op.length ≤ 1048576) (h3 : x.rt.length ≤ 1048576) : Ct prog 74 [.agg #[Str x.nm, Str x.op, Str x.rt, I x.ht]] [F] (fun _ : Unit => Str (qSn x)) (fun _ => True) (fun _ => [F]) := by
 unfold qSn
 by_cases hE : qBY x.op x.rt x.ht = 0
 · rw [if_pos hE]; exact qNw F hK x.nm x.op x.rt x.ht h1 h2 h3 hE
 · rw [if_neg hE]; exact qQA F hK x.nm x.op x.rt x.ht h2 h3 hE
theorem qRg (F m : Hp) (hK : KF F) (g : Nat) (A : Option Addr) (n c : Nat) (l : List Aud) (hs : Sl F 4 A n c (qCv l)) (hnb : n ≤ 1073741824) (hp : qAS F ⟨g, 0, none⟩ [.slice A n c]) (gt : Nat) (kv : List Sm.PR) (ht : qHV m gt kv) (hsm : ∀ x ∈ l, x.nm.length ≤ 1000000 ∧ x.op.length ≤ 1048576 ∧ x.rt.length ≤ 1048576) (hn6 : n ≤ 1000000) : Ct prog 36 [Ptr g, Ptr gt] [m, F] (fun _ : Hp => I ((0 : Nat) : Int)) (fun m' => qHV m' gt (qSM kv l n)) (fun m' => [m', F]) := by
 have hkn : l.length = n := by have := hs.1; simpa [qCv] using this
 refine Ct.walk func36 rfl ntmps36 rfl (fun w0 hw0 => ?_)
 change J _ [(0, _), (1, _)] _ _ _
 refine J.g fun K1 hK1 => J.b rfl <| J.c hK1 <| J.G 0 1 ?_
 refine J.p fun K2 hK2 => J.g fun K3 hK3 => J.b rfl <| J.f ((qBk underlying34 rfl rfl rfl).as (v' := .bool false) rfl) rfl <| J.j 2 rfl <| J.E ((qBk qTD rfl rfl rfl).as (v' := .bool false) rfl) rfl <| J.b rfl <| J.c hK3 <| J.O 0 1 12 ?_
 refine J.b2 ?_
 refine J.a1 hK2 <| J.G 0 1 ?_
 refine J.p fun K4 hK4 => J.g fun K5 hK5 => J.b rfl <| J.f (qAD rfl rfl) rfl <| J.a7 0 qGi qGd rfl rfl rfl rfl rfl <| J.f (qAQ (v := .slice A n c) rfl rfl isAgg167 (m := F) (by simp) (hp)) rfl <| J.f (qAh qE8 rfl rfl) rfl <| J.b rfl <| J.c hK5 <| J.T 1 16 17 18 ?_
 refine J.W <| J.b6 (X := Nat × Hp) (fun ζ => [(1, Ptr gt), (16, .slice A n c), (17, I ((n : Nat) : Int)), (18, I ((ζ.1 : Nat) : Int))]) (fun ζ => [ζ.2, F]) (fun ζ => ζ.1 ≤ n ∧ qHV ζ.2 gt (qSM kv l ζ.1)) (fun ζ => n - ζ.1) (0, m) (⟨Nat.zero_le _, ht⟩) ⟨rfl, rfl, rfl, rfl, trivial⟩ (fun _ h => h) ?_
 rintro ⟨i, mo⟩ ⟨hi, hto⟩ I0 hI0
 dsimp only at hi hto ⊢
 refine J.g fun K6 hK6 => J.f (qAX rfl rfl rfl) rfl <| J.c hK6 <| J.a3 1 16 17 18 19 ?_
 refine J.p fun K7 hK7 => J.a0 rfl (fun h19 => ?_) (fun h19 => ?_)
 ·
  refine J.a1 hK7 <| J.T 1 16 17 18 ?_
  refine J.p fun K8 hK8 => J.W <| J.p fun K9 hK9 => ?_
  obtain ⟨hx1, hx2, hx3⟩ : (l.getD i qAy).nm.length ≤ 1000000 ∧ (l.getD i qAy).op.length ≤ 1048576 ∧ (l.getD i qAy).rt.length ≤ 1048576 := by
   rw [List.getD_eq_getElem?_getD, List.getElem?_eq_getElem (show i < l.length by omega)]; exact hsm _ (List.getElem_mem _)
  have hpk := qB6 i
  refine J.M <| J.b rfl <| J.f (qAK (i := i) rfl rfl rfl qE8 qEr hs (by omega)) rfl <| J.f (qAd (vs := [Str ((l.getD i qAy).nm), Str ((l.getD i qAy).op), Str ((l.getD i qAy).rt), I ((l.getD i qAy).ht)]) rfl rfl qLW qEr (m := F) (by simp) (hs.elem (qFn (by omega))) rfl) rfl <| J.q (qAe (l := [Str [], Str [], Str [], I 0]) rfl qSZ rfl) rfl fun g6 _ => ?_
  change J _ _ _ [mo, F, blk g6 [Str [], Str [], Str [], I 0] 56] _
  refine J.b rfl <| J.b4 (qAP (i := 2) (l := [Str [], Str [], Str [], I 0]) (vs := [Str ((l.getD i qAy).nm), Str ((l.getD i qAy).op), Str ((l.getD i qAy).rt), I ((l.getD i qAy).ht)]) rfl rfl rfl rfl rfl qEr rfl rfl) rfl rfl fun _ _ => ?_
  change J _ _ _ [_, _, blk g6 [Str ((l.getD i qAy).nm), Str ((l.getD i qAy).op), Str ((l.getD i qAy).rt), I ((l.getD i qAy).ht)] 56] _
  refine J.c hK9 <| J.b1 1 5 6 16 17 18 ?_
  refine J.c0 [blk g6 [Str ((l.getD i qAy).nm), Str ((l.getD i qAy).op), Str ((l.getD i qAy).rt), I ((l.getD i qAy).ht)] 56] [] (.y 0 (.y 1 (.y 3 (.e 2 (.e 4 (.e 5 .nil)))))) Tryz.wide (by decide +kernel) (by simp) ?_
  refine J.V ?_
  refine J.V ?_
  refine J.k rfl (qAg 0 rfl rfl rfl qLW qEr rfl) rfl rfl <| J.a2 rfl (qAC rfl rfl ent48 (Ct.use0 (fun F' hF => qDL F' (hK.mo hF) i (by omega)))) rfl (by simp) fun g25 _ => J.a2 rfl (qAC rfl rfl ent74 (Ct.use0 (fun F' hF => qQB F' (hK.mo hF) (l.getD i qAy) hx1 hx2 hx3))) rfl (by simp) fun g27 _ => J.a2 rfl (qAC rfl rfl ent57 (Ct.use1 0 (m' := fun x : Hp => x) (new := fun _ => []) rfl (fun F' hF => qRE F' mo gt (qSM kv l i) hto (qAM i) (qSn (l.getD i qAy)) (by first | omega | rfl | assumption)))) rfl (by simp) ?_
  rintro m28 h28
  change J _ ((28, I ((0 : Nat) : Int)) :: _) _ [m28, _, _] _
  refine J.b3 <| J.a5 <| J.A (J.L hK8 ?_)
  refine J.T 1 16 17 18 ?_
  exact J.M <| J.f ((qAU rfl rfl rfl (by omega)).nat (i + 1) (by omega)) rfl <| J.b rfl <| J.a6 <| J.A <| J.a8 (i + 1, m28) (fun η (hη : _ ∧ n - η.1 < n - i) => hI0 η hη.1 hη.2) ⟨⟨by dsimp only; omega, h28⟩, by dsimp only; omega⟩ ⟨rfl, rfl, rfl, rfl, trivial⟩ (fun _ h => h.pick [0, 1] (by decide))
 refine J.b5 <| J.a4 <| J.a4 <| J.b7 ?_
 refine J.A (J.L hK4 ?_)
 refine J.c7 [] trivial <| J.g fun K10 hK10 => J.b rfl <| J.c hK10 <| J.u 4 ?_
 exact J.D <| J.H hw0 rfl mo rfl (by rw [show n = i by omega]; exact hto) [0, 1] rfl (by decide)
end Go.Proofs.YtfldiegfenndjaaGreatDoor
