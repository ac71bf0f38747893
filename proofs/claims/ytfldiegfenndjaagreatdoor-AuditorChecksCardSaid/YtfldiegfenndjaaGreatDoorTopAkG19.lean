/- A part of the proof. -/
import Derived.Test.YtfldiegfenndjaaGreatDoorTopAkG7
import Derived.Test.YtfldiegfenndjaaGreatDoorTopAkG18
import Derived.Test.YtfldiegfenndjaaGreatDoorTopAkG10
import Derived.Test.YtfldiegfenndjaaGreatDoorTopAkG9
set_option linter.unusedSimpArgs false
set_option linter.unusedVariables false
namespace Go.Proofs.YtfldiegfenndjaaGreatDoor
open Go Go.Fw Go.Proofs.Tryz
set_option maxRecDepth 100000
set_option maxHeartbeats 1000000
theorem ent33 : qAE prog 33 := qAE.of func33 rfl (by kernel_rfl)
theorem ent53 : qAE prog 53 := qAE.of func53 rfl (by kernel_rfl)
theorem ent55 : qAE prog 55 := qAE.of func55 rfl (by kernel_rfl)
theorem ent114 : qAE prog 114 := qAE.of func114 rfl (by kernel_rfl)
def qBf (nx : Nat) : List UInt8 := Sha.numB (UInt64.ofNat (nx + 1)) 2
theorem qBr (nx : Nat) : (qBf nx).length = 2 := Sha.numB_length _ _
theorem qP8 (F : Hp) (hK : KF F) (gd : Nat) (d : Dk) (hok : d.ok) (A : Option Addr) (c : Nat) (B : Option Addr) (e : Nat) (C : Option Addr) (f : Nat) (hc : qAQ F ⟨gd, 0, none⟩ (d.cells A c B e C f)) (hL : Sl F 1 A d.last.length c (qAI d.last)) (hW : Sl F 2 B d.wait.length e (qB2 d.wait)) (hn2 : d.wait.length ≤ 1073741824) (first count : Nat) (h8 : 8 ≤ count) (hfc : first + count ≤ d.last.length) (hoff : d.off = false) (seed : List UInt8) (hsd : seed.length ≤ 1048576) (kh : Nat) (h6 : kh ≤ 6) (X : Hlf) (hX : hst d first (count / 2) 2 = X) (hXn : X.R.length ≤ 1048576) (hR : X.R = []) : Ct prog 52 [Ptr gd, I ((first : Nat) : Int), I ((count : Nat) : Int), Str seed, I ((kh : Nat) : Int)] [F] (fun x : (Nat × Hp) × (Nat × Option Addr × Nat × Hp) × Nat => .tuple #[Ptr x.2.2, I ((0 : Nat) : Int)]) (fun x => qJM x.1.2 x.1.1 seed kh ∧ Row x.2.1.2.2.2 9 1 x.2.1.2.1 X.R.length x.2.1.2.2.1 (qAI X.R)) (fun x => [F, x.1.2, blk x.2.1.1 (bkC gd first (count / 2) X x.2.1.2.1 x.2.1.2.2.1 false) 223, x.2.1.2.2.2, blk x.2.2 [Ptr x.1.1, Ptr x.2.1.1, I ((0 : Nat) : Int)] 216]) := by
 refine Ct.walk func52 rfl ntmps52 rfl (fun w0 hw0 => ?_)
 change J _ [(0, _), (1, _), (2, _), (3, _), (4, _)] _ _ _
 refine J.g fun K1 hK1 => J.j 2 rfl <| J.c hK1 <| J.a0 0 1 2 3 4 ?_
 refine J.g fun K2 hK2 => J.j 2 rfl <| J.p (qAB rfl rfl ent33 (Ct.use (new := fun x : Nat × Hp => [x.2]) (fun F' hF => qJP F' (hK.mo hF) seed kh hsd h6))) rfl ?_
 rintro ⟨g21, m21⟩ h21
 try dsimp only at h21
 change J _ ((21, .tuple #[Ptr g21, I 0]) :: _) _ [F, m21] _
 refine J.j 5 rfl <| J.c hK2 <| J.a0 0 1 2 12 13 ?_
 refine J.k fun K3 hK3 => J.g fun K4 hK4 => J.b rfl <| J.f ((qAY rfl rfl rfl).no (by decide)) rfl <| J.c hK4 <| J.b3 0 1 2 12 13 25 ?_
 refine J.a8 ?_
 refine J.W hK3 <| J.M 0 1 2 12 ?_
 refine J.g fun K5 hK5 => J.j 3 rfl <| J.p (qAB rfl rfl ent53 (Ct.use (new := fun x : Nat × Option Addr × Nat × Hp => [blk x.1 (bkC gd first (count / 2) X x.2.1 x.2.2.1 false) 223, x.2.2.2]) (fun F' hF => by have := qHG F' (hK.mo hF) gd d hok A c B e C f (hc.mono (hF F (by simp))) (hL.mono (hF F (by simp))) (hW.mono (hF F (by simp))) hn2 first count h8 hfc hoff; rw [hX] at this; exact this))) rfl ?_
 rintro ⟨g31, A31, c31, m31⟩ h31
 try dsimp only at h31
 change J _ ((31, .tuple #[Ptr g31, I ((0 : Nat) : Int)]) :: _) _ [_, _, blk g31 (bkC gd first (count / 2) X A31 c31 false) 223, m31] _
 refine J.j 5 rfl <| J.c hK5 <| J.H 12 13 14 ?_
 refine J.k fun K6 hK6 => J.g fun K7 hK7 => J.b rfl <| J.f ((qAY rfl rfl rfl).no (by decide)) rfl <| J.c hK7 <| J.M 12 13 14 35 ?_
 refine J.a8 ?_
 refine J.W hK6 <| J.E 12 14 ?_
 refine J.g fun K8 hK8 => J.j 2 rfl <| J.f (qAM (l := [(0, .tmp 37), (1, .tmp 38)]) (vs := [Ptr g21, Ptr g31]) (places := [(0, 1), (1, 1), (2, 1)]) (r := [Ptr g21, Ptr g31, I 0]) rfl rfl rfl qEH zeroValue216 (fun _ => by kernel_rfl) rfl) rfl <| J.p (qAf (l := [Ptr g21, Ptr g31, I 0]) rfl rfl rfl) rfl fun g40 _ => ?_
 change J _ _ _ [_, _, _, _, blk g40 [Ptr g21, Ptr g31, I 0] 216] _
 refine J.b rfl <| J.c hK8 <| J.E 14 15 ?_
 refine J.k fun K9 hK9 => J.g fun K10 hK10 => J.b rfl <| J.p (qAB rfl rfl ent55 (Ct.use (new := fun x : Option Addr × Nat × Hp => [x.2.2]) (fun F' hF => qEN F' g31 gd ((first : Nat) : Int) (count / 2) ((X.at_ : Nat) : Int) X.t ((X.e : Nat) : Int) A31 X.R.length c31 false (qAQ.blk0.mono (hF (blk g31 (bkC gd first (count / 2) X A31 c31 false) 223) (by simp))) X.R rfl (h31.sl.mono (hF m31 (by simp))) (by omega)))) rfl ?_
 rintro ⟨A42, c42, m42⟩ h42
 try dsimp only at h42
 change J _ ((42, .slice A42 X.R.length c42) :: _) _ [_, _, _, _, _, m42] _
 refine J.b rfl <| J.c hK10 <| J.E 15 16 ?_
 refine J.g fun K11 hK11 => J.b rfl <| J.f (qAa qAh rfl rfl) rfl <| J.f ((qAx rfl rfl rfl).no (by rw [hR]; decide)) rfl <| J.c hK11 <| J.H 15 16 45 ?_
 refine J.a8 ?_
 refine J.W hK9 <| J.u 15 ?_
 refine J.g fun K12 hK12 => J.j 3 rfl <| J.c hK12 <| J.E 10 11 ?_
 exact J.D <| J.b4 hw0 (fun _ _ h => h) (qCq rfl rfl rfl) (qAj ((g21, m21), (g31, A31, c31, m31), g40) rfl ⟨h21, h31⟩ [0, 1, 2, 3, 4] rfl (by decide))
theorem qP7 (F : Hp) (hK : KF F) (gd : Nat) (d : Dk) (hok : d.ok) (A : Option Addr) (c : Nat) (B : Option Addr) (e : Nat) (C : Option Addr) (f : Nat) (hc : qAQ F ⟨gd, 0, none⟩ (d.cells A c B e C f)) (hL : Sl F 1 A d.last.length c (qAI d.last)) (hW : Sl F 2 B d.wait.length e (qB2 d.wait)) (hn2 : d.wait.length ≤ 1073741824) (first count : Nat) (h8 : 8 ≤ count) (hfc : first + count ≤ d.last.length) (hoff : d.off = false) (seed : List UInt8) (hsd : seed.length ≤ 1048576) (kh : Nat) (h6 : kh ≤ 6) (X : Hlf) (hX : hst d first (count / 2) 2 = X) (hXn : X.R.length ≤ 1048576) (hR : 0 < X.R.length) (r : List UInt8) (hr : r = (X.R.getD (X.R.length - 1) [])) (hr2 : r.length = 2) : Ct prog 52 [Ptr gd, I ((first : Nat) : Int), I ((count : Nat) : Int), Str seed, I ((kh : Nat) : Int)] [F] (fun x : (Nat × Hp) × (Nat × Option Addr × Nat × Hp) × Nat => .tuple #[Ptr x.2.2, I ((0 : Nat) : Int)]) (fun x => qJM x.1.2 x.1.1 seed kh ∧ Row x.2.1.2.2.2 9 1 x.2.1.2.1 X.R.length x.2.1.2.2.1 (qAI X.R)) (fun x => [F, x.1.2, blk x.2.1.1 (bkC gd first (count / 2) X x.2.1.2.1 x.2.1.2.2.1 false) 223, x.2.1.2.2.2, blk x.2.2 [Ptr x.1.1, Ptr x.2.1.1, I ((qCN r : Nat) : Int)] 216]) := by
 refine Ct.walk func52 rfl ntmps52 rfl (fun w0 hw0 => ?_)
 change J _ [(0, _), (1, _), (2, _), (3, _), (4, _)] _ _ _
 refine J.g fun K1 hK1 => J.j 2 rfl <| J.c hK1 <| J.a0 0 1 2 3 4 ?_
 refine J.g fun K2 hK2 => J.j 2 rfl <| J.p (qAB rfl rfl ent33 (Ct.use (new := fun x : Nat × Hp => [x.2]) (fun F' hF => qJP F' (hK.mo hF) seed kh hsd h6))) rfl ?_
 rintro ⟨g21, m21⟩ h21
 try dsimp only at h21
 change J _ ((21, .tuple #[Ptr g21, I 0]) :: _) _ [F, m21] _
 refine J.j 5 rfl <| J.c hK2 <| J.a0 0 1 2 12 13 ?_
 refine J.k fun K3 hK3 => J.g fun K4 hK4 => J.b rfl <| J.f ((qAY rfl rfl rfl).no (by decide)) rfl <| J.c hK4 <| J.b3 0 1 2 12 13 25 ?_
 refine J.a8 ?_
 refine J.W hK3 <| J.M 0 1 2 12 ?_
 refine J.g fun K5 hK5 => J.j 3 rfl <| J.p (qAB rfl rfl ent53 (Ct.use (new := fun x : Nat × Option Addr × Nat × Hp => [blk x.1 (bkC gd first (count / 2) X x.2.1 x.2.2.1 false) 223, x.2.2.2]) (fun F' hF => by have := qHG F' (hK.mo hF) gd d hok A c B e C f (hc.mono (hF F (by simp))) (hL.mono (hF F (by simp))) (hW.mono (hF F (by simp))) hn2 first count h8 hfc hoff; rw [hX] at this; exact this))) rfl ?_
 rintro ⟨g31, A31, c31, m31⟩ h31
 try dsimp only at h31
 change J _ ((31, .tuple #[Ptr g31, I ((0 : Nat) : Int)]) :: _) _ [_, _, blk g31 (bkC gd first (count / 2) X A31 c31 false) 223, m31] _
 refine J.j 5 rfl <| J.c hK5 <| J.H 12 13 14 ?_
 refine J.k fun K6 hK6 => J.g fun K7 hK7 => J.b rfl <| J.f ((qAY rfl rfl rfl).no (by decide)) rfl <| J.c hK7 <| J.M 12 13 14 35 ?_
 refine J.a8 ?_
 refine J.W hK6 <| J.E 12 14 ?_
 refine J.g fun K8 hK8 => J.j 2 rfl <| J.f (qAM (l := [(0, .tmp 37), (1, .tmp 38)]) (vs := [Ptr g21, Ptr g31]) (places := [(0, 1), (1, 1), (2, 1)]) (r := [Ptr g21, Ptr g31, I 0]) rfl rfl rfl qEH zeroValue216 (fun _ => by kernel_rfl) rfl) rfl <| J.p (qAf (l := [Ptr g21, Ptr g31, I 0]) rfl rfl rfl) rfl fun g40 _ => ?_
 change J _ _ _ [_, _, _, _, blk g40 [Ptr g21, Ptr g31, I 0] 216] _
 refine J.b rfl <| J.c hK8 <| J.E 14 15 ?_
 refine J.k fun K9 hK9 => J.g fun K10 hK10 => J.b rfl <| J.p (qAB rfl rfl ent55 (Ct.use (new := fun x : Option Addr × Nat × Hp => [x.2.2]) (fun F' hF => qEN F' g31 gd ((first : Nat) : Int) (count / 2) ((X.at_ : Nat) : Int) X.t ((X.e : Nat) : Int) A31 X.R.length c31 false (qAQ.blk0.mono (hF (blk g31 (bkC gd first (count / 2) X A31 c31 false) 223) (by simp))) X.R rfl (h31.sl.mono (hF m31 (by simp))) (by omega)))) rfl ?_
 rintro ⟨A42, c42, m42⟩ h42
 try dsimp only at h42
 change J _ ((42, .slice A42 X.R.length c42) :: _) _ [_, _, _, _, _, m42] _
 refine J.b rfl <| J.c hK10 <| J.E 15 16 ?_
 refine J.g fun K11 hK11 => J.b rfl <| J.f (qAa qAh rfl rfl) rfl <| J.f ((qAx rfl rfl rfl).yes (by omega)) rfl <| J.c hK11 <| J.H 15 16 45 ?_
 refine J.c6 ?_
 refine J.k fun K12 hK12 => ?_
 have hb2 := natB2 (⟨r, 0⟩ : RS)
 have ht : (⟨r, 0⟩ : RS).take 2 = ⟨[], 0⟩ := by rw [qLj (by rw [hr2]; exact Nat.le_refl 2), List.drop_of_length_le (by rw [hr2]; exact Nat.le_refl 2)]
 have ho2 : (⟨r, 0⟩ : RS).out 2 = r := by rw [qPP (by rw [hr2]; exact Nat.le_refl 2), List.take_of_length_le (by rw [hr2]; exact Nat.le_refl 2)]
 rw [ho2] at hb2
 refine J.G <| J.j 2 rfl <| J.f (qAa qAh rfl rfl) rfl <| J.f ((qAp rfl rfl rfl (by omega)).nat (X.R.length - 1) (by omega)) rfl <| J.f (qAH (i := X.R.length - 1) rfl rfl rfl qAh z9_ h42.sl (by omega)) rfl <| J.f (qAN rfl rfl b9_ (m := m42) (by simp) (h42.sl.elem (qAZ (qAg [] (by omega))))) rfl ?_
 rw [← hr]
 refine J.p (qAB rfl rfl ent112 (Ct.use (new := fun g => [RSb g (⟨r, 0⟩ : RS)]) (fun F' _ => (qL6 F' r).mono (φ2 := fun _ => True) (val2 := Ptr) (ms2 := fun g => F' :: [RSb g (⟨r, 0⟩ : RS)]) id (fun _ _ => rfl) (fun _ h => h) (fun x w0 w _ h => h.pick [1, 0] (by decide))))) rfl ?_
 rintro g52 _
 change J _ ((52, Ptr g52) :: _) _ [_, _, _, _, _, _, RSb g52 (⟨r, 0⟩ : RS)] _
 refine J.b rfl <| J.c hK12 <| J.E 15 17 ?_
 refine J.g fun K13 hK13 => J.j 2 rfl <| J.p (qAB rfl rfl ent113 (Ct.use1 6 (m' := fun _ : Unit => RSb g52 ((⟨r, 0⟩ : RS).take 2)) (new := fun _ => []) rfl (fun F' _ => qEK F' g52 (⟨r, 0⟩ : RS) 2 (by decide) (by decide)))) rfl fun g55 _ => ?_
 change J _ _ _ [_, _, _, _, _, _, RSb g52 ((⟨r, 0⟩ : RS).take 2)] _
 rw [ho2]
 refine J.f (qCU (a := qCN r) rfl rfl qEm u3_ (by omega)) rfl <| J.f (qAD rfl rfl) rfl <| J.a2 2 qEH z3_ rfl rfl rfl rfl rfl <| J.b1 (qAT (i := 4) (l := [Ptr g21, Ptr g31, I 0]) (vs := [I ((qCN r : Nat) : Int)]) rfl rfl rfl rfl rfl z3_ rfl (by simp)) rfl rfl fun _ _ => ?_
 change J _ _ _ [_, _, _, _, blk g40 [Ptr g21, Ptr g31, I ((qCN r : Nat) : Int)] 216, _, _] _
 refine J.c hK13 <| J.E 15 17 ?_
 refine J.g fun K14 hK14 => J.b rfl <| J.p (qAB rfl rfl ent114 (Ct.use1 6 (m' := fun _ : Unit => RSb g52 ((⟨r, 0⟩ : RS).take 2)) (new := fun _ => []) rfl (fun F' _ => qSS F' g52 ((⟨r, 0⟩ : RS).take 2) ))) rfl fun g60 _ => ?_
 change J _ _ _ [_, _, _, _, _, _, _] _
 refine J.f ((qAY rfl rfl rfl).no (by rw [ht]; exact fun h => h rfl)) rfl <| J.c hK14 <| J.E 15 61 ?_
 refine J.a8 ?_
 refine J.W hK9 <| J.u 15 ?_
 refine J.g fun K15 hK15 => J.j 3 rfl <| J.c hK15 <| J.E 10 11 ?_
 exact J.D <| J.b4 hw0 (fun _ _ h => h) (qCq rfl rfl rfl) (qAj ((g21, m21), (g31, A31, c31, m31), g40) rfl ⟨h21, h31⟩ [0, 1, 2, 3, 4] rfl (by decide))
theorem ent35 : qAE prog 35 := qAE.of func35 rfl (by kernel_rfl)
theorem ent45 : qAE prog 45 := qAE.of func45 rfl (by kernel_rfl)
theorem ent121 : qAE prog 121 := qAE.of func121 rfl (by kernel_rfl)
theorem ent122 : qAE prog 122 := qAE.of func122 rfl (by kernel_rfl)
attribute [local irreducible] Sha.tagged Wo.pub Wo.publicOf Wo.signs Wo.ends Wo.digs Wo.walk Wo.opn Mk.root Mk.path Mk.climb Xm.root sgC sgP
def qLI (t : UInt64) : UInt64 := if t.toNat = 0 then 1 else t
theorem qQu (t : UInt64) : ((qLI t).toNat : Int) = max ((t.toNat : Nat) : Int) 1 := by
 unfold qLI
 split
 · rename_i h; rw [h]; rfl
 · omega
theorem qI0 {t : UInt64} (h : t.toNat < 2 ^ (8 * 4)) : (qLI t).toNat < 2 ^ (8 * 4) := by
 unfold qLI
 split
 · decide
 · exact h
def qC3 (X : Hlf) (s : List UInt8) : Hlf := ⟨X.at_, qLI X.t, X.R ++ [s], X.e + qBR s.length⟩
def qBE (d : Dk) (X : Hlf) (s : List UInt8) : Dk × Int := qBt d (X.at_ + X.e) (fun i => (prt (qLI X.t) (UInt64.ofNat X.R.length) s (qBR s.length) i).text) (qBR s.length)
theorem qHi (F md : Hp) (hK : KF F) (gb gd first size : Nat) (X : Hlf) (A : Option Addr) (c : Nat) (hRs : Sl F 1 A X.R.length c (qAI X.R)) (d : Dk) (C : Option Addr) (f : Nat) (hb : Dsk md gd d C f) (hok : d.ok) (hn2 : d.wait.length ≤ 1048576) (hKp : Sl F 1 C d.keep.length f (qAX d.keep)) (hn3 : d.keep.length ≤ 9223372036854775807) (s : List UInt8) (hs : s.length ≤ 900)
    (ht : X.t.toNat < 2 ^ (8 * 4)) (hnr : X.R.length < 65536) (hp : X.at_ + size ≤ 1048576) (hfit : X.e + qBR s.length ≤ size) (he : (qBE d X s).2 = 0) :
    Ct prog 121 [Ptr gb, Str s] [blk gb (bkC gd first size X A c false) 223, md, F] (fun _ : Hp × Option Addr × Nat × Hp => I 0) (fun x => Dsk x.1 gd (qBE d X s).1 C f ∧ Row x.2.2.2 9 1 x.2.1 (qC3 X s).R.length x.2.2.1 (qAI (qC3 X s).R)) (fun x => [blk gb (bkC gd first size (qC3 X s) x.2.1 x.2.2.1 false) 223, x.1, F, x.2.2.2]) := by
  have h := qIO F md hK gb gd ((first : Nat) : Int) size X.at_ X.t X.e A X.R.length c d C f hb hok hn2 hKp hn3 X.R rfl hRs s hs _ rfl (qLI X.t) (qQu _) (qI0 ht) hnr hp hfit he
  have e : X.R.length + 1 = (qC3 X s).R.length := by unfold qC3; rw [List.length_append]; rfl
  rw [e] at h
  exact h
theorem qKe {X : Type} (F B md : Hp) (gs gk gb nx : Nat) (hS : qAQ F ⟨gs, 0, none⟩ [Ptr gk, Ptr gb, I ((nx : Nat) : Int)]) (hnx : nx ≤ 65534) (e1 : Int) (h9 : e1 ≠ 9) (φ : X → Prop) (B1 M1 N1 : X → Hp) (hP : ∀ F' : Hp, Le F F' → Ct prog 121 [Ptr gb, Str (qBf nx)] [B, md, F'] (fun _ : X => I (e1)) φ (fun x => [B1 x, M1 x, F', N1 x])) : Ct prog 122 [Ptr gs] [B, md, F] (fun _ : X => I e1) φ (fun x => [B1 x, M1 x, F, N1 x]) := by
 refine Ct.walk func122 rfl ntmps122 rfl (fun w0 hw0 => ?_)
 change J _ [(0, _)] _ _ _
 refine J.g fun K1 hK1 => J.b rfl <| J.c hK1 <| J.u 0 ?_
 refine J.g fun K2 hK2 => J.p (qAO (l := [.pointer none, .slice none 0 0, I 0]) rfl zeroValue188 rfl) rfl fun g3 _ => ?_
 change J _ _ _ [B, md, F, blk g3 [.pointer none, .slice none 0 0, I 0] 188] _
 refine J.c hK2 <| J.E 0 3 ?_
 refine J.g fun K3 hK3 => J.b rfl <| J.f (qAD rfl rfl) rfl <| J.a2 2 qEH z3_ rfl rfl rfl rfl rfl <| J.f (qAN (v := I ((nx : Nat) : Int)) rfl rfl b3_ (m := F) (by simp) (hS.at (i := 2) rfl)) rfl <| J.f (qEQ (m := nx) rfl rfl u3_ qEm (by omega)) rfl <| J.f (qFS (a := nx) (b := 1) rfl rfl rfl (by omega)) rfl <| J.p (qAB rfl rfl ent83 (Ct.use1 3 (m' := fun x : Hp => x) (new := fun _ => []) rfl (fun F' hF => qIu F' (blk g3 [.pointer none, .slice none 0 0, I 0] 188) g3 ([]) (wtrN g3) (by first | decide | omega | (simp only [List.length_append, List.length_cons, List.length_nil, List.length_singleton, Sha.numB_length, qF3] <;> omega)) (nx + 1) 2 (by decide) (by decide) (by first | decide | omega | assumption)))) rfl ?_
 rintro m13 hw13
 change J _ ((13, Ptr g3) :: _) _ [_, _, _, m13] _
 rw [List.nil_append] at hw13
 replace hw13 : Wtr m13 g3 (qBf nx) 0 := hw13
 have hnl := qBr nx
 refine J.p (qAB rfl rfl ent86 (Ct.use1 3 (m' := fun x : Hp => x) (new := fun _ => []) rfl (fun F' hF => qIM F' m13 g3 (qBf nx) hw13 (by first | decide | omega | (simp only [List.length_append, List.length_cons, List.length_nil, List.length_singleton, Sha.numB_length, qF3] <;> omega)) ))) rfl ?_
 rintro m14 hw14
 change J _ ((14, .tuple #[Str (qBf nx), I ((0 : Nat) : Int)]) :: _) _ [_, _, _, m14] _
 refine J.j 5 rfl <| J.c hK3 <| J.H 0 4 5 ?_
 refine J.k fun K4 hK4 => J.g fun K5 hK5 => J.b rfl <| J.f ((qAY rfl rfl rfl).no (by decide)) rfl <| J.c hK5 <| J.M 0 4 5 18 ?_
 refine J.a8 ?_
 refine J.W hK4 <| J.E 0 4 ?_
 refine J.g fun K6 hK6 => J.b rfl <| J.f (qAD rfl rfl) rfl <| J.a2 1 qEH sizeOf140 rfl rfl rfl rfl rfl <| J.f (qAN (v := Ptr gb) rfl rfl isAgg140 (m := F) (by simp) (hS.at (i := 1) rfl)) rfl <| J.b rfl <| J.p (qAB rfl rfl ent121 (Ct.useA [B, md] [F, m14] (A' := fun x : X => [B1 x, M1 x]) (new := fun x => [N1 x]) (fun F' hF => hP F' (hF F (by simp))))) rfl ?_
 rintro x25 h25
 change J _ _ _ [B1 x25, M1 x25, _, _, N1 x25] _
 refine J.b rfl <| J.c hK6 <| J.H 0 4 5 ?_
 refine J.k fun K7 hK7 => J.g fun K8 hK8 => J.b rfl <| J.f ((qAV rfl rfl rfl).no (h9)) rfl <| J.c hK8 <| J.M 0 4 5 27 ?_
 refine J.a8 ?_
 refine J.W hK7 <| J.u 5 ?_
 refine J.g fun K9 hK9 => J.j 2 rfl <| J.c hK9 <| J.u 2 ?_
 exact J.D <| J.V hw0 rfl x25 rfl h25 [0, 1, 2, 4] rfl (by decide)
theorem qNm {X : Type} (F B md : Hp) (gs gk gb nx : Nat) (hK : KF F) (seed : List UInt8) (kh : Nat) (hk : qJM F gk seed kh) (hsd : seed.length ≤ 1048576) (h6 : kh ≤ 6) (hnx : nx < 2 ^ kh) (mg : List UInt8) (hm : mg.length ≤ 1048576) (φ : X → Prop) (B1 M1 N1 : X → Hp) (hP : ∀ F' : Hp, Le F F' → Ct prog 121 [Ptr gb, Str (qBf nx)] [B, md, F'] (fun _ : X => I (0)) φ (fun x => [B1 x, M1 x, F', N1 x])) : Ct prog 61 [Ptr gs, Str mg] [blk gs [Ptr gk, Ptr gb, I ((nx : Nat) : Int)] 216, B, md, F] (fun x : X × ((Option Addr × Nat × Hp) × (Option Addr × Nat × Hp)) => .tuple #[.agg #[I ((nx : Nat) : Int), .slice x.2.1.1 (sgC seed nx mg).length x.2.1.2.1, .slice x.2.2.1 (sgP seed kh nx).length x.2.2.2.1], I ((0 : Nat) : Int)]) (fun x => φ x.1 ∧ Row x.2.1.2.2 9 1 x.2.1.1 (sgC seed nx mg).length x.2.1.2.1 (qAI (sgC seed nx mg)) ∧ Row x.2.2.2.2 9 1 x.2.2.1 (sgP seed kh nx).length x.2.2.2.1 (qAI (sgP seed kh nx))) (fun x => [blk gs [Ptr gk, Ptr gb, I ((nx + 1 : Nat) : Int)] 216, B1 x.1, M1 x.1, F, N1 x.1, x.2.1.2.2, x.2.2.2.2]) := by
 have hp64 := Xm.pow_le kh h6
 obtain ⟨pk, hpk⟩ : ∃ pk, pk = 2 ^ kh := ⟨_, rfl⟩
 rw [← hpk] at hp64 hnx
 refine Ct.walk func61 rfl ntmps61 rfl (fun w0 hw0 => ?_)
 change J _ [(0, _), (1, _)] _ _ _
 refine J.g fun K1 hK1 => J.p (qAO (l := [I 0, .slice none 0 0, .slice none 0 0]) rfl qRX rfl) rfl fun g4 _ => ?_
 change J _ _ _ [blk gs [Ptr gk, Ptr gb, I ((nx : Nat) : Int)] 216, B, md, F, blk g4 [I 0, .slice none 0 0, .slice none 0 0] 50] _
 refine J.b rfl <| J.c hK1 <| J.H 0 1 4 ?_
 refine J.k fun K2 hK2 => J.a1 <| J.g fun K3 hK3 => J.b rfl <| J.f (qAu underlying137 rfl rfl rfl) rfl <| J.b rfl <| J.c hK3 <| J.M 0 1 4 7 ?_
 refine J.a8 ?_
 refine J.k fun K4 hK4 => J.c1 [blk gs [Ptr gk, Ptr gb, I ((nx : Nat) : Int)] 216, F] [] (.y 0 (.y 1 (.y 2 (.y 3 (.y 4 (.y 5 (.y 6 (.y 7 (.e 8 (.y 9 (.y 10 .nil))))))))))) Tryz.wide (by decide +kernel) (by simp) ?_
 refine J.O ?_
 refine J.q rfl (qAD rfl rfl) rfl rfl <| J.q rfl (qAA (j := 2) rfl rfl qEH rfl z3_ rfl) rfl rfl <| J.q rfl (qAC 0 (v := I ((nx : Nat) : Int)) rfl rfl rfl b3_ rfl) rfl rfl <| J.O ?_
 refine J.q rfl (qAD rfl rfl) rfl rfl <| J.q rfl (qAA (j := 0) rfl rfl qEH rfl sizeOf105 rfl) rfl rfl <| J.q rfl (qAC 0 (v := Ptr gk) rfl rfl rfl isAgg105 rfl) rfl rfl <| J.b2 rfl (qAB rfl rfl ent89 (Ct.use0 (fun F' hF => by have := qKQ F' gk seed kh (hk.mono (hF F (by simp))); rw [← hpk] at this; exact this))) rfl (by simp) fun g20 _ => J.q rfl ((qBN rfl rfl rfl).no (by omega)) rfl rfl <| J.b9 ?_
 refine J.b5 <| J.A (J.L hK4 ?_)
 refine J.M 0 1 4 11 ?_
 refine J.a8 ?_
 refine J.c7 <| J.a9 <| J.A (J.L hK2 ?_)
 refine J.H 0 1 4 ?_
 refine J.k fun K5 hK5 => J.k fun K6 hK6 => J.c9 [1, 2, 0, 3, 4] [B, md, blk gs [Ptr gk, Ptr gb, I ((nx : Nat) : Int)] 216, F, blk g4 [I 0, .slice none 0 0, .slice none 0 0] 50] rfl (by decide) <| J.G <| J.b rfl <| J.p (qAB rfl rfl ent122 (Ct.useA [B, md] [blk gs [Ptr gk, Ptr gb, I ((nx : Nat) : Int)] 216, F, blk g4 [I 0, .slice none 0 0, .slice none 0 0] 50] (A' := fun x : X => [B1 x, M1 x]) (new := fun x => [N1 x]) (fun F' hF => qKe F' B md gs gk gb nx (qAQ.blk0.mono (hF (blk gs [Ptr gk, Ptr gb, I ((nx : Nat) : Int)] 216) (by simp))) (by omega) 0 (by decide) φ B1 M1 N1 (fun F2 h2 => hP F2 ((hF F (by simp)).trans h2))))) rfl ?_
 rintro x24 h24
 change J _ _ _ [B1 x24, M1 x24, blk gs [Ptr gk, Ptr gb, I ((nx : Nat) : Int)] 216, F, blk g4 [I 0, .slice none 0 0, .slice none 0 0] 50, N1 x24] _
 refine J.b rfl <| J.c hK6 <| J.M 0 1 4 6 ?_
 refine J.g fun K7 hK7 => J.b rfl <| J.f ((qAY rfl rfl rfl).no (by decide)) rfl <| J.c hK7 <| J.a0 0 1 4 6 26 ?_
 refine J.a8 ?_
 refine J.W hK5 <| J.H 0 1 4 ?_
 refine J.g fun K8 hK8 => J.b rfl <| J.f (qAD rfl rfl) rfl <| J.a2 2 qEH z3_ rfl rfl rfl rfl rfl <| J.f (qAC 2 (v := I ((nx : Nat) : Int)) rfl rfl rfl b3_ rfl) rfl <| J.f ((qAR rfl rfl rfl (by omega)).nat (nx + 1) (by omega)) rfl <| J.f (qAD rfl rfl) rfl <| J.a2 2 qEH z3_ rfl rfl rfl rfl rfl <| J.b1 (qAT (i := 2) (l := [Ptr gk, Ptr gb, I ((nx : Nat) : Int)]) (vs := [I ((nx + 1 : Nat) : Int)]) rfl rfl rfl rfl rfl z3_ rfl (by simp)) rfl rfl fun _ _ => ?_
 change J _ _ _ [_, _, blk gs [Ptr gk, Ptr gb, I ((nx + 1 : Nat) : Int)] 216, _, _, _] _
 refine J.c hK8 <| J.H 0 1 4 ?_
 refine J.k fun K9 hK9 => J.c1 [blk gs [Ptr gk, Ptr gb, I ((nx + 1 : Nat) : Int)] 216] [13, 14] (.y 0 (.y 1 (.y 2 (.y 3 (.y 4 (.y 5 (.y 6 (.y 7 (.y 8 (.y 9 (.e 10 (.y 11 (.y 12 (.e 13 (.e 14 .nil))))))))))))))) Tryz.wide (by decide +kernel) (by simp) ?_
 refine J.O ?_
 refine J.q rfl (qAD rfl rfl) rfl rfl <| J.q rfl (qAA (j := 0) rfl rfl qEH rfl sizeOf105 rfl) rfl rfl <| J.q rfl (qAC 0 (v := Ptr gk) rfl rfl rfl isAgg105 rfl) rfl rfl <| J.O ?_
 refine J.q rfl (qAD rfl rfl) rfl rfl <| J.q rfl (qAA (j := 2) rfl rfl qEH rfl z3_ rfl) rfl rfl <| J.q rfl (qAC 0 (v := I ((nx + 1 : Nat) : Int)) rfl rfl rfl b3_ rfl) rfl rfl <| J.q rfl ((qAp rfl rfl rfl (by omega)).nat (nx) (by omega)) rfl rfl <| J.O ?_
 refine J.b2 rfl (qAB rfl rfl ent45 (Ct.use (new := fun x : (Option Addr × Nat × Hp) × (Option Addr × Nat × Hp) => [x.1.2.2, x.2.2.2]) (fun F' hF => qLN F' (hK.mo hF) gk seed kh (hk.mono (hF F (by simp))) (by first | assumption | decide) (by first | assumption | decide) nx (by rw [← hpk]; exact hnx) mg (by omega)))) rfl (by simp) ?_
 rintro ⟨⟨A46, c46, m46⟩, ⟨B46, d46, n46⟩⟩ ⟨h46, k46⟩
 change J _ ((46, .tuple #[.agg #[I ((nx : Nat) : Int), .slice A46 (sgC seed nx mg).length c46, .slice B46 (sgP seed kh nx).length d46], I 0]) :: _) _ [_, _, _, _, _, _, m46, n46] _
 refine J.d0 (.agg #[I ((nx : Nat) : Int), .slice A46 ((sgC seed nx mg).length) c46, .slice B46 ((sgP seed kh nx).length) d46]) ?_
 refine J.d0 (I ((0 : Nat) : Int)) ?_
 refine J.d7 rfl (qAG (i := 4) (l := [I 0, .slice none 0 0, .slice none 0 0]) (vs := [I ((nx : Nat) : Int), .slice A46 ((sgC seed nx mg).length) c46, .slice B46 ((sgP seed kh nx).length) d46]) rfl rfl rfl rfl rfl qLG rfl rfl) rfl rfl rfl fun _ _ => ?_
 change J _ _ _ [_, _, _, _, blk g4 [I ((nx : Nat) : Int), .slice A46 ((sgC seed nx mg).length) c46, .slice B46 ((sgP seed kh nx).length) d46] 50, _, _, _] _
 refine J.h3 rfl (YOp.eop (qD3 rfl rfl)) rfl rfl rfl rfl ?_
 intro _ _
 refine J.b5 <| J.A (J.L hK9 ?_)
 refine J.E 4 5 ?_
 exact J.D <| J.b4 hw0 (fun _ _ h => h) (rv2 rfl (RV.blkA 4 rfl rfl isAgg50 qLG) rfl) (qAj (x24, ((A46, c46, m46), (B46, d46, n46))) rfl ⟨h24, h46, k46⟩ [2, 0, 1, 3, 5, 6, 7] rfl (by decide))
theorem qNo (F : Hp) (gs gk gb nx : Nat) (hS : qAQ F ⟨gs, 0, none⟩ [Ptr gk, Ptr gb, I ((nx : Nat) : Int)]) : Ct prog 62 [Ptr gs] [F] (fun _ : Unit => I ((nx : Nat) : Int)) (fun _ => True) (fun _ => [F]) := by
 refine Ct.walk func62 rfl ntmps62 rfl (fun w0 hw0 => ?_)
 change J _ [(0, _)] _ _ _
 refine J.g fun K1 hK1 => J.b rfl <| J.c hK1 <| J.u 0 ?_
 refine J.k fun K2 hK2 => J.g fun K3 hK3 => J.b rfl <| J.f ((qAu underlying137 rfl rfl rfl).as (v' := .bool false) rfl) rfl <| J.c hK3 <| J.E 0 4 ?_
 refine J.a8 ?_
 refine J.W hK2 <| J.u 0 ?_
 refine J.g fun K4 hK4 => J.b rfl <| J.f (qAD rfl rfl) rfl <| J.a2 2 qEH z3_ rfl rfl rfl rfl rfl <| J.f (qAN (v := I ((nx : Nat) : Int)) rfl rfl b3_ (m := F) (by simp) (hS.at (i := 2) rfl)) rfl <| J.b rfl <| J.c hK4 <| J.u 2 ?_
 exact J.D <| J.V hw0 rfl () rfl trivial [0] rfl (by decide)
theorem qLo (F : Hp) (gs gk gb nx : Nat) (hS : qAQ F ⟨gs, 0, none⟩ [Ptr gk, Ptr gb, I ((nx : Nat) : Int)]) (seed : List UInt8) (kh : Nat) (hk : qJM F gk seed kh) (hsd : seed.length ≤ 1048576) (h6 : kh ≤ 6) : Ct prog 54 [Ptr gs] [F] (fun _ : Unit => .agg #[Str (Wo.opn (seed)), Str (Xm.root (seed) (kh)), I ((kh : Nat) : Int)]) (fun _ => True) (fun _ => [F]) := by
 refine Ct.walk func54 rfl ntmps54 rfl (fun w0 hw0 => ?_)
 change J _ [(0, _)] _ _ _
 refine J.g fun K1 hK1 => J.p (qAO (l := [Str [], Str [], I 0]) rfl zeroValue54 rfl) rfl fun g2 _ => ?_
 change J _ _ _ [F, blk g2 [Str [], Str [], I 0] 54] _
 refine J.c hK1 <| J.E 0 2 ?_
 refine J.k fun K2 hK2 => J.g fun K3 hK3 => J.b rfl <| J.f ((qAu underlying137 rfl rfl rfl).as (v' := .bool false) rfl) rfl <| J.c hK3 <| J.H 0 2 4 ?_
 refine J.a8 ?_
 refine J.W hK2 <| J.E 0 2 ?_
 refine J.g fun K4 hK4 => J.b rfl <| J.f (qAD rfl rfl) rfl <| J.a2 0 qEH sizeOf105 rfl rfl rfl rfl rfl <| J.f (qAN (v := Ptr gk) rfl rfl isAgg105 (m := F) (by simp) (hS.at (i := 0) rfl)) rfl <| J.p (qAB rfl rfl ent35 (Ct.use0 (fun F' hF => qNb F' gk seed kh (hk.mono (hF F (by simp)))))) rfl fun g10 _ => J.b1 (qAG (i := 1) (l := [Str [], Str [], I 0]) (vs := [Str (Wo.opn (seed)), Str (Xm.root (seed) (kh)), I ((kh : Nat) : Int)]) rfl rfl rfl rfl rfl qLF rfl rfl) rfl rfl fun _ _ => ?_
 change J _ _ _ [_, blk g2 [Str (Wo.opn (seed)), Str (Xm.root (seed) (kh)), I ((kh : Nat) : Int)] 54] _
 refine J.c hK4 <| J.u 2 ?_
 exact J.D <| J.b4 hw0 (fun _ _ h => h) (rv1 rfl (RV.blkA 1 rfl rfl isAgg54 qLF)) (qAj () rfl trivial [0] rfl (by decide))
end Go.Proofs.YtfldiegfenndjaaGreatDoor
namespace Go.Proofs.YtfldiegfenndjaaGreatDoor
open Go Go.Fw Go.Proofs.Tryz
set_option maxRecDepth 100000
set_option maxHeartbeats 1000000
theorem qI2 {l : List (List UInt8)} (h : ∀ s ∈ l, s.length = 16) : ∀ s ∈ l, s.length ≤ 1048576 := fun s hs => by rw [h s hs]; decide
def qFV (ep : Nat) (bd : Int) (hd : List UInt8) (nm : Int) : Prop := ep ≤ 4294967295 ∧ 0 ≤ bd ∧ bd < 16 ∧ hd.length = 16 ∧ 0 ≤ nm ∧ nm < 64
instance (ep : Nat) (bd : Int) (hd : List UInt8) (nm : Int) : Decidable (qFV ep bd hd nm) := by unfold qFV; infer_instance
def plB (ep bd nm : Nat) : List UInt8 := Sha.numB (UInt64.ofNat ep) 4 ++ Sha.numB (UInt64.ofNat bd) 1 ++ Sha.numB (UInt64.ofNat nm) 2
theorem qMI (ep bd nm : Nat) : (plB ep bd nm).length = 7 := by unfold plB; simp only [List.length_append, Sha.numB_length]
def atM (ep bd nm : Nat) (hd : List UInt8) : List UInt8 := Sha.tagged 18 [plB ep bd nm, hd]
theorem qHJ (ep bd nm : Nat) (hd : List UInt8) : (atM ep bd nm hd).length = 16 := Sha.tagged_length _ _
theorem qKz {ep : Nat} {bd : Int} {hd : List UInt8} {nm : Int} (h1 : (ep : Int) ≤ 4294967295) (h2 : 0 ≤ bd) (h3 : bd < 16) (h4 : (hd.length : Int) = 16) (h5 : 0 ≤ nm) : (nm < 64) = qFV ep bd hd nm := propext ⟨fun h => ⟨by omega, h2, h3, by omega, h5, h⟩, fun h => h.2.2.2.2.2⟩
theorem qK0 {ep : Nat} {bd : Int} {hd : List UInt8} {nm : Int} (h : ¬ (ep : Int) ≤ 4294967295 ∨ ¬ 0 ≤ bd ∨ ¬ bd < 16 ∨ ¬ (hd.length : Int) = 16 ∨ ¬ 0 ≤ nm) : false = decide (qFV ep bd hd nm) := by
 symm
 apply decide_eq_false
 unfold qFV
 omega
theorem qJI (F : Hp) (ep : Nat) (bd : Int) (hd : List UInt8) (nm : Int) (i : Int) (A1 A2 : Option Addr) (n1 c1 n2 c2 : Nat) :
    Ct prog 63 [.agg #[N64 ep, I bd, Str hd, I nm, I i, .slice A1 n1 c1, .slice A2 n2 c2]] [F] (fun _ : Unit => .bool (decide (qFV ep bd hd nm))) (fun _ => True) (fun _ => [F]) := by
  refine Ct.walk func63 rfl ntmps63 rfl (fun w0 hw0 => ?_)
  change J _ [(0, _)] _ _ _
  refine J.g fun K1 hK1 => J.p (qAf rfl rfl (l := [N64 ep, I bd, Str hd, I nm, I i, .slice A1 n1 c1, .slice A2 n2 c2]) rfl) rfl fun g1 _ => ?_
  change J _ _ _ [F, blk g1 [N64 ep, I bd, Str hd, I nm, I i, .slice A1 n1 c1, .slice A2 n2 c2] 52] _
  refine J.b rfl <| J.c hK1 <| J.u 1 ?_
  refine J.g fun K2 hK2 => J.a2 0 qEX qCm rfl rfl rfl rfl rfl <| J.d1 1 qDN rfl rfl rfl rfl rfl <| J.f (qGE rfl rfl rfl) rfl <| J.b rfl <| J.c5 (d := 6) rfl (fun h6 => ?_) (fun h6 => ?_)
  ·
    refine J.T (qAA (j := 1) rfl rfl qEX rfl z3_ rfl) rfl <| J.T (qAC 1 rfl rfl rfl b3_ rfl) rfl <| J.T (qBN rfl rfl rfl) rfl <| J.j 2 rfl <| J.c5 (d := 11) rfl (fun h11 => ?_) (fun h11 => ?_)
    ·
      refine J.T (qAA (j := 1) rfl rfl qEX rfl z3_ rfl) rfl <| J.T (qAC 1 rfl rfl rfl b3_ rfl) rfl <| J.T (qAW rfl rfl rfl) rfl <| J.j 2 rfl <| J.c5 (d := 16) rfl (fun h16 => ?_) (fun h16 => ?_)
      ·
        refine J.T (qAA (j := 2) rfl rfl qEX rfl z9_ rfl) rfl <| J.T (qAC 1 rfl rfl rfl b9_ rfl) rfl <| J.T (qAk u9_ rfl rfl) rfl <| J.T (qAV rfl rfl rfl) rfl <| J.j 2 rfl <| J.c5 (d := 22) rfl (fun h22 => ?_) (fun h22 => ?_)
        ·
          refine J.T (qAA (j := 3) rfl rfl qEX rfl z3_ rfl) rfl <| J.T (qAC 1 rfl rfl rfl b3_ rfl) rfl <| J.T (qBN rfl rfl rfl) rfl <| J.j 2 rfl <| J.c5 (d := 27) rfl (fun h27 => ?_) (fun h27 => ?_)
          ·
            refine J.T (qAA (j := 3) rfl rfl qEX rfl z3_ rfl) rfl <| J.T (qAC 1 rfl rfl rfl b3_ rfl) rfl <| J.T (qAW rfl rfl rfl) rfl <| J.f ((by first | exact (qBW rfl rfl rfl).as (v' := .bool (decide (qFV ep bd hd nm))) (congrArg Value.bool (decide_eq_decide.2 (iff_of_eq (qKz (by assumption) (by assumption) (by assumption) (by assumption) (by assumption))))) | exact (qBd rfl rfl rfl).as (v' := .bool (decide (qFV ep bd hd nm))) (congrArg Value.bool (qK0 (by omega))))) rfl <| J.b rfl <| J.c hK2 <| J.u 2 ?_
            exact J.D <| J.V hw0 rfl () rfl trivial [0] rfl (by decide)
          refine J.j 3 rfl <| J.f ((by first | exact (qBW rfl rfl rfl).as (v' := .bool (decide (qFV ep bd hd nm))) (congrArg Value.bool (decide_eq_decide.2 (iff_of_eq (qKz (by assumption) (by assumption) (by assumption) (by assumption) (by assumption))))) | exact (qBd rfl rfl rfl).as (v' := .bool (decide (qFV ep bd hd nm))) (congrArg Value.bool (qK0 (by omega))))) rfl <| J.b rfl <| J.c hK2 <| J.u 2 ?_
          exact J.D <| J.V hw0 rfl () rfl trivial [0] rfl (by decide)
        refine J.j 8 rfl <| J.f ((by first | exact (qBW rfl rfl rfl).as (v' := .bool (decide (qFV ep bd hd nm))) (congrArg Value.bool (decide_eq_decide.2 (iff_of_eq (qKz (by assumption) (by assumption) (by assumption) (by assumption) (by assumption))))) | exact (qBd rfl rfl rfl).as (v' := .bool (decide (qFV ep bd hd nm))) (congrArg Value.bool (qK0 (by omega))))) rfl <| J.b rfl <| J.c hK2 <| J.u 2 ?_
        exact J.D <| J.V hw0 rfl () rfl trivial [0] rfl (by decide)
      refine J.j 14 rfl <| J.f ((by first | exact (qBW rfl rfl rfl).as (v' := .bool (decide (qFV ep bd hd nm))) (congrArg Value.bool (decide_eq_decide.2 (iff_of_eq (qKz (by assumption) (by assumption) (by assumption) (by assumption) (by assumption))))) | exact (qBd rfl rfl rfl).as (v' := .bool (decide (qFV ep bd hd nm))) (congrArg Value.bool (qK0 (by omega))))) rfl <| J.b rfl <| J.c hK2 <| J.u 2 ?_
      exact J.D <| J.V hw0 rfl () rfl trivial [0] rfl (by decide)
    refine J.j 19 rfl <| J.f ((by first | exact (qBW rfl rfl rfl).as (v' := .bool (decide (qFV ep bd hd nm))) (congrArg Value.bool (decide_eq_decide.2 (iff_of_eq (qKz (by assumption) (by assumption) (by assumption) (by assumption) (by assumption))))) | exact (qBd rfl rfl rfl).as (v' := .bool (decide (qFV ep bd hd nm))) (congrArg Value.bool (qK0 (by omega))))) rfl <| J.b rfl <| J.c hK2 <| J.u 2 ?_
    exact J.D <| J.V hw0 rfl () rfl trivial [0] rfl (by decide)
  refine J.j 24 rfl <| J.f ((by first | exact (qBW rfl rfl rfl).as (v' := .bool (decide (qFV ep bd hd nm))) (congrArg Value.bool (decide_eq_decide.2 (iff_of_eq (qKz (by assumption) (by assumption) (by assumption) (by assumption) (by assumption))))) | exact (qBd rfl rfl rfl).as (v' := .bool (decide (qFV ep bd hd nm))) (congrArg Value.bool (qK0 (by omega))))) rfl <| J.b rfl <| J.c hK2 <| J.u 2 ?_
  exact J.D <| J.V hw0 rfl () rfl trivial [0] rfl (by decide)
theorem qNL (F : Hp) (ep bd nm : Nat) (hd : List UInt8) (i : Int) (A1 A2 : Option Addr) (n1 c1 n2 c2 : Nat) (h1 : ep ≤ 4294967295) (h2 : bd < 16) (h3 : nm < 64) (h4 : hd.length = 16) :
    Ct prog 64 [.agg #[N64 ep, I (bd : Nat), Str hd, I (nm : Nat), I i, .slice A1 n1 c1, .slice A2 n2 c2]] [F] (fun _ : Unit => Str (plB ep bd nm)) (fun _ => True) (fun _ => [F]) := by
  refine Ct.walk func64 rfl ntmps64 rfl (fun w0 hw0 => ?_)
  change J _ [(0, _)] _ _ _
  refine J.g fun K1 hK1 => J.p (qAf rfl rfl (l := [N64 ep, I (bd : Nat), Str hd, I (nm : Nat), I i, .slice A1 n1 c1, .slice A2 n2 c2]) rfl) rfl fun g1 _ => ?_
  change J _ _ _ [F, blk g1 [N64 ep, I (bd : Nat), Str hd, I (nm : Nat), I i, .slice A1 n1 c1, .slice A2 n2 c2] 52] _
  refine J.b rfl <| J.c hK1 <| J.u 1 ?_
  refine J.g fun K2 hK2 => J.p (qAO rfl zeroValue188 rfl) rfl fun g3 _ => ?_
  change J _ _ _ [_, _, blk g3 _ 188] _
  refine J.c hK2 <| J.E 1 3 ?_
  refine J.k fun K3 hK3 => J.c1 [blk g1 [N64 ep, I (bd : Nat), Str hd, I (nm : Nat), I i, .slice A1 n1 c1, .slice A2 n2 c2] 52] [] (.y 0 (.y 1 (.y 3 (.y 4 (.y 5 (.y 7 (.y 8 (.y 9 (.e 2 (.e 6 (.e 10 (.e 11 (.y 12 (.y 13 (.y 14 (.y 15 (.y 16 .nil))))))))))))))))) Tryz.wide (by decide +kernel) (by simp) ?_
  refine J.q rfl (qAA (j := 0) rfl rfl qEX rfl qCm rfl) rfl rfl <| J.q rfl (qAC 0 rfl rfl rfl qDN rfl) rfl rfl <| J.q rfl (qAA (j := 1) rfl rfl qEX rfl z3_ rfl) rfl rfl <| J.q rfl (qAC 0 rfl rfl rfl b3_ rfl) rfl rfl <| J.q rfl (qAr rfl rfl u3_ qEm (m := bd) (by omega)) rfl rfl <| J.q rfl (qAA (j := 3) rfl rfl qEX rfl z3_ rfl) rfl rfl <| J.q rfl (qAC 0 rfl rfl rfl b3_ rfl) rfl rfl <| J.q rfl (qAr rfl rfl u3_ qEm (m := nm) (by omega)) rfl rfl <| J.b2 rfl (qAB rfl rfl ent83 (Ct.use1 2 (m' := fun x : Hp => x) (new := fun _ => []) rfl (fun F' _ => qMX F' (blk g3 [.pointer none, .slice none 0 0, I 0] 188) g3 [] 0 (qLO g3) (by decide) ep (by omega) 4 (by omega) (by omega)))) rfl (by simp) ?_
  rintro m9 hw9
  change J _ _ _ [_, _, m9] _
  rw [(qHt (size := 4) (by omega) (by omega)), qD7, qCv (qHt (size := 4) (by omega) (by omega)), List.nil_append] at hw9
  refine J.b2 rfl (qAB rfl rfl ent83 (Ct.use1 2 (m' := fun x : Hp => x) (new := fun _ => []) rfl (fun F' _ => qEa F' m9 g3 (Sha.numB (UInt64.ofNat ep) 4) 0 hw9 (by rw [Sha.numB_length]; omega) (UInt64.ofNat bd) 1 (by omega) (by omega)))) rfl (by simp) ?_
  rintro m13 hw13
  change J _ _ _ [_, _, m13] _
  rw [(qHt (size := 1) (by omega) (by omega)), qD7, qCv (qHt (size := 1) (by omega) (by omega))] at hw13
  refine J.b2 rfl (qAB rfl rfl ent83 (Ct.use1 2 (m' := fun x : Hp => x) (new := fun _ => []) rfl (fun F' _ => qEa F' m13 g3 ((Sha.numB (UInt64.ofNat ep) 4) ++ Sha.numB (UInt64.ofNat bd) 1) 0 hw13 (by rw [List.length_append, Sha.numB_length, Sha.numB_length]; omega) (UInt64.ofNat nm) 2 (by omega) (by omega)))) rfl (by simp) ?_
  rintro m17 hw17
  change J _ _ _ [_, _, m17] _
  rw [(qHt (size := 2) (by omega) (by omega)), qD7, qCv (qHt (size := 2) (by omega) (by omega))] at hw17
  refine J.b2 rfl (qAB rfl rfl ent86 (Ct.use1 2 (m' := fun x : Hp => x) (new := fun _ => []) rfl (fun F' _ => qE4 F' m17 g3 (plB ep bd nm) 0 hw17 (by rw [qMI]; omega)))) rfl (by simp) ?_
  rintro m18 _
  change J _ _ _ [_, _, m18] _
  refine J.O ?_
  refine J.d0 (Str (plB ep bd nm)) ?_
  refine J.d0 (I 0) ?_
  refine J.b9 ?_
  refine J.b9 ?_
  refine J.b5 <| J.A (J.L hK3 ?_)
  refine J.u 4 ?_
  refine J.g fun K4 hK4 => J.j 2 rfl <| J.c hK4 <| J.u 2 ?_
  exact J.D <| J.V hw0 rfl () rfl trivial [0] rfl (by decide)
theorem qCC (F : Hp) (hK : KF F) (ep bd nm : Nat) (hd : List UInt8) (i : Int) (A1 A2 : Option Addr) (n1 c1 n2 c2 : Nat) (h1 : ep ≤ 4294967295) (h2 : bd < 16) (h3 : nm < 64) (h4 : hd.length = 16) :
    Ct prog 22 [.agg #[N64 ep, I (bd : Nat), Str hd, I (nm : Nat), I i, .slice A1 n1 c1, .slice A2 n2 c2]] [F] (fun _ : Unit => Str (atM ep bd nm hd)) (fun _ => True) (fun _ => [F]) := by
  refine Ct.walk func22 rfl ntmps22 rfl (fun w0 hw0 => ?_)
  change J _ [(0, _)] _ _ _
  refine J.g fun K1 hK1 => J.p (qAf rfl rfl (l := [N64 ep, I (bd : Nat), Str hd, I (nm : Nat), I i, .slice A1 n1 c1, .slice A2 n2 c2]) rfl) rfl fun g1 _ => ?_
  change J _ _ _ [F, blk g1 [N64 ep, I (bd : Nat), Str hd, I (nm : Nat), I i, .slice A1 n1 c1, .slice A2 n2 c2] 52] _
  refine J.b rfl <| J.c hK1 <| J.u 1 ?_
  refine J.k fun K2 hK2 => J.g fun K3 hK3 => J.c4 1 qHN qCl rfl rfl rfl rfl rfl <| J.p (qAB rfl rfl ent63 (Ct.use0 (fun F' hF => qJI F' ep bd hd nm i A1 A2 n1 c1 n2 c2))) rfl fun g4 _ => J.f ((qA1 rfl rfl).as (v' := .bool false) (by rw [decide_eq_true (show qFV ep bd hd nm from ⟨h1, by omega, by omega, h4, by omega, by omega⟩)]; rfl)) rfl <| J.c hK3 <| J.E 1 5 ?_
  refine J.a8 ?_
  refine J.W hK2 <| J.u 1 ?_
  refine J.k fun K4 hK4 => J.c1 [blk g1 [N64 ep, I (bd : Nat), Str hd, I (nm : Nat), I i, .slice A1 n1 c1, .slice A2 n2 c2] 52] [] (.y 0 (.y 2 (.y 3 (.e 1 (.e 4 (.e 5 (.y 6 .nil))))))) Tryz.wide (by decide +kernel) (by simp) ?_
  refine J.q rfl (qAi 0 rfl rfl rfl qHN qCl rfl) rfl rfl <| J.q rfl (qAA (j := 2) rfl rfl qEX rfl z9_ rfl) rfl rfl <| J.q rfl (qAC 0 rfl rfl rfl b9_ rfl) rfl rfl <| J.b2 rfl (qAB rfl rfl ent64 (Ct.use0 (fun F' hF => qNL F' ep bd nm hd i A1 A2 n1 c1 n2 c2 h1 h2 h3 h4))) rfl (by simp) fun g7 _ => J.b2 rfl (qAJ (l := [.tmp 7, .tmp 9]) (xs := [[Str (plB ep bd nm)], [Str (hd)]]) rfl rfl rfl rfl qAh el9 rfl (by decide) (by decide) (by simp)) rfl (by simp) fun g10 _ => ?_
  change J _ _ _ [_, _, blk g10 [Str (plB ep bd nm), Str (hd)] 9] _
  refine J.b2 rfl (qAB rfl rfl ent44 (Ct.use0 (fun F' hF => qA3 F' (hK.mono (hF _ (by simp))) 18 (some ⟨g10, 0, none⟩) 2 2 [plB ep bd nm, hd] ((slS [plB ep bd nm, hd] rfl).mono (hF (blk g10 (([plB ep bd nm, hd] : List (List UInt8)).map fun s => Str s) 9) (by simp))) (by simp only [List.flatten_cons, List.flatten_nil, List.append_nil, List.length_append, qMI, h4]; decide) (by decide)))) rfl (by simp) fun g11 _ => J.b9 ?_
  refine J.b5 <| J.A (J.L hK4 ?_)
  refine J.u 2 ?_
  exact J.D <| J.V hw0 rfl () rfl trivial [0] rfl (by decide)
theorem qFi (F : Hp) (ep : Nat) (bd : Int) (hd : List UInt8) (nm : Int) (i : Int) (A1 A2 : Option Addr) (n1 c1 n2 c2 : Nat) (hn : ¬ qFV ep bd hd nm) :
    Ct prog 22 [.agg #[N64 ep, I bd, Str hd, I nm, I i, .slice A1 n1 c1, .slice A2 n2 c2]] [F] (fun _ : Unit => Str []) (fun _ => True) (fun _ => [F]) := by
  refine Ct.walk func22 rfl ntmps22 rfl (fun w0 hw0 => ?_)
  change J _ [(0, _)] _ _ _
  refine J.g fun K1 hK1 => J.p (qAf rfl rfl (l := [N64 ep, I bd, Str hd, I nm, I i, .slice A1 n1 c1, .slice A2 n2 c2]) rfl) rfl fun g1 _ => ?_
  change J _ _ _ [F, blk g1 [N64 ep, I bd, Str hd, I nm, I i, .slice A1 n1 c1, .slice A2 n2 c2] 52] _
  refine J.b rfl <| J.c hK1 <| J.u 1 ?_
  refine J.k fun K2 hK2 => J.g fun K3 hK3 => J.c4 1 qHN qCl rfl rfl rfl rfl rfl <| J.p (qAB rfl rfl ent63 (Ct.use0 (fun F' hF => qJI F' ep bd hd nm i A1 A2 n1 c1 n2 c2))) rfl fun g4 _ => J.f ((qA1 rfl rfl).as (v' := .bool true) (by rw [decide_eq_false hn]; rfl)) rfl <| J.c hK3 <| J.E 1 5 ?_
  refine J.c6 ?_
  refine J.g fun K4 hK4 => J.b rfl <| J.c hK4 <| J.u 2 ?_
  exact J.D <| J.a3 <| J.V hw0 rfl () rfl trivial [0] rfl (by decide)
theorem qLB (F : Hp) (hK : KF F) (ep bd nm : Nat) (hd : List UInt8) (h1 : ep ≤ 4294967295) (h2 : bd < 16) (h3 : nm < 64) (h4 : hd.length = 16) (o r : List UInt8) (i : Nat) (A1 : Option Addr) (c1 : Nat) (ch : List (List UInt8)) (hch : Sl F 1 A1 35 c1 (qAI ch)) (hc16 : ∀ s ∈ ch, s.length = 16) (A2 : Option Addr) (h c2 : Nat) (pt : List (List UInt8)) (hpt : Sl F 1 A2 h c2 (qAI pt)) (hp16 : ∀ s ∈ pt, s.length = 16) (ho : o.length ≤ 1048576) (h6 : h ≤ 6) (hi : i < 2 ^ h) :
    Ct prog 25 [.agg #[N64 ep, I (bd : Nat), Str hd, I (nm : Nat), I (i : Nat), .slice A1 35 c1, .slice A2 h c2], .agg #[Str o, Str r, I h]] [F] (fun _ : Unit => .bool (decide (Mk.climb (Wo.publicOf o i (Wo.ends o i (Wo.digs (Xm.digest o i (atM ep bd nm hd))) ch 35)) i pt = r))) (fun _ => True) (fun _ => [F]) := by
  refine Ct.walk func25 rfl ntmps25 rfl (fun w0 hw0 => ?_)
  change J _ [(0, _), (1, _)] _ _ _
  refine J.g fun K1 hK1 => J.p (qAf rfl rfl (l := [N64 ep, I (bd : Nat), Str hd, I (nm : Nat), I (i : Nat), .slice A1 35 c1, .slice A2 h c2]) rfl) rfl fun g2 _ => ?_
  change J _ _ _ [F, blk g2 [N64 ep, I (bd : Nat), Str hd, I (nm : Nat), I (i : Nat), .slice A1 35 c1, .slice A2 h c2] 52] _
  refine J.p (qAf rfl rfl (l := [Str o, Str r, I h]) rfl) rfl fun g3 _ => ?_
  change J _ _ _ [_, _, blk g3 [Str o, Str r, I h] 54] _
  refine J.b rfl <| J.c hK1 <| J.E 2 3 ?_
  refine J.k fun K2 hK2 => J.c1 [blk g2 [N64 ep, I (bd : Nat), Str hd, I (nm : Nat), I (i : Nat), .slice A1 35 c1, .slice A2 h c2] 52, blk g3 [Str o, Str r, I h] 54] [] (.y 0 (.e 1 (.y 2 (.y 3 (.y 4 (.y 6 (.y 7 (.e 5 (.e 8 (.y 9 (.y 10 .nil))))))))))) Tryz.wide (by decide +kernel) (by simp) ?_
  refine J.q rfl (qAi 0 rfl rfl rfl qHN qCl rfl) rfl rfl <| J.b2 rfl (qAB rfl rfl ent63 (Ct.use0 (fun F' hF => (qJI F' ep bd hd nm (i : Nat) A1 A2 35 c1 h c2).mono (φ2 := fun _ => True) (val2 := fun _ : Unit => .bool true) id (fun _ _ => congrArg Value.bool (decide_eq_true (show qFV ep bd hd nm from ⟨h1, by omega, by omega, h4, by omega, by omega⟩))) (fun _ _ => trivial) (fun _ _ _ _ h => h)))) rfl (by simp) fun g6 _ => J.O ?_
  refine J.a4 rfl (qAi 1 rfl rfl rfl isAgg54 qLF rfl) rfl rfl <| J.a4 rfl (qAi 0 rfl rfl rfl qHN qCl rfl) rfl rfl <| J.a4 rfl (qAA (j := 4) rfl rfl qEX rfl qLG rfl) rfl rfl <| J.a4 rfl (qMS 0 rfl rfl isAgg50 qLG (vs := [I (i : Nat), .slice A1 35 c1, .slice A2 h c2]) rfl (qAQ.blk 4 (fun j u hj => by match j with | 0 => exact hj | 1 => exact hj | 2 => exact hj)) rfl) rfl rfl <| J.e6 rfl (qAB rfl rfl ent22 (Ct.use0 (fun F' hF => qCC F' (hK.mono (hF _ (by simp))) ep bd nm hd (i : Nat) A1 A2 35 c1 h c2 h1 h2 h3 h4))) (Wan.is rfl rfl rfl rfl rfl) rfl rfl (by simp) ?_
  intro g10 _
  refine J.e6 rfl (qAB rfl rfl ent66 (Ct.use0 (fun F' hF => qKO F' (hK.mono (hF _ (by simp))) o r h (atM ep bd nm hd) i A1 c1 ch (hch.mono (hF F (by simp))) hc16 A2 c2 pt (hpt.mono (hF F (by simp))) (qI2 hp16) ho (by rw [qHJ]; decide) h6 hi))) (Wan.is rfl rfl rfl rfl rfl) rfl rfl (by simp) ?_
  intro g13 _
  refine J.d2 ?_
  refine J.b9 ?_
  refine J.b5 <| J.A (J.L hK2 ?_)
  refine J.u 4 ?_
  exact J.D <| J.V hw0 rfl () rfl trivial [0] rfl (by decide)
def T1 (tn : UInt64) (nr : Nat) (s : List UInt8) : List UInt8 := (prt tn (UInt64.ofNat nr) s 1 0).text
theorem qRx {nr : Nat} (h : nr < 65536) : (UInt64.ofNat nr).toNat = nr ∧ (UInt64.ofNat nr).toNat < 2 ^ (8 * 2) := by
 rw [qAt (by omega)]; exact ⟨rfl, h⟩
theorem qRT {tn : UInt64} {nr : Nat} (s : List UInt8) (ht : tn.toNat < 2 ^ (8 * 4)) (hn : nr < 65536) : (prt tn (UInt64.ofNat nr) s 1 0).ok := qMD ht (qRx hn).2 (by decide) (by decide)
theorem qNO {tn : UInt64} {nr : Nat} (s : List UInt8) (ht : tn.toNat < 2 ^ (8 * 4)) (hn : nr < 65536) : (T1 tn nr s).length = 64 := Prt.text_len (qRT s ht hn)
theorem qO6 {tn : UInt64} {nr : Nat} (s : List UInt8) (ht : tn.toNat < 2 ^ (8 * 4)) (hn : nr < 65536) : qA4 (T1 tn nr s) = (prt tn (UInt64.ofNat nr) s 1 0, true) := qKl (qRT s ht hn) (qCW _ _ _)
theorem qBn {n : Nat} (h : n ≤ 39) : qBR n = 1 := by
 unfold qBR
 split
 · rfl
 · rw [show (n - 1) / 39 = 0 by omega]
theorem qME {tn num : UInt64} {s : List UInt8} (h : s.length ≤ 39) : (prt tn num s 1 0).con = s := by
 show (s.drop (39 * 0)).take 39 = s
 rw [Nat.mul_zero, List.drop_zero, List.take_of_length_le h]
theorem qNy {turn tn : UInt64} {nr : Nat} {l : List (List UInt8)} {s : List UInt8} (hl : l.getD 0 [] = T1 tn nr s) (h0 : tn.toNat ≠ 0) (ht : tn.toNat < 2 ^ (8 * 4)) (hn : nr < 65536) (hs : s.length ≤ 39) (h1 : 0 < l.length) (hc : 0 < nr → tn.toNat = turn.toNat) :
    qBi turn nr l = ⟨tn, s, 1, true⟩ := by
  have hp : qA4 (l.getD 0 []) = (prt tn (UInt64.ofNat nr) s 1 0, true) := by rw [hl]; exact qO6 s ht hn
  have hf : qQR turn nr l.length (prt tn (UInt64.ofNat nr) s 1 0, true) := ⟨rfl, rfl, h0, (qRx hn).1, h1, hc⟩
  have hq : ∀ i < (prt tn (UInt64.ofNat nr) s 1 0).all, qPM (prt tn (UInt64.ofNat nr) s 1 0) i (qA4 (l.getD i [])) := fun i hi => by
    have hi0 : i = 0 := by have : i < 1 := hi; omega
    rw [hi0, hp]; exact ⟨rfl, rfl, rfl, rfl, rfl, rfl⟩
  have hcat : qE3 l (prt tn (UInt64.ofNat nr) s 1 0).all = s := by
    show qE3 l 0 ++ (qA4 (l.getD 0 [])).1.con = s
    rw [hp]
    show [] ++ (prt tn (UInt64.ofNat nr) s 1 0).con = s
    rw [qME hs, List.nil_append]
  rw [qPL hp hf hq, hcat, decide_eq_true]
  · rfl
  · exact ⟨(qBn hs).symm, rfl⟩
def qGY (s : List UInt8) : Prop := (qA4 s).2 = false ∨ (qA4 s).1.turn.toNat = 0
theorem qHh {turn : UInt64} {nr : Nat} {l : List (List UInt8)} (h : qGY (l.getD 0 [])) : qBi turn nr l = qKv := by
 unfold qBi
 rw [if_neg]
 rintro ⟨hf, _⟩
 rcases h with h | h
 · exact absurd hf.1 (by rw [h]; decide)
 · exact hf.2.2.1 h
def Txs (tn : UInt64) : Nat → List (List UInt8) → List (List UInt8)
 | _, [] => []
 | nr, s :: r => T1 tn nr s :: Txs tn (nr + 1) r
theorem qL8 {tn : UInt64} (h0 : tn.toNat ≠ 0) (h1 : tn.toNat < 2 ^ (8 * 4)) : ∀ (S : List (List UInt8)) (t : UInt64) (R : List (List UInt8)) (e : Nat) (J : List (List UInt8)), (∀ s ∈ S, s.length ≤ 39) → R.length + S.length ≤ 65536 → (0 < R.length → tn = t) →
    (∀ t', qBi t' (R.length + S.length) J = qKv) → rdl t R e (Txs tn R.length S ++ J) = (if S = [] then t else tn, R ++ S, e + S.length)
  | [], t, R, e, J, _, _, _, hJ => by
    have := hJ t
    rw [List.length_nil, Nat.add_zero] at this
    show rdl t R e J = _
    rw [qJe (fun h => by rw [this] at h; exact absurd h.2 (by decide)), if_pos rfl, List.append_nil]; rfl
  | s :: r, t, R, e, J, hS, hn, ht, hJ => by
    have hs := hS s (.head _)
    rw [List.length_cons] at hn hJ
    have hr : qBi t R.length (Txs tn R.length (s :: r) ++ J) = ⟨tn, s, 1, true⟩ := qNy (by rw [Txs]; rfl) h0 h1 (by omega) hs (by rw [Txs]; simp) (fun h => by rw [ht h])
    have hne : Txs tn R.length (s :: r) ++ J ≠ [] := by rw [Txs]; simp
    rw [qL7 hne (by rw [hr]), hr]
    dsimp only
    have e1 : (Txs tn R.length (s :: r) ++ J).drop 1 = Txs tn (R ++ [s]).length r ++ J := by
      rw [Txs, List.length_append]; rfl
    rw [e1, qL8 h0 h1 r tn (R ++ [s]) (e + 1) J (fun x hx => hS x (.tail _ hx)) (by rw [List.length_append, List.length_singleton]; omega) (fun _ => rfl) (fun t' => by rw [List.length_append, List.length_singleton]; have := hJ t'; rwa [show R.length + 1 + r.length = R.length + (r.length + 1) by omega])]
    rw [if_neg (List.cons_ne_nil s r), List.append_assoc]
    refine Prod.ext_iff.2 ⟨?_, Prod.ext_iff.2 ⟨rfl, ?_⟩⟩
    · dsimp only
      split <;> rfl
    · dsimp only
      rw [List.length_cons]; omega
theorem qN3 {t : UInt64} {R : List (List UInt8)} {e : Nat} {J : List (List UInt8)} (hJ : ∀ t', qBi t' R.length J = qKv) : rdl t R e J = (t, R, e) := qJe (fun h => by rw [hJ t] at h; exact absurd h.2 (by decide))
theorem zS_no : qGY zS := qPp.imp id (fun h => by rw [h]; rfl)
theorem qJn {d : Dk} (h : d.wait = []) (i : Nat) : d.now i = d.last.getD i [] := by unfold Dk.now; rw [h]; rfl
theorem qG0 (n i : Nat) (h : i < n) : (Dk.new n).last.getD i [] = zS := by
 show (List.replicate n (List.replicate 64 0)).getD i [] = zS
 rw [List.getD_eq_getElem?_getD, List.getElem?_replicate, if_pos h]; rfl
theorem qDu {d : Dk} {at_ n i : Nat} (h : i < n) : (qDd d at_ n).getD i [] = d.now (at_ + i) := by
 unfold qDd
 rw [List.getD_eq_getElem?_getD, List.getElem?_map, List.getElem?_range h]; rfl
theorem qNC {d : Dk} (ho : d.off = false) (ha : d.armed = false) (hw : d.wait = []) {p : Nat} {T : List UInt8} (hT : T.length = 64) (hp : p < d.last.length) (h64 : ∀ s ∈ d.last, s.length = 64) :
    (qBt d p (fun _ => T) 1) = ({ d with last := d.last.set p T, wait := [] }, 0) := by
  have h0 : d.ready ((p + 0 : Nat) : Int) = 0 := qBZ ho (i := p + 0) (by omega)
  have hwr := qGb h0 (s := T) (by omega) (qFg ha).2
  rw [(qFg ha).1] at hwr
  have e1 : qCp d p (fun _ => T) 1 = (d.write ((p + 0 : Nat) : Int) T, d.wErr ((p + 0 : Nat) : Int) T) := qCS rfl
  have hfull : qHL T = T := by unfold qHL; rw [hT]; simp
  rw [hwr.1, hwr.2, hw, hfull] at e1
  have h2 : (qCp d p (fun _ => T) 1).2 = 0 := by rw [e1]
  unfold qBt
  rw [if_pos h2, e1]
  dsimp only
  have hl : 0 < d.last.length := by omega
  have h3 : ({ d with wait := [] ++ [(((p + 0 : Nat) : Int).toNat, T)] } : Dk).ready 0 = 0 := qBZ (d := { d with wait := [] ++ [(((p + 0 : Nat) : Int).toNat, T)] }) ho (i := 0) hl
  have h4 := qFg (d := { d with wait := [] ++ [(((p + 0 : Nat) : Int).toNat, T)] }) ha
  unfold Dk.sync Dk.sErr
  rw [if_neg (by rw [h3]; decide), if_neg h4.2, if_neg (by rw [h3]; decide), if_neg h4.2, h4.1]
  refine Prod.ext_iff.2 ⟨?_, rfl⟩
  dsimp only
  congr 1
  show qG4 d.last (p, T) 64 = d.last.set p T
  unfold qG4 qLH
  dsimp only
  rw [List.take_of_length_le (by omega), List.drop_of_length_le (by rw [qI5 h64 hp]; exact Nat.le_refl _), List.append_nil]
attribute [local irreducible] Prt.text qCX qHM Sha.tagged
theorem qIg {d : Dk} {p : Nat} {t t' : Nat → List UInt8} (h : t 0 = t' 0) : qBt d p t 1 = qBt d p t' 1 := by
 have e : ∀ t : Nat → List UInt8, qCp d p t 1 = (d.write ((p + 0 : Nat) : Int) (t 0), d.wErr ((p + 0 : Nat) : Int) (t 0)) := fun t => qCS rfl
 unfold qBt
 rw [e t, e t', h]
def sX0 (first : Nat) : Hlf := ⟨first, 0, [], 0⟩
theorem qMv {n at_ size : Nat} (hs : 0 < size) (h : at_ + size ≤ n) : hlf (Dk.new n) at_ size = ⟨at_, 0, [], 0⟩ :=
 qH5 (qN3 fun t' => qHh (by rw [qDu hs, qJn rfl, qG0 n _ (by omega)]; exact zS_no))
theorem qMt {n first size : Nat} (hs : 0 < size) (h : first + 2 * size ≤ n) : hst (Dk.new n) first size 2 = sX0 first := by
 show (if _ then _ else _) = _
 rw [qMv hs (by omega), qMv hs (by omega), if_neg (by simp)]; rfl
theorem qHT {d : Dk} (hok : d.ok) (ho : d.off = false) (ha : d.armed = false) (hw : d.wait = []) {X : Hlf} {s : List UInt8} (hs : s.length ≤ 39) (ht : X.t.toNat < 2 ^ (8 * 4)) (hn : X.R.length < 65536) (hp : X.at_ + X.e < d.last.length) :
    qBE d X s = ({ d with last := d.last.set (X.at_ + X.e) (T1 (qLI X.t) X.R.length s), wait := [] }, 0) := by
  unfold qBE
  rw [qBn hs, qIg (t' := fun _ => T1 (qLI X.t) X.R.length s) rfl]
  exact qNC (T := T1 (qLI X.t) X.R.length s) ho ha hw (qNO s (qI0 ht) hn) hp hok.l64
theorem qQB {d : Dk} (h : d.ok) {p : Nat} {T : List UInt8} (hT : T.length = 64) : ({ d with last := d.last.set p T, wait := [] } : Dk).ok := by
  refine ⟨⟨fun s hs => ?_, (fun w hw => nomatch hw), ?_, ?_⟩, h.fz, h.fb⟩
  · rcases List.mem_or_eq_of_mem_set hs with hs | rfl
    · exact h.l64 s hs
    · exact hT
  · show 0 < (d.last.set p T).length; rw [List.length_set]; exact h.n0
  · show (d.last.set p T).length ≤ 1024; rw [List.length_set]; exact h.n1
theorem qKC {d : Dk} (hok : d.ok) (ho : d.off = false) (ha : d.armed = false) (hw : d.wait = []) {X : Hlf} {s : List UInt8} (hs : s.length ≤ 39) (ht : X.t.toNat < 2 ^ (8 * 4)) (hn : X.R.length < 65536) (hp : X.at_ + X.e < d.last.length) :
    (qBE d X s).2 = 0 ∧ (qBE d X s).1.ok ∧ (qBE d X s).1.off = false ∧ (qBE d X s).1.armed = false ∧ (qBE d X s).1.wait = [] ∧ (qBE d X s).1.last.length = d.last.length ∧ (qBE d X s).1.keep = d.keep := by
  rw [qHT hok ho ha hw hs ht hn hp]
  exact ⟨rfl, qQB hok (qNO s (qI0 ht) hn), ho, ha, rfl, List.length_set .., rfl⟩
theorem qGG (nx : Nat) : (qBf nx).length ≤ 39 := by rw [qBr]; decide
end Go.Proofs.YtfldiegfenndjaaGreatDoor
namespace Go.Proofs.YtfldiegfenndjaaGreatDoor
set_option maxRecDepth 100000
set_option maxHeartbeats 1000000
namespace SN
def qA8 {α : Type} (n : Nat) (g : Nat → α) : α := Nat.rec (g 0) (fun m _ => g (Nat.succ m)) n
theorem qBM {α : Type} (n : Nat) (g : Nat → α) : qA8 n g = g n := by cases n <;> rfl
noncomputable def forceL {α : Type} (l : List Nat) : (List Nat → α) → α := List.rec (fun g => g []) (fun a _ ih g => qA8 a fun x => ih fun r => g (x :: r)) l
theorem qFc {α : Type} : ∀ (l : List Nat) (g : List Nat → α), forceL l g = g l
 | [], _ => rfl
 | a :: l, g => by
  show qA8 a (fun x => forceL l fun r => g (x :: r)) = g (a :: l)
  rw [qBM, qFc l]
def rot (x r q : Nat) : Nat := x / r + x % r * q
noncomputable def sch (n : Nat) : Nat → Nat → Nat → Nat → Nat → Nat → Nat → Nat → Nat → Nat → Nat → Nat → Nat → Nat → Nat → Nat → List Nat :=
 Nat.rec (fun a b c d e f g h i j k l m n o p => [a, b, c, d, e, f, g, h, i, j, k, l, m, n, o, p])
  (fun _ ih a b c d e f g h i j k l m n o p => a :: qA8 ((a + Nat.xor (Nat.xor (rot b 128 33554432) (rot b 262144 16384)) (b / 8) + j + Nat.xor (Nat.xor (rot o 131072 32768) (rot o 524288 8192)) (o / 1024)) % 4294967296) fun x => ih b c d e f g h i j k l m n o p x) n
noncomputable def rds (kw : List Nat) : List Nat → Nat → Nat → Nat → Nat → Nat → Nat → Nat → Nat → List Nat :=
 List.rec (fun _ a b c d e f g h => [a, b, c, d, e, f, g, h])
  (fun k _ ih ws a b c d e f g h => List.rec [] (fun w ws _ =>
   qA8 ((h + Nat.xor (Nat.xor (rot e 64 67108864) (rot e 2048 2097152)) (rot e 33554432 128) + Nat.xor (Nat.land e f) (Nat.land (4294967295 - e) g) + k + w) % 4294967296) fun t1 =>
   qA8 ((t1 + (Nat.xor (Nat.xor (rot a 4 1073741824) (rot a 8192 524288)) (rot a 4194304 1024) + Nat.xor (Nat.xor (Nat.land a b) (Nat.land a c)) (Nat.land b c))) % 4294967296) fun x =>
   qA8 ((d + t1) % 4294967296) fun y => ih ws x a b c y e f g) ws) kw
theorem qNz (k w : Nat) (ks ws : List Nat) (a b c d e f g h : Nat) : rds (k :: ks) (w :: ws) a b c d e f g h =
      qA8 ((h + Nat.xor (Nat.xor (rot e 64 67108864) (rot e 2048 2097152)) (rot e 33554432 128) + Nat.xor (Nat.land e f) (Nat.land (4294967295 - e) g) + k + w) % 4294967296) fun t1 =>
      qA8 ((t1 + (Nat.xor (Nat.xor (rot a 4 1073741824) (rot a 8192 524288)) (rot a 4194304 1024) + Nat.xor (Nat.xor (Nat.land a b) (Nat.land a c)) (Nat.land b c))) % 4294967296) fun x =>
      qA8 ((d + t1) % 4294967296) fun y => rds ks ws x a b c y e f g := rfl
theorem qNt (n' a b c d e f g h i j k l m n o p : Nat) : sch (n' + 1) a b c d e f g h i j k l m n o p = a :: qA8 ((a + Nat.xor (Nat.xor (rot b 128 33554432) (rot b 262144 16384)) (b / 8) + j + Nat.xor (Nat.xor (rot o 131072 32768) (rot o 524288 8192)) (o / 1024)) % 4294967296) fun x => sch n' b c d e f g h i j k l m n o p x := rfl
theorem qQT (ws : List Nat) (a b c d e f g h : Nat) : rds [] ws a b c d e f g h = [a, b, c, d, e, f, g, h] := rfl
theorem qNs (a b c d e f g h i j k l m n o p : Nat) : sch 0 a b c d e f g h i j k l m n o p = [a, b, c, d, e, f, g, h, i, j, k, l, m, n, o, p] := rfl
attribute [local irreducible] rds sch
theorem qDU (x : UInt32) (r : Nat) (h1 : 1 ≤ r) (h2 : r < 32) : rot x.toNat (2 ^ r) (4294967296 / 2 ^ r) = (Sha.rotr x r).toNat := (R3.rotr_nat x r h1 h2).symm
theorem qCR (a b : UInt32) : Nat.xor a.toNat b.toNat = (a ^^^ b).toNat := (UInt32.toNat_xor a b).symm
theorem qIQ (a b : UInt32) : Nat.land a.toNat b.toNat = (a &&& b).toNat := (UInt32.toNat_and a b).symm
theorem qRz (a : UInt32) : 4294967295 - a.toNat = (~~~ a).toNat := by simp
theorem qN1 (k w : UInt32) (ks ws : List Nat) (s : Sha.St8) : rds (k.toNat :: ks) (w.toNat :: ws) s.a.toNat s.b.toNat s.c.toNat s.d.toNat s.e.toNat s.f.toNat s.g.toNat s.h.toNat =
    rds ks ws (Sha.rnd w k s).a.toNat (Sha.rnd w k s).b.toNat (Sha.rnd w k s).c.toNat (Sha.rnd w k s).d.toNat (Sha.rnd w k s).e.toNat (Sha.rnd w k s).f.toNat (Sha.rnd w k s).g.toNat (Sha.rnd w k s).h.toNat := by
  obtain ⟨S1, hS1⟩ : ∃ x, x = Sha.rotr s.e 6 ^^^ Sha.rotr s.e 11 ^^^ Sha.rotr s.e 25 := ⟨_, rfl⟩
  obtain ⟨CH, hCH⟩ : ∃ x, x = s.e &&& s.f ^^^ ~~~ s.e &&& s.g := ⟨_, rfl⟩
  obtain ⟨T1, hT1⟩ : ∃ x, x = s.h + S1 + CH + k + w := ⟨_, rfl⟩
  obtain ⟨S0, hS0⟩ : ∃ x, x = Sha.rotr s.a 2 ^^^ Sha.rotr s.a 13 ^^^ Sha.rotr s.a 22 := ⟨_, rfl⟩
  obtain ⟨MJ, hMJ⟩ : ∃ x, x = s.a &&& s.b ^^^ s.a &&& s.c ^^^ s.b &&& s.c := ⟨_, rfl⟩
  have hrn : Sha.rnd w k s = ⟨T1 + (S0 + MJ), s.a, s.b, s.c, s.d + T1, s.e, s.f, s.g⟩ := by rw [hT1, hS0, hMJ, hS1, hCH]; rfl
  have e1 : Nat.xor (Nat.xor (rot s.e.toNat 64 67108864) (rot s.e.toNat 2048 2097152)) (rot s.e.toNat 33554432 128) = S1.toNat := by
    rw [show rot s.e.toNat 64 67108864 = _ from qDU s.e 6 (by decide) (by decide), show rot s.e.toNat 2048 2097152 = _ from qDU s.e 11 (by decide) (by decide), show rot s.e.toNat 33554432 128 = _ from qDU s.e 25 (by decide) (by decide), qCR, qCR, ← hS1]
  have e2 : Nat.xor (Nat.land s.e.toNat s.f.toNat) (Nat.land (4294967295 - s.e.toNat) s.g.toNat) = CH.toNat := by rw [qRz, qIQ, qIQ, qCR, ← hCH]
  have e3 : Nat.xor (Nat.xor (rot s.a.toNat 4 1073741824) (rot s.a.toNat 8192 524288)) (rot s.a.toNat 4194304 1024) = S0.toNat := by
    rw [show rot s.a.toNat 4 1073741824 = _ from qDU s.a 2 (by decide) (by decide), show rot s.a.toNat 8192 524288 = _ from qDU s.a 13 (by decide) (by decide), show rot s.a.toNat 4194304 1024 = _ from qDU s.a 22 (by decide) (by decide), qCR, qCR, ← hS0]
  have e4 : Nat.xor (Nat.xor (Nat.land s.a.toNat s.b.toNat) (Nat.land s.a.toNat s.c.toNat)) (Nat.land s.b.toNat s.c.toNat) = MJ.toNat := by rw [qIQ, qIQ, qIQ, qCR, qCR, ← hMJ]
  have t1 : (s.h.toNat + S1.toNat + CH.toNat + k.toNat + w.toNat) % 4294967296 = T1.toNat := by rw [hT1]; simp only [UInt32.toNat_add]; omega
  have t2 : (T1.toNat + (S0.toNat + MJ.toNat)) % 4294967296 = (T1 + (S0 + MJ)).toNat := by simp only [UInt32.toNat_add]; omega
  have t3 : (s.d.toNat + T1.toNat) % 4294967296 = (s.d + T1).toNat := by simp only [UInt32.toNat_add]
  rw [hrn, qNz, qBM, e1, e2, t1, qBM, e3, e4, t2, qBM, t3]
def qQ4 (ks ws : List UInt32) (s : Sha.St8) : Sha.St8 := (ks.zip ws).foldl (fun s kw => Sha.rnd kw.2 kw.1 s) s
theorem qH8 (k w : UInt32) (ks ws : List UInt32) (s : Sha.St8) : qQ4 (k :: ks) (w :: ws) s = qQ4 ks ws (Sha.rnd w k s) := by unfold qQ4; rw [List.zip_cons_cons, List.foldl_cons]
theorem qJ8 (ws : List UInt32) (s : Sha.St8) : qQ4 [] ws s = s := by unfold qQ4; rw [List.zip_nil_left, List.foldl_nil]
theorem qN0 (ks : List UInt32) : ∀ (ws : List UInt32) (s : Sha.St8), ks.length = ws.length → rds (ks.map UInt32.toNat) (ws.map UInt32.toNat) s.a.toNat s.b.toNat s.c.toNat s.d.toNat s.e.toNat s.f.toNat s.g.toNat s.h.toNat = (qQ4 ks ws s).list.map UInt32.toNat := by
 induction ks with
 | nil =>
  intro ws s h
  cases ws with
  | nil => rw [List.map_nil, qQT, qJ8, Sha.St8.list]; rfl
  | cons _ _ => cases h
 | cons k ks ih =>
  intro ws s h
  cases ws with
  | nil => cases h
  | cons w ws =>
   rw [List.map_cons, List.map_cons, qN1 k w (ks.map UInt32.toNat) (ws.map UInt32.toNat) s, qH8, ih ws (Sha.rnd w k s) (by simpa using h)]
theorem qH7 (ws : List UInt32) (s : Sha.St8) (hw : ws.length = 64) : ∀ m i, i + m = 64 → qQ4 (Sha.K.drop i) (ws.drop i) (Sha.rnds ws s i) = Sha.rnds ws s 64
 | 0, i, h => by
  obtain rfl : i = 64 := by omega
  rw [List.drop_of_length_le (l := ws) (by omega), List.drop_of_length_le (l := Sha.K) (Nat.le_refl 64), qJ8]
 | m + 1, i, h => by
  have h1 : i < Sha.K.length := by show i < 64; omega
  have h2 : i < ws.length := by omega
  rw [List.drop_eq_getElem_cons h1, List.drop_eq_getElem_cons h2, qH8]
  have e : Sha.rnd ws[i] Sha.K[i] (Sha.rnds ws s i) = Sha.rnds ws s (i + 1) := by
   rw [Sha.rnds, List.getD_eq_getElem?_getD, List.getD_eq_getElem?_getD, List.getElem?_eq_getElem h1, List.getElem?_eq_getElem h2]; rfl
  rw [e]
  exact qH7 ws s hw m (i + 1) (by omega)
theorem qGR (l : List UInt32) : ∀ n, Sha.exts (n + 1) l = Sha.exts n (Sha.ext l)
 | 0 => rfl
 | n + 1 => by rw [Sha.exts, qGR l n]; rfl
theorem qEy (p l : List UInt32) (k : Nat) : (p ++ l).getD (p.length + k) 0 = l.getD k 0 := by
 rw [List.getD_eq_getElem?_getD, List.getElem?_append_right (by omega), Nat.add_sub_cancel_left, ← List.getD_eq_getElem?_getD]
theorem qRi (b : UInt32) : Nat.xor (Nat.xor (rot b.toNat 128 33554432) (rot b.toNat 262144 16384)) (b.toNat / 8) = (Sha.sg0 b).toNat := by
 have h1 : rot b.toNat 128 33554432 = (Sha.rotr b 7).toNat := qDU b 7 (by decide) (by decide)
 have h2 : rot b.toNat 262144 16384 = (Sha.rotr b 18).toNat := qDU b 18 (by decide) (by decide)
 have h3 : b.toNat / 8 = (Sha.shr b 3).toNat := (R3.shr_nat b 3 (by decide)).symm
 rw [h1, h2, h3, qCR, qCR]; unfold Sha.sg0; rfl
theorem qRh (b : UInt32) : Nat.xor (Nat.xor (rot b.toNat 131072 32768) (rot b.toNat 524288 8192)) (b.toNat / 1024) = (Sha.sg1 b).toNat := by
 have h1 : rot b.toNat 131072 32768 = (Sha.rotr b 17).toNat := qDU b 17 (by decide) (by decide)
 have h2 : rot b.toNat 524288 8192 = (Sha.rotr b 19).toNat := qDU b 19 (by decide) (by decide)
 have h3 : b.toNat / 1024 = (Sha.shr b 10).toNat := (R3.shr_nat b 10 (by decide)).symm
 rw [h1, h2, h3, qCR, qCR]; unfold Sha.sg1; rfl
theorem qSQ (q : List UInt32) (a b c d e f g h i j k l m n' o p : UInt32) : Sha.ext (q ++ [a, b, c, d, e, f, g, h, i, j, k, l, m, n', o, p]) = (q ++ [a]) ++ [b, c, d, e, f, g, h, i, j, k, l, m, n', o, p, a + Sha.sg0 b + j + Sha.sg1 o] := by
 have hlen : (q ++ [a, b, c, d, e, f, g, h, i, j, k, l, m, n', o, p]).length = q.length + 16 := by rw [List.length_append]; rfl
 unfold Sha.ext
 have g0 : (q ++ [a, b, c, d, e, f, g, h, i, j, k, l, m, n', o, p]).getD (q.length + 0) 0 = a := qEy q [a, b, c, d, e, f, g, h, i, j, k, l, m, n', o, p] 0
 have g1 : (q ++ [a, b, c, d, e, f, g, h, i, j, k, l, m, n', o, p]).getD (q.length + 1) 0 = b := qEy q [a, b, c, d, e, f, g, h, i, j, k, l, m, n', o, p] 1
 have g9 : (q ++ [a, b, c, d, e, f, g, h, i, j, k, l, m, n', o, p]).getD (q.length + 9) 0 = j := qEy q [a, b, c, d, e, f, g, h, i, j, k, l, m, n', o, p] 9
 have g14 : (q ++ [a, b, c, d, e, f, g, h, i, j, k, l, m, n', o, p]).getD (q.length + 14) 0 = o := qEy q [a, b, c, d, e, f, g, h, i, j, k, l, m, n', o, p] 14
 rw [hlen, show q.length + 16 - 16 = q.length + 0 by omega, show q.length + 16 - 15 = q.length + 1 by omega, show q.length + 16 - 7 = q.length + 9 by omega, show q.length + 16 - 2 = q.length + 14 by omega, g0, g1, g9, g14]
 generalize a + Sha.sg0 b + j + Sha.sg1 o = x
 simp only [List.append_assoc, List.cons_append, List.nil_append]
theorem qQF (a b j o : UInt32) : (a.toNat + (Sha.sg0 b).toNat + j.toNat + (Sha.sg1 o).toNat) % 4294967296 = (a + Sha.sg0 b + j + Sha.sg1 o).toNat := by
 generalize Sha.sg0 b = x
 generalize Sha.sg1 o = y
 simp only [UInt32.toNat_add]; omega
theorem qNu (n : Nat) : ∀ (q : List UInt32) (a b c d e f g h i j k l m n' o p : UInt32), (Sha.exts n (q ++ [a, b, c, d, e, f, g, h, i, j, k, l, m, n', o, p])).map UInt32.toNat = q.map UInt32.toNat ++ sch n a.toNat b.toNat c.toNat d.toNat e.toNat f.toNat g.toNat h.toNat i.toNat j.toNat k.toNat l.toNat m.toNat n'.toNat o.toNat p.toNat := by
 induction n with
 | zero => intro q a b c d e f g h i j k l m n' o p; rw [Sha.exts, List.map_append, qNs]; rfl
 | succ n ih =>
  intro q a b c d e f g h i j k l m n' o p
  rw [qGR, qSQ, ih (q ++ [a]), qNt, qBM, qRi, qRh, qQF]
  generalize sch n b.toNat c.toNat d.toNat e.toNat f.toNat g.toNat h.toNat i.toNat j.toNat k.toNat l.toNat m.toNat n'.toNat o.toNat p.toNat _ = z
  simp only [List.map_append, List.append_assoc, List.map_cons, List.map_nil, List.cons_append, List.nil_append]
def w4 (l : List Nat) : Nat := ((l.getD 0 0 * 256 + l.getD 1 0) * 256 + l.getD 2 0) * 256 + l.getD 3 0
theorem qOk (l : List UInt8) (i : Nat) : (l.map UInt8.toNat).getD i 0 = (l.getD i 0).toNat := by
 rw [List.getD_eq_getElem?_getD, List.getD_eq_getElem?_getD, List.getElem?_map]
 cases l[i]? <;> rfl
theorem w4_eq (l : List UInt8) (i : Nat) : w4 ((l.map UInt8.toNat).drop (4 * i)) = (Sha.word l i).toNat := by
 have hg : ∀ k, (((l.map UInt8.toNat).drop (4 * i)).getD k 0) = (l.getD (4 * i + k) 0).toNat := fun k => by
  rw [List.getD_eq_getElem?_getD, List.getElem?_drop, ← List.getD_eq_getElem?_getD, qOk]
 unfold w4 Sha.word
 rw [hg, hg, hg, hg, R3.be32_nat, Nat.add_zero]
 omega
noncomputable def mixN (ks : List Nat) (b : List Nat) (A B C D E F G H : Nat) : List Nat :=
 qA8 (w4 b) fun a0 => qA8 (w4 (b.drop 4)) fun a1 => qA8 (w4 (b.drop 8)) fun a2 => qA8 (w4 (b.drop 12)) fun a3 =>
 qA8 (w4 (b.drop 16)) fun a4 => qA8 (w4 (b.drop 20)) fun a5 => qA8 (w4 (b.drop 24)) fun a6 => qA8 (w4 (b.drop 28)) fun a7 =>
 qA8 (w4 (b.drop 32)) fun a8 => qA8 (w4 (b.drop 36)) fun a9 => qA8 (w4 (b.drop 40)) fun a10 => qA8 (w4 (b.drop 44)) fun a11 =>
 qA8 (w4 (b.drop 48)) fun a12 => qA8 (w4 (b.drop 52)) fun a13 => qA8 (w4 (b.drop 56)) fun a14 => qA8 (w4 (b.drop 60)) fun a15 =>
 rds ks (sch 48 a0 a1 a2 a3 a4 a5 a6 a7 a8 a9 a10 a11 a12 a13 a14 a15) A B C D E F G H
def KN : List Nat := [1116352408, 1899447441, 3049323471, 3921009573, 961987163, 1508970993, 2453635748, 2870763221, 3624381080, 310598401, 607225278, 1426881987, 1925078388, 2162078206, 2614888103, 3248222580, 3835390401, 4022224774, 264347078, 604807628, 770255983, 1249150122, 1555081692, 1996064986, 2554220882, 2821834349, 2952996808, 3210313671, 3336571891, 3584528711, 113926993, 338241895, 666307205, 773529912, 1294757372, 1396182291, 1695183700, 1986661051, 2177026350, 2456956037, 2730485921, 2820302411, 3259730800, 3345764771, 3516065817, 3600352804, 4094571909, 275423344, 430227734, 506948616, 659060556, 883997877, 958139571, 1322822218, 1537002063, 1747873779, 1955562222, 2024104815, 2227730452, 2361852424, 2428436474, 2756734187, 3204031479, 3329325298]
theorem KN_eq : KN = Sha.K.map UInt32.toNat := by decide +kernel
theorem qQs (b : List UInt8) (s : Sha.St8) : mixN KN (b.map UInt8.toNat) s.a.toNat s.b.toNat s.c.toNat s.d.toNat s.e.toNat s.f.toNat s.g.toNat s.h.toNat = (Sha.rnds (Sha.sched b) s 64).list.map UInt32.toNat := by
 have hw := fun i => w4_eq b i
 have h0 := hw 0; have h1 := hw 1; have h2 := hw 2; have h3 := hw 3; have h4 := hw 4; have h5 := hw 5; have h6 := hw 6; have h7 := hw 7
 have h8 := hw 8; have h9 := hw 9; have h10 := hw 10; have h11 := hw 11; have h12 := hw 12; have h13 := hw 13; have h14 := hw 14; have h15 := hw 15
 simp only [Nat.reduceMul, Nat.mul_zero, List.drop_zero] at h0 h1 h2 h3 h4 h5 h6 h7 h8 h9 h10 h11 h12 h13 h14 h15
 unfold mixN
 simp only [qBM]
 rw [h0, h1, h2, h3, h4, h5, h6, h7, h8, h9, h10, h11, h12, h13, h14, h15]
 have hs := qNu 48 [] (Sha.word b 0) (Sha.word b 1) (Sha.word b 2) (Sha.word b 3) (Sha.word b 4) (Sha.word b 5) (Sha.word b 6) (Sha.word b 7) (Sha.word b 8) (Sha.word b 9) (Sha.word b 10) (Sha.word b 11) (Sha.word b 12) (Sha.word b 13) (Sha.word b 14) (Sha.word b 15)
 have hf : [] ++ [Sha.word b 0, Sha.word b 1, Sha.word b 2, Sha.word b 3, Sha.word b 4, Sha.word b 5, Sha.word b 6, Sha.word b 7, Sha.word b 8, Sha.word b 9, Sha.word b 10, Sha.word b 11, Sha.word b 12, Sha.word b 13, Sha.word b 14, Sha.word b 15] = Sha.firsts b 16 := rfl
 rw [hf, List.map_nil, List.nil_append] at hs
 rw [← hs, show Sha.exts 48 (Sha.firsts b 16) = Sha.sched b from rfl, KN_eq, qN0 _ _ _ (by rw [Sha.sched_length]; rfl)]
 have := qH7 (Sha.sched b) s (Sha.sched_length b) 64 0 rfl
 rw [List.drop_zero, List.drop_zero] at this
 rw [show Sha.rnds (Sha.sched b) s 0 = s from rfl] at this
 rw [this]
noncomputable def blocks (n : Nat) : List Nat → Nat → Nat → Nat → Nat → Nat → Nat → Nat → Nat → List Nat :=
 Nat.rec (fun _ a b c d e f g h => [a, b, c, d, e, f, g, h])
  (fun _ ih p a b c d e f g h => forceL (mixN KN p a b c d e f g h) fun r =>
   qA8 ((a + r.getD 0 0) % 4294967296) fun a' => qA8 ((b + r.getD 1 0) % 4294967296) fun b' => qA8 ((c + r.getD 2 0) % 4294967296) fun c' => qA8 ((d + r.getD 3 0) % 4294967296) fun d' =>
   qA8 ((e + r.getD 4 0) % 4294967296) fun e' => qA8 ((f + r.getD 5 0) % 4294967296) fun f' => qA8 ((g + r.getD 6 0) % 4294967296) fun g' => qA8 ((h + r.getD 7 0) % 4294967296) fun h' =>
   ih (p.drop 64) a' b' c' d' e' f' g' h') n
theorem qGH (s : Sha.St8) (p : List UInt8) : ∀ k, Sha.mixes s p (k + 1) = Sha.mixes (Sha.mix s p) (p.drop 64) k
 | 0 => by rw [Sha.mixes, Sha.mixes, Sha.mixes, Nat.mul_zero, List.drop_zero]
 | k + 1 => by
  rw [Sha.mixes, qGH s p k, Sha.mixes, List.drop_drop]
  congr 2
  omega
theorem qJF (n : Nat) (p : List Nat) (a b c d e f g h : Nat) : blocks (n + 1) p a b c d e f g h = forceL (mixN KN p a b c d e f g h) fun r => qA8 ((a + r.getD 0 0) % 4294967296) fun a' => qA8 ((b + r.getD 1 0) % 4294967296) fun b' => qA8 ((c + r.getD 2 0) % 4294967296) fun c' => qA8 ((d + r.getD 3 0) % 4294967296) fun d' => qA8 ((e + r.getD 4 0) % 4294967296) fun e' => qA8 ((f + r.getD 5 0) % 4294967296) fun f' => qA8 ((g + r.getD 6 0) % 4294967296) fun g' => qA8 ((h + r.getD 7 0) % 4294967296) fun h' => blocks n (p.drop 64) a' b' c' d' e' f' g' h' := rfl
theorem qJE (p : List Nat) (a b c d e f g h : Nat) : blocks 0 p a b c d e f g h = [a, b, c, d, e, f, g, h] := rfl
attribute [local irreducible] blocks mixN KN
theorem qCo (x y : UInt32) : (x.toNat + y.toNat) % 4294967296 = (x + y).toNat := by simp only [UInt32.toNat_add]
theorem g0 (r : Sha.St8) : (r.list.map UInt32.toNat).getD 0 0 = r.a.toNat := rfl
theorem f0 (s r : Sha.St8) : (s.add r).a = s.a + r.a := rfl
theorem g1 (r : Sha.St8) : (r.list.map UInt32.toNat).getD 1 0 = r.b.toNat := rfl
theorem f1 (s r : Sha.St8) : (s.add r).b = s.b + r.b := rfl
theorem g2 (r : Sha.St8) : (r.list.map UInt32.toNat).getD 2 0 = r.c.toNat := rfl
theorem f2 (s r : Sha.St8) : (s.add r).c = s.c + r.c := rfl
theorem g3 (r : Sha.St8) : (r.list.map UInt32.toNat).getD 3 0 = r.d.toNat := rfl
theorem f3 (s r : Sha.St8) : (s.add r).d = s.d + r.d := rfl
theorem g4 (r : Sha.St8) : (r.list.map UInt32.toNat).getD 4 0 = r.e.toNat := rfl
theorem f4 (s r : Sha.St8) : (s.add r).e = s.e + r.e := rfl
theorem g5 (r : Sha.St8) : (r.list.map UInt32.toNat).getD 5 0 = r.f.toNat := rfl
theorem f5 (s r : Sha.St8) : (s.add r).f = s.f + r.f := rfl
theorem g6 (r : Sha.St8) : (r.list.map UInt32.toNat).getD 6 0 = r.g.toNat := rfl
theorem f6 (s r : Sha.St8) : (s.add r).g = s.g + r.g := rfl
theorem g7 (r : Sha.St8) : (r.list.map UInt32.toNat).getD 7 0 = r.h.toNat := rfl
theorem f7 (s r : Sha.St8) : (s.add r).h = s.h + r.h := rfl
theorem qNG (n : Nat) : ∀ (p : List UInt8) (s : Sha.St8), blocks n (p.map UInt8.toNat) s.a.toNat s.b.toNat s.c.toNat s.d.toNat s.e.toNat s.f.toNat s.g.toNat s.h.toNat = (Sha.mixes s p n).list.map UInt32.toNat := by
 induction n with
 | zero => intro p s; rw [qJE, Sha.mixes]; rfl
 | succ n ih =>
  intro p s
  have hm := qQs p s
  generalize hr : Sha.rnds (Sha.sched p) s 64 = r at hm
  have hmx : Sha.mix s p = s.add r := by unfold Sha.mix; rw [hr]
  have hi := ih (p.drop 64) (s.add r)
  rw [qGH, hmx, ← hi, qJF, qFc, hm, qBM, qBM, qBM, qBM, qBM, qBM, qBM, qBM]
  have h0 : (s.a.toNat + (r.list.map UInt32.toNat).getD 0 0) % 4294967296 = (s.add r).a.toNat := by rw [g0, f0, qCo]
  have h1 : (s.b.toNat + (r.list.map UInt32.toNat).getD 1 0) % 4294967296 = (s.add r).b.toNat := by rw [g1, f1, qCo]
  have h2 : (s.c.toNat + (r.list.map UInt32.toNat).getD 2 0) % 4294967296 = (s.add r).c.toNat := by rw [g2, f2, qCo]
  have h3 : (s.d.toNat + (r.list.map UInt32.toNat).getD 3 0) % 4294967296 = (s.add r).d.toNat := by rw [g3, f3, qCo]
  have h4 : (s.e.toNat + (r.list.map UInt32.toNat).getD 4 0) % 4294967296 = (s.add r).e.toNat := by rw [g4, f4, qCo]
  have h5 : (s.f.toNat + (r.list.map UInt32.toNat).getD 5 0) % 4294967296 = (s.add r).f.toNat := by rw [g5, f5, qCo]
  have h6 : (s.g.toNat + (r.list.map UInt32.toNat).getD 6 0) % 4294967296 = (s.add r).g.toNat := by rw [g6, f6, qCo]
  have h7 : (s.h.toNat + (r.list.map UInt32.toNat).getD 7 0) % 4294967296 = (s.add r).h.toNat := by rw [g7, f7, qCo]
  rw [List.map_drop, h0, h1, h2, h3, h4, h5, h6, h7]
def qDZ (x : Nat) : List Nat := [x / 16777216 % 256, x / 65536 % 256, x / 256 % 256, x % 256]
theorem qIN (x : Nat) (h : x < 18446744073709551616) : qDZ x = (Sha.numB (UInt64.ofNat x) 4).map UInt8.toNat := by
 rw [R3.four_nat x h]
 simp [qDZ, UInt8.toNat_ofNat']
noncomputable def padN (l : List Nat) : List Nat := l ++ 128 :: List.replicate ((119 - l.length % 64) % 64) 0 ++ (qDZ (8 * l.length / 4294967296) ++ qDZ (8 * l.length))
theorem qQY (l : List UInt8) (h : l.length < 1152921504606846976) : padN (l.map UInt8.toNat) = (Sha.pad l).map UInt8.toNat := by
 unfold padN Sha.pad
 simp only [List.map_append, List.length_map, List.map_replicate, List.map_cons, List.map_nil, List.append_assoc, List.cons_append, List.nil_append]
 have e : (8 * UInt64.ofNat l.length).toNat = 8 * l.length := by
  rw [UInt64.toNat_mul, UInt64.toNat_ofNat', Nat.mod_eq_of_lt (show l.length < 2 ^ 64 by omega)]
  exact Nat.mod_eq_of_lt (by show 8 * l.length < 18446744073709551616; omega)
 have h8 : (Sha.numB (8 * UInt64.ofNat l.length) 8).map UInt8.toNat = qDZ (8 * l.length / 4294967296) ++ qDZ (8 * l.length) := by
  unfold Sha.numB
  rw [e]
  simp [List.range_succ, R3.u8_of64, qDZ, UInt8.toNat_ofNat', Nat.div_div_eq_div_mul]
 rw [h8]
 rfl
noncomputable def sumN (l : List Nat) : List Nat := forceL (padN l) fun p => (blocks (p.length / 64) p 1779033703 3144134277 1013904242 2773480762 1359893119 2600822924 528734635 1541459225).flatMap qDZ
theorem qP5 (l : List UInt8) (h : l.length < 1152921504606846976) : sumN (l.map UInt8.toNat) = (Sha.sum l).map UInt8.toNat := by
 unfold sumN
 rw [qFc, qQY l h, List.length_map]
 have hb := qNG ((Sha.pad l).length / 64) (Sha.pad l) Sha.init
 rw [show blocks ((Sha.pad l).length / 64) ((Sha.pad l).map UInt8.toNat) 1779033703 3144134277 1013904242 2773480762 1359893119 2600822924 528734635 1541459225 = _ from hb]
 unfold Sha.sum Sha.out
 generalize (Sha.mixes Sha.init (Sha.pad l) ((Sha.pad l).length / 64)).list = L
 induction L with
 | nil => rfl
 | cons x L ih =>
  rw [List.map_cons, List.flatMap_cons, List.flatMap_cons, List.map_append, ih, qIN _ (by have := x.toNat_lt; omega)]
  congr 2
  rw [show x.toUInt64 = UInt64.ofNat x.toNat from by apply UInt64.toNat_inj.1; simp]
noncomputable def tagN (tag : Nat) (ls : List (List Nat)) : List Nat := (sumN (tag :: ls.flatMap fun s => qDZ s.length ++ s)).take 16
theorem tagN_eq (tag : UInt8) (ls : List (List UInt8)) (h : ls.flatten.length + 4 * ls.length < 1152921504606846975) : tagN tag.toNat (ls.map (List.map UInt8.toNat)) = (Sha.tagged tag ls).map UInt8.toNat := by
 unfold tagN Sha.tagged
 have e : tag.toNat :: (ls.map (List.map UInt8.toNat)).flatMap (fun s => qDZ s.length ++ s) = (Sha.tagB tag ls).map UInt8.toNat := by
  unfold Sha.tagB
  simp only [List.map_append, List.map_cons, List.map_nil, List.cons_append, List.nil_append]
  congr 1
  induction ls with
  | nil => rfl
  | cons a l ih =>
   simp only [List.flatten_cons, List.length_append, List.length_cons] at h
   rw [List.map_cons, List.flatMap_cons, List.flatMap_cons, List.map_append, List.map_append, List.length_map, ih (by omega), qIN _ (by omega)]
 rw [e, qP5 _ (by rw [Sha.tagB_length]; omega), List.map_take]
end SN
end Go.Proofs.YtfldiegfenndjaaGreatDoor
namespace Go.Proofs.YtfldiegfenndjaaGreatDoor
open Go Go.Fw Go.Proofs.Tryz
set_option maxRecDepth 100000
set_option maxHeartbeats 1000000
attribute [local irreducible] SN.tagN Sha.tagged
def tnO (k : Nat) : UInt64 := if k < 4 then 1 else 2
def nrO (k : Nat) : Nat := if k < 4 then k else k - 4
def txt (k : Nat) : List UInt8 := T1 (tnO k) (nrO k) (qBf k)
theorem qPE (k : Nat) : (tnO k).toNat < 2 ^ (8 * 4) := by
 unfold tnO; split <;> decide
theorem qPT {k : Nat} (h : k < 8) : nrO k < 65536 := by
 unfold nrO; split <;> omega
theorem qFD {k : Nat} (h : k < 8) : (txt k).length = 64 := qNO _ (qPE k) (qPT h)
def nmN : List (List Nat) := [[44, 20, 231, 127, 170, 22, 61, 134],
 [224, 16, 39, 99, 61, 14, 43, 72],
 [172, 22, 242, 226, 44, 173, 166, 204],
 [182, 36, 52, 204, 176, 119, 179, 253],
 [81, 53, 156, 217, 114, 85, 154, 46],
 [230, 94, 114, 251, 59, 235, 117, 45],
 [68, 46, 21, 248, 33, 85, 199, 167],
 [136, 157, 185, 214, 25, 101, 183, 171]]
def hdN : List (List Nat) := [[0, 0, 0, 1, 0, 0, 0, 1, 2, 44, 20, 231, 127, 170, 22, 61, 134, 0, 1],
 [0, 0, 0, 1, 0, 1, 0, 1, 2, 224, 16, 39, 99, 61, 14, 43, 72, 0, 2],
 [0, 0, 0, 1, 0, 2, 0, 1, 2, 172, 22, 242, 226, 44, 173, 166, 204, 0, 3],
 [0, 0, 0, 1, 0, 3, 0, 1, 2, 182, 36, 52, 204, 176, 119, 179, 253, 0, 4],
 [0, 0, 0, 2, 0, 0, 0, 1, 2, 81, 53, 156, 217, 114, 85, 154, 46, 0, 5],
 [0, 0, 0, 2, 0, 1, 0, 1, 2, 230, 94, 114, 251, 59, 235, 117, 45, 0, 6],
 [0, 0, 0, 2, 0, 2, 0, 1, 2, 68, 46, 21, 248, 33, 85, 199, 167, 0, 7],
 [0, 0, 0, 2, 0, 3, 0, 1, 2, 136, 157, 185, 214, 25, 101, 183, 171, 0, 8]]
theorem qR2 : (List.range 8).map (fun k => (SN.tagN 7 [[0, 0, 0, if k < 4 then 1 else 2], [0, k % 4], [0, k + 1]]).take 8) = nmN := by decide +kernel
theorem qLg : ∀ k : Fin 8, ∀ n : Fin 19, (SN.tagN 8 [(hdN.getD k.val []).take n.val ++ List.replicate (56 - n.val) 0]).take 8 ≠ List.replicate 8 0 := by decide +kernel
theorem qNP (tn : UInt64) (nr : Nat) (s : List UInt8) (hs : s.length = 2) : T1 tn nr s = (Sha.numB tn 4 ++ (Sha.numB (UInt64.ofNat nr) 2 ++ (Sha.numB (UInt64.ofNat 0) 1 ++ (Sha.numB (UInt64.ofNat 1) 1 ++ (Sha.numB (UInt64.ofNat 2) 1 ++ (qCX tn (UInt64.ofNat nr) s ++ s)))))) ++ (List.replicate 37 0 ++ qHM (prt tn (UInt64.ofNat nr) s 1 0).pad) := by
 have hc : (prt tn (UInt64.ofNat nr) s 1 0).con = s := qME (by omega)
 have hb : (prt tn (UInt64.ofNat nr) s 1 0).body.length = 19 := by
  unfold Prt.body Prt.b5 Prt.b4 Prt.b3 Prt.b2 Prt.b1
  simp only [List.length_append, Sha.numB_length, hc, hs]
  show _ + (qCX _ _ _).length + _ = _
  rw [qCW]
 show (prt tn (UInt64.ofNat nr) s 1 0).pad ++ _ = _
 rw [← List.append_assoc]
 congr 1
 rw [Prt.pad_eq, hb, hc, hs]
 simp only [List.append_assoc]
 rfl
theorem qSZ {tn : UInt64} {nr : Nat} (s : List UInt8) (ht : tn.toNat < 2 ^ (8 * 4)) (hn : nr < 65536) : qHM ((T1 tn nr s).take 56) = (T1 tn nr s).drop 56 := by
 have hl := Prt.pad_len (qRT s ht hn)
 show qHM (((prt tn (UInt64.ofNat nr) s 1 0).pad ++ qHM (prt tn (UInt64.ofNat nr) s 1 0).pad).take 56) = ((prt tn (UInt64.ofNat nr) s 1 0).pad ++ qHM (prt tn (UInt64.ofNat nr) s 1 0).pad).drop 56
 rw [List.take_left' hl, List.drop_left' hl]
theorem qJ5 {k : Nat} (h : k < 8) : ((txt k).take 19).map UInt8.toNat = hdN.getD k [] := by
 have e1 : (txt k).take 19 = Sha.numB (tnO k) 4 ++ (Sha.numB (UInt64.ofNat (nrO k)) 2 ++ (Sha.numB (UInt64.ofNat 0) 1 ++ (Sha.numB (UInt64.ofNat 1) 1 ++ (Sha.numB (UInt64.ofNat 2) 1 ++ (qCX (tnO k) (UInt64.ofNat (nrO k)) (qBf k) ++ qBf k))))) := by
  unfold txt
  rw [qNP _ _ _ (qBr k), List.take_left']
  simp only [List.length_append, Sha.numB_length, qCW, qBr]
 have e2 : (qCX (tnO k) (UInt64.ofNat (nrO k)) (qBf k)).map UInt8.toNat = nmN.getD k [] := by
  have h1 := SN.tagN_eq 7 [Sha.numB (tnO k) 4, Sha.numB (UInt64.ofNat (nrO k)) 2, qBf k] (by simp only [List.flatten_cons, List.flatten_nil, List.append_nil, List.length_append, Sha.numB_length, qBr, List.length_cons, List.length_nil]; omega)
  unfold qCX
  rw [List.map_take, ← h1, ← qR2, List.getD_eq_getElem?_getD, List.getElem?_map, List.getElem?_range h]
  show _ = List.take 8 (SN.tagN 7 [[0, 0, 0, if k < 4 then 1 else 2], [0, k % 4], [0, k + 1]])
  congr 2
  match k, h with
  | 0, _ => decide
  | 1, _ => decide
  | 2, _ => decide
  | 3, _ => decide
  | 4, _ => decide
  | 5, _ => decide
  | 6, _ => decide
  | 7, _ => decide
 rw [e1]
 simp only [List.map_append]
 rw [e2]
 match k, h with
 | 0, _ => decide
 | 1, _ => decide
 | 2, _ => decide
 | 3, _ => decide
 | 4, _ => decide
 | 5, _ => decide
 | 6, _ => decide
 | 7, _ => decide
def qEr (T : List UInt8) (n : Nat) : List UInt8 := T.take n ++ List.replicate (64 - n) 0
theorem qHY (T : List UInt8) : qEr T 0 = zS := rfl
theorem qJV {T : List UInt8} (h : T.length = 64) {n : Nat} (hn : 64 ≤ n) : qEr T n = T := by
 unfold qEr
 rw [List.take_of_length_le (by omega), show 64 - n = 0 by omega]; exact List.append_nil _
theorem qLh {T : List UInt8} (h : T.length = 64) (m n : Nat) : qLH (qEr T m) T n = qEr T (max m n) := by
  apply List.ext_getElem?
  intro i
  unfold qLH qEr
  by_cases hi : 64 ≤ i
  · rw [List.getElem?_eq_none (by simp only [List.length_append, List.length_take, List.length_drop, List.length_replicate]; omega), List.getElem?_eq_none (by simp only [List.length_append, List.length_take, List.length_replicate]; omega)]
  · simp only [List.getElem?_append, List.getElem?_take, List.getElem?_drop, List.getElem?_replicate, List.length_take, List.length_append, List.length_drop, List.length_replicate, h]
    repeat' split
    all_goals first | rfl | omega | (congr 1; omega)
theorem qPy {k n : Nat} (hk : k < 8) (hne : qEr (txt k) n ≠ txt k) : qGY (qEr (txt k) n) := by
  left
  have hl := qFD hk
  have hn : n < 64 := by
    by_cases h : n < 64
    · exact h
    · exact absurd (qJV hl (by omega)) hne
  have hd : (qEr (txt k) n).take 56 ++ (qEr (txt k) n).drop 56 = qEr (txt k) n := List.take_append_drop ..
  unfold qA4
  rw [if_neg]
  intro hs
  by_cases h19 : n < 19
  · -- the head alone
    have e1 : (qEr (txt k) n).take 56 = ((txt k).take 19).take n ++ List.replicate (56 - n) 0 := by
      unfold qEr
      rw [List.take_take, Nat.min_eq_left (by omega), List.take_append, List.take_take, List.take_replicate, List.length_take, hl]
      congr 1
      · congr 1; omega
      · congr 1; omega
    have e2 : (qEr (txt k) n).drop 56 = List.replicate 8 0 := by
      unfold qEr
      rw [List.drop_append, List.length_take, hl, List.drop_of_length_le (by rw [List.length_take]; omega), List.nil_append, List.drop_replicate]
      congr 1; omega
    rw [e1, e2] at hs
    have h1 := SN.tagN_eq 8 [((txt k).take 19).take n ++ List.replicate (56 - n) 0] (by simp only [List.flatten_cons, List.flatten_nil, List.append_nil, List.length_append, List.length_take, List.length_replicate, List.length_cons, List.length_nil]; omega)
    have h2 : (SN.tagN 8 [(hdN.getD k []).take n ++ List.replicate (56 - n) 0]).take 8 = (qHM (((txt k).take 19).take n ++ List.replicate (56 - n) 0)).map UInt8.toNat := by
      unfold qHM
      rw [List.map_take, ← h1, ← qJ5 hk]
      congr 2
      simp only [List.map_cons, List.map_nil, List.map_append, List.map_take, List.map_replicate]
      rfl
    rw [hs] at h2
    exact qLg ⟨k, hk⟩ ⟨n, h19⟩ h2
  · have e1 : (qEr (txt k) n).take 56 = (txt k).take 56 := by
      have hz : ∀ i, 19 ≤ i → i < 56 → (txt k)[i]? = some 0 := fun i h1 h2 => by
        unfold txt
        rw [qNP _ _ _ (qBr k), List.getElem?_append_right (by simp only [List.length_append, Sha.numB_length, qCW, qBr]; omega)]
        simp only [List.length_append, Sha.numB_length, qCW, qBr]
        rw [List.getElem?_append_left (by rw [List.length_replicate]; omega), List.getElem?_replicate, if_pos (by omega)]
      apply List.ext_getElem?
      intro i
      unfold qEr
      rw [List.getElem?_take, List.getElem?_take]
      by_cases h56 : i < 56
      · rw [if_pos h56, if_pos h56, List.getElem?_append, List.length_take, hl]
        split
        · rw [List.getElem?_take, if_pos (by omega)]
        · rw [hz i (by omega) h56, List.getElem?_replicate, if_pos (by omega)]
      · rw [if_neg h56, if_neg h56]
    rw [e1, show qHM ((txt k).take 56) = (txt k).drop 56 from qSZ _ (qPE k) (qPT hk)] at hs
    apply hne
    rw [← hd, e1, ← hs, List.take_append_drop]
end Go.Proofs.YtfldiegfenndjaaGreatDoor
namespace Go.Proofs.YtfldiegfenndjaaGreatDoor
open Go Go.Fw Go.Proofs.Tryz
set_option maxRecDepth 100000
set_option maxHeartbeats 1000000
structure DV (d : Dk) (v : Nat) : Prop where
 ok : d.ok
 wait : d.wait = []
 len : d.last.length = 10
 done : ∀ i, i < v → i < 8 → d.last.getD (1 + i) [] = txt i
 rest : ∀ i, v ≤ i → i < 8 → ∃ n, d.last.getD (1 + i) [] = qEr (txt i) n ∧ qEr (txt i) n ≠ txt i
def qCM (a n : Nat) : List (List UInt8) := (List.range n).map fun i => qBf (a + i)
theorem qRY {k : Nat} (h : k < 8) : zS ≠ txt k := fun e => by
 have h1 := qJ5 h
 rw [← e] at h1
 match k, h with
 | 0, _ => exact absurd h1 (by decide)
 | 1, _ => exact absurd h1 (by decide)
 | 2, _ => exact absurd h1 (by decide)
 | 3, _ => exact absurd h1 (by decide)
 | 4, _ => exact absurd h1 (by decide)
 | 5, _ => exact absurd h1 (by decide)
 | 6, _ => exact absurd h1 (by decide)
 | 7, _ => exact absurd h1 (by decide)
theorem DV.fuse {d : Dk} {v : Nat} (h : DV d v) (n : Int) (hn : -9223372036854775808 ≤ n ∧ n ≤ 9223372036854775807) (K : List UInt8) : DV (d.setFuse n K) v := ⟨h.ok.setFuse n hn K, h.wait, h.len, h.done, h.rest⟩
theorem qNe {d : Dk} {p : Nat} {t : Nat → List UInt8} {T : List UInt8} (hT : t 0 = T) (h64 : T.length = 64) (ho : d.off = false) (hw : d.wait = []) (hp : p < d.last.length) (hok : d.ok) :
    ((qBt d p t 1).2 = 0 ∧ (qBt d p t 1).1.off = false ∧ (qBt d p t 1).1.last = d.last.set p (qLH (d.last.getD p []) T 64)) ∨ ((qBt d p t 1).2 = 8 ∧ (qBt d p t 1).1.off = true ∧ ((qBt d p t 1).1.last = d.last ∨ ∃ n, (qBt d p t 1).1.last = d.last.set p (qLH (d.last.getD p []) T n))) := by
  have h0 : d.ready ((p + 0 : Nat) : Int) = 0 := qBZ ho (i := p + 0) (by omega)
  have hfull : qHL T = T := by unfold qHL; rw [h64]; exact List.append_nil _
  have e1 : qCp d p t 1 = (d.write ((p + 0 : Nat) : Int) T, d.wErr ((p + 0 : Nat) : Int) T) := by rw [← hT]; exact qCS rfl
  by_cases hb : d.burns
  · have hwe : d.wErr ((p + 0 : Nat) : Int) T = 8 := by unfold Dk.wErr; rw [if_neg (by rw [h0]; decide), if_neg (by omega), if_pos hb]
    have hwr : d.write ((p + 0 : Nat) : Int) T = d.burn := by unfold Dk.write; rw [if_neg (by rw [h0]; decide), if_neg (by omega), if_pos hb]
    have e : qBt d p t 1 = (d.burn, 8) := by unfold qBt; rw [e1, hwe, hwr]; rfl
    have hbn : d.burn = { d with fuse := d.fuse - 1 }.cut d.keep := by unfold Dk.burn; rw [if_pos hb.1, if_pos hb.2]
    refine Or.inr ⟨by rw [e], by rw [e, hbn]; rfl, Or.inl ?_⟩
    rw [e, hbn]
    show qEi d.last d.wait d.keep d.wait.length = d.last
    rw [hw]; rfl
  · have hwr := qGb h0 (s := T) (by omega) hb
    have hbl := qBx hb
    rw [hwr.1, hwr.2, hfull] at e1
    obtain ⟨D, hD⟩ : ∃ D, D = ({ d.burn with wait := d.burn.wait ++ [(((p + 0 : Nat) : Int).toNat, T)] } : Dk) := ⟨_, rfl⟩
    rw [← hD] at e1
    have hDl : D.last = d.last := by rw [hD]; exact hbl.1
    have hDw : D.wait = [(p, T)] := by rw [hD]; show d.burn.wait ++ [(((p + 0 : Nat) : Int).toNat, T)] = _; rw [hbl.2.1, hw]; rfl
    have hDo : D.off = false := by rw [hD]; show d.burn.off = false; rw [hbl.2.2]; exact ho
    have e : qBt d p t 1 = (D.sync, D.sErr) := by unfold qBt; rw [e1]; rfl
    have h3 : D.ready 0 = 0 := qBZ hDo (i := 0) (by rw [hDl]; omega)
    by_cases hb2 : D.burns
    · have hse : D.sErr = 8 := by unfold Dk.sErr; rw [if_neg (by rw [h3]; decide), if_pos hb2]
      have hsy : D.sync = D.burn := by unfold Dk.sync; rw [if_neg (by rw [h3]; decide), if_pos hb2]
      have hbn : D.burn = { D with fuse := D.fuse - 1 }.cut D.keep := by unfold Dk.burn; rw [if_pos hb2.1, if_pos hb2.2]
      refine Or.inr ⟨by rw [e]; exact hse, by rw [e]; show D.sync.off = _; rw [hsy, hbn]; rfl, ?_⟩
      rw [e]
      show D.sync.last = _ ∨ ∃ n, D.sync.last = _
      rw [hsy, hbn]
      show qEi D.last D.wait D.keep D.wait.length = _ ∨ ∃ n, qEi D.last D.wait D.keep D.wait.length = _
      rw [hDw, hDl]
      show qEi d.last [(p, T)] D.keep 1 = _ ∨ ∃ n, qEi d.last [(p, T)] D.keep 1 = _
      unfold qEi
      simp only [qEi]
      split
      · exact Or.inr ⟨_, rfl⟩
      · exact Or.inl rfl
    · have hse : D.sErr = 0 := by unfold Dk.sErr; rw [if_neg (by rw [h3]; decide), if_neg hb2]
      have hsy : D.sync = { D.burn with last := qCa D.burn.last D.burn.wait D.burn.wait.length, wait := [] } := by unfold Dk.sync; rw [if_neg (by rw [h3]; decide), if_neg hb2]
      have hbl2 := qBx hb2
      refine Or.inl ⟨by rw [e]; exact hse, by rw [e]; show D.sync.off = _; rw [hsy]; exact hbl2.2.2.trans hDo, ?_⟩
      rw [e]
      show D.sync.last = _
      rw [hsy]
      show qCa D.burn.last D.burn.wait D.burn.wait.length = _
      rw [hbl2.1, hbl2.2.1, hDw, hDl]; rfl
theorem qBU (a n : Nat) : (qCM a n).length = n := by unfold qCM; rw [List.length_map, List.length_range]
theorem qGF (a n : Nat) : qCM a (n + 1) = qCM a n ++ [qBf (a + n)] := by unfold qCM; rw [List.range_succ, List.map_append]; rfl
theorem qPU : qGY [] := Or.inl (by
 unfold qA4
 rw [if_neg]
 intro h
 have := congrArg List.length h
 rw [qHF] at this
 exact absurd this (by decide))
theorem qMw {tn : UInt64} (h0 : tn.toNat ≠ 0) (h1 : tn.toNat < 2 ^ (8 * 4)) (b : Nat) (l : List (List UInt8)) (hl : l.length = 4) (k : Nat) (hk : k ≤ 4) (hT : ∀ i, i < k → l.getD i [] = T1 tn i (qBf (b + i))) (hJ : qGY (l.getD k [])) :
    rdl 0 [] 0 l = (if k = 0 then 0 else tn, qCM b k, k) := by
  have e : l = Txs tn 0 (qCM b k) ++ l.drop k := by
    match l, hl with
    | [w, x, y, z], _ =>
      match k, hk with
      | 0, _ => rfl
      | 1, _ =>
        show [w, x, y, z] = [T1 tn 0 (qBf (b + 0)), x, y, z]
        rw [← hT 0 (by decide)]; rfl
      | 2, _ =>
        show [w, x, y, z] = [T1 tn 0 (qBf (b + 0)), T1 tn 1 (qBf (b + 1)), y, z]
        rw [← hT 0 (by decide), ← hT 1 (by decide)]; rfl
      | 3, _ =>
        show [w, x, y, z] = [T1 tn 0 (qBf (b + 0)), T1 tn 1 (qBf (b + 1)), T1 tn 2 (qBf (b + 2)), z]
        rw [← hT 0 (by decide), ← hT 1 (by decide), ← hT 2 (by decide)]; rfl
      | 4, _ =>
        show [w, x, y, z] = [T1 tn 0 (qBf (b + 0)), T1 tn 1 (qBf (b + 1)), T1 tn 2 (qBf (b + 2)), T1 tn 3 (qBf (b + 3))]
        rw [← hT 0 (by decide), ← hT 1 (by decide), ← hT 2 (by decide), ← hT 3 (by decide)]; rfl
  have hd : (l.drop k).getD 0 [] = l.getD k [] := by
    rw [List.getD_eq_getElem?_getD, List.getElem?_drop, Nat.add_zero, ← List.getD_eq_getElem?_getD]
  have h := qL8 h0 h1 (qCM b k) 0 [] 0 (l.drop k) (fun s hs => by
    obtain ⟨i, _, rfl⟩ := List.mem_map.1 hs
    exact qGG _) (by rw [qBU]; show 0 + k ≤ _; omega) (fun h => absurd h (by decide)) (fun t' => qHh (by rw [hd]; exact hJ))
  have h2 : rdl 0 [] 0 l = rdl 0 [] 0 (Txs tn 0 (qCM b k) ++ l.drop k) := congrArg (rdl 0 [] 0) e
  refine h2.trans (h.trans ?_)
  rw [qBU, List.nil_append, Nat.zero_add]
  by_cases hk0 : k = 0
  · subst hk0; rfl
  · rw [if_neg hk0, if_neg (fun h => hk0 (by have := congrArg List.length h; rwa [qBU] at this))]
theorem qON {v : Nat} (h0 : 0 < v) (h : v < 65536) : qCN (qBf (v - 1)) = v := by
 unfold qBf
 rw [show v - 1 + 1 = v by omega, qJs v 2 (by decide) (by omega)]
structure DG (f0 n : Nat) (O : Nat → List UInt8) (d : Dk) (v : Nat) : Prop where
 ok : d.ok
 wait : d.wait = []
 len : d.last.length = n
 fits : f0 + 8 ≤ n
 oth : ∀ i, i < n → (i < f0 ∨ f0 + 8 ≤ i) → d.last.getD i [] = O i
 done : ∀ i, i < v → i < 8 → d.last.getD (f0 + i) [] = txt i
 rest : ∀ i, v ≤ i → i < 8 → ∃ n, d.last.getD (f0 + i) [] = qEr (txt i) n ∧ qEr (txt i) n ≠ txt i
def XG (f0 v : Nat) : Hlf := if v = 0 then ⟨f0, 0, [], 0⟩ else if v ≤ 4 then ⟨f0, 1, qCM 0 v, v⟩ else ⟨f0 + 4, 2, qCM 4 (v - 4), v - 4⟩
theorem DG.new {f0 n : Nat} (h : f0 + 8 ≤ n) (h4 : 4 ≤ n) (hn : n ≤ 1024) : DG f0 n (fun _ => zS) (Dk.new n) 0 := ⟨Dk.new_ok h4 hn, rfl, List.length_replicate, h, fun i hi _ => qG0 n i hi, fun i h => absurd h (Nat.not_lt_zero i), fun i _ h8 => ⟨0, by rw [qHY]; exact qG0 n _ (by omega), by rw [qHY]; exact qRY h8⟩⟩
theorem DG.fuse {f0 n : Nat} {O : Nat → List UInt8} {d : Dk} {v : Nat} (h : DG f0 n O d v) (m : Int) (hm : -9223372036854775808 ≤ m ∧ m ≤ 9223372036854775807) (K : List UInt8) : DG f0 n O (d.setFuse m K) v := ⟨h.ok.setFuse m hm K, h.wait, h.len, h.fits, h.oth, h.done, h.rest⟩
theorem DG.set {f0 n : Nat} {O : Nat → List UInt8} {d d' : Dk} {v : Nat} (h : DG f0 n O d v) (hv : v < 8) (hok : d'.ok) (hw : d'.wait = []) (k : Nat) (hl : d'.last = d.last.set (f0 + v) (qLH (d.last.getD (f0 + v) []) (txt v) k)) : (64 ≤ k → DG f0 n O d' (v + 1)) ∧ (DG f0 n O d' v ∨ DG f0 n O d' (v + 1)) := by
  obtain ⟨m, hm, hne⟩ := h.rest v (Nat.le_refl _) hv
  have hfit := h.fits
  rw [hm, qLh (qFD hv)] at hl
  have hlen : d'.last.length = n := by rw [hl, List.length_set]; exact h.len
  have hgo : ∀ j, d'.last.getD j [] = if j = f0 + v then qEr (txt v) (max m k) else d.last.getD j [] := fun j => by
    rw [hl, List.getD_eq_getElem?_getD, List.getElem?_set]
    by_cases e : j = f0 + v
    · subst e
      rw [if_pos rfl, if_pos rfl, if_pos (by rw [h.len]; omega)]; rfl
    · rw [if_neg (fun x => e x.symm), if_neg e, List.getD_eq_getElem?_getD]
  have hoth : ∀ i, i < n → (i < f0 ∨ f0 + 8 ≤ i) → d'.last.getD i [] = O i := fun i h1 h2 => by
    rw [hgo, if_neg (by omega)]; exact h.oth i h1 h2
  have hfull : qEr (txt v) (max m k) = txt v → DG f0 n O d' (v + 1) := fun e => ⟨hok, hw, hlen, hfit, hoth, fun i h1 h2 => by
    rw [hgo]
    split
    · rename_i e2
      have : i = v := by omega
      rw [this]; exact e
    · exact h.done i (by omega) h2, fun i h1 h2 => by
    rw [hgo, if_neg (by omega)]; exact h.rest i (by omega) h2⟩
  refine ⟨fun h64 => hfull (qJV (qFD hv) (by omega)), ?_⟩
  by_cases e : qEr (txt v) (max m k) = txt v
  · exact Or.inr (hfull e)
  · refine Or.inl ⟨hok, hw, hlen, hfit, hoth, fun i h1 h2 => by rw [hgo, if_neg (by omega)]; exact h.done i h1 h2, fun i h1 h2 => ?_⟩
    rw [hgo]
    by_cases e2 : f0 + i = f0 + v
    · rw [if_pos e2]
      obtain rfl : i = v := by omega
      exact ⟨_, rfl, e⟩
    · rw [if_neg e2]; exact h.rest i h1 h2
theorem DG.put {f0 n : Nat} {O : Nat → List UInt8} {d : Dk} {v p : Nat} {t : Nat → List UInt8} (h : DG f0 n O d v) (hv : v < 8) (ho : d.off = false) (hp : p = f0 + v) (hT : t 0 = txt v) (hok : (qBt d p t 1).1.ok) (hw : (qBt d p t 1).1.wait = []) :
    ((qBt d p t 1).2 = 0 → (qBt d p t 1).1.off = false ∧ DG f0 n O (qBt d p t 1).1 (v + 1)) ∧ ((qBt d p t 1).2 ≠ 0 → (qBt d p t 1).2 = 8 ∧ (qBt d p t 1).1.off = true ∧ (DG f0 n O (qBt d p t 1).1 v ∨ DG f0 n O (qBt d p t 1).1 (v + 1))) := by
  have hfit := h.fits
  subst hp
  rcases qNe (d := d) (p := f0 + v) (t := t) hT (qFD hv) ho h.wait (by rw [h.len]; omega) h.ok with ⟨h1, h2, h3⟩ | ⟨h1, h2, h3⟩
  · exact ⟨fun _ => ⟨h2, (h.set hv hok hw 64 h3).1 (Nat.le_refl _)⟩, fun e => absurd h1 e⟩
  · refine ⟨fun e => by rw [e] at h1; exact absurd h1 (by decide), fun _ => ⟨h1, h2, ?_⟩⟩
    rcases h3 with h3 | ⟨k, h3⟩
    · refine Or.inl ⟨hok, hw, by rw [h3]; exact h.len, hfit, by rw [h3]; exact h.oth, by rw [h3]; exact h.done, by rw [h3]; exact h.rest⟩
    · exact (h.set hv hok hw k h3).2
theorem DG.now {f0 n : Nat} {O : Nat → List UInt8} {d : Dk} {v : Nat} (h : DG f0 n O d v) (i : Nat) : d.now i = d.last.getD i [] := qJn h.wait i
theorem DG.no {f0 n : Nat} {O : Nat → List UInt8} {d : Dk} {v : Nat} (h : DG f0 n O d v) {i : Nat} (hi : v ≤ i) (h8 : i < 8) : qGY (d.now (f0 + i)) := by
 obtain ⟨m, h1, h2⟩ := h.rest i hi h8
 rw [h.now, h1]; exact qPy h8 h2
theorem DG.half1 {f0 n : Nat} {O : Nat → List UInt8} {d : Dk} {v : Nat} (h : DG f0 n O d v) : hlf d f0 4 = ⟨f0, if min v 4 = 0 then 0 else 1, qCM 0 (min v 4), min v 4⟩ := by
  refine qH5 (qMw (tn := 1) (by decide) (by decide) 0 _ (qCb d f0 4) (min v 4) (by omega) (fun i hi => ?_) ?_)
  · rw [qDu (by omega), h.now, h.done i (by omega) (by omega), Nat.zero_add]
    unfold txt tnO nrO
    rw [if_pos (by omega), if_pos (by omega)]
  · by_cases h4 : v < 4
    · rw [show min v 4 = v by omega, qDu h4]; exact h.no (Nat.le_refl _) (by omega)
    · rw [show min v 4 = 4 by omega]; exact qPU
theorem DG.half2 {f0 n : Nat} {O : Nat → List UInt8} {d : Dk} {v : Nat} (h : DG f0 n O d v) (h8 : v ≤ 8) : hlf d (f0 + 4) 4 = ⟨f0 + 4, if v - 4 = 0 then 0 else 2, qCM 4 (v - 4), v - 4⟩ := by
  refine qH5 (qMw (tn := 2) (by decide) (by decide) 4 _ (qCb d (f0 + 4) 4) (v - 4) (by omega) (fun i hi => ?_) ?_)
  · rw [qDu (by omega), h.now, show f0 + 4 + i = f0 + (4 + i) by omega, h.done (4 + i) (by omega) (by omega)]
    unfold txt tnO nrO
    rw [if_neg (by omega), if_neg (by omega), show 4 + i - 4 = i by omega]
  · by_cases h4 : v < 8
    · rw [qDu (by omega), show f0 + 4 + (v - 4) = f0 + (4 + (v - 4)) by omega]; exact h.no (by omega) (by omega)
    · rw [show v - 4 = 4 by omega]; exact qPU
theorem DG.half {f0 n : Nat} {O : Nat → List UInt8} {d : Dk} {v : Nat} (h : DG f0 n O d v) (h8 : v ≤ 8) : hst d f0 (8 / 2) 2 = XG f0 v := by
  have h1 := h.half1
  have h2 := h.half2 h8
  show (if 0 < (hlf d (f0 + 4) 4).R.length ∧ ((hlf d f0 4).R.length = 0 ∨ (hlf d f0 4).t.toNat < (hlf d (f0 + 4) 4).t.toNat) then hlf d (f0 + 4) 4 else hlf d f0 4) = _
  rw [h1, h2]
  dsimp only
  rw [qBU, qBU]
  unfold XG
  by_cases hv0 : v = 0
  · subst hv0; rfl
  · by_cases hv4 : v ≤ 4
    · rw [if_neg hv0, if_pos hv4, if_neg (by omega), show min v 4 = v by omega, if_neg hv0]
    · rw [if_neg hv0, if_neg hv4, show min v 4 = 4 by omega, show (if v - 4 = 0 then (0 : UInt64) else 2) = 2 from if_neg (by omega)]
      exact if_pos ⟨by omega, Or.inr (by decide)⟩
theorem DG.other {f0 n : Nat} {O : Nat → List UInt8} {d : Dk} {v : Nat} (h : DG f0 n O d v) {d' : Dk} {p : Nat} {T : List UInt8} (hok : d'.ok) (hw : d'.wait = []) (hl : d'.last = d.last.set p T) (hp : p < f0 ∨ f0 + 8 ≤ p) (hpn : p < n) : DG f0 n (fun i => if i = p then T else O i) d' v := by
  have hfit := h.fits
  have hg : ∀ i, d'.last.getD i [] = if i = p then T else d.last.getD i [] := fun i => by
    rw [hl, List.getD_eq_getElem?_getD, List.getElem?_set]
    by_cases e : i = p
    · subst e
      rw [if_pos rfl, if_pos rfl, if_pos (by rw [h.len]; omega)]; rfl
    · rw [if_neg (fun x => e x.symm), if_neg e, List.getD_eq_getElem?_getD]
  refine ⟨hok, hw, by rw [hl, List.length_set]; exact h.len, hfit, fun i h1 h2 => ?_, fun i h1 h2 => by rw [hg, if_neg (by omega)]; exact h.done i h1 h2, fun i h1 h2 => by rw [hg, if_neg (by omega)]; exact h.rest i h1 h2⟩
  rw [hg]
  split
  · rfl
  · exact h.oth i h1 h2
end Go.Proofs.YtfldiegfenndjaaGreatDoor
