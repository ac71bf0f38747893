/- A part of the proof. -/
import Derived.Test.YtfldiegfenndjaaGreatDoorTopCcG8
import Derived.Test.YtfldiegfenndjaaGreatDoorTopCcG27
import Derived.Test.YtfldiegfenndjaaGreatDoorTopCcG20
import Derived.Test.YtfldiegfenndjaaGreatDoorTopCcG26
set_option linter.unusedSimpArgs false
set_option linter.unusedVariables false
namespace Go.Proofs.YtfldiegfenndjaaGreatDoor
open Go Go.Fw Go.Proofs.Tryz
set_option maxRecDepth 100000
set_option maxHeartbeats 1000000
theorem ent71 : qAC prog 71 := qAC.of func71 rfl (by kernel_rfl)
theorem ent72 : qAC prog 72 := qAC.of func72 rfl (by kernel_rfl)
theorem ent73 : qAC prog 73 := qAC.of func73 rfl (by kernel_rfl)
theorem ent93 : qAC prog 93 := qAC.of func93 rfl (by kernel_rfl)
theorem ent130 : qAC prog 130 := qAC.of func130 rfl (by kernel_rfl)
theorem ent131 : qAC prog 131 := qAC.of func131 rfl (by kernel_rfl)
theorem ent132 : qAC prog 132 := qAC.of func132 rfl (by kernel_rfl)
theorem el56 : qDV prog 56 [Str [], Str [], Str [], .int .i64 0] 56 := qDV.of (by kernel_rfl) rfl
theorem qUH (d : Nat) (o r : List UInt8) (h : Int) (o' r' : List UInt8) (h' : Int) (w : World) : (Op.equalIn (d + 2) 54 (.agg #[Str o, Str r, I h]) (.agg #[Str o', Str r', I h'])).run prog w = .ok (decide (o = o' ∧ r = r' ∧ h = h')) w := eqPub d o r o' r' h h' w
structure Aud where
 nm : List UInt8
 op : List UInt8
 rt : List UInt8
 ht : Int
 deriving DecidableEq
def Aud.cells (x : Aud) : List Value := [Str (x.nm), Str (x.op), Str (x.rt), I (x.ht)]
def qBV : Aud := ⟨[], [], [], 0⟩
def qDK (l : List Aud) : List (List Value) := l.map Aud.cells
theorem qFp {l : List Aud} {k : Nat} (h : k < l.length) : (qDK l)[k]? = some (l.getD k qBV).cells := by
 unfold qDK
 rw [List.getElem?_map, qAi qBV h]; rfl
theorem qLs (a : List Aud) (x : Aud) : qDK (a ++ [x]) = qDK a ++ [x.cells] := by simp [qDK]
structure Lau where
 nm : List UInt8
 key : UInt8
 ht : Int
 deriving DecidableEq
def Lau.cells (x : Lau) : List Value := [Str (x.nm), B8 (x.key), I (x.ht)]
def qId (m : Hp) (g : Nat) (l : List Aud) : Prop := ∃ A n c mr, m = U [blk g [.slice A n c] 169, mr] ∧ Dj (blk g [.slice A n c] 169) mr ∧ Row mr 56 4 A n c (qDK l)
def qDU (s : List UInt8) : Nat := if (normal s).2 ≠ 0 then (normal s).2 else if (normal s).1 ≠ s then 4 else 0
def qPs (nm o r : List UInt8) (h : Int) : Int := if qDU nm ≠ 0 then ((qDU nm : Nat) : Int) else qBd o r h
def same (nm o r : List UInt8) (h : Int) (x : Aud) : Bool := decide (x.nm = nm) || decide (x.op = o ∧ x.rt = r ∧ x.ht = h)
def qIV (l : List Aud) (nm o r : List UInt8) (h : Int) : Int := if qPs nm o r h ≠ 0 then qPs nm o r h else if l.any (same nm o r h) = true then 19 else if 64 ≤ l.length then 9 else 0
def qON (l : List Aud) (nm o r : List UInt8) (h : Int) : List Aud := if qIV l nm o r h = 0 then l ++ [⟨nm, o, r, h⟩] else l
def qEW (l : List Aud) (nm o r : List UInt8) (h : Int) : Int := if qIV l nm o r h = 0 then ((l.length : Nat) : Int) else 0
def atA (l : List Aud) (i : Int) : Aud := if 0 ≤ i ∧ i < l.length then l.getD i.toNat qBV else qBV
def ixA (p : Aud → Bool) (l : List Aud) : Int := if l.any p = true then ((l.findIdx p : Nat) : Int) else -1
theorem qUB {p : Aud → Bool} {l : List Aud} {k : Nat} (h : k < l.length) (hp : p (l.getD k qBV) = true) (hn : ∀ j < k, p (l.getD j qBV) = false) : ixA p l = ((k : Nat) : Int) := by
 have hk : l.getD k qBV = l[k] := by rw [List.getD_eq_getElem?_getD, List.getElem?_eq_getElem h]; rfl
 unfold ixA
 rw [if_pos (List.any_eq_true.2 ⟨l[k], List.getElem_mem h, hk ▸ hp⟩)]
 congr 1
 rw [List.findIdx_eq h]
 refine ⟨hk ▸ hp, fun j hj => ?_⟩
 have := hn j hj
 rw [List.getD_eq_getElem?_getD, List.getElem?_eq_getElem (by omega)] at this
 exact this
theorem qT9 {p : Aud → Bool} {l : List Aud} (hn : ∀ j < l.length, p (l.getD j qBV) = false) : ixA p l = -1 := by
 unfold ixA
 rw [if_neg]
 intro h
 obtain ⟨x, hx, hp⟩ := List.any_eq_true.1 h
 obtain ⟨j, hj, rfl⟩ := List.getElem_of_mem hx
 have := hn j hj
 rw [List.getD_eq_getElem?_getD, List.getElem?_eq_getElem hj] at this
 rw [show (some l[j]).getD qBV = l[j] from rfl, hp] at this
 cases this
theorem qUA (p : Aud → Bool) (l : List Aud) : decide (ixA p l ≥ 0) = l.any p := by
 unfold ixA
 by_cases h : l.any p = true
 · rw [if_pos h, h, decide_eq_true (by omega)]
 · rw [if_neg h, Bool.eq_false_iff.2 h]; rfl
theorem qTK (F : Hp) (a b c : List UInt8) (d : Int) (nm op rt : List UInt8) (ht : Int) (p : Nat) (hp : qAV F ⟨p, 0, none⟩ [Str nm, Str op, Str rt, I ht]) : Ct prog 73 [.agg #[Str (a), Str (b), Str (c), I (d)], Ptr p] [F] (fun _ : Unit => .bool (same nm op rt ht ⟨a, b, c, d⟩)) (fun _ => True) (fun _ => [F]) := by
 refine Ct.walk func73 rfl ntmps73 rfl (fun w0 hw0 => ?_)
 refine J.g fun K1 hK1 => J.u (qAl rfl rfl rfl) rfl fun g2 _ => J.b rfl <| J.c hK1 <| J.M 1 2 ?_
 refine J.g fun K2 hK2 => J.a8 0 qIm z9_ rfl rfl rfl rfl rfl <| J.c4 1 b9_ rfl rfl rfl rfl rfl <| J.a8 0 qIm z9_ rfl rfl rfl rfl rfl <| J.f (qAK rfl rfl b9_ (m := F) (by simp) (hp.at (i := 0) rfl)) rfl <| J.f (qBM rfl rfl rfl) rfl <| J.b rfl <| J.c3 (d := 9) rfl (fun h9 => ?_) (fun h9 => ?_)
 ·
  refine J.p 7 rfl <| J.c hK2 <| J.A 3 ?_
  exact J.D <| J.L hw0 rfl () (by unfold same; dsimp only; first | rw [decide_eq_true h9, Bool.true_or] | rw [decide_eq_false h9, Bool.false_or]) trivial [0] rfl (by decide)
 refine J.O (qAA rfl rfl qIm rfl qF5 rfl) rfl <| J.O (qAh rfl rfl isAgg54 qF5 (m := blk g2 [Str (a), Str (b), Str (c), I (d)] 56) (by simp) (qAV.blk0.sub 1 3) rfl) rfl <| J.O (qAA rfl rfl qIm rfl qF5 rfl) rfl <| J.O (qAh rfl rfl isAgg54 qF5 (m := F) (by simp) (hp.sub 1 3) rfl) rfl <| J.O (qTu rfl rfl rfl (by kernel_rfl) (fun w => qUH 9998 b c d op rt ht w)) rfl <| J.p 2 rfl <| J.c hK2 <| J.A 3 ?_
 exact J.D <| J.L hw0 rfl () (by unfold same; dsimp only; first | rw [decide_eq_true h9, Bool.true_or] | rw [decide_eq_false h9, Bool.false_or]) trivial [0] rfl (by decide)
theorem qOM (F : Hp) (A : Option Addr) (n c : Nat) (l : List Aud) (hs : Sl F 4 A n c (qDK l)) (hnb : n ≤ 1073741824) (nm op rt : List UInt8) (ht : Int) (p : Nat) (hp : qAV F ⟨p, 0, none⟩ [Str nm, Str op, Str rt, I ht]) : Ct prog 132 [.slice A n c, .func (.func 73) #[] #[Ptr p]] [F] (fun _ : Unit => I (ixA (same nm op rt ht) l)) (fun _ => True) (fun _ => [F]) := by
 have hn : l.length = n := by have := hs.1; simpa [qDK] using this
 refine Ct.walk func132 rfl ntmps132 rfl (fun w0 hw0 => ?_)
 refine J.g fun K1 hK1 => J.b rfl <| J.c hK1 <| J.M 0 1 ?_
 refine J.k fun K2 hK2 => J.g fun K3 hK3 => J.b rfl <| J.f (qAZ qE7 rfl rfl) rfl <| J.b rfl <| J.c hK3 <| J.W 0 1 7 8 ?_
 refine J.T <| J.b2 (X := Nat) (fun ζ => [(0, .slice A n c), (1, .func (.func 73) #[] #[Ptr p]), (7, I ((n : Nat) : Int)), (8, I ((ζ : Nat) : Int))]) (fun ζ => [F]) (fun ζ => ζ ≤ n ∧ ∀ j < ζ, same nm op rt ht (l.getD j qBV) = false) (fun ζ => n - ζ) 0 (⟨Nat.zero_le _, fun j h => absurd h (Nat.not_lt_zero j)⟩) ⟨rfl, rfl, rfl, rfl, trivial⟩ (fun _ h => h) ?_
 rintro k ⟨hk, hno⟩ I0 hI0
 refine J.g fun K4 hK4 => J.f (qAS rfl rfl rfl) rfl <| J.c hK4 <| J.a3 0 1 7 8 9 ?_
 refine J.k fun K5 hK5 => J.a0 rfl (fun h9 => ?_) (fun h9 => ?_)
 ·
  refine J.a1 hK5 <| J.W 0 1 7 8 ?_
  refine J.k fun K6 hK6 => J.T <| J.g fun K7 hK7 => J.p 2 rfl <| J.c hK7 <| J.a3 0 1 5 7 8 ?_
  refine J.g fun K8 hK8 => J.p 3 rfl <| J.f (qAG rfl rfl rfl qE7 qE2 hs (by omega)) rfl <| J.f (qAh rfl rfl qLq qE2 (m := F) (by simp) (hs.elem (qFp (by omega))) rfl) rfl <| J.u (qCv rfl rfl rfl ent73 (Ct.use0 (fun F' hF => qTK F' ((l.getD k qBV).nm) ((l.getD k qBV).op) ((l.getD k qBV).rt) ((l.getD k qBV).ht) nm op rt ht p (hp.mono (hF F (by simp)))))) rfl fun g16 _ => J.c hK8 <| J.a9 0 1 5 7 8 16 ?_
  refine J.d0 rfl (fun h16 => ?_) (fun h16 => ?_)
  ·
   refine J.g fun K9 hK9 => J.p 2 rfl <| J.c hK9 <| J.A 4 ?_
   exact J.D <| J.b3 <| J.a5 <| J.a5 <| J.b3 <| J.a5 <| J.L hw0 rfl () (by rw [qUB (k := k) (by omega) (by simpa using h16) hno]) trivial [0] rfl (by decide)
  refine J.b7 <| J.a4 <| J.q (J.H hK6 ?_)
  refine J.W 0 1 7 8 ?_
  exact J.E <| J.f ((qAO rfl rfl rfl (by omega)).nat (k + 1) (by omega)) rfl <| J.b rfl <| J.a2 <| J.q <| J.a6 (k + 1) (fun η (hη : _ ∧ n - η < n - k) => hI0 η hη.1 hη.2) ⟨⟨by omega, fun j hj => by rcases Nat.lt_succ_iff_lt_or_eq.1 hj with h | rfl; exact hno j h; simpa using h16⟩, by first | omega | (dsimp only; omega)⟩ ⟨rfl, rfl, rfl, rfl, trivial⟩ (fun _ h => h)
 refine J.b0 <| J.Z <| J.Z <| J.b1 ?_
 refine J.q (J.H hK2 ?_)
 refine J.c6 [] trivial <| J.g fun K10 hK10 => J.b rfl <| J.c hK10 <| J.A 4 ?_
 exact J.D <| J.L hw0 rfl () (by rw [qT9 (fun j hj => hno j (by omega))]) trivial [0] rfl (by decide)
theorem qIW (F : Hp) (A : Option Addr) (n c : Nat) (l : List Aud) (hs : Sl F 4 A n c (qDK l)) (hnb : n ≤ 1073741824) (nm op rt : List UInt8) (ht : Int) (p : Nat) (hp : qAV F ⟨p, 0, none⟩ [Str nm, Str op, Str rt, I ht]) : Ct prog 72 [.slice A n c, .func (.func 73) #[] #[Ptr p]] [F] (fun _ : Unit => .bool (l.any (same nm op rt ht))) (fun _ => True) (fun _ => [F]) := by
 refine Ct.walk func72 rfl ntmps72 rfl (fun w0 hw0 => ?_)
 refine J.g fun K1 hK1 => J.b rfl <| J.c hK1 <| J.M 0 1 ?_
 refine J.g fun K2 hK2 => J.p 2 rfl <| J.u (qAB rfl rfl ent132 (Ct.use0 (fun F' hF => qOM F' A n c l (hs.mono (hF F (by simp))) (by omega) nm op rt ht p (hp.mono (hF F (by simp)))))) rfl fun g7 _ => J.f (qBG rfl rfl rfl) rfl <| J.b rfl <| J.c hK2 <| J.A 4 ?_
 exact J.D <| J.L hw0 rfl () (by rw [qUA]) trivial [0] rfl (by decide)
theorem qPA (F : Hp) (hA : qAV F ⟨1, 0, none⟩ qBr) (hT : qCX F) (nm op rt : List UInt8) (ht : Int) (h1 : nm.length ≤ 1000000) (h2 : op.length ≤ 1048576) (h3 : rt.length ≤ 1048576) : Ct prog 71 [.agg #[Str (nm), Str (op), Str (rt), I (ht)]] [F] (fun _ : Unit => I (qPs nm op rt ht)) (fun _ => True) (fun _ => [F]) := by
 refine Ct.walk func71 rfl ntmps71 rfl (fun w0 hw0 => ?_)
 refine J.g fun K1 hK1 => J.u (qAl rfl rfl rfl) rfl fun g1 _ => J.b rfl <| J.c hK1 <| J.A 1 ?_
 refine J.g fun K2 hK2 => J.a8 0 qIm z9_ rfl rfl rfl rfl rfl <| J.c4 1 b9_ rfl rfl rfl rfl rfl <| J.u (qAB rfl rfl ent130 (Ct.use0 (fun F' hF => qNP F' (hA.mono (hF F (by simp))) (hT.mono (hF F (by simp))) nm (by first | omega | decide)))) rfl fun g8 _ => J.p 5 rfl <| J.c hK2 <| J.V 1 3 4 ?_
 refine J.k fun K3 hK3 => J.T <| J.g fun K4 hK4 => J.b rfl <| J.f (qAx rfl rfl rfl) rfl <| J.b rfl <| J.c hK4 <| J.W 1 3 4 11 ?_
 refine J.a0 rfl (fun h11 => ?_) (fun h11 => ?_)
 ·
  refine J.g fun K5 hK5 => J.p 2 rfl <| J.c hK5 <| J.A 2 ?_
  exact J.D <| J.b3 <| J.a5 <| J.L hw0 rfl () (by unfold qPs qDU; rw [if_pos (show (normal nm).2 ≠ 0 by omega), if_pos (by omega)]) trivial [0] rfl (by decide)
 refine J.g fun K6 hK6 => J.b rfl <| J.a8 0 qIm z9_ rfl rfl rfl rfl rfl <| J.c4 1 b9_ rfl rfl rfl rfl rfl <| J.f (qJu rfl rfl rfl) rfl <| J.b rfl <| J.c hK6 <| J.M 1 15 ?_
 refine J.a0 rfl (fun h15 => ?_) (fun h15 => ?_)
 ·
  refine J.g fun K7 hK7 => J.b rfl <| J.c hK7 <| J.A 2 ?_
  exact J.D <| J.b3 <| J.a5 <| J.L hw0 rfl () (by unfold qPs qDU; rw [if_neg (show ¬ (normal nm).2 ≠ 0 by omega), if_pos h15]; rfl) trivial [0] rfl (by decide)
 refine J.b7 <| J.a4 <| J.q (J.H hK3 ?_)
 refine J.A 1 ?_
 refine J.g fun K8 hK8 => J.a8 1 qIm qF5 rfl rfl rfl rfl rfl <| J.f (qAh rfl rfl isAgg54 qF5 (m := blk g1 [Str (nm), Str (op), Str (rt), I (ht)] 56) (by simp) (qAV.blk0.sub 1 3) rfl) rfl <| J.u (qAB rfl rfl ent131 (Ct.use0 (fun F' hF => qEN F' op rt ht (by omega) (by omega)))) rfl fun g23 _ => J.p 4 rfl <| J.c hK8 <| J.A 4 ?_
 refine J.g fun K9 hK9 => J.p 2 rfl <| J.c hK9 <| J.A 2 ?_
 exact J.D <| J.L hw0 rfl () (by unfold qPs qDU; rw [if_neg (show ¬ (normal nm).2 ≠ 0 by omega), if_neg h15]; rfl) trivial [0] rfl (by decide)
theorem qRy (F : Hp)  : Ct prog 32 [] [F] (fun x : Nat × Hp => Ptr x.1) (fun x => qId x.2 x.1 ([])) (fun x => [x.2, F]) := by
 refine Ct.walk func32 rfl ntmps32 rfl (fun w0 hw0 => ?_)
 refine J.g fun K1 hK1 => J.b rfl <| J.c hK1 <| J.c6 [] trivial <| J.g fun K2 hK2 => J.f (qAQ (places := [(0, 1)]) (r := [.slice none 0 0]) rfl rfl rfl qGi zeroValue169 (fun _ => by kernel_rfl) rfl) rfl <| J.u (qAl rfl rfl rfl) rfl fun g2 _ => J.b rfl <| J.c hK2 <| J.A 0 ?_
 exact J.D <| J.d6 [1, 2, 0] [blk g2 [.slice none 0 0] 169, (fun _ => none), F] rfl (by decide) <| J.c2 hw0 (fun _ _ h => h) (qOW rfl rfl) (qB3 (g2, U [blk g2 [.slice none 0 0] 169, (fun _ => none)]) (rfl) (fun hd => ⟨none, 0, 0, (fun _ => none), rfl, hd, qB5.nil⟩) [0, 1, 2] rfl rfl (by decide))
theorem qMv (F m : Hp) (g : Nat) (l : List Aud) (hb : qId m g l) (hA : qAV F ⟨1, 0, none⟩ qBr) (hT : qCX F) (nm op rt : List UInt8) (ht : Int) (h1 : nm.length ≤ 1000000) (h2 : op.length ≤ 1048576) (h3 : rt.length ≤ 1048576) (hl : l.length ≤ 1000000) : Ct prog 34 [Ptr g, .agg #[Str (nm), Str (op), Str (rt), I (ht)]] [m, F] (fun _ : Hp => .tuple #[I (qEW l nm op rt ht), I (qIV l nm op rt ht)]) (fun m' => qId m' g (qON l nm op rt ht)) (fun m' => [m', F]) := by
 obtain ⟨A, n, c, mr, rfl, hd, hr⟩ := hb
 have hn : l.length = n := by have := hr.len; simpa [qDK] using this
 have hnc := hr.2.2.1
 refine Ct.walk func34 rfl ntmps34 rfl (fun w0 hw0 => ?_)
 refine J.f2 hd ?_
 refine J.g fun K1 hK1 => J.u (qAl rfl rfl rfl) rfl fun g3 _ => J.p 2 rfl <| J.c hK1 <| J.M 0 3 ?_
 refine J.k fun K2 hK2 => J.g fun K3 hK3 => J.b rfl <| J.f (qBm underlying34 rfl rfl rfl) rfl <| J.c hK3 <| J.V 0 3 8 ?_
 refine J.b6 ?_
 refine J.a1 hK2 <| J.M 0 3 ?_
 refine J.k fun K4 hK4 => J.g fun K5 hK5 => J.c7 3 qLq qE2 rfl rfl rfl rfl rfl <| J.u (qAB rfl rfl ent71 (Ct.use0 (fun F' hF => qPA F' (hA.mono (hF F (by simp))) (hT.mono (hF F (by simp))) nm op rt ht (by omega) (by omega) (by omega)))) rfl fun g10 _ => J.b rfl <| J.c hK5 <| J.V 0 3 6 ?_
 refine J.g fun K6 hK6 => J.b rfl <| J.f (qAx rfl rfl rfl) rfl <| J.c hK6 <| J.W 0 3 6 12 ?_
 refine J.a0 rfl (fun h12 => ?_) (fun h12 => ?_)
 ·
  refine J.g fun K7 hK7 => J.p 3 rfl <| J.c hK7 <| J.M 4 5 ?_
  refine J.D <| J.a5 ?_
  have hE : qIV l nm op rt ht = qPs nm op rt ht := by unfold qIV; rw [if_pos h12]
  have hL : qON l nm op rt ht = l := by unfold qON; rw [hE, if_neg h12]
  have hN : qEW l nm op rt ht = 0 := by unfold qEW; rw [hE, if_neg h12]
  exact J.c2 hw0 (fun _ _ h => h) (qDb rfl rfl rfl) (qB3 (U [blk g [.slice A n c] 169, mr]) (by rw [hE, hN]) (fun hd => by rw [hL]; exact ⟨A, n, c, mr, rfl, hd, hr⟩) [0, 1, 2] rfl rfl (by decide))
 refine J.a1 hK4 <| J.M 0 3 ?_
 refine J.k fun K8 hK8 => J.T <| J.g fun K9 hK9 => J.b rfl <| J.f (qAE rfl rfl) rfl <| J.a8 0 qGi qGe rfl rfl rfl rfl rfl <| J.c4 0 isAgg167 rfl rfl rfl rfl rfl <| J.f (qBh rfl rfl) rfl <| J.u (qAB rfl rfl ent72 (Ct.use0 (fun F' hF => qIW F' A n c l (hr.sl.mono (hF mr (by simp))) (by omega) nm op rt ht g3 (qAV.blk0.mono (hF (blk g3 [Str (nm), Str (op), Str (rt), I (ht)] 56) (by simp)))))) rfl fun g20 _ => J.b rfl <| J.c hK9 <| J.V 0 3 14 ?_
 refine J.d0 rfl (fun h14 => ?_) (fun h14 => ?_)
 ·
  refine J.k fun K10 hK10 => ?_
  have hE : qIV l nm op rt ht = 19 := by unfold qIV; rw [if_neg h12, if_pos h14]
  have hL : qON l nm op rt ht = l := by unfold qON; rw [hE]; rfl
  have hN : qEW l nm op rt ht = 0 := by unfold qEW; rw [hE]; rfl
  refine J.E <| J.p 2 rfl <| J.c hK10 <| J.M 4 5 ?_
  exact J.D <| J.b3 <| J.a5 <| J.c2 hw0 (fun _ _ h => h) (qDb rfl rfl rfl) (qB3 (U [blk g [.slice A n c] 169, mr]) (by rw [hE, hN]) (fun hd => by rw [hL]; exact ⟨A, n, c, mr, rfl, hd, hr⟩) [0, 1, 2] rfl rfl (by decide))
 refine J.g fun K11 hK11 => J.b rfl <| J.f (qAE rfl rfl) rfl <| J.a8 0 qGi qGe rfl rfl rfl rfl rfl <| J.c4 0 isAgg167 rfl rfl rfl rfl rfl <| J.f (qAZ qE7 rfl rfl) rfl <| J.f (qBG rfl rfl rfl) rfl <| J.b rfl <| J.c hK11 <| J.V 0 3 21 ?_
 refine J.a0 rfl (fun h21 => ?_) (fun h21 => ?_)
 ·
  refine J.k fun K12 hK12 => ?_
  have hE : qIV l nm op rt ht = 9 := by unfold qIV; rw [if_neg h12, if_neg (by simpa using h14), if_pos (by omega)]
  have hL : qON l nm op rt ht = l := by unfold qON; rw [hE]; rfl
  have hN : qEW l nm op rt ht = 0 := by unfold qEW; rw [hE]; rfl
  refine J.E <| J.p 2 rfl <| J.c hK12 <| J.M 4 5 ?_
  exact J.D <| J.b3 <| J.a5 <| J.c2 hw0 (fun _ _ h => h) (qDb rfl rfl rfl) (qB3 (U [blk g [.slice A n c] 169, mr]) (by rw [hE, hN]) (fun hd => by rw [hL]; exact ⟨A, n, c, mr, rfl, hd, hr⟩) [0, 1, 2] rfl rfl (by decide))
 refine J.b7 <| J.a4 <| J.q (J.H hK8 ?_)
 refine J.M 0 3 ?_
 refine J.k fun K13 hK13 => ?_
 have hE : qIV l nm op rt ht = 0 := by unfold qIV; rw [if_neg h12, if_neg (by simpa using h14), if_neg (by omega)]
 have hL : qON l nm op rt ht = l ++ [⟨nm, op, rt, ht⟩] := by unfold qON; rw [hE]; rfl
 have hN : qEW l nm op rt ht = ((l.length : Nat) : Int) := by unfold qEW; rw [hE]; rfl
 refine J.b5 [blk g [.slice A n c] 169, blk g3 [Str (nm), Str (op), Str (rt), I (ht)] 56] [10] (.y 0 (.y 1 (.y 2 (.y 3 (.y 4 (.y 5 (.e 6 (.e 7 (.y 8 (.y 9 (.e 10 .nil))))))))))) Tryz.wide (by decide +kernel) (by simp) ?_
 refine J.G ?_
 refine J.G ?_
 refine J.j rfl (qAE rfl rfl) rfl rfl <| J.j rfl (qAA rfl rfl qGi rfl qGe rfl) rfl rfl <| J.j rfl (qAF 0 rfl rfl rfl isAgg167 rfl) rfl rfl <| J.j rfl (qAk 1 rfl rfl rfl qLq qE2 rfl) rfl rfl <| J.a7 rfl (qAH (l := [.tmp 33]) (xs := [[Str (nm), Str (op), Str (rt), I (ht)]]) rfl rfl rfl rfl qE7 el56 rfl (by decide) (by decide) (by simp)) rfl (by simp) fun g34 _ => J.a7 rfl (qAb (i := 1) (m2 := blk g34 [Str (nm), Str (op), Str (rt), I (ht)] 56) rfl rfl rfl qE7 qE7 el56 rfl hr (by simp) ((qAr (q := True) (xs := qDK [(⟨nm, op, rt, ht⟩ : Aud)]) rfl (by intro x hx; rw [List.mem_singleton.1 hx]; rfl)).sl) rfl (by omega) (by omega)) rfl (by simp) ?_
 rintro ⟨A35, c35, m35⟩ h35
 try dsimp only at h35
 replace h35 : Row m35 56 4 A35 (n + 1) c35 (qDK (l ++ ([(⟨nm, op, rt, ht⟩ : Aud)]))) := by rw [qLs]; exact h35
 refine J.j rfl (qAE rfl rfl) rfl rfl <| J.j rfl (qAA rfl rfl qGi rfl qGe rfl) rfl rfl <| J.c8 rfl (qAR (i := 0) (l := [.slice A n c]) (vs := [.slice A35 (n + 1) c35]) rfl rfl rfl rfl rfl qGe rfl rfl) rfl rfl rfl fun _ _ => J.b4 <| J.q (J.H hK13 ?_)
 refine J.A 0 ?_
 refine J.g fun K14 hK14 => J.b rfl <| J.f (qAE rfl rfl) rfl <| J.a8 0 qGi qGe rfl rfl rfl rfl rfl <| J.c4 0 isAgg167 rfl rfl rfl rfl rfl <| J.f (qAZ qE7 rfl rfl) rfl <| J.f (qAs rfl rfl rfl (by omega)) rfl <| J.p 2 rfl <| J.c hK14 <| J.M 4 5 ?_
 exact J.D <| J.c2 hw0 (fun _ _ h => h) (qDb rfl rfl rfl) (qB3 (U [blk g [.slice A35 (n + 1) c35] 169, m35]) (by rw [hE, hN, hn, show ((n + 1 : Nat) : Int) - 1 = ((n : Nat) : Int) by omega]) (fun hd => by rw [hL]; exact ⟨A35, n + 1, c35, m35, rfl, hd, h35⟩) [0, 1, 2] rfl rfl (by decide))
theorem qPC (F : Hp) (g : Nat) (A : Option Addr) (n c : Nat) (hp : qAV F ⟨g, 0, none⟩ [.slice A n c]) : Ct prog 93 [Ptr g] [F] (fun _ : Unit => I ((n : Nat) : Int)) (fun _ => True) (fun _ => [F]) := by
 refine Ct.walk func93 rfl ntmps93 rfl (fun w0 hw0 => ?_)
 refine J.g fun K1 hK1 => J.b rfl <| J.c hK1 <| J.A 0 ?_
 refine J.k fun K2 hK2 => J.g fun K3 hK3 => J.b rfl <| J.f ((qBm underlying34 rfl rfl rfl).as (v' := .bool false) rfl) rfl <| J.c hK3 <| J.M 0 4 ?_
 refine J.b6 ?_
 refine J.a1 hK2 <| J.A 0 ?_
 refine J.g fun K4 hK4 => J.b rfl <| J.f (qAE rfl rfl) rfl <| J.a8 0 qGi qGe rfl rfl rfl rfl rfl <| J.f (qAK rfl rfl isAgg167 (m := F) (by simp) (hp)) rfl <| J.f (qAZ qE7 rfl rfl) rfl <| J.b rfl <| J.c hK4 <| J.A 2 ?_
 exact J.D <| J.L hw0 rfl () rfl trivial [0] rfl (by decide)
theorem qTk (F m : Hp) (g : Nat) (l : List Aud) (hb : qId m g l) (i : Int) : Ct prog 46 [Ptr g, I (i)] [m, F] (fun _ : Unit => .tuple #[.agg #[Str ((atA l i).nm), Str ((atA l i).op), Str ((atA l i).rt), I ((atA l i).ht)], I (if 0 ≤ i ∧ i < l.length then 0 else 20)]) (fun _ => True) (fun _ => [m, F]) := by
 obtain ⟨A, n, c, mr, rfl, hd, hr⟩ := hb
 have hn : l.length = n := by have := hr.len; simpa [qDK] using this
 have hnc := hr.2.2.1
 refine Ct.walk func46 rfl ntmps46 rfl (fun w0 hw0 => ?_)
 refine J.f2 hd ?_
 refine J.g fun K1 hK1 => J.u (qAf rfl qSx rfl) rfl fun g4 _ => J.b rfl <| J.c hK1 <| J.V 0 1 4 ?_
 refine J.k fun K2 hK2 => J.g fun K3 hK3 => J.b rfl <| J.f (qAS rfl rfl rfl) rfl <| J.b rfl <| J.c3 (d := 8) rfl (fun h8 => ?_) (fun h8 => ?_)
 ·
  refine J.p 5 rfl <| J.c hK3 <| J.W 0 1 4 13 ?_
  refine J.d1 ?_
  refine J.g fun K4 hK4 => J.f (qAQ (places := [(0, 1), (1, 3)]) (r := [Str [], Str [], Str [], I 0]) rfl rfl rfl qIm qSx (fun _ => by kernel_rfl) rfl) rfl <| J.c1 (qAR (i := 3) rfl rfl rfl rfl rfl qE2 rfl rfl) rfl rfl fun _ _ => J.b rfl <| J.c hK4 <| J.M 4 5 ?_
  exact J.D <| J.a5 <| J.c2 hw0 (fun _ _ h => h) (rv2 rfl (RV.blkA 3 rfl rfl qLq qE2) rfl) (qB3 () (by unfold atA; rw [if_neg (by omega), if_neg (by omega)]; rfl) (fun _ => trivial) [0, 1, 2] rfl rfl (by decide))
 refine J.p 2 rfl <| J.d7 (qAB rfl rfl ent93 (Ct.use0 (fun F' hF => qPC F' g A n c (qAV.blk0.mono (hF (blk g [.slice A n c] 169) (by simp)))))) rfl fun g11 _ => J.O (qBG rfl rfl rfl) rfl <| J.b rfl <| J.c hK3 <| J.W 0 1 4 13 ?_
 refine J.a0 rfl (fun h13 => ?_) (fun h13 => ?_)
 ·
  refine J.g fun K5 hK5 => J.f (qAQ (places := [(0, 1), (1, 3)]) (r := [Str [], Str [], Str [], I 0]) rfl rfl rfl qIm qSx (fun _ => by kernel_rfl) rfl) rfl <| J.c1 (qAR (i := 3) rfl rfl rfl rfl rfl qE2 rfl rfl) rfl rfl fun _ _ => J.b rfl <| J.c hK5 <| J.M 4 5 ?_
  exact J.D <| J.a5 <| J.c2 hw0 (fun _ _ h => h) (rv2 rfl (RV.blkA 3 rfl rfl qLq qE2) rfl) (qB3 () (by unfold atA; rw [if_neg (by omega), if_neg (by omega)]; rfl) (fun _ => trivial) [0, 1, 2] rfl rfl (by decide))
 refine J.a1 hK2 <| J.V 0 1 4 ?_
 refine J.k fun K6 hK6 => ?_
 obtain ⟨k, rfl⟩ := Int.eq_ofNat_of_zero_le (show 0 ≤ i by omega)
 have hk : atA l ((k : Nat) : Int) = l.getD k qBV := by unfold atA; rw [if_pos (by omega)]; rfl
 refine J.E <| J.b rfl <| J.f (qAE rfl rfl) rfl <| J.a8 0 qGi qGe rfl rfl rfl rfl rfl <| J.c4 0 isAgg167 rfl rfl rfl rfl rfl <| J.b rfl <| J.f (qAG rfl rfl rfl qE7 qE2 hr.sl (by omega)) rfl <| J.f (qAh rfl rfl qLq qE2 (m := mr) (by simp) (hr.sl.elem (qFp (by omega))) rfl) rfl <| J.c1 (qAR (i := 3) (l := [Str [], Str [], Str [], I 0]) (vs := [Str ((l.getD k qBV).nm), Str ((l.getD k qBV).op), Str ((l.getD k qBV).rt), I ((l.getD k qBV).ht)]) rfl rfl rfl rfl rfl qE2 rfl rfl) rfl rfl fun _ _ => J.b rfl <| J.c hK6 <| J.M 4 5 ?_
 exact J.D <| J.c2 hw0 (fun _ _ h => h) (rv2 rfl (RV.blkA 3 rfl rfl qLq qE2) rfl) (qB3 () (by rw [hk, if_pos (by omega)]) (fun _ => trivial) [0, 1, 2] rfl rfl (by decide))
def hit (x y : Lau) : Bool := decide (y.nm = x.nm ∨ y.key = x.key ∧ y.ht = x.ht)
end Go.Proofs.YtfldiegfenndjaaGreatDoor
