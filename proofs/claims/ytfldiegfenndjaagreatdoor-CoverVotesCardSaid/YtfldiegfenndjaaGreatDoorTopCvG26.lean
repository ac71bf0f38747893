/- A part of the proof. -/
import Derived.Test.YtfldiegfenndjaaGreatDoorTopCvG8
import Derived.Test.YtfldiegfenndjaaGreatDoorTopCvG25
import Derived.Test.YtfldiegfenndjaaGreatDoorTopCvG18
import Derived.Test.YtfldiegfenndjaaGreatDoorTopCvG24
set_option linter.unusedSimpArgs false
set_option linter.unusedVariables false
namespace Go.Proofs.YtfldiegfenndjaaGreatDoor
open Go Go.Fw Go.Proofs.Tryz
set_option maxRecDepth 100000
set_option maxHeartbeats 1000000
theorem ent71 : qAF prog 71 := qAF.of func71 rfl (by kernel_rfl)
theorem ent72 : qAF prog 72 := qAF.of func72 rfl (by kernel_rfl)
theorem ent73 : qAF prog 73 := qAF.of func73 rfl (by kernel_rfl)
theorem ent93 : qAF prog 93 := qAF.of func93 rfl (by kernel_rfl)
theorem ent130 : qAF prog 130 := qAF.of func130 rfl (by kernel_rfl)
theorem ent131 : qAF prog 131 := qAF.of func131 rfl (by kernel_rfl)
theorem ent132 : qAF prog 132 := qAF.of func132 rfl (by kernel_rfl)
theorem el56 : qDu prog 56 [Str [], Str [], Str [], .int .i64 0] 56 := qDu.of (by kernel_rfl) rfl
theorem qTx (d : Nat) (o r : List UInt8) (h : Int) (o' r' : List UInt8) (h' : Int) (w : World) : (Op.equalIn (d + 2) 54 (.agg #[Str o, Str r, I h]) (.agg #[Str o', Str r', I h'])).run prog w = .ok (decide (o = o' ∧ r = r' ∧ h = h')) w := eqPub d o r o' r' h h' w
structure Aud where
 nm : List UInt8
 op : List UInt8
 rt : List UInt8
 ht : Int
 deriving DecidableEq
def Aud.cells (x : Aud) : List Value := [Str (x.nm), Str (x.op), Str (x.rt), I (x.ht)]
def qAy : Aud := ⟨[], [], [], 0⟩
def qCv (l : List Aud) : List (List Value) := l.map Aud.cells
theorem qFn {l : List Aud} {k : Nat} (h : k < l.length) : (qCv l)[k]? = some (l.getD k qAy).cells := by
 unfold qCv
 rw [List.getElem?_map, qAl qAy h]; rfl
theorem qLZ (a : List Aud) (x : Aud) : qCv (a ++ [x]) = qCv a ++ [x.cells] := by simp [qCv]
structure Lau where
 nm : List UInt8
 key : UInt8
 ht : Int
 deriving DecidableEq
def Lau.cells (x : Lau) : List Value := [Str (x.nm), B8 (x.key), I (x.ht)]
def qJP (m : Hp) (g : Nat) (l : List Aud) : Prop := ∃ A n c mr, m = U [blk g [.slice A n c] 169, mr] ∧ Dj (blk g [.slice A n c] 169) mr ∧ Row mr 56 4 A n c (qCv l)
def qDW (s : List UInt8) : Nat := if (normal s).2 ≠ 0 then (normal s).2 else if (normal s).1 ≠ s then 4 else 0
def qPS (nm o r : List UInt8) (h : Int) : Int := if qDW nm ≠ 0 then ((qDW nm : Nat) : Int) else qBY o r h
def same (nm o r : List UInt8) (h : Int) (x : Aud) : Bool := decide (x.nm = nm) || decide (x.op = o ∧ x.rt = r ∧ x.ht = h)
def qIX (l : List Aud) (nm o r : List UInt8) (h : Int) : Int := if qPS nm o r h ≠ 0 then qPS nm o r h else if l.any (same nm o r h) = true then 19 else if 64 ≤ l.length then 9 else 0
def qN3 (l : List Aud) (nm o r : List UInt8) (h : Int) : List Aud := if qIX l nm o r h = 0 then l ++ [⟨nm, o, r, h⟩] else l
def qEa (l : List Aud) (nm o r : List UInt8) (h : Int) : Int := if qIX l nm o r h = 0 then ((l.length : Nat) : Int) else 0
def atA (l : List Aud) (i : Int) : Aud := if 0 ≤ i ∧ i < l.length then l.getD i.toNat qAy else qAy
def ixA (p : Aud → Bool) (l : List Aud) : Int := if l.any p = true then ((l.findIdx p : Nat) : Int) else -1
theorem qTr {p : Aud → Bool} {l : List Aud} {k : Nat} (h : k < l.length) (hp : p (l.getD k qAy) = true) (hn : ∀ j < k, p (l.getD j qAy) = false) : ixA p l = ((k : Nat) : Int) := by
 have hk : l.getD k qAy = l[k] := by rw [List.getD_eq_getElem?_getD, List.getElem?_eq_getElem h]; rfl
 unfold ixA
 rw [if_pos (List.any_eq_true.2 ⟨l[k], List.getElem_mem h, hk ▸ hp⟩)]
 congr 1
 rw [List.findIdx_eq h]
 refine ⟨hk ▸ hp, fun j hj => ?_⟩
 have := hn j hj
 rw [List.getD_eq_getElem?_getD, List.getElem?_eq_getElem (by omega)] at this
 exact this
theorem qTp {p : Aud → Bool} {l : List Aud} (hn : ∀ j < l.length, p (l.getD j qAy) = false) : ixA p l = -1 := by
 unfold ixA
 rw [if_neg]
 intro h
 obtain ⟨x, hx, hp⟩ := List.any_eq_true.1 h
 obtain ⟨j, hj, rfl⟩ := List.getElem_of_mem hx
 have := hn j hj
 rw [List.getD_eq_getElem?_getD, List.getElem?_eq_getElem hj] at this
 rw [show (some l[j]).getD qAy = l[j] from rfl, hp] at this
 cases this
theorem qTq (p : Aud → Bool) (l : List Aud) : decide (ixA p l ≥ 0) = l.any p := by
 unfold ixA
 by_cases h : l.any p = true
 · rw [if_pos h, h, decide_eq_true (by omega)]
 · rw [if_neg h, Bool.eq_false_iff.2 h]; rfl
theorem qSu (F : Hp) (a b c : List UInt8) (d : Int) (nm op rt : List UInt8) (ht : Int) (p : Nat) (hp : qAS F ⟨p, 0, none⟩ [Str nm, Str op, Str rt, I ht]) : Ct prog 73 [.agg #[Str (a), Str (b), Str (c), I (d)], Ptr p] [F] (fun _ : Unit => .bool (same nm op rt ht ⟨a, b, c, d⟩)) (fun _ => True) (fun _ => [F]) := by
 refine Ct.walk func73 rfl ntmps73 rfl (fun w0 hw0 => ?_)
 change J _ [(0, _), (1, _)] _ _ _
 refine J.g fun K1 hK1 => J.q (qAi (l := [Str (a), Str (b), Str (c), I (d)]) rfl rfl rfl) rfl fun g2 _ => ?_
 change J _ _ _ [F, blk g2 [Str (a), Str (b), Str (c), I (d)] 56] _
 refine J.b rfl <| J.c hK1 <| J.G 1 2 ?_
 refine J.g fun K2 hK2 => J.a7 0 qIe z9_ rfl rfl rfl rfl rfl <| J.f (qAE 1 (v := Str (a)) rfl rfl rfl b9_ rfl) rfl <| J.a7 0 qIe z9_ rfl rfl rfl rfl rfl <| J.f (qAQ (v := Str (nm)) rfl rfl b9_ (m := F) (by simp) (hp.at (i := 0) rfl)) rfl <| J.f (qBH rfl rfl rfl) rfl <| J.b rfl <| J.c2 (d := 9) rfl (fun h9 => ?_) (fun h9 => ?_)
 ·
  refine J.j 7 rfl <| J.c hK2 <| J.u 3 ?_
  exact J.D <| J.H hw0 rfl () (by unfold same; dsimp only; first | rw [decide_eq_true h9, Bool.true_or] | rw [decide_eq_false h9, Bool.false_or]) trivial [0] rfl (by decide)
 refine J.E (qAA (j := 1) rfl rfl qIe rfl qF1 rfl) rfl <| J.E (qAd (vs := [Str (b), Str (c), I (d)]) rfl rfl isAgg54 qF1 (m := blk g2 [Str (a), Str (b), Str (c), I (d)] 56) (by simp) (qAS.blk0.sub 1 3) rfl) rfl <| J.E (qAA (j := 1) rfl rfl qIe rfl qF1 rfl) rfl <| J.E (qAd (vs := [Str (op), Str (rt), I (ht)]) rfl rfl isAgg54 qF1 (m := F) (by simp) (hp.sub 1 3) rfl) rfl <| J.E (qTa rfl rfl rfl (by kernel_rfl) (fun w => qTx 9998 b c d op rt ht w)) rfl <| J.j 2 rfl <| J.c hK2 <| J.u 3 ?_
 exact J.D <| J.H hw0 rfl () (by unfold same; dsimp only; first | rw [decide_eq_true h9, Bool.true_or] | rw [decide_eq_false h9, Bool.false_or]) trivial [0] rfl (by decide)
theorem qN2 (F : Hp) (A : Option Addr) (n c : Nat) (l : List Aud) (hs : Sl F 4 A n c (qCv l)) (hnb : n ≤ 1073741824) (nm op rt : List UInt8) (ht : Int) (p : Nat) (hp : qAS F ⟨p, 0, none⟩ [Str nm, Str op, Str rt, I ht]) : Ct prog 132 [.slice A n c, .func (.func 73) #[] #[Ptr p]] [F] (fun _ : Unit => I (ixA (same nm op rt ht) l)) (fun _ => True) (fun _ => [F]) := by
 have hn : l.length = n := by have := hs.1; simpa [qCv] using this
 refine Ct.walk func132 rfl ntmps132 rfl (fun w0 hw0 => ?_)
 change J _ [(0, _), (1, _)] _ _ _
 refine J.g fun K1 hK1 => J.b rfl <| J.c hK1 <| J.G 0 1 ?_
 refine J.p fun K2 hK2 => J.g fun K3 hK3 => J.b rfl <| J.f (qAh qE8 rfl rfl) rfl <| J.b rfl <| J.c hK3 <| J.T 0 1 7 8 ?_
 refine J.W <| J.b6 (X := Nat) (fun ζ => [(0, .slice A n c), (1, .func (.func 73) #[] #[Ptr p]), (7, I ((n : Nat) : Int)), (8, I ((ζ : Nat) : Int))]) (fun ζ => [F]) (fun ζ => ζ ≤ n ∧ ∀ j < ζ, same nm op rt ht (l.getD j qAy) = false) (fun ζ => n - ζ) 0 (⟨Nat.zero_le _, fun j h => absurd h (Nat.not_lt_zero j)⟩) ⟨rfl, rfl, rfl, rfl, trivial⟩ (fun _ h => h) ?_
 rintro k ⟨hk, hno⟩ I0 hI0
 refine J.g fun K4 hK4 => J.f (qAX rfl rfl rfl) rfl <| J.c hK4 <| J.a3 0 1 7 8 9 ?_
 refine J.p fun K5 hK5 => J.a0 rfl (fun h9 => ?_) (fun h9 => ?_)
 ·
  refine J.a1 hK5 <| J.T 0 1 7 8 ?_
  refine J.p fun K6 hK6 => J.W <| J.g fun K7 hK7 => J.j 2 rfl <| J.c hK7 <| J.a3 0 1 5 7 8 ?_
  refine J.g fun K8 hK8 => J.j 3 rfl <| J.f (qAK (i := k) rfl rfl rfl qE8 qEr hs (by omega)) rfl <| J.f (qAd (vs := [Str ((l.getD k qAy).nm), Str ((l.getD k qAy).op), Str ((l.getD k qAy).rt), I ((l.getD k qAy).ht)]) rfl rfl qLW qEr (m := F) (by simp) (hs.elem (qFn (by omega))) rfl) rfl <| J.q (qCk rfl rfl rfl ent73 (Ct.use0 (fun F' hF => qSu F' ((l.getD k qAy).nm) ((l.getD k qAy).op) ((l.getD k qAy).rt) ((l.getD k qAy).ht) nm op rt ht p (hp.mono (hF F (by simp)))))) rfl fun g16 _ => J.c hK8 <| J.b1 0 1 5 7 8 16 ?_
  refine J.d1 rfl (fun h16 => ?_) (fun h16 => ?_)
  ·
   refine J.g fun K9 hK9 => J.j 2 rfl <| J.c hK9 <| J.u 4 ?_
   exact J.D <| J.a9 <| J.Z <| J.Z <| J.a9 <| J.Z <| J.H hw0 rfl () (by rw [qTr (k := k) (by omega) (by simpa using h16) hno]) trivial [0] rfl (by decide)
  refine J.b9 <| J.a5 <| J.A (J.L hK6 ?_)
  refine J.T 0 1 7 8 ?_
  exact J.M <| J.f ((qAU rfl rfl rfl (by omega)).nat (k + 1) (by omega)) rfl <| J.b rfl <| J.a6 <| J.A <| J.a8 (k + 1) (fun η (hη : _ ∧ n - η < n - k) => hI0 η hη.1 hη.2) ⟨⟨by omega, fun j hj => by rcases Nat.lt_succ_iff_lt_or_eq.1 hj with h | rfl; exact hno j h; simpa using h16⟩, by first | omega | (dsimp only; omega)⟩ ⟨rfl, rfl, rfl, rfl, trivial⟩ (fun _ h => h)
 refine J.b5 <| J.a4 <| J.a4 <| J.b7 ?_
 refine J.A (J.L hK2 ?_)
 refine J.c7 [] trivial <| J.g fun K10 hK10 => J.b rfl <| J.c hK10 <| J.u 4 ?_
 exact J.D <| J.H hw0 rfl () (by rw [qTp (fun j hj => hno j (by omega))]) trivial [0] rfl (by decide)
theorem qIY (F : Hp) (A : Option Addr) (n c : Nat) (l : List Aud) (hs : Sl F 4 A n c (qCv l)) (hnb : n ≤ 1073741824) (nm op rt : List UInt8) (ht : Int) (p : Nat) (hp : qAS F ⟨p, 0, none⟩ [Str nm, Str op, Str rt, I ht]) : Ct prog 72 [.slice A n c, .func (.func 73) #[] #[Ptr p]] [F] (fun _ : Unit => .bool (l.any (same nm op rt ht))) (fun _ => True) (fun _ => [F]) := by
 refine Ct.walk func72 rfl ntmps72 rfl (fun w0 hw0 => ?_)
 change J _ [(0, _), (1, _)] _ _ _
 refine J.g fun K1 hK1 => J.b rfl <| J.c hK1 <| J.G 0 1 ?_
 refine J.g fun K2 hK2 => J.j 2 rfl <| J.q (qAC rfl rfl ent132 (Ct.use0 (fun F' hF => qN2 F' A n c l (hs.mono (hF F (by simp))) (by omega) nm op rt ht p (hp.mono (hF F (by simp)))))) rfl fun g7 _ => J.f (qBR rfl rfl rfl) rfl <| J.b rfl <| J.c hK2 <| J.u 4 ?_
 exact J.D <| J.H hw0 rfl () (by rw [qTq]) trivial [0] rfl (by decide)
theorem qOk (F : Hp) (hA : qAS F ⟨1, 0, none⟩ qBo) (hT : qCP F) (nm op rt : List UInt8) (ht : Int) (h1 : nm.length ≤ 1000000) (h2 : op.length ≤ 1048576) (h3 : rt.length ≤ 1048576) : Ct prog 71 [.agg #[Str (nm), Str (op), Str (rt), I (ht)]] [F] (fun _ : Unit => I (qPS nm op rt ht)) (fun _ => True) (fun _ => [F]) := by
 refine Ct.walk func71 rfl ntmps71 rfl (fun w0 hw0 => ?_)
 change J _ [(0, _)] _ _ _
 refine J.g fun K1 hK1 => J.q (qAi (l := [Str (nm), Str (op), Str (rt), I (ht)]) rfl rfl rfl) rfl fun g1 _ => ?_
 change J _ _ _ [F, blk g1 [Str (nm), Str (op), Str (rt), I (ht)] 56] _
 refine J.b rfl <| J.c hK1 <| J.u 1 ?_
 refine J.g fun K2 hK2 => J.a7 0 qIe z9_ rfl rfl rfl rfl rfl <| J.f (qAE 1 (v := Str (nm)) rfl rfl rfl b9_ rfl) rfl <| J.q (qAC rfl rfl ent130 (Ct.use0 (fun F' hF => qM4 F' (hA.mono (hF F (by simp))) (hT.mono (hF F (by simp))) nm (by first | omega | decide)))) rfl fun g8 _ => J.j 5 rfl <| J.c hK2 <| J.O 1 3 4 ?_
 refine J.p fun K3 hK3 => J.W <| J.g fun K4 hK4 => J.b rfl <| J.f (qAz rfl rfl rfl) rfl <| J.b rfl <| J.c hK4 <| J.T 1 3 4 11 ?_
 refine J.a0 rfl (fun h11 => ?_) (fun h11 => ?_)
 ·
  refine J.g fun K5 hK5 => J.j 2 rfl <| J.c hK5 <| J.u 2 ?_
  exact J.D <| J.a9 <| J.Z <| J.H hw0 rfl () (by unfold qPS qDW; rw [if_pos (show (normal nm).2 ≠ 0 by omega), if_pos (by omega)]) trivial [0] rfl (by decide)
 refine J.g fun K6 hK6 => J.b rfl <| J.a7 0 qIe z9_ rfl rfl rfl rfl rfl <| J.f (qAE 1 (v := Str (nm)) rfl rfl rfl b9_ rfl) rfl <| J.f (qJr rfl rfl rfl) rfl <| J.b rfl <| J.c hK6 <| J.G 1 15 ?_
 refine J.a0 rfl (fun h15 => ?_) (fun h15 => ?_)
 ·
  refine J.g fun K7 hK7 => J.b rfl <| J.c hK7 <| J.u 2 ?_
  exact J.D <| J.a9 <| J.Z <| J.H hw0 rfl () (by unfold qPS qDW; rw [if_neg (show ¬ (normal nm).2 ≠ 0 by omega), if_pos h15]; rfl) trivial [0] rfl (by decide)
 refine J.b9 <| J.a5 <| J.A (J.L hK3 ?_)
 refine J.u 1 ?_
 refine J.g fun K8 hK8 => J.a7 1 qIe qF1 rfl rfl rfl rfl rfl <| J.f (qAd (vs := [Str (op), Str (rt), I (ht)]) rfl rfl isAgg54 qF1 (m := blk g1 [Str (nm), Str (op), Str (rt), I (ht)] 56) (by simp) (qAS.blk0.sub 1 3) rfl) rfl <| J.q (qAC rfl rfl ent131 (Ct.use0 (fun F' hF => qEP F' op rt ht (by omega) (by omega)))) rfl fun g23 _ => J.j 4 rfl <| J.c hK8 <| J.u 4 ?_
 refine J.g fun K9 hK9 => J.j 2 rfl <| J.c hK9 <| J.u 2 ?_
 exact J.D <| J.H hw0 rfl () (by unfold qPS qDW; rw [if_neg (show ¬ (normal nm).2 ≠ 0 by omega), if_neg h15]; rfl) trivial [0] rfl (by decide)
theorem qRe (F : Hp)  : Ct prog 32 [] [F] (fun x : Nat × Hp => Ptr x.1) (fun x => qJP x.2 x.1 ([])) (fun x => [x.2, F]) := by
 refine Ct.walk func32 rfl ntmps32 rfl (fun w0 hw0 => ?_)
 change J _ [] _ _ _
 refine J.g fun K1 hK1 => J.b rfl <| J.c hK1 <| J.c7 [] trivial <| J.g fun K2 hK2 => J.f (qAL (l := []) (vs := []) (places := [(0, 1)]) (r := [.slice none 0 0]) rfl rfl rfl qGi zeroValue169 (fun _ => by kernel_rfl) rfl) rfl <| J.q (qAi (l := [.slice none 0 0]) rfl rfl rfl) rfl fun g2 _ => ?_
 change J _ _ _ [F, blk g2 [.slice none 0 0] 169] _
 refine J.b rfl <| J.c hK2 <| J.u 0 ?_
 exact J.D <| J.d6 [1, 2, 0] [blk g2 [.slice none 0 0] 169, (fun _ => none), F] rfl (by decide) <| J.b8 hw0 (fun _ _ h => h) (qOB rfl rfl) (qBx (g2, U [blk g2 [.slice none 0 0] 169, (fun _ => none)]) (rfl) (fun hd => ⟨none, 0, 0, (fun _ => none), rfl, hd, qCA.nil⟩) [0, 1, 2] rfl rfl (by decide))
theorem qMa (F m : Hp) (g : Nat) (l : List Aud) (hb : qJP m g l) (hA : qAS F ⟨1, 0, none⟩ qBo) (hT : qCP F) (nm op rt : List UInt8) (ht : Int) (h1 : nm.length ≤ 1000000) (h2 : op.length ≤ 1048576) (h3 : rt.length ≤ 1048576) (hl : l.length ≤ 1000000) : Ct prog 34 [Ptr g, .agg #[Str (nm), Str (op), Str (rt), I (ht)]] [m, F] (fun _ : Hp => .tuple #[I (qEa l nm op rt ht), I (qIX l nm op rt ht)]) (fun m' => qJP m' g (qN3 l nm op rt ht)) (fun m' => [m', F]) := by
 obtain ⟨A, n, c, mr, rfl, hd, hr⟩ := hb
 have hn : l.length = n := by have := hr.len; simpa [qCv] using this
 have hnc := hr.2.2.1
 refine Ct.walk func34 rfl ntmps34 rfl (fun w0 hw0 => ?_)
 change J _ [(0, _), (1, _)] _ _ _
 refine J.f1 hd ?_
 refine J.g fun K1 hK1 => J.q (qAi (l := [Str (nm), Str (op), Str (rt), I (ht)]) rfl rfl rfl) rfl fun g3 _ => ?_
 change J _ _ _ [blk g [.slice A n c] 169, mr, F, blk g3 [Str (nm), Str (op), Str (rt), I (ht)] 56] _
 refine J.j 2 rfl <| J.c hK1 <| J.G 0 3 ?_
 refine J.p fun K2 hK2 => J.g fun K3 hK3 => J.b rfl <| J.f (qBk underlying34 rfl rfl rfl) rfl <| J.c hK3 <| J.O 0 3 8 ?_
 refine J.b2 ?_
 refine J.a1 hK2 <| J.G 0 3 ?_
 refine J.p fun K4 hK4 => J.g fun K5 hK5 => J.c5 3 qLW qEr rfl rfl rfl rfl rfl <| J.q (qAC rfl rfl ent71 (Ct.use0 (fun F' hF => qOk F' (hA.mono (hF F (by simp))) (hT.mono (hF F (by simp))) nm op rt ht (by omega) (by omega) (by omega)))) rfl fun g10 _ => J.b rfl <| J.c hK5 <| J.O 0 3 6 ?_
 refine J.g fun K6 hK6 => J.b rfl <| J.f (qAz rfl rfl rfl) rfl <| J.c hK6 <| J.T 0 3 6 12 ?_
 refine J.a0 rfl (fun h12 => ?_) (fun h12 => ?_)
 ·
  refine J.g fun K7 hK7 => J.j 3 rfl <| J.c hK7 <| J.G 4 5 ?_
  refine J.D <| J.Z ?_
  have hE : qIX l nm op rt ht = qPS nm op rt ht := by unfold qIX; rw [if_pos h12]
  have hL : qN3 l nm op rt ht = l := by unfold qN3; rw [hE, if_neg h12]
  have hN : qEa l nm op rt ht = 0 := by unfold qEa; rw [hE, if_neg h12]
  exact J.b8 hw0 (fun _ _ h => h) (qCx rfl rfl rfl) (qBx (U [blk g [.slice A n c] 169, mr]) (by rw [hE, hN]) (fun hd => by rw [hL]; exact ⟨A, n, c, mr, rfl, hd, hr⟩) [0, 1, 2] rfl rfl (by decide))
 refine J.a1 hK4 <| J.G 0 3 ?_
 refine J.p fun K8 hK8 => J.W <| J.g fun K9 hK9 => J.b rfl <| J.f (qAD rfl rfl) rfl <| J.a7 0 qGi qGd rfl rfl rfl rfl rfl <| J.f (qAE 0 (v := .slice A n c) rfl rfl rfl isAgg167 rfl) rfl <| J.f (qBb rfl rfl) rfl <| J.q (qAC rfl rfl ent72 (Ct.use0 (fun F' hF => qIY F' A n c l (hr.sl.mono (hF mr (by simp))) (by omega) nm op rt ht g3 (qAS.blk0.mono (hF (blk g3 [Str (nm), Str (op), Str (rt), I (ht)] 56) (by simp)))))) rfl fun g20 _ => J.b rfl <| J.c hK9 <| J.O 0 3 14 ?_
 refine J.d1 rfl (fun h14 => ?_) (fun h14 => ?_)
 ·
  refine J.p fun K10 hK10 => ?_
  have hE : qIX l nm op rt ht = 19 := by unfold qIX; rw [if_neg h12, if_pos h14]
  have hL : qN3 l nm op rt ht = l := by unfold qN3; rw [hE]; rfl
  have hN : qEa l nm op rt ht = 0 := by unfold qEa; rw [hE]; rfl
  refine J.M <| J.j 2 rfl <| J.c hK10 <| J.G 4 5 ?_
  exact J.D <| J.a9 <| J.Z <| J.b8 hw0 (fun _ _ h => h) (qCx rfl rfl rfl) (qBx (U [blk g [.slice A n c] 169, mr]) (by rw [hE, hN]) (fun hd => by rw [hL]; exact ⟨A, n, c, mr, rfl, hd, hr⟩) [0, 1, 2] rfl rfl (by decide))
 refine J.g fun K11 hK11 => J.b rfl <| J.f (qAD rfl rfl) rfl <| J.a7 0 qGi qGd rfl rfl rfl rfl rfl <| J.f (qAE 0 (v := .slice A n c) rfl rfl rfl isAgg167 rfl) rfl <| J.f (qAh qE8 rfl rfl) rfl <| J.f (qBR rfl rfl rfl) rfl <| J.b rfl <| J.c hK11 <| J.O 0 3 21 ?_
 refine J.a0 rfl (fun h21 => ?_) (fun h21 => ?_)
 ·
  refine J.p fun K12 hK12 => ?_
  have hE : qIX l nm op rt ht = 9 := by unfold qIX; rw [if_neg h12, if_neg (by simpa using h14), if_pos (by omega)]
  have hL : qN3 l nm op rt ht = l := by unfold qN3; rw [hE]; rfl
  have hN : qEa l nm op rt ht = 0 := by unfold qEa; rw [hE]; rfl
  refine J.M <| J.j 2 rfl <| J.c hK12 <| J.G 4 5 ?_
  exact J.D <| J.a9 <| J.Z <| J.b8 hw0 (fun _ _ h => h) (qCx rfl rfl rfl) (qBx (U [blk g [.slice A n c] 169, mr]) (by rw [hE, hN]) (fun hd => by rw [hL]; exact ⟨A, n, c, mr, rfl, hd, hr⟩) [0, 1, 2] rfl rfl (by decide))
 refine J.b9 <| J.a5 <| J.A (J.L hK8 ?_)
 refine J.G 0 3 ?_
 refine J.p fun K13 hK13 => ?_
 have hE : qIX l nm op rt ht = 0 := by unfold qIX; rw [if_neg h12, if_neg (by simpa using h14), if_neg (by omega)]
 have hL : qN3 l nm op rt ht = l ++ [⟨nm, op, rt, ht⟩] := by unfold qN3; rw [hE]; rfl
 have hN : qEa l nm op rt ht = ((l.length : Nat) : Int) := by unfold qEa; rw [hE]; rfl
 refine J.c0 [blk g [.slice A n c] 169, blk g3 [Str (nm), Str (op), Str (rt), I (ht)] 56] [10] (.y 0 (.y 1 (.y 2 (.y 3 (.y 4 (.y 5 (.e 6 (.e 7 (.y 8 (.y 9 (.e 10 .nil))))))))))) Tryz.wide (by decide +kernel) (by simp) ?_
 refine J.V ?_
 refine J.V ?_
 refine J.k rfl (qAD rfl rfl) rfl rfl <| J.k rfl (qAA (j := 0) rfl rfl qGi rfl qGd rfl) rfl rfl <| J.k rfl (qAE 0 (v := .slice A n c) rfl rfl rfl isAgg167 rfl) rfl rfl <| J.k rfl (qAg 1 rfl rfl rfl qLW qEr rfl) rfl rfl <| J.a2 rfl (qAH (l := [.tmp 33]) (xs := [[Str (nm), Str (op), Str (rt), I (ht)]]) rfl rfl rfl rfl qE8 el56 rfl (by decide) (by decide) (by simp)) rfl (by simp) fun g34 _ => ?_
 change J _ _ _ [blk g [.slice A n c] 169, mr, F, blk g3 [Str (nm), Str (op), Str (rt), I (ht)] 56, blk g34 [Str (nm), Str (op), Str (rt), I (ht)] 56] _
 refine J.a2 rfl (qAY (i := 1) (xs := qCv l) (m2 := blk g34 [Str (nm), Str (op), Str (rt), I (ht)] 56) (ys := [[Str (nm), Str (op), Str (rt), I (ht)]]) rfl rfl rfl qE8 qE8 el56 rfl hr (by simp) ((qAn (q := True) (xs := qCv [(⟨nm, op, rt, ht⟩ : Aud)]) rfl (by intro x hx; rw [List.mem_singleton.1 hx]; rfl)).sl) rfl (by omega) (by omega)) rfl (by simp) ?_
 rintro ⟨A35, c35, m35⟩ h35
 try dsimp only at h35
 change J _ ((35, .slice A35 (n + 1) c35) :: _) _ [_, m35, _, _, _] _
 replace h35 : Row m35 56 4 A35 (n + 1) c35 (qCv (l ++ ([(⟨nm, op, rt, ht⟩ : Aud)]))) := by rw [qLZ]; exact h35
 refine J.k rfl (qAD rfl rfl) rfl rfl <| J.k rfl (qAA (j := 0) rfl rfl qGi rfl qGd rfl) rfl rfl <| J.c8 rfl (qAP (i := 0) (l := [.slice A n c]) (vs := [.slice A35 (n + 1) c35]) rfl rfl rfl rfl rfl qGd rfl rfl) rfl rfl rfl fun _ _ => ?_
 change J _ _ _ [blk g [.slice A35 (n + 1) c35] 169, _, _, _, _] _
 refine J.b3 <| J.A (J.L hK13 ?_)
 refine J.u 0 ?_
 refine J.g fun K14 hK14 => J.b rfl <| J.f (qAD rfl rfl) rfl <| J.a7 0 qGi qGd rfl rfl rfl rfl rfl <| J.f (qAE 0 (v := .slice A35 (n + 1) c35) rfl rfl rfl isAgg167 rfl) rfl <| J.f (qAh qE8 rfl rfl) rfl <| J.f (qBI rfl rfl rfl (by omega)) rfl <| J.j 2 rfl <| J.c hK14 <| J.G 4 5 ?_
 exact J.D <| J.b8 hw0 (fun _ _ h => h) (qCx rfl rfl rfl) (qBx (U [blk g [.slice A35 (n + 1) c35] 169, m35]) (by rw [hE, hN, hn, show ((n + 1 : Nat) : Int) - 1 = ((n : Nat) : Int) by omega]) (fun hd => by rw [hL]; exact ⟨A35, n + 1, c35, m35, rfl, hd, h35⟩) [0, 1, 2] rfl rfl (by decide))
theorem qOm (F : Hp) (g : Nat) (A : Option Addr) (n c : Nat) (hp : qAS F ⟨g, 0, none⟩ [.slice A n c]) : Ct prog 93 [Ptr g] [F] (fun _ : Unit => I ((n : Nat) : Int)) (fun _ => True) (fun _ => [F]) := by
 refine Ct.walk func93 rfl ntmps93 rfl (fun w0 hw0 => ?_)
 change J _ [(0, _)] _ _ _
 refine J.g fun K1 hK1 => J.b rfl <| J.c hK1 <| J.u 0 ?_
 refine J.p fun K2 hK2 => J.g fun K3 hK3 => J.b rfl <| J.f ((qBk underlying34 rfl rfl rfl).as (v' := .bool false) rfl) rfl <| J.c hK3 <| J.G 0 4 ?_
 refine J.b2 ?_
 refine J.a1 hK2 <| J.u 0 ?_
 refine J.g fun K4 hK4 => J.b rfl <| J.f (qAD rfl rfl) rfl <| J.a7 0 qGi qGd rfl rfl rfl rfl rfl <| J.f (qAQ (v := .slice A n c) rfl rfl isAgg167 (m := F) (by simp) (hp)) rfl <| J.f (qAh qE8 rfl rfl) rfl <| J.b rfl <| J.c hK4 <| J.u 2 ?_
 exact J.D <| J.H hw0 rfl () rfl trivial [0] rfl (by decide)
theorem qTQ (F m : Hp) (g : Nat) (l : List Aud) (hb : qJP m g l) (i : Int) : Ct prog 46 [Ptr g, I (i)] [m, F] (fun _ : Unit => .tuple #[.agg #[Str ((atA l i).nm), Str ((atA l i).op), Str ((atA l i).rt), I ((atA l i).ht)], I (if 0 ≤ i ∧ i < l.length then 0 else 20)]) (fun _ => True) (fun _ => [m, F]) := by
 obtain ⟨A, n, c, mr, rfl, hd, hr⟩ := hb
 have hn : l.length = n := by have := hr.len; simpa [qCv] using this
 have hnc := hr.2.2.1
 refine Ct.walk func46 rfl ntmps46 rfl (fun w0 hw0 => ?_)
 change J _ [(0, _), (1, _)] _ _ _
 refine J.f1 hd ?_
 refine J.g fun K1 hK1 => J.q (qAe (l := [Str [], Str [], Str [], I 0]) rfl qSZ rfl) rfl fun g4 _ => ?_
 change J _ _ _ [blk g [.slice A n c] 169, mr, F, blk g4 [Str [], Str [], Str [], I 0] 56] _
 refine J.b rfl <| J.c hK1 <| J.O 0 1 4 ?_
 refine J.p fun K2 hK2 => J.g fun K3 hK3 => J.b rfl <| J.f (qAX rfl rfl rfl) rfl <| J.b rfl <| J.c2 (d := 8) rfl (fun h8 => ?_) (fun h8 => ?_)
 ·
  refine J.j 5 rfl <| J.c hK3 <| J.T 0 1 4 13 ?_
  refine J.c9 ?_
  refine J.g fun K4 hK4 => J.f (qAL (l := []) (vs := []) (places := [(0, 1), (1, 3)]) (r := [Str [], Str [], Str [], I 0]) rfl rfl rfl qIe qSZ (fun _ => by kernel_rfl) rfl) rfl <| J.b4 (qAP (i := 3) (l := [Str [], Str [], Str [], I 0]) (vs := [Str [], Str [], Str [], I 0]) rfl rfl rfl rfl rfl qEr rfl rfl) rfl rfl fun _ _ => ?_
  change J _ _ _ [_, _, _, _] _
  refine J.b rfl <| J.c hK4 <| J.G 4 5 ?_
  exact J.D <| J.Z <| J.b8 hw0 (fun _ _ h => h) (rv2 rfl (RV.blkA 3 rfl rfl qLW qEr) rfl) (qBx () (by unfold atA; rw [if_neg (by omega), if_neg (by omega)]; rfl) (fun _ => trivial) [0, 1, 2] rfl rfl (by decide))
 refine J.j 2 rfl <| J.d5 (qAC rfl rfl ent93 (Ct.use0 (fun F' hF => qOm F' g A n c (qAS.blk0.mono (hF (blk g [.slice A n c] 169) (by simp)))))) rfl fun g11 _ => J.E (qBR rfl rfl rfl) rfl <| J.b rfl <| J.c hK3 <| J.T 0 1 4 13 ?_
 refine J.a0 rfl (fun h13 => ?_) (fun h13 => ?_)
 ·
  refine J.g fun K5 hK5 => J.f (qAL (l := []) (vs := []) (places := [(0, 1), (1, 3)]) (r := [Str [], Str [], Str [], I 0]) rfl rfl rfl qIe qSZ (fun _ => by kernel_rfl) rfl) rfl <| J.b4 (qAP (i := 3) (l := [Str [], Str [], Str [], I 0]) (vs := [Str [], Str [], Str [], I 0]) rfl rfl rfl rfl rfl qEr rfl rfl) rfl rfl fun _ _ => ?_
  change J _ _ _ [blk g [.slice A n c] 169, mr, F, blk g4 [Str [], Str [], Str [], I 0] 56] _
  refine J.b rfl <| J.c hK5 <| J.G 4 5 ?_
  exact J.D <| J.Z <| J.b8 hw0 (fun _ _ h => h) (rv2 rfl (RV.blkA 3 rfl rfl qLW qEr) rfl) (qBx () (by unfold atA; rw [if_neg (by omega), if_neg (by omega)]; rfl) (fun _ => trivial) [0, 1, 2] rfl rfl (by decide))
 refine J.a1 hK2 <| J.O 0 1 4 ?_
 refine J.p fun K6 hK6 => ?_
 obtain ⟨k, rfl⟩ := Int.eq_ofNat_of_zero_le (show 0 ≤ i by omega)
 have hk : atA l ((k : Nat) : Int) = l.getD k qAy := by unfold atA; rw [if_pos (by omega)]; rfl
 refine J.M <| J.b rfl <| J.f (qAD rfl rfl) rfl <| J.a7 0 qGi qGd rfl rfl rfl rfl rfl <| J.f (qAE 0 (v := .slice A n c) rfl rfl rfl isAgg167 rfl) rfl <| J.b rfl <| J.f (qAK (i := k) rfl rfl rfl qE8 qEr hr.sl (by omega)) rfl <| J.f (qAd (vs := [Str ((l.getD k qAy).nm), Str ((l.getD k qAy).op), Str ((l.getD k qAy).rt), I ((l.getD k qAy).ht)]) rfl rfl qLW qEr (m := mr) (by simp) (hr.sl.elem (qFn (by omega))) rfl) rfl <| J.b4 (qAP (i := 3) (l := [Str [], Str [], Str [], I 0]) (vs := [Str ((l.getD k qAy).nm), Str ((l.getD k qAy).op), Str ((l.getD k qAy).rt), I ((l.getD k qAy).ht)]) rfl rfl rfl rfl rfl qEr rfl rfl) rfl rfl fun _ _ => ?_
 change J _ _ _ [blk g [.slice A n c] 169, mr, F, blk g4 [Str ((l.getD k qAy).nm), Str ((l.getD k qAy).op), Str ((l.getD k qAy).rt), I ((l.getD k qAy).ht)] 56] _
 refine J.b rfl <| J.c hK6 <| J.G 4 5 ?_
 exact J.D <| J.b8 hw0 (fun _ _ h => h) (rv2 rfl (RV.blkA 3 rfl rfl qLW qEr) rfl) (qBx () (by rw [hk, if_pos (by omega)]) (fun _ => trivial) [0, 1, 2] rfl rfl (by decide))
def hit (x y : Lau) : Bool := decide (y.nm = x.nm ∨ y.key = x.key ∧ y.ht = x.ht)
end Go.Proofs.YtfldiegfenndjaaGreatDoor
