/- A part of the proof. -/
import Derived.Test.YtfldiegfenndjaaGreatDoorTopCvG8
import Derived.Test.YtfldiegfenndjaaGreatDoorTopCvG39
import Derived.Test.YtfldiegfenndjaaGreatDoorTopCvG40
import Derived.Test.YtfldiegfenndjaaGreatDoorTopCvG41
set_option linter.unusedSimpArgs false
set_option linter.unusedVariables false
namespace Go.Proofs.YtfldiegfenndjaaGreatDoor
open Go Go.Fw Go.Proofs.Tryz
set_option maxRecDepth 100000
set_option maxHeartbeats 1000000
structure GV (v : VtD) : Prop where
 ep : v.ep = 1
 hd : v.hd = (nW 4 0).dig
 b : v.b = 0
 nm : v.nm = 1 ∨ v.nm = 2
 has : qI9 (pW 4 0) v = true
 ver : qJY v = true
 other : qI9 (pW 4 0) { v with an := [111, 116, 104, 101, 114] } = false
 turn : qJY { v with i := v.i ^^^ 1 } = false
theorem qEf {nm : Nat} {us : List Nat} {r : VoR} {gr : Nat} {uA : Option Addr} {uc : Nat} (hnm : nm = 1 ∨ nm = 2) (hu : us.getD nm 0 % 4 = 0) (hp : VoP 4 0 nm 0 us gr uA uc r) : GV (vtW 4 0 nm 0 us r) where
 ep := rfl
 hd := rfl
 b := rfl
 nm := hnm
 has := qLs (by decide) (by decide) (by omega) hp
 ver := qLr hp
 other := by
  have h : qTB { vtW 4 0 nm 0 us r with an := [111, 116, 104, 101, 114] } ≠ (Sm.getP (qAB 4) (qAM nm)).getD [] := by
   have hg : (Sm.getP (qAB 4) (qAM nm)).getD [] = qBB nm := by rw [qQs (by decide) (by omega)]; rfl
   rw [hg]
   show Sha.tagged 16 [[111, 116, 104, 101, 114], qBM (Wo.opn (qAG nm)) (Xm.root (qAG nm) 2) ((2 : Nat) : Int)] ≠ qBB nm
   have hpe : qBM (Wo.opn (qAG nm)) (Xm.root (qAG nm) 2) ((2 : Nat) : Int) = Wo.opn (qAG nm) ++ Xm.root (qAG nm) 2 ++ [2] := by
    unfold qBM
    rw [if_pos ⟨by decide, by decide, Wo.opn_length _, qBh (by omega)⟩]; rfl
   rw [hpe]
   rcases hnm with rfl | rfl
   · exact qRs
   · exact qRr
  have h2 := qIv (qB2 (a := 4) (by decide)) (qB6 nm) hp.st h
  rw [← br23 (a := 4) (d := 0) (by decide) (by decide) (qAM nm)] at h2
  exact h2
 turn := by
  have hi : (vtW 4 0 nm 0 us r).i = 0 := hu
  unfold qJY
  refine decide_eq_false ?_
  show ¬ Mk.climb (Wo.publicOf (Wo.opn (qAG nm)) (us.getD nm 0 % 4 ^^^ 1) (Wo.ends (Wo.opn (qAG nm)) (us.getD nm 0 % 4 ^^^ 1) (Wo.digs (Xm.digest (Wo.opn (qAG nm)) (us.getD nm 0 % 4 ^^^ 1) (atM 1 0 nm (nW 4 0).dig))) (sgC (qAG nm) (us.getD nm 0 % 4) (atM 1 0 nm (nW 4 0).dig)) 35)) (us.getD nm 0 % 4 ^^^ 1) (sgP (qAG nm) 2 (us.getD nm 0 % 4)) = Xm.root (qAG nm) 2
  rw [hu]
  rcases hnm with rfl | rfl
  · exact qQ5
  · exact qQ4
abbrev WV := qDS 4 0 2
theorem qS4 : (qDS 4 0 2 0).take 2 = [2, 1] := by decide +kernel
theorem qGo {nm : Nat} (h : nm = 1 ∨ nm = 2) : qDd WV 2 (2 ^ 0) 0 nm = true := by
 rcases h with rfl | rfl <;> decide +kernel
theorem qQc : (nW 4 0).dig ≠ [] := fun e => by have := qAs (qB8 (a := 4) (d := 0) (by decide) (by decide)); rw [e] at this; cases this
theorem GV.ok {v : VtD} (h : GV v) : qC0 (pW 4 0) (nW 4 0) WV 2 (2 ^ 0) v = 0 := qHd qQc h.ep h.hd (by rw [h.b]; exact qGo h.nm) h.has h.ver
theorem qR9 {v : VtD} (he : v.ep = 1) (hh : v.hd = (nW 4 0).dig) : ¬ ((nW 4 0).dig = [] ∨ v.ep ≠ (nW 4 0).ep ∨ v.hd ≠ (nW 4 0).dig) := fun h => h.elim qQc (fun h => h.elim (fun h => h he) (fun h => h hh))
theorem qT9 {v : VtD} (he : v.ep = 1) (hh : v.hd = (nW 4 0).dig) (hs : qDd WV 2 (2 ^ 0) v.b v.nm = false) : qC0 (pW 4 0) (nW 4 0) WV 2 (2 ^ 0) v = 17 := by
 unfold qC0
 rw [if_neg (qR9 he hh), if_pos hs]
theorem qT8 {v : VtD} (he : v.ep = 1) (hh : v.hd = (nW 4 0).dig) (hs : qDd WV 2 (2 ^ 0) v.b v.nm = true) (h : qI9 (pW 4 0) v = false) : qC0 (pW 4 0) (nW 4 0) WV 2 (2 ^ 0) v = 18 := by
 unfold qC0
 rw [if_neg (qR9 he hh), hs, if_neg (by decide), if_pos h]
theorem bad12 {v : VtD} (he : v.ep = 1) (hh : v.hd = (nW 4 0).dig) (hs : qDd WV 2 (2 ^ 0) v.b v.nm = true) (h : qI9 (pW 4 0) v = true) (h2 : qJY v = false) : qC0 (pW 4 0) (nW 4 0) WV 2 (2 ^ 0) v = 12 := by
 unfold qC0
 rw [if_neg (qR9 he hh), hs, if_neg (by decide), h, if_neg (by decide), if_pos h2]
theorem qUA {v : VtD} (h : v.ep ≠ 1 ∨ v.hd ≠ (nW 4 0).dig) : qC0 (pW 4 0) (nW 4 0) WV 2 (2 ^ 0) v = 15 := by
 unfold qC0
 rw [if_pos (.inr h)]
theorem qM7 : (pW 4 0).next (nW 4 0) = 0 := qM8 (by decide) (by decide)
theorem qMM (va vb : VtD) (l : List VtD) : qEM (va :: vb :: l) 1 = decide (qBN va = qBN vb) := by
 unfold qEM
 show (List.any [va] fun v => decide (qBN v = qBN vb)) = _
 simp
theorem qTE {va vb : VtD} (ha : GV va) (hb : GV vb) (h1 : va.nm = 2) (h2 : vb.nm = 1) : qCo (pW 4 0) (nW 4 0) WV 2 (2 ^ 0) 2 [va, vb] = 0 := by
  have hs : qBN va ≠ qBN vb := fun e => by have := congrArg Prod.snd e; unfold qBN at this; dsimp only at this; omega
  rw [qJG qM7 (fun i hi => ?_) (fun i hi => ?_), if_pos]
  · rfl
  · intro b hb2
    rw [show b = 0 from Nat.lt_one_iff.1 hb2]
    unfold qJE
    rw [List.filter_cons, if_pos (decide_eq_true ha.b), List.filter_cons, if_pos (decide_eq_true hb.b)]; exact Nat.le_refl 2
  · have : i < 2 := hi
    rcases (show i = 0 ∨ i = 1 by omega) with rfl | rfl
    · rfl
    · rw [qMM]; exact decide_eq_false hs
  · have : i < 2 := hi
    rcases (show i = 0 ∨ i = 1 by omega) with rfl | rfl
    · exact ha.ok
    · exact hb.ok
theorem qJh {va vb : VtD} {e : Nat} (l : List VtD) (h : (qC0 (pW 4 0) (nW 4 0) WV 2 (2 ^ 0) va = e ∧ e ≠ 0) ∨ (qC0 (pW 4 0) (nW 4 0) WV 2 (2 ^ 0) va = 0 ∧ qBN va ≠ qBN vb ∧ qC0 (pW 4 0) (nW 4 0) WV 2 (2 ^ 0) vb = e ∧ e ≠ 0)) : qCo (pW 4 0) (nW 4 0) WV 2 (2 ^ 0) 2 (va :: vb :: l) = ((e : Nat) : Int) := by
  unfold qCo
  rw [if_pos qM7]
  have s0 := qDK (x := pW 4 0) (y := nW 4 0) (W := WV) (sl := 2) (n := 2 ^ 0) (nd := 2) (vs := va :: vb :: l) (i := 0) (Nat.succ_pos _)
  have s1 := qDK (x := pW 4 0) (y := nW 4 0) (W := WV) (sl := 2) (n := 2 ^ 0) (nd := 2) (vs := va :: vb :: l) (i := 1) (Nat.succ_lt_succ (Nat.succ_pos _))
  rw [qQY, if_neg (by decide)] at s0
  rw [Nat.sub_zero] at s0
  rw [s0]
  show (((if qC0 (pW 4 0) (nW 4 0) WV 2 (2 ^ 0) va = 0 then _ else qC0 (pW 4 0) (nW 4 0) WV 2 (2 ^ 0) va : Nat)) : Int) = _
  rcases h with ⟨h1, h2⟩ | ⟨h1, h2, h3, h4⟩
  · rw [if_neg (by rw [h1]; exact h2), h1]
  · rw [if_pos h1, s1, qMM, decide_eq_false h2, if_neg (by decide)]
    show (((if qC0 (pW 4 0) (nW 4 0) WV 2 (2 ^ 0) vb = 0 then _ else qC0 (pW 4 0) (nW 4 0) WV 2 (2 ^ 0) vb : Nat)) : Int) = _
    rw [if_neg (by rw [h3]; exact h4), h3]
theorem qDc {va vb v : VtD} {k e : Nat} (hk : k < 2) (ha : GV va) (he : qC0 (pW 4 0) (nW 4 0) WV 2 (2 ^ 0) v = e) (hne : e ≠ 0) (hs : k = 1 → qBN va ≠ qBN v) : qCo (pW 4 0) (nW 4 0) WV 2 (2 ^ 0) 2 ([va, vb].set k v) = ((e : Nat) : Int) := by
 rcases (show k = 0 ∨ k = 1 by omega) with rfl | rfl
 · exact qJh [] (.inl ⟨he, hne⟩)
 · exact qJh [] (.inr ⟨ha.ok, hs rfl, he, hne⟩)
theorem qE9 {va vb : VtD} (ha : GV va) (hb : GV vb) (h1 : va.nm = 2) (h2 : vb.nm = 1) : qCo (pW 4 0) (nW 4 0) WV 2 (2 ^ 0) 2 [va, vb, va] = 19 := by
 have hs : qBN va ≠ qBN vb := fun e => by have := congrArg Prod.snd e; unfold qBN at this; dsimp only at this; omega
 unfold qCo
 rw [if_pos qM7]
 have s0 := qDK (x := pW 4 0) (y := nW 4 0) (W := WV) (sl := 2) (n := 2 ^ 0) (nd := 2) (vs := [va, vb, va]) (i := 0) (by show 0 < 3; decide)
 have s1 := qDK (x := pW 4 0) (y := nW 4 0) (W := WV) (sl := 2) (n := 2 ^ 0) (nd := 2) (vs := [va, vb, va]) (i := 1) (by show 1 < 3; decide)
 have s2 := qDK (x := pW 4 0) (y := nW 4 0) (W := WV) (sl := 2) (n := 2 ^ 0) (nd := 2) (vs := [va, vb, va]) (i := 2) (by show 2 < 3; decide)
 rw [qQY, if_neg (by decide), if_pos (show qC0 (pW 4 0) (nW 4 0) WV 2 (2 ^ 0) ([va, vb, va].getD 0 qAN) = 0 from ha.ok)] at s0
 rw [qMM, decide_eq_false hs, if_neg (by decide), if_pos (show qC0 (pW 4 0) (nW 4 0) WV 2 (2 ^ 0) ([va, vb, va].getD 1 qAN) = 0 from hb.ok)] at s1
 rw [if_pos (show qEM [va, vb, va] 2 = true by unfold qEM; show (List.any [va, vb] fun v => decide (qBN v = qBN va)) = true; simp)] at s2
 rw [show [va, vb, va].length = [va, vb, va].length - 0 from rfl, s0, s1, s2]; rfl
theorem qL6 {vs : List VtD} : qCo (pW 4 0) { nW 4 0 with ep := 2 } WV 2 (2 ^ 0) 2 vs = 14 := by
 have he : ({ nW 4 0 with ep := 2 } : Hd).err = 0 := hdOk (qB2 (a := 4) (by decide)) (ep := 2) (by decide) (par := (pW 4 0).dig) (qAx (by decide) (by decide)) (d := 0) (by omega) (a := 4) (by omega)
 have hn : (pW 4 0).next { nW 4 0 with ep := 2 } = 14 := by
  unfold Hd.next
  rw [if_neg (by rw [he]; decide), if_pos (.inr (by show 2 - 1 ≠ 0; decide))]
 unfold qCo
 rw [hn, if_neg (by decide)]
section
variable {G : Hp} {v : VtD}
theorem qCb.mb (h : qCb G v) : qCb G { v with b := 1 } := ⟨h.ch, h.pt, h.bs, h.good, h.pvl, h.ch35, h.ch16, h.ptl, h.pt16, h.h6, h.hi, h.an, h.op, h.rt, h.pe, by show 1 < 16; decide, h.nm64, h.ep, h.hd⟩
theorem qCb.mh (h : qCb G v) {d : List UInt8} (hd : d.length = 16) : qCb G { v with hd := d } := ⟨h.ch, h.pt, h.bs, h.good, h.pvl, h.ch35, h.ch16, h.ptl, h.pt16, h.h6, h.hi, h.an, h.op, h.rt, h.pe, h.b16, h.nm64, h.ep, hd⟩
theorem qCb.me (h : qCb G v) : qCb G { v with ep := 2 } := ⟨h.ch, h.pt, h.bs, h.good, h.pvl, h.ch35, h.ch16, h.ptl, h.pt16, h.h6, h.hi, h.an, h.op, h.rt, h.pe, h.b16, h.nm64, by show 2 ≤ _; decide, h.hd⟩
theorem qCb.ma (h : qCb G v) : qCb G { v with an := [111, 116, 104, 101, 114] } := ⟨h.ch, h.pt, h.bs, h.good, h.pvl, h.ch35, h.ch16, h.ptl, h.pt16, h.h6, h.hi, by show 5 ≤ _; decide, h.op, h.rt, h.pe, h.b16, h.nm64, h.ep, h.hd⟩
theorem qCb.mi (h : qCb G v) (ht : v.ht = 2) : qCb G { v with i := v.i ^^^ 1 } := ⟨h.ch, h.pt, h.bs, h.good, h.pvl, h.ch35, h.ch16, h.ptl, h.pt16, h.h6, by
 have h1 := h.hi
 rw [ht] at h1
 show v.i ^^^ 1 < 2 ^ v.ht
 rw [ht]
 exact Nat.xor_lt_two_pow h1 (by decide), h.an, h.op, h.rt, h.pe, h.b16, h.nm64, h.ep, h.hd⟩
theorem qCb.mp (h : qCb G v) : qCb G { v with bsA := none, bsc := 0, bs := [], th := false, pk := [], pv := [] } := ⟨h.ch, h.pt, Sl.nil, ⟨h.good.k16, by show 0 + 0 ≤ 128; decide, fun j hj => absurd (show j < 0 from hj) (Nat.not_lt_zero j), fun hj => absurd (show 0 < 0 from hj) (Nat.lt_irrefl 0), fun _ => ⟨rfl, rfl⟩, fun e => Bool.noConfusion (show false = true from e), fun s hs => absurd (show s ∈ ([] : List (List UInt8)) from hs) List.not_mem_nil⟩, by show 0 ≤ _; decide, h.ch35, h.ch16, h.ptl, h.pt16, h.h6, h.hi, h.an, h.op, h.rt, h.pe, h.b16, h.nm64, h.ep, h.hd⟩
end
theorem qCg {G : Hp} {va vb : VtD} (ha : qCb G va) (hb : qCb G vb) : ∀ i, i < [va, vb].length → qCb G ([va, vb].getD i qAN) := fun i hi => by
 have : i < 2 := hi
 rcases (show i = 0 ∨ i = 1 by omega) with rfl | rfl
 · exact ha
 · exact hb
theorem qDe {G : Hp} {l : List VtD} {k : Nat} {v : VtD} (h : ∀ i, i < l.length → qCb G (l.getD i qAN)) (hv : qCb G v) : ∀ i, i < (l.set k v).length → qCb G ((l.set k v).getD i qAN) := fun i hi => by
  rw [List.length_set] at hi
  rw [List.getD_eq_getElem?_getD, List.getElem?_set]
  by_cases e : k = i
  · subst e
    rw [if_pos rfl, if_pos hi]; exact hv
  · rw [if_neg e, ← List.getD_eq_getElem?_getD]; exact h i hi
theorem qL2 {us : List Nat} {i x : Nat} (h : ∀ j, us.getD j 0 ≤ 1000000) (hx : x ≤ 1000000) (j : Nat) : (us.set i x).getD j 0 ≤ 1000000 := by
  rw [List.getD_eq_getElem?_getD, List.getElem?_set]
  split
  · split
    · exact hx
    · exact Nat.zero_le _
  · rw [← List.getD_eq_getElem?_getD]; exact h j
theorem qTc (F : Hp) (seed : List UInt8) (b a sl : Nat) (hb : b < 16) (ha : a ≤ 64) (h1 : 1 ≤ sl) (hsl : a < sl) : Ct prog 39 [Str (seed), I ((b : Nat) : Int), I ((a : Nat) : Int), I ((sl : Nat) : Int)] [F] (fun _ : Unit => .tuple #[.slice none 0 0, I ((22 : Nat) : Int)]) (fun _ => True) (fun _ => [F]) := by
 refine Ct.walk func39 rfl ntmps39 rfl (fun w0 hw0 => ?_)
 change J _ [(0, _), (1, _), (2, _), (3, _)] _ _ _
 refine J.g fun K1 hK1 => J.j 2 rfl <| J.c hK1 <| J.T 0 1 2 3 ?_
 refine J.p fun K2 hK2 => J.W <| J.g fun K3 hK3 => J.b rfl <| J.f ((qAX rfl rfl rfl).no (by omega)) rfl <| J.j 2 rfl <| J.E ((qBR rfl rfl rfl).no (by omega)) rfl <| J.j 3 rfl <| J.E ((qAX rfl rfl rfl).no (by omega)) rfl <| J.j 3 rfl <| J.E ((qBQ rfl rfl rfl).no (by omega)) rfl <| J.j 3 rfl <| J.E ((qAX rfl rfl rfl).no (by omega)) rfl <| J.j 2 rfl <| J.c hK3 <| J.a3 0 1 2 3 15 ?_
 refine J.b2 ?_
 refine J.g fun K4 hK4 => J.j 2 rfl <| J.f ((qBQ rfl rfl rfl).yes (by omega)) rfl <| J.b rfl <| J.c hK4 <| J.a3 0 1 2 3 34 ?_
 refine J.c9 ?_
 refine J.g fun K5 hK5 => J.j 2 rfl <| J.c hK5 <| J.G 8 9 ?_
 exact J.D <| J.a9 <| J.Z <| J.b8 hw0 (fun _ _ h => h) (qCx rfl rfl rfl) (qA6 () rfl trivial [0] rfl (by decide))
theorem qGf (F : Hp) (hK : KF F) (x : Hd) (A : Option Addr) (c : Nat) (hg : x.good) (hsl : Sl F 1 A x.nodes.length c (qAJ x.nodes)) (a sl nd : Nat) (hdn : x.dig = []) : Ct prog 9 [.agg #[N64 x.ep, Str (x.par), I (x.dep), I (x.aud), .slice A x.nodes.length c], I ((a : Nat) : Int), .agg #[I ((sl : Nat) : Int), I ((nd : Nat) : Int)]] [F] (fun _ : Unit => .tuple #[.slice none 0 0, I ((1 : Nat) : Int)]) (fun _ => True) (fun _ => [F]) := by
 refine Ct.walk func9 rfl ntmps9 rfl (fun w0 hw0 => ?_)
 change J _ [(0, _), (1, _), (2, _)] _ _ _
 refine J.g fun K1 hK1 => J.q (qAi (l := [N64 x.ep, Str (x.par), I (x.dep), I (x.aud), .slice A x.nodes.length c]) rfl rfl rfl) rfl fun g3 _ => ?_
 change J _ _ _ [F, blk g3 [N64 x.ep, Str (x.par), I (x.dep), I (x.aud), .slice A x.nodes.length c] 39] _
 refine J.q (qAi (l := [I ((sl : Nat) : Int), I ((nd : Nat) : Int)]) rfl rfl rfl) rfl fun g5 _ => ?_
 change J _ _ _ [_, _, blk g5 [I ((sl : Nat) : Int), I ((nd : Nat) : Int)] 26] _
 refine J.j 2 rfl <| J.c hK1 <| J.O 1 3 5 ?_
 refine J.g fun K2 hK2 => J.c5 1 qDR qBf rfl rfl rfl rfl rfl <| J.q (qAC rfl rfl ent11 (Ct.use0 (fun F' hF => qBV F' (hK.mo hF) x A c hg (hsl.mono (hF F (by simp)))))) rfl fun g14 _ => J.b rfl <| J.c hK2 <| J.T 1 3 5 8 ?_
 refine J.p fun K3 hK3 => J.g fun K4 hK4 => J.b rfl <| J.f ((qBH rfl rfl rfl).yes (hdn)) rfl <| J.j 12 rfl <| J.c hK4 <| J.a3 1 3 5 8 28 ?_
 refine J.c9 ?_
 refine J.g fun K5 hK5 => J.j 2 rfl <| J.c hK5 <| J.G 6 7 ?_
 exact J.D <| J.Z <| J.b8 hw0 (fun _ _ h => h) (qCx rfl rfl rfl) (qA6 () rfl trivial [0] rfl (by decide))
theorem qHc (F : Hp) (hK : KF F) (x : Hd) (A : Option Addr) (c : Nat) (hg : x.good) (hsl : Sl F 1 A x.nodes.length c (qAJ x.nodes)) (a sl nd : Nat) (hx : x.err = 0) (h1 : 1 ≤ nd) (h2 : sl < nd) : Ct prog 9 [.agg #[N64 x.ep, Str (x.par), I (x.dep), I (x.aud), .slice A x.nodes.length c], I ((a : Nat) : Int), .agg #[I ((sl : Nat) : Int), I ((nd : Nat) : Int)]] [F] (fun _ : Unit => .tuple #[.slice none 0 0, I ((1 : Nat) : Int)]) (fun _ => True) (fun _ => [F]) := by
 have hdl := qAs hx
 have hdn : x.dig ≠ [] := fun e => by rw [e] at hdl; exact absurd hdl (by decide)
 refine Ct.walk func9 rfl ntmps9 rfl (fun w0 hw0 => ?_)
 change J _ [(0, _), (1, _), (2, _)] _ _ _
 refine J.g fun K1 hK1 => J.q (qAi (l := [N64 x.ep, Str (x.par), I (x.dep), I (x.aud), .slice A x.nodes.length c]) rfl rfl rfl) rfl fun g3 _ => ?_
 change J _ _ _ [F, blk g3 [N64 x.ep, Str (x.par), I (x.dep), I (x.aud), .slice A x.nodes.length c] 39] _
 refine J.q (qAi (l := [I ((sl : Nat) : Int), I ((nd : Nat) : Int)]) rfl rfl rfl) rfl fun g5 _ => ?_
 change J _ _ _ [_, _, blk g5 [I ((sl : Nat) : Int), I ((nd : Nat) : Int)] 26] _
 refine J.j 2 rfl <| J.c hK1 <| J.O 1 3 5 ?_
 refine J.g fun K2 hK2 => J.c5 1 qDR qBf rfl rfl rfl rfl rfl <| J.q (qAC rfl rfl ent11 (Ct.use0 (fun F' hF => qBV F' (hK.mo hF) x A c hg (hsl.mono (hF F (by simp)))))) rfl fun g14 _ => J.b rfl <| J.c hK2 <| J.T 1 3 5 8 ?_
 refine J.p fun K3 hK3 => J.g fun K4 hK4 => J.b rfl <| J.f ((qBH rfl rfl rfl).no (hdn)) rfl <| J.b rfl <| J.E (qAA (j := 1) rfl rfl qHg rfl z3_ rfl) rfl <| J.E (qAE 2 (v := I ((nd : Nat) : Int)) rfl rfl rfl b3_ rfl) rfl <| J.E ((qAX rfl rfl rfl).no (by omega)) rfl <| J.j 2 rfl <| J.E (qAA (j := 1) rfl rfl qHg rfl z3_ rfl) rfl <| J.E (qAE 2 (v := I ((nd : Nat) : Int)) rfl rfl rfl b3_ rfl) rfl <| J.E (qAA (j := 0) rfl rfl qHg rfl z3_ rfl) rfl <| J.E (qAE 2 (v := I ((sl : Nat) : Int)) rfl rfl rfl b3_ rfl) rfl <| J.E ((qBQ rfl rfl rfl).yes (by omega)) rfl <| J.b rfl <| J.c hK4 <| J.a3 1 3 5 8 28 ?_
 refine J.c9 ?_
 refine J.g fun K5 hK5 => J.j 2 rfl <| J.c hK5 <| J.G 6 7 ?_
 exact J.D <| J.Z <| J.b8 hw0 (fun _ _ h => h) (qCx rfl rfl rfl) (qA6 () rfl trivial [0] rfl (by decide))
theorem qIk (F : Hp) (hK : KF F) (x : Hd) (A : Option Addr) (c : Nat) (hg : x.good) (hsl : Sl F 1 A x.nodes.length c (qAJ x.nodes)) (d a sl nd : Nat) (hd : d ≤ 4) (hxd : x.dep = ((d : Nat) : Int)) (hx : x.err = 0) (h1 : 1 ≤ nd) (h2 : nd ≤ sl) (h3 : a < sl) (h4 : a ≤ 64) : Ct prog 9 [.agg #[N64 x.ep, Str (x.par), I (x.dep), I (x.aud), .slice A x.nodes.length c], I ((a : Nat) : Int), .agg #[I ((sl : Nat) : Int), I ((nd : Nat) : Int)]] [F] (fun _ : Unit => .tuple #[.slice none 0 0, I ((22 : Nat) : Int)]) (fun _ => True) (fun _ => [F]) := by
 have hdl := qAs hx
 have hdn : x.dig ≠ [] := fun e => by rw [e] at hdl; exact absurd hdl (by decide)
 have hpw := qS0 hd
 have hcn := qEX hd
 refine Ct.walk func9 rfl ntmps9 rfl (fun w0 hw0 => ?_)
 change J _ [(0, _), (1, _), (2, _)] _ _ _
 refine J.g fun K1 hK1 => J.q (qAi (l := [N64 x.ep, Str (x.par), I (x.dep), I (x.aud), .slice A x.nodes.length c]) rfl rfl rfl) rfl fun g3 _ => ?_
 change J _ _ _ [F, blk g3 [N64 x.ep, Str (x.par), I (x.dep), I (x.aud), .slice A x.nodes.length c] 39] _
 refine J.q (qAi (l := [I ((sl : Nat) : Int), I ((nd : Nat) : Int)]) rfl rfl rfl) rfl fun g5 _ => ?_
 change J _ _ _ [_, _, blk g5 [I ((sl : Nat) : Int), I ((nd : Nat) : Int)] 26] _
 refine J.j 2 rfl <| J.c hK1 <| J.O 1 3 5 ?_
 refine J.g fun K2 hK2 => J.c5 1 qDR qBf rfl rfl rfl rfl rfl <| J.q (qAC rfl rfl ent11 (Ct.use0 (fun F' hF => qBV F' (hK.mo hF) x A c hg (hsl.mono (hF F (by simp)))))) rfl fun g14 _ => J.b rfl <| J.c hK2 <| J.T 1 3 5 8 ?_
 refine J.p fun K3 hK3 => J.g fun K4 hK4 => J.b rfl <| J.f ((qBH rfl rfl rfl).no (hdn)) rfl <| J.b rfl <| J.E (qAA (j := 1) rfl rfl qHg rfl z3_ rfl) rfl <| J.E (qAE 2 (v := I ((nd : Nat) : Int)) rfl rfl rfl b3_ rfl) rfl <| J.E ((qAX rfl rfl rfl).no (by omega)) rfl <| J.j 2 rfl <| J.E (qAA (j := 1) rfl rfl qHg rfl z3_ rfl) rfl <| J.E (qAE 2 (v := I ((nd : Nat) : Int)) rfl rfl rfl b3_ rfl) rfl <| J.E (qAA (j := 0) rfl rfl qHg rfl z3_ rfl) rfl <| J.E (qAE 2 (v := I ((sl : Nat) : Int)) rfl rfl rfl b3_ rfl) rfl <| J.E ((qBQ rfl rfl rfl).no (by omega)) rfl <| J.b rfl <| J.c hK4 <| J.a3 1 3 5 8 28 ?_
 refine J.b2 ?_
 refine J.a1 hK3 <| J.T 1 3 5 8 ?_
 refine J.g fun K5 hK5 => J.b rfl <| J.c hK5 <| J.a3 1 3 5 8 9 ?_
 refine J.p fun K6 hK6 => J.g fun K7 hK7 => J.a7 2 qDy z3_ rfl rfl rfl rfl rfl <| J.f (qAE 1 (v := I (x.dep)) rfl rfl rfl b3_ rfl) rfl <| J.q (qAC rfl rfl ent38 (Ct.use0 (fun F' hF => (by have := qDG F' x.dep; rw [hxd, hcn] at this; rw [hxd]; exact this)))) rfl fun g31 _ => J.b rfl <| J.c hK7 <| J.b1 1 5 8 9 31 32 ?_
 refine J.W <| J.b6 (X := Nat) (fun ζ => [(1, I ((a : Nat) : Int)), (5, Ptr g5), (8, Str (x.dig)), (9, .slice none 0 0), (31, I ((2 ^ d : Nat) : Int)), (32, I ((ζ : Nat) : Int))]) (fun ζ => [F, blk g3 [N64 x.ep, Str (x.par), I (x.dep), I (x.aud), .slice A x.nodes.length c] 39, blk g5 [I ((sl : Nat) : Int), I ((nd : Nat) : Int)] 26]) (fun ζ => ζ = 0) (fun ζ => 1) 0 (rfl) ⟨rfl, rfl, rfl, rfl, rfl, rfl, trivial⟩ (fun _ h => h) ?_
 rintro i hi I0 hI0
 obtain rfl := hi
 refine J.g fun K8 hK8 => J.f ((qAX rfl rfl rfl).yes (by omega)) rfl <| J.c hK8 <| J.c3 1 5 8 9 31 32 33 ?_
 refine J.p fun K9 hK9 => J.c9 ?_
 refine J.a1 hK9 <| J.b1 1 5 8 9 31 32 ?_
 refine J.p fun K10 hK10 => J.W <| J.g fun K11 hK11 => J.j 2 rfl <| J.c hK11 <| J.c3 1 5 8 9 10 31 32 ?_
 refine J.g fun K12 hK12 => J.j 3 rfl <| J.a7 0 qHg z3_ rfl rfl rfl rfl rfl <| J.f (qAE 2 (v := I ((sl : Nat) : Int)) rfl rfl rfl b3_ rfl) rfl <| J.q (qAC rfl rfl ent39 (Ct.use0 (fun F' hF => qTc F' x.dig 0 a sl (by omega) h4 (by omega) h3))) rfl fun g41 _ => J.j 5 rfl <| J.c hK12 <| J.d8 1 5 8 9 11 12 31 32 ?_
 refine J.p fun K13 hK13 => J.g fun K14 hK14 => J.b rfl <| J.f ((qAz rfl rfl rfl).yes (by decide)) rfl <| J.c hK14 <| J.e4 1 5 8 9 11 12 31 32 45 ?_
 refine J.c9 ?_
 refine J.g fun K15 hK15 => J.j 3 rfl <| J.c hK15 <| J.G 6 7 ?_
 exact J.D <| J.Z <| J.a9 <| J.Z <| J.Z <| J.a9 <| J.Z <| J.b8 hw0 (fun _ _ h => h) (qCx rfl rfl rfl) (qA6 () rfl trivial [0] rfl (by decide))
end Go.Proofs.YtfldiegfenndjaaGreatDoor
