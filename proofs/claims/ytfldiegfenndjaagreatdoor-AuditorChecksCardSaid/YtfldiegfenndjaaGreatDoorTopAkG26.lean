/- A part of the proof. -/
import Derived.Test.YtfldiegfenndjaaGreatDoorTopAkG7
import Derived.Test.YtfldiegfenndjaaGreatDoorTopAkG19
import Derived.Test.YtfldiegfenndjaaGreatDoorTopAkG15
set_option linter.unusedSimpArgs false
set_option linter.unusedVariables false
namespace Go.Proofs.YtfldiegfenndjaaGreatDoor
open Go Go.Fw Go.Proofs.Tryz
set_option maxRecDepth 100000
set_option maxHeartbeats 1000000
attribute [local irreducible] Sha.tagged Wo.pub Wo.publicOf Wo.signs Wo.ends Wo.digs Wo.walk Wo.opn Mk.root Mk.path Mk.climb Xm.root sgC sgP prt
theorem qLl (d : Dk) (h : d.sErr = 0 ∨ d.sErr = 8) (ho : d.off = false) (hl : 0 < d.last.length) : d.sync.wait = [] ∧ d.sync.keep = d.keep := by
  have h0 : d.ready 0 = 0 := qBZ ho (i := 0) hl
  have hb := qFh d
  unfold Dk.sync
  rw [if_neg (by rw [h0]; decide)]
  split
  · rename_i hb2
    refine ⟨?_, hb.1⟩
    unfold Dk.burn
    rw [if_pos hb2.1, if_pos hb2.2]; rfl
  · exact ⟨rfl, hb.1⟩
theorem qPv {d : Dk} (h : d.ok) (p : Nat) (t : Nat → List UInt8) (n : Nat) : (qBt d p t n).1.ok := by
 have hw := (qGa h p t n).1
 unfold qBt
 split
 · exact hw.sync
 · exact hw
theorem qLV {d : Dk} {p : Nat} {t : Nat → List UInt8} (h64 : (t 0).length = 64) (ho : d.off = false) (hw : d.wait = []) (hp : p < d.last.length) (hok : d.ok) : (qBt d p t 1).1.wait = [] ∧ (qBt d p t 1).1.keep = d.keep := by
  have h0 : d.ready ((p + 0 : Nat) : Int) = 0 := qBZ ho (i := p + 0) (by omega)
  have e1 : qCp d p t 1 = (d.write ((p + 0 : Nat) : Int) (t 0), d.wErr ((p + 0 : Nat) : Int) (t 0)) := qCS rfl
  by_cases hb : d.burns
  · have hwe : d.wErr ((p + 0 : Nat) : Int) (t 0) = 8 := by unfold Dk.wErr; rw [if_neg (by rw [h0]; decide), if_neg (by omega), if_pos hb]
    have hwr : d.write ((p + 0 : Nat) : Int) (t 0) = d.burn := by unfold Dk.write; rw [if_neg (by rw [h0]; decide), if_neg (by omega), if_pos hb]
    have e : qBt d p t 1 = (d.burn, 8) := by unfold qBt; rw [e1, hwe, hwr]; rfl
    have hbn : d.burn = { d with fuse := d.fuse - 1 }.cut d.keep := by unfold Dk.burn; rw [if_pos hb.1, if_pos hb.2]
    rw [e, hbn]; exact ⟨rfl, rfl⟩
  · have hwr := qGb h0 (s := t 0) (by omega) hb
    have hbl := qBx hb
    rw [hwr.1, hwr.2] at e1
    obtain ⟨D, hD⟩ : ∃ D, D = ({ d.burn with wait := d.burn.wait ++ [(((p + 0 : Nat) : Int).toNat, qHL (t 0))] } : Dk) := ⟨_, rfl⟩
    rw [← hD] at e1
    have hDl : D.last = d.last := by rw [hD]; exact hbl.1
    have hDo : D.off = false := by rw [hD]; show d.burn.off = false; rw [hbl.2.2]; exact ho
    have hDk : D.keep = d.keep := by rw [hD]; exact (qFh d).1
    have e : qBt d p t 1 = (D.sync, D.sErr) := by unfold qBt; rw [e1]; rfl
    have h3 : D.ready 0 = 0 := qBZ hDo (i := 0) (by rw [hDl]; omega)
    have hs := qLl D (by unfold Dk.sErr; rw [if_neg (by rw [h3]; decide)]; split; exact Or.inr rfl; exact Or.inl rfl) hDo (by rw [hDl]; omega)
    rw [e]
    exact ⟨hs.1, hs.2.trans hDk⟩
end Go.Proofs.YtfldiegfenndjaaGreatDoor
namespace Go.Proofs.YtfldiegfenndjaaGreatDoor
open Go Go.Fw Go.Proofs.Tryz
set_option maxRecDepth 100000
set_option maxHeartbeats 1000000
attribute [local irreducible] Sha.tagged Wo.pub Wo.publicOf Wo.signs Wo.ends Wo.digs Wo.walk Wo.opn Mk.root Mk.path Mk.climb Xm.root sgC sgP prt
theorem qSY {f0 v : Nat} : (XG f0 v).R.length = if v = 0 then 0 else if v ≤ 4 then v else v - 4 := by
 unfold XG; split
 · rfl
 · split <;> exact qBU _ _
theorem qSX {f0 v : Nat} (h8 : v < 8) (h4 : v ≠ 4) : qC3 (XG f0 v) (qBf v) = XG f0 (v + 1) ∧ (XG f0 v).at_ + (XG f0 v).e = f0 + v ∧ (prt (qLI (XG f0 v).t) (UInt64.ofNat (XG f0 v).R.length) (qBf v) 1 0).text = txt v := by
  unfold txt T1 tnO nrO qC3
  rw [qBn (qGG v)]
  by_cases hv0 : v = 0
  · subst hv0; exact ⟨rfl, rfl, rfl⟩
  · by_cases hv4 : v < 4
    · have e : XG f0 v = ⟨f0, 1, qCM 0 v, v⟩ := by unfold XG; rw [if_neg hv0, if_pos (by omega)]
      have e2 : XG f0 (v + 1) = ⟨f0, 1, qCM 0 (v + 1), v + 1⟩ := by unfold XG; rw [if_neg (by omega), if_pos (by omega)]
      rw [e, e2, if_pos hv4, if_pos hv4, qBU, qGF, Nat.zero_add]
      exact ⟨rfl, rfl, rfl⟩
    · have e : XG f0 v = ⟨f0 + 4, 2, qCM 4 (v - 4), v - 4⟩ := by unfold XG; rw [if_neg hv0, if_neg (by omega)]
      have e2 : XG f0 (v + 1) = ⟨f0 + 4, 2, qCM 4 (v - 4 + 1), v - 4 + 1⟩ := by unfold XG; rw [if_neg (by omega), if_neg (by omega), show v + 1 - 4 = v - 4 + 1 by omega]
      rw [e, e2, if_neg hv4, if_neg hv4, qBU, qGF, show 4 + (v - 4) = v by omega]
      exact ⟨rfl, by show f0 + 4 + (v - 4) = _; omega, rfl⟩
theorem qRR {f0 v : Nat} (h0 : 0 < v) (h8 : v ≤ 8) : 0 < (XG f0 v).R.length ∧ (XG f0 v).R.getD ((XG f0 v).R.length - 1) [] = qBf (v - 1) := by
  by_cases hv4 : v ≤ 4
  · have e : XG f0 v = ⟨f0, 1, qCM 0 v, v⟩ := by unfold XG; rw [if_neg (by omega), if_pos (by omega)]
    rw [e]; dsimp only
    rw [qBU]
    refine ⟨h0, ?_⟩
    unfold qCM
    rw [List.getD_eq_getElem?_getD, List.getElem?_map, List.getElem?_range (by omega), Option.map_some, Nat.zero_add]; rfl
  · have e : XG f0 v = ⟨f0 + 4, 2, qCM 4 (v - 4), v - 4⟩ := by unfold XG; rw [if_neg (by omega), if_neg (by omega)]
    rw [e]; dsimp only
    rw [qBU]
    refine ⟨by omega, ?_⟩
    unfold qCM
    rw [List.getD_eq_getElem?_getD, List.getElem?_map, List.getElem?_range (by omega), Option.map_some, show 4 + (v - 4 - 1) = v - 1 by omega]; rfl
def qEl (f0 : Nat) (d : Dk) (v : Nat) : Dk × Int := if v = 4 then qBt d (2 * f0 + 8 / 2 - f0 + 0) (fun i => (prt (1 + 1) (UInt64.ofNat 0) (qBf v) (qBR (qBf v).length) i).text) (qBR (qBf v).length) else qBE d (XG f0 v) (qBf v)
theorem qLW {f0 n : Nat} {O : Nat → List UInt8} {d : Dk} {v : Nat} (h : DG f0 n O d v) (hv : v < 8) (ho : d.off = false) : ((qEl f0 d v).2 = 0 → (qEl f0 d v).1.off = false ∧ DG f0 n O (qEl f0 d v).1 (v + 1)) ∧ ((qEl f0 d v).2 ≠ 0 → (qEl f0 d v).2 = 8 ∧ (qEl f0 d v).1.off = true ∧ (DG f0 n O (qEl f0 d v).1 v ∨ DG f0 n O (qEl f0 d v).1 (v + 1))) ∧ (qEl f0 d v).1.keep = d.keep := by
  have hfit := h.fits
  have key : ∀ (p : Nat) (t : Nat → List UInt8), p = f0 + v → t 0 = txt v → ((qBt d p t 1).2 = 0 → (qBt d p t 1).1.off = false ∧ DG f0 n O (qBt d p t 1).1 (v + 1)) ∧ ((qBt d p t 1).2 ≠ 0 → (qBt d p t 1).2 = 8 ∧ (qBt d p t 1).1.off = true ∧ (DG f0 n O (qBt d p t 1).1 v ∨ DG f0 n O (qBt d p t 1).1 (v + 1))) ∧ (qBt d p t 1).1.keep = d.keep := fun p t hp hT => by
    have hr := qLV (d := d) (p := p) (t := t) (by rw [hT]; exact qFD hv) ho h.wait (by rw [h.len]; omega) h.ok
    have := h.put hv ho hp hT (qPv h.ok p t 1) hr.1
    exact ⟨this.1, this.2, hr.2⟩
  unfold qEl
  by_cases h4 : v = 4
  · rw [if_pos h4, qBn (qGG v)]
    exact key _ _ (by omega) (by subst h4; rfl)
  · rw [if_neg h4]
    unfold qBE
    rw [qBn (qGG v)]
    obtain ⟨_, h2, h3⟩ := qSX (f0 := f0) hv h4
    exact key _ _ h2 h3
theorem qM7 {f0 n : Nat} {O : Nat → List UInt8} {d : Dk} {v : Nat} (h : DG f0 n O d v) : d.wait.length ≤ 1048576 := by rw [h.wait]; exact Nat.zero_le _
end Go.Proofs.YtfldiegfenndjaaGreatDoor
namespace Go.Proofs.YtfldiegfenndjaaGreatDoor
open Go Go.Fw Go.Proofs.Tryz
set_option maxRecDepth 100000
set_option maxHeartbeats 1000000
attribute [local irreducible] Sha.tagged Wo.pub Wo.publicOf Wo.signs Wo.ends Wo.digs Wo.walk Wo.opn Mk.root Mk.path Mk.climb Xm.root sgC sgP prt
theorem qPF (F : Hp) (hK : KF F) (gd : Nat) (d : Dk) (f0 n v : Nat) (O : Nat → List UInt8) (h : DG f0 n O d v) (h8 : v ≤ 8) (ho : d.off = false) (seed : List UInt8) (hsd : seed.length ≤ 1048576) (kh : Nat) (h6 : kh ≤ 6) (A : Option Addr) (c : Nat) (B : Option Addr) (e : Nat) (C : Option Addr) (f : Nat) (hc : qAQ F ⟨gd, 0, none⟩ (d.cells A c B e C f)) (hL : Sl F 1 A d.last.length c (qAI d.last)) (hW : Sl F 2 B d.wait.length e (qB2 d.wait)) : Ct prog 52 [Ptr gd, I ((f0 : Nat) : Int), I ((8 : Nat) : Int), Str seed, I ((kh : Nat) : Int)] [F] (fun x : (Nat × Hp) × (Nat × Option Addr × Nat × Hp) × Nat => .tuple #[Ptr x.2.2, I ((0 : Nat) : Int)]) (fun x => qJM x.1.2 x.1.1 seed kh ∧ Row x.2.1.2.2.2 9 1 x.2.1.2.1 (XG f0 v).R.length x.2.1.2.2.1 (qAI (XG f0 v).R)) (fun x => [F, x.1.2, blk x.2.1.1 (bkC gd f0 (8 / 2) (XG f0 v) x.2.1.2.1 x.2.1.2.2.1 false) 223, x.2.1.2.2.2, blk x.2.2 [Ptr x.1.1, Ptr x.2.1.1, I ((v : Nat) : Int)] 216]) := by
  have hX := h.half h8
  have hfit := h.fits
  have hlen : f0 + 8 ≤ d.last.length := by rw [h.len]; exact hfit
  have hn2 : d.wait.length ≤ 1073741824 := by rw [h.wait]; exact Nat.zero_le _
  have hXn : (XG f0 v).R.length ≤ 1048576 := by
    have := qSY (f0 := f0) (v := v)
    split at this
    · omega
    · split at this <;> omega
  by_cases h0 : v = 0
  · have := qP8 F hK gd d h.ok A c B e C f hc hL hW hn2 f0 8 (by decide) hlen ho seed hsd kh h6 (XG f0 v) hX hXn (by subst h0; rfl)
    rw [show ((0 : Nat) : Int) = ((v : Nat) : Int) by rw [h0]] at this
    subst h0
    exact this
  · have hl := qRR (f0 := f0) (v := v) (by omega) h8
    have := qP7 F hK gd d h.ok A c B e C f hc hL hW hn2 f0 8 (by decide) hlen ho seed hsd kh h6 (XG f0 v) hX hXn hl.1 (qBf (v - 1)) hl.2.symm (qBr _)
    rw [qON (by omega) (by omega)] at this
    exact this
end Go.Proofs.YtfldiegfenndjaaGreatDoor
