/- A part of the proof. -/
import Derived.Test.YtfldiegfenndjaaGreatDoorTopCcG37
import Derived.Test.YtfldiegfenndjaaGreatDoorTopCcG35
set_option linter.unusedSimpArgs false
set_option linter.unusedVariables false
namespace Go.Proofs.YtfldiegfenndjaaGreatDoor
open Go Go.Fw Go.Proofs.Tryz
set_option maxRecDepth 100000
set_option maxHeartbeats 1000000
attribute [local irreducible] SN.tagN Sha.tagged SN.sumN
namespace Wn
open Sha Wd
def okW (ws : List Nat) (a : Nat) : Nat → Bool
 | 0 => true
 | k + 1 => okW ws a k && (decide (a - k < 2) || decide (ws.getD k 0 < 18446744073709551615 - 18446744073709551615 % (a - k)))
def swL (l : List Int) (k j : Nat) : List Int := (l.set k (l.getD j 0)).set j (l.getD k 0)
def swW (ws : List Nat) (a : Nat) : Nat → List Int
 | 0 => Wd.start a
 | k + 1 => swL (swW ws a k) k (k + ws.getD k 0 % (a - k))
theorem okW_le {ws : List Nat} {a : Nat} : ∀ {m k : Nat}, k ≤ m → okW ws a m = true → okW ws a k = true
  | 0, k, hk, h => by rw [show k = 0 by omega]; rfl
  | m + 1, k, hk, h => by
    by_cases e : k = m + 1
    · rw [e]; exact h
    · rw [okW, Bool.and_eq_true] at h
      exact okW_le (m := m) (by omega) h.1
theorem wins_w (seed : List UInt8) (hs : seed.length ≤ 1000000) (a : Nat) (ha : a ≤ 1000000) (ws : List Nat) (hw : ∀ k, k < a → ws.getD k 0 = wordN (seed.map UInt8.toNat) k) : ∀ k, k < a → okW ws a (k + 1) = true → ∃ y, wins 1 a (Strm.new seed) (k + 1) = some y ∧ y.1 = swW ws a (k + 1) ∧ (2 ≤ a - k → y.2 = nxt (Strm.new seed) (k + 1)) := by
  have step : ∀ k (x : List Int × Strm), k < a → okW ws a (k + 1) = true → wins 1 a (Strm.new seed) k = some x → x.1 = swW ws a k → x.2 = nxt (Strm.new seed) k → ∃ y, wins 1 a (Strm.new seed) (k + 1) = some y ∧ y.1 = swW ws a (k + 1) ∧ (2 ≤ a - k → y.2 = nxt (Strm.new seed) (k + 1)) := fun k x hk hok hx hl hn => by
    have hn2 : (UInt64.ofNat (a - k)).toNat = a - k := by rw [UInt64.toNat_ofNat']; exact Nat.mod_eq_of_lt (by omega)
    rw [okW, Bool.and_eq_true, Bool.or_eq_true, decide_eq_true_eq, decide_eq_true_eq] at hok
    by_cases h2 : 2 ≤ a - k
    · have hwd : ws.getD k 0 < 18446744073709551615 - 18446744073709551615 % (a - k) := by
        rcases hok.2 with h | h
        · omega
        · exact h
      have hst : (stop (UInt64.ofNat (a - k))).toNat = 18446744073709551615 - 18446744073709551615 % (a - k) := by
        unfold stop
        have hle : (18446744073709551615 % UInt64.ofNat (a - k) : UInt64) ≤ 18446744073709551615 := by
          rw [UInt64.le_iff_toNat_le, UInt64.toNat_mod]
          exact Nat.mod_le _ _
        rw [UInt64.toNat_sub_of_le _ _ hle, UInt64.toNat_mod, hn2]; rfl
      have hnum : x.2.num.toNat = ws.getD k 0 := by rw [hn, qPb seed hs (by omega), hw k hk]
      have hd : draw (stop (UInt64.ofNat (a - k))) 1 x.2 = some (x.2.num, x.2.next) := by
        unfold draw
        rw [if_pos]
        rw [hst, hnum]
        exact hwd
      refine ⟨(swL x.1 k (k + (x.2.num % UInt64.ofNat (a - k)).toNat), x.2.next), ?_, ?_, fun _ => by dsimp only; rw [hn]; rfl⟩
      · show (wins 1 a (Strm.new seed) k).bind _ = _
        rw [hx]
        unfold drawN
        simp only [Option.bind_some]
        rw [if_neg (by rw [hn2]; omega), hd]
        rfl
      · dsimp only
        rw [swW, hl, UInt64.toNat_mod, hn2, hnum]
    · refine ⟨(swL x.1 k (k + (0 : UInt64).toNat), x.2), ?_, ?_, fun h => absurd h h2⟩
      · show (wins 1 a (Strm.new seed) k).bind _ = _
        rw [hx]
        unfold drawN
        simp only [Option.bind_some]
        rw [if_pos (by rw [hn2]; omega)]
        rfl
      · dsimp only
        rw [swW, hl, show a - k = 1 by omega, Nat.mod_one]; rfl
  intro k
  induction k with
  | zero => intro hk hok; exact step 0 _ hk hok rfl rfl rfl
  | succ k ih =>
    intro hk hok
    have hok1 : okW ws a (k + 1) = true := okW_le (by omega) hok
    obtain ⟨y, h3, h5, h4⟩ := ih (by omega) hok1
    exact step (k + 1) y hk hok h3 h5 (h4 (by omega))
end Wn
def ndN2 (m : List Nat) : List Nat := Tn.nat (Sha.numB (UInt64.ofNat m.length) 2) ++ m
theorem qSd (s : List UInt8) : Tn.nat (ndB s) = ndN2 (Tn.nat s) := by
 unfold ndB ndN2 Tn.nat
 rw [List.map_append, List.length_map]
theorem qKL : ∀ (l : List (List UInt8)), Tn.nat ((l.map ndB).flatten) = ((l.map Tn.nat).map ndN2).flatten
 | [] => rfl
 | s :: r => by
  have := qKL r
  unfold Tn.nat at this ⊢
  rw [List.map_cons, List.flatten_cons, List.map_append, this]
  have h2 := qSd s
  unfold Tn.nat at h2
  rw [h2]; rfl
def qRG (ep : Nat) (par : List Nat) (d a : Nat) (M : List (List Nat)) : List Nat := Tn.nat (Sha.numB (UInt64.ofNat ep) 4) ++ par ++ [d % 256] ++ [a % 256] ++ (M.map ndN2).flatten
theorem qDd {ep : Nat} {par : List UInt8} {d a : Nat} {ns : List (List UInt8)} {P : List Nat} {M : List (List Nat)} (hp : Tn.nat par = P) (h : ns.map Tn.nat = M) : Tn.nat (⟨ep, par, ((d : Nat) : Int), ((a : Nat) : Int), ns⟩ : Hd).bytes = qRG ep P d a M := by
 have e : ∀ k : Nat, (UInt8.ofNat k).toNat = k % 256 := fun k => UInt8.toNat_ofNat'
 unfold Hd.bytes qRG
 dsimp only
 rw [← h, ← hp, ← qKL]
 unfold Tn.nat
 rw [List.map_append, List.map_append, List.map_append, List.map_append, List.map_singleton, List.map_singleton, e, e, Int.toNat_natCast, Int.toNat_natCast]
theorem qOZ {x : Hd} {n : List Nat} (he : x.err = 0) (hb : Tn.nat x.bytes = n) (hl : n.length ≤ 1000) : Tn.nat x.dig = SN.tagN 14 [n] := by
 unfold Hd.dig
 rw [if_pos he, ← hb]
 have h1 : x.bytes.length ≤ 1000 := by rw [← hb] at hl; simpa [Tn.nat] using hl
 exact (SN.tagN_eq 14 [x.bytes] (by simp only [List.flatten_cons, List.flatten_nil, List.append_nil, List.length_cons, List.length_nil]; omega)).symm
theorem qDf {dg : List UInt8} {D : List Nat} (h : Tn.nat dg = D) (hl : dg.length = 16) (b : Nat) : Tn.nat (Wd.seedOf dg b) = SN.tagN 17 [D, [b % 256]] := by
 have := (SN.tagN_eq 17 [dg, [UInt8.ofNat b]] (by simp only [List.flatten_cons, List.flatten_nil, List.append_nil, List.length_append, List.length_cons, List.length_nil]; omega)).symm
 unfold Wd.seedOf
 rw [← h]
 exact this
theorem qD9 (l : List Sm.PR) : qAT l 0 = [Sm.nd 128 l] := by
 show [Sm.nd 128 (Sm.bel l (kF 0 0) 0)] = _
 rw [Sm.bel_zero]
theorem qD8 {l : List Sm.PR} (h16 : ∀ p ∈ l, p.1.length = 16) : qAT l 1 = [Sm.nd 127 (Sm.side 127 true l), Sm.nd 127 (Sm.side 127 false l)] := by
 have e0 : Sm.bel l (kF 0 1) 1 = Sm.side 127 true l := by
  have := Sm.bel_half h16 (b := kF 0 0) (c := kF 0 1) (qEB 0 0) (qEB 0 1) (d := 0) (by decide) true (by decide +kernel)
  rw [Sm.bel_zero] at this; exact this
 have e1 : Sm.bel l (kF 1 1) 1 = Sm.side 127 false l := by
  have := Sm.bel_half h16 (b := kF 0 0) (c := kF 1 1) (qEB 0 0) (qEB 1 1) (d := 0) (by decide) false (by decide +kernel)
  rw [Sm.bel_zero] at this; exact this
 show [Sm.nd 127 (Sm.bel l (kF 0 1) 1), Sm.nd 127 (Sm.bel l (kF 1 1) 1)] = _
 rw [e0, e1]
theorem hdOk {l : List Sm.PR} (hf : qE1 l) {ep : Nat} (he : ep ≤ 4294967295) {par : List UInt8} (hp : par.length = 16) {d : Nat} (hd : d ≤ 4) {a : Nat} (ha : a ≤ 64) : (⟨ep, par, ((d : Nat) : Int), ((a : Nat) : Int), qAT l d⟩ : Hd).err = 0 := by
  refine qUG ?_ ?_ fun s hs => ?_
  · unfold Hd.out
    dsimp only
    rw [qFl hd]
    have := qTm hd
    omega
  · show ¬ (qAT l d).length ≠ cnt (d : Int)
    rw [qCj, qFl hd]; exact fun h => h rfl
  · unfold qAT qBt at hs
    obtain ⟨j, _, rfl⟩ := List.mem_map.1 hs
    rcases qHG (Sm.bel_wf hf.once hf.k16 (qEB j d) (d := d) (by omega)) with h | ⟨h1, h2⟩
    · exact .inl h
    · exact .inr ⟨h1, h2.imp (fun h => UInt8.toNat_inj.1 h) (fun h => UInt8.toNat_inj.1 h)⟩
attribute [local irreducible] Sm.nd Hd.dig
theorem qBp {a d : Nat} (ha : a ≤ 5) (hd : d ≤ 1) : (pW a d).err = 0 := hdOk (qCP ha) (ep := 0) (by decide) (par := qBw) rfl (d := d) (by omega) (a := a) (by omega)
theorem qAz {a d : Nat} (ha : a ≤ 5) (hd : d ≤ 1) : (pW a d).dig.length = 16 := qBW (qBp ha hd)
theorem qGX {a d : Nat} (ha : a ≤ 5) (hd : d ≤ 1) : (nW a d).err = 0 := hdOk (qCP ha) (ep := 1) (by decide) (par := (pW a d).dig) (qAz ha hd) (d := d) (by omega) (a := a) (by omega)
theorem qBy : Tn.nat qBw = List.replicate 16 0 := by decide
theorem qNy : Tn.nat (pW 1 0).dig = [187, 56, 70, 227, 245, 3, 126, 148, 132, 140, 150, 244, 87, 129, 148, 200] := by
 have hn : (pW 1 0).nodes.map Tn.nat = [[1, 238, 227, 159, 201, 246, 222, 37, 82, 179, 40, 184, 102, 102, 32, 228, 23]] := by
  show List.map Tn.nat (qAT (qAD 1) 0) = _
  rw [qD9, List.map_singleton, qT2]
 refine (qOZ (qBp (by decide) (by decide)) (qDd (ep := 0) (d := 0) (a := 1) qBy hn) (by decide +kernel)).trans ?_
 decide +kernel
theorem qIO : Tn.nat (pW 1 1).dig = [173, 116, 53, 36, 180, 40, 133, 19, 154, 171, 252, 170, 110, 11, 39, 245] := by
 have hn : (pW 1 1).nodes.map Tn.nat = [[1, 238, 227, 159, 201, 246, 222, 37, 82, 179, 40, 184, 102, 102, 32, 228, 23], [0]] := by
  show List.map Tn.nat (qAT (qAD 1) 1) = _
  rw [qD8 (qCP (a := 1) (by decide)).k16, List.map_cons, List.map_singleton, qPo, qPn]
 refine (qOZ (qBp (by decide) (by decide)) (qDd (ep := 0) (d := 1) (a := 1) qBy hn) (by decide +kernel)).trans ?_
 decide +kernel
theorem qNx : Tn.nat (pW 2 0).dig = [46, 46, 4, 60, 234, 58, 251, 216, 174, 196, 17, 81, 38, 184, 159, 221] := by
 have hn : (pW 2 0).nodes.map Tn.nat = [[2, 130, 35, 49, 183, 102, 82, 165, 250, 168, 254, 82, 193, 186, 49, 175, 116]] := by
  show List.map Tn.nat (qAT (qAD 2) 0) = _
  rw [qD9, List.map_singleton, qT1]
 refine (qOZ (qBp (by decide) (by decide)) (qDd (ep := 0) (d := 0) (a := 2) qBy hn) (by decide +kernel)).trans ?_
 decide +kernel
theorem qIN : Tn.nat (pW 2 1).dig = [55, 11, 99, 182, 168, 210, 185, 22, 39, 148, 40, 235, 190, 185, 244, 157] := by
 have hn : (pW 2 1).nodes.map Tn.nat = [[2, 242, 153, 50, 69, 83, 239, 211, 214, 39, 121, 13, 71, 217, 70, 228, 62], [0]] := by
  show List.map Tn.nat (qAT (qAD 2) 1) = _
  rw [qD8 (qCP (a := 2) (by decide)).k16, List.map_cons, List.map_singleton, qPm, qPl]
 refine (qOZ (qBp (by decide) (by decide)) (qDd (ep := 0) (d := 1) (a := 2) qBy hn) (by decide +kernel)).trans ?_
 decide +kernel
theorem qNw : Tn.nat (pW 3 0).dig = [101, 252, 49, 218, 35, 45, 205, 65, 229, 67, 35, 42, 13, 25, 3, 168] := by
 have hn : (pW 3 0).nodes.map Tn.nat = [[2, 148, 32, 134, 241, 150, 96, 103, 162, 143, 48, 199, 58, 226, 85, 100, 187]] := by
  show List.map Tn.nat (qAT (qAD 3) 0) = _
  rw [qD9, List.map_singleton, qT0]
 refine (qOZ (qBp (by decide) (by decide)) (qDd (ep := 0) (d := 0) (a := 3) qBy hn) (by decide +kernel)).trans ?_
 decide +kernel
theorem qIM : Tn.nat (pW 3 1).dig = [26, 98, 214, 226, 7, 147, 105, 226, 174, 81, 4, 9, 59, 17, 75, 143] := by
 have hn : (pW 3 1).nodes.map Tn.nat = [[2, 40, 242, 172, 117, 68, 136, 87, 170, 255, 55, 198, 211, 109, 15, 216, 119], [0]] := by
  show List.map Tn.nat (qAT (qAD 3) 1) = _
  rw [qD8 (qCP (a := 3) (by decide)).k16, List.map_cons, List.map_singleton, qPk, qPj]
 refine (qOZ (qBp (by decide) (by decide)) (qDd (ep := 0) (d := 1) (a := 3) qBy hn) (by decide +kernel)).trans ?_
 decide +kernel
theorem qNv : Tn.nat (pW 4 0).dig = [96, 113, 69, 153, 254, 44, 18, 98, 111, 9, 210, 166, 93, 157, 198, 147] := by
 have hn : (pW 4 0).nodes.map Tn.nat = [[2, 233, 213, 23, 155, 205, 123, 190, 204, 206, 83, 49, 142, 61, 28, 173, 219]] := by
  show List.map Tn.nat (qAT (qAD 4) 0) = _
  rw [qD9, List.map_singleton, qTz]
 refine (qOZ (qBp (by decide) (by decide)) (qDd (ep := 0) (d := 0) (a := 4) qBy hn) (by decide +kernel)).trans ?_
 decide +kernel
theorem qIL : Tn.nat (pW 4 1).dig = [188, 181, 87, 104, 70, 102, 191, 25, 110, 133, 245, 1, 21, 185, 75, 58] := by
 have hn : (pW 4 1).nodes.map Tn.nat = [[2, 40, 242, 172, 117, 68, 136, 87, 170, 255, 55, 198, 211, 109, 15, 216, 119], [1, 175, 189, 195, 53, 222, 45, 1, 161, 84, 183, 240, 237, 117, 242, 133, 98]] := by
  show List.map Tn.nat (qAT (qAD 4) 1) = _
  rw [qD8 (qCP (a := 4) (by decide)).k16, List.map_cons, List.map_singleton, qPi, qPh]
 refine (qOZ (qBp (by decide) (by decide)) (qDd (ep := 0) (d := 1) (a := 4) qBy hn) (by decide +kernel)).trans ?_
 decide +kernel
theorem qNu : Tn.nat (pW 5 0).dig = [255, 46, 206, 123, 33, 107, 238, 147, 77, 47, 25, 198, 144, 211, 21, 4] := by
 have hn : (pW 5 0).nodes.map Tn.nat = [[2, 213, 52, 177, 165, 114, 120, 237, 146, 94, 106, 125, 252, 90, 56, 82, 249]] := by
  show List.map Tn.nat (qAT (qAD 5) 0) = _
  rw [qD9, List.map_singleton, qTy]
 refine (qOZ (qBp (by decide) (by decide)) (qDd (ep := 0) (d := 0) (a := 5) qBy hn) (by decide +kernel)).trans ?_
 decide +kernel
theorem qIK : Tn.nat (pW 5 1).dig = [206, 35, 45, 109, 104, 226, 196, 248, 62, 127, 9, 39, 74, 10, 137, 77] := by
 have hn : (pW 5 1).nodes.map Tn.nat = [[2, 40, 242, 172, 117, 68, 136, 87, 170, 255, 55, 198, 211, 109, 15, 216, 119], [2, 47, 245, 142, 191, 14, 44, 44, 105, 43, 189, 138, 163, 237, 117, 74, 168]] := by
  show List.map Tn.nat (qAT (qAD 5) 1) = _
  rw [qD8 (qCP (a := 5) (by decide)).k16, List.map_cons, List.map_singleton, qPg, qPf]
 refine (qOZ (qBp (by decide) (by decide)) (qDd (ep := 0) (d := 1) (a := 5) qBy hn) (by decide +kernel)).trans ?_
 decide +kernel
theorem qKs : ∀ k, k < 1 → ([10625539847341542065] : List Nat).getD k 0 = Wn.wordN (Tn.nat (Wd.seedOf (pW 1 0).dig 0)) k := by
 have h : Tn.nat (Wd.seedOf (pW 1 0).dig 0) = [120, 169, 46, 34, 87, 165, 20, 173, 202, 96, 199, 150, 249, 251, 29, 229] := by
  rw [qDf qNy (qAz (by decide) (by decide))]
  decide +kernel
 rw [h]
 decide +kernel
theorem qKr : ∀ k, k < 1 → ([12372505037779808925] : List Nat).getD k 0 = Wn.wordN (Tn.nat (Wd.seedOf (pW 1 1).dig 0)) k := by
 have h : Tn.nat (Wd.seedOf (pW 1 1).dig 0) = [50, 221, 58, 139, 120, 225, 42, 249, 13, 199, 62, 205, 236, 249, 252, 243] := by
  rw [qDf qIO (qAz (by decide) (by decide))]
  decide +kernel
 rw [h]
 decide +kernel
theorem qKq : ∀ k, k < 1 → ([4684824746416746109] : List Nat).getD k 0 = Wn.wordN (Tn.nat (Wd.seedOf (pW 1 1).dig 1)) k := by
 have h : Tn.nat (Wd.seedOf (pW 1 1).dig 1) = [142, 83, 233, 47, 33, 42, 137, 76, 12, 76, 125, 1, 207, 70, 151, 183] := by
  rw [qDf qIO (qAz (by decide) (by decide))]
  decide +kernel
 rw [h]
 decide +kernel
theorem qKp : ∀ k, k < 2 → ([15228727670780089412, 16813781577792110858] : List Nat).getD k 0 = Wn.wordN (Tn.nat (Wd.seedOf (pW 2 0).dig 0)) k := by
 have h : Tn.nat (Wd.seedOf (pW 2 0).dig 0) = [5, 92, 46, 219, 126, 24, 197, 25, 34, 221, 118, 90, 243, 8, 199, 202] := by
  rw [qDf qNx (qAz (by decide) (by decide))]
  decide +kernel
 rw [h]
 decide +kernel
theorem qKo : ∀ k, k < 2 → ([14134856115542813844, 2618100950790566887] : List Nat).getD k 0 = Wn.wordN (Tn.nat (Wd.seedOf (pW 2 1).dig 0)) k := by
 have h : Tn.nat (Wd.seedOf (pW 2 1).dig 0) = [254, 111, 54, 79, 32, 27, 167, 168, 135, 107, 20, 53, 160, 75, 67, 98] := by
  rw [qDf qIN (qAz (by decide) (by decide))]
  decide +kernel
 rw [h]
 decide +kernel
theorem qKn : ∀ k, k < 2 → ([10079869973583237279, 18094626404453699285] : List Nat).getD k 0 = Wn.wordN (Tn.nat (Wd.seedOf (pW 2 1).dig 1)) k := by
 have h : Tn.nat (Wd.seedOf (pW 2 1).dig 1) = [114, 169, 184, 168, 245, 21, 120, 0, 3, 158, 33, 60, 79, 246, 64, 124] := by
  rw [qDf qIN (qAz (by decide) (by decide))]
  decide +kernel
 rw [h]
 decide +kernel
theorem qKm : ∀ k, k < 3 → ([10901641792274269772, 15373722404534543456, 8362213576977507739] : List Nat).getD k 0 = Wn.wordN (Tn.nat (Wd.seedOf (pW 3 0).dig 0)) k := by
 have h : Tn.nat (Wd.seedOf (pW 3 0).dig 0) = [110, 160, 226, 222, 19, 37, 175, 231, 196, 58, 188, 79, 102, 109, 223, 83] := by
  rw [qDf qNw (qAz (by decide) (by decide))]
  decide +kernel
 rw [h]
 decide +kernel
theorem qKl : ∀ k, k < 3 → ([2489787638264556440, 9828934530312227863, 3688655355078828059] : List Nat).getD k 0 = Wn.wordN (Tn.nat (Wd.seedOf (pW 3 1).dig 0)) k := by
 have h : Tn.nat (Wd.seedOf (pW 3 1).dig 0) = [179, 57, 64, 185, 92, 9, 191, 127, 149, 194, 2, 226, 103, 115, 132, 20] := by
  rw [qDf qIM (qAz (by decide) (by decide))]
  decide +kernel
 rw [h]
 decide +kernel
theorem qKk : ∀ k, k < 3 → ([7246576228850114204, 16420678198836055854, 8680160807027340885] : List Nat).getD k 0 = Wn.wordN (Tn.nat (Wd.seedOf (pW 3 1).dig 1)) k := by
 have h : Tn.nat (Wd.seedOf (pW 3 1).dig 1) = [223, 236, 139, 45, 242, 99, 222, 158, 60, 119, 19, 108, 231, 137, 154, 186] := by
  rw [qDf qIM (qAz (by decide) (by decide))]
  decide +kernel
 rw [h]
 decide +kernel
theorem qKj : ∀ k, k < 4 → ([9276157014364708026, 6900485460229295598, 7778391672805789999, 13293505712557637381] : List Nat).getD k 0 = Wn.wordN (Tn.nat (Wd.seedOf (pW 4 0).dig 0)) k := by
 have h : Tn.nat (Wd.seedOf (pW 4 0).dig 0) = [129, 76, 191, 188, 145, 228, 9, 193, 117, 168, 197, 212, 73, 105, 187, 236] := by
  rw [qDf qNv (qAz (by decide) (by decide))]
  decide +kernel
 rw [h]
 decide +kernel
theorem qKi : ∀ k, k < 4 → ([7132274221725579659, 985601048299038206, 6491788546472646563, 355185431943927940] : List Nat).getD k 0 = Wn.wordN (Tn.nat (Wd.seedOf (pW 4 1).dig 0)) k := by
 have h : Tn.nat (Wd.seedOf (pW 4 1).dig 0) = [194, 176, 228, 190, 136, 47, 69, 117, 186, 87, 189, 111, 216, 132, 75, 43] := by
  rw [qDf qIL (qAz (by decide) (by decide))]
  decide +kernel
 rw [h]
 decide +kernel
theorem qKh : ∀ k, k < 4 → ([1082355415570578294, 4719226243245632246, 8627171808155646599, 4097056271222707427] : List Nat).getD k 0 = Wn.wordN (Tn.nat (Wd.seedOf (pW 4 1).dig 1)) k := by
 have h : Tn.nat (Wd.seedOf (pW 4 1).dig 1) = [127, 32, 168, 98, 220, 114, 201, 82, 242, 68, 141, 241, 86, 48, 12, 156] := by
  rw [qDf qIL (qAz (by decide) (by decide))]
  decide +kernel
 rw [h]
 decide +kernel
theorem qKg : ∀ k, k < 5 → ([7731369362699709439, 15715243279753068493, 8024103747412143880, 9446254423162678478, 1014235932451953557] : List Nat).getD k 0 = Wn.wordN (Tn.nat (Wd.seedOf (pW 5 0).dig 0)) k := by
 have h : Tn.nat (Wd.seedOf (pW 5 0).dig 0) = [226, 94, 31, 27, 228, 168, 74, 56, 44, 214, 46, 195, 7, 201, 101, 49] := by
  rw [qDf qNu (qAz (by decide) (by decide))]
  decide +kernel
 rw [h]
 decide +kernel
theorem qKf : ∀ k, k < 5 → ([10013554654622449896, 10994731610079780420, 4196918242274216545, 12167027157639183057, 7214896319638224689] : List Nat).getD k 0 = Wn.wordN (Tn.nat (Wd.seedOf (pW 5 1).dig 0)) k := by
 have h : Tn.nat (Wd.seedOf (pW 5 1).dig 0) = [46, 116, 126, 91, 10, 97, 185, 228, 128, 45, 38, 112, 213, 151, 50, 79] := by
  rw [qDf qIK (qAz (by decide) (by decide))]
  decide +kernel
 rw [h]
 decide +kernel
theorem qKe : ∀ k, k < 5 → ([2670520778846679188, 16166903715112602144, 1340060228102700429, 12232139311703255206, 6661994157334703972] : List Nat).getD k 0 = Wn.wordN (Tn.nat (Wd.seedOf (pW 5 1).dig 1)) k := by
 have h : Tn.nat (Wd.seedOf (pW 5 1).dig 1) = [245, 89, 107, 0, 1, 122, 242, 127, 34, 38, 146, 5, 96, 57, 51, 81] := by
  rw [qDf qIK (qAz (by decide) (by decide))]
  decide +kernel
 rw [h]
 decide +kernel
def qQl (a d b : Nat) : List Nat := match a, d, b with
 | 1, 0, 0 => [10625539847341542065]
 | 1, 1, 0 => [12372505037779808925]
 | 1, 1, 1 => [4684824746416746109]
 | 2, 0, 0 => [15228727670780089412, 16813781577792110858]
 | 2, 1, 0 => [14134856115542813844, 2618100950790566887]
 | 2, 1, 1 => [10079869973583237279, 18094626404453699285]
 | 3, 0, 0 => [10901641792274269772, 15373722404534543456, 8362213576977507739]
 | 3, 1, 0 => [2489787638264556440, 9828934530312227863, 3688655355078828059]
 | 3, 1, 1 => [7246576228850114204, 16420678198836055854, 8680160807027340885]
 | 4, 0, 0 => [9276157014364708026, 6900485460229295598, 7778391672805789999, 13293505712557637381]
 | 4, 1, 0 => [7132274221725579659, 985601048299038206, 6491788546472646563, 355185431943927940]
 | 4, 1, 1 => [1082355415570578294, 4719226243245632246, 8627171808155646599, 4097056271222707427]
 | 5, 0, 0 => [7731369362699709439, 15715243279753068493, 8024103747412143880, 9446254423162678478, 1014235932451953557]
 | 5, 1, 0 => [10013554654622449896, 10994731610079780420, 4196918242274216545, 12167027157639183057, 7214896319638224689]
 | 5, 1, 1 => [2670520778846679188, 16166903715112602144, 1340060228102700429, 12232139311703255206, 6661994157334703972]
 | _, _, _ => []
theorem wd23 {a d b : Nat} (h1 : 1 ≤ a) (ha : a ≤ 5) (hd : d ≤ 1) (hb : b < 2 ^ d) : ∀ k, k < a → (qQl a d b).getD k 0 = Wn.wordN (Tn.nat (Wd.seedOf (pW a d).dig b)) k := by
  have hb2 : d = 0 ∧ b = 0 ∨ d = 1 ∧ b = 0 ∨ d = 1 ∧ b = 1 := by
    rcases (show d = 0 ∨ d = 1 by omega) with rfl | rfl
    · have : b < 1 := hb
      omega
    · have : b < 2 := hb
      omega
  rcases (show a = 1 ∨ a = 2 ∨ a = 3 ∨ a = 4 ∨ a = 5 by omega) with rfl | rfl | rfl | rfl | rfl <;> rcases hb2 with ⟨rfl, rfl⟩ | ⟨rfl, rfl⟩ | ⟨rfl, rfl⟩
  exact qKs
  exact qKr
  exact qKq
  exact qKp
  exact qKo
  exact qKn
  exact qKm
  exact qKl
  exact qKk
  exact qKj
  exact qKi
  exact qKh
  exact qKg
  exact qKf
  exact qKe
def qBR (a d sl b : Nat) : List Int := Wn.swW (qQl a d b) a sl
theorem ok23 : ∀ a : Fin 6, ∀ d b : Fin 2, 1 ≤ a.val → b.val < 2 ^ d.val → Wn.okW (qQl a d b) a a = true := by decide +kernel
theorem qDI {a d sl : Nat} (ha : a ≤ 5) (hd : d ≤ 1) (h1 : 1 ≤ sl) (h2 : sl ≤ a) : qTN (pW a d).dig (2 ^ d) a sl (qBR a d sl) := fun b hb => by
 have hb2 : b < 2 := Nat.lt_of_lt_of_le hb (Nat.le_trans (Nat.pow_le_pow_right (by decide) hd) (by decide))
 have hok := ok23 ⟨a, by omega⟩ ⟨d, by omega⟩ ⟨b, hb2⟩ (by dsimp only; omega) hb
 obtain ⟨sl', rfl⟩ : ∃ k, sl = k + 1 := ⟨sl - 1, by omega⟩
 obtain ⟨y, h3, h4, _⟩ := Wn.wins_w (Wd.seedOf (pW a d).dig b) (Nat.le_trans (Nat.le_of_eq (Sha.tagged_length _ _)) (by decide)) a (by omega) (qQl a d b) (wd23 (by omega) ha hd hb) sl' (by omega) (Wn.okW_le (by omega) hok)
 exact ⟨y.2, by rw [h3]; exact congrArg some (Prod.ext h4 rfl)⟩
def qRD (a d sl b : Nat) : Bool := (qBR a d sl b).length == a && decide (((qBR a d sl b).take sl).Nodup) && ((qBR a d sl b).take sl).all fun x => decide (0 ≤ x) && decide (x < ((a : Nat) : Int))
theorem qLj : ∀ a : Fin 6, ∀ d b : Fin 2, ∀ sl : Fin 6, 1 ≤ sl.val → sl.val ≤ a.val → b.val < 2 ^ d.val → qRD a d sl b = true := by decide +kernel
theorem qJV {a d sl b : Nat} (ha : a ≤ 5) (hd : d ≤ 1) (h1 : 1 ≤ sl) (h2 : sl ≤ a) (hb : b < 2 ^ d) : (qBR a d sl b).length = a ∧ ((qBR a d sl b).take sl).Nodup ∧ ∀ i, i < sl → 0 ≤ (qBR a d sl b).getD i 0 ∧ (qBR a d sl b).getD i 0 < ((a : Nat) : Int) := by
 have hb2 : b < 2 := Nat.lt_of_lt_of_le hb (Nat.le_trans (Nat.pow_le_pow_right (by decide) hd) (by decide))
 have h := qLj ⟨a, by omega⟩ ⟨d, by omega⟩ ⟨b, hb2⟩ ⟨sl, by omega⟩ h1 h2 hb
 unfold qRD at h
 rw [Bool.and_eq_true, Bool.and_eq_true, decide_eq_true_eq, beq_iff_eq] at h
 obtain ⟨⟨h3, h4⟩, h5⟩ := h
 refine ⟨h3, h4, fun i hi => ?_⟩
 have hil : i < (qBR a d sl b).length := by rw [h3]; show i < a; omega
 have hm : (qBR a d sl b).getD i 0 ∈ (qBR a d sl b).take sl := by
  rw [List.getD_eq_getElem?_getD, List.getElem?_eq_getElem hil]
  exact List.mem_take_iff_getElem.2 ⟨i, by omega, rfl⟩
 have h6 := List.all_eq_true.1 h5 _ hm
 rw [Bool.and_eq_true, decide_eq_true_eq, decide_eq_true_eq] at h6
 exact h6
end Go.Proofs.YtfldiegfenndjaaGreatDoor
