/- A part of the proof. -/
import Derived.Test.YtfldiegfenndjaaGreatDoorTopCvG38
import Derived.Test.YtfldiegfenndjaaGreatDoorTopCvG22
set_option linter.unusedSimpArgs false
set_option linter.unusedVariables false
namespace Go.Proofs.YtfldiegfenndjaaGreatDoor
open Go Go.Fw Go.Proofs.Tryz
set_option maxRecDepth 100000
set_option maxHeartbeats 1000000
attribute [local irreducible] SN.tagN SN.walkN SN.chainsN SN.pubOfN SN.secretN Sha.tagged Hd.dig
namespace Xw1
def O : List UInt8 := [252, 194, 233, 63, 113, 188, 61, 255, 93, 88, 140, 237, 68, 91, 45, 194]
def ON : List Nat := [252, 194, 233, 63, 113, 188, 61, 255, 93, 88, 140, 237, 68, 91, 45, 194]
theorem qJQ : O.map UInt8.toNat = ON := by decide
theorem opn_lit : Wo.opn [97, 117, 100, 105, 116, 111, 114, 98] = O := by
 have h := SN.tagN_eq 3 [[97, 117, 100, 105, 116, 111, 114, 98]] (by decide)
 have e : SN.tagN 3 [[97, 117, 100, 105, 116, 111, 114, 98]] = ON := by decide +kernel
 exact SN.of_toNat (((show SN.tagN 3 [[97, 117, 100, 105, 116, 111, 114, 98]] = (Sha.tagged 3 [[97, 117, 100, 105, 116, 111, 114, 98]]).map UInt8.toNat from h).symm.trans e).trans (by decide))
theorem qEN (leaf i : Nat) (h : leaf < 18446744073709551616) : SN.secretN [97, 117, 100, 105, 116, 111, 114, 98] leaf i = (Wo.secret [97, 117, 100, 105, 116, 111, 114, 98] leaf i).map UInt8.toNat := SN.secretN_eq [97, 117, 100, 105, 116, 111, 114, 98] leaf i h (by decide)
def M : List UInt8 := [4, 173, 126, 169, 20, 69, 13, 142, 234, 13, 135, 24, 179, 21, 239, 248]
theorem M_lit : atM 1 0 1 (nW 4 0).dig = M := by
 have h : Tn.nat (atM 1 0 1 (nW 4 0).dig) = SN.tagN 18 [Tn.nat (plB 1 0 1), Tn.nat (nW 4 0).dig] := (SN.tagN_eq 18 [plB 1 0 1, (nW 4 0).dig] (by
  have h1 : (nW 4 0).dig.length = 16 := qAs (qB8 (by decide) (by decide))
  have h2 := qG0 1 0 1
  simp only [List.flatten_cons, List.flatten_nil, List.append_nil, List.length_append, List.length_cons, List.length_nil]; omega)).symm
 rw [qNa] at h
 exact SN.of_toNat (h.trans (show SN.tagN 18 [[0, 0, 0, 1, 0, 0, 1], [142, 143, 63, 182, 161, 44, 145, 104, 38, 118, 204, 33, 135, 96, 33, 83]] = M.map UInt8.toNat by decide +kernel))
def G1 : List UInt8 := [117, 141, 133, 250, 83, 16, 218, 153, 114, 230, 41, 135, 208, 56, 138, 180]
def G2 : List UInt8 := [82, 57, 133, 132, 116, 112, 157, 137, 7, 101, 248, 14, 220, 236, 55, 205]
theorem G1_lit : Sha.tagged 6 [[252, 194, 233, 63, 113, 188, 61, 255, 93, 88, 140, 237, 68, 91, 45, 194], [0, 0, 0, 0], [4, 173, 126, 169, 20, 69, 13, 142, 234, 13, 135, 24, 179, 21, 239, 248]] = [117, 141, 133, 250, 83, 16, 218, 153, 114, 230, 41, 135, 208, 56, 138, 180] := by
 have e : SN.tagN 6 [[252, 194, 233, 63, 113, 188, 61, 255, 93, 88, 140, 237, 68, 91, 45, 194], [0, 0, 0, 0], [4, 173, 126, 169, 20, 69, 13, 142, 234, 13, 135, 24, 179, 21, 239, 248]] = [117, 141, 133, 250, 83, 16, 218, 153, 114, 230, 41, 135, 208, 56, 138, 180] := by decide +kernel
 exact SN.of_toNat ((SN.tagN_eq 6 [[252, 194, 233, 63, 113, 188, 61, 255, 93, 88, 140, 237, 68, 91, 45, 194], [0, 0, 0, 0], [4, 173, 126, 169, 20, 69, 13, 142, 234, 13, 135, 24, 179, 21, 239, 248]] (by decide)).symm.trans (e.trans (by decide)))
def E1 : List Nat := [7, 5, 8, 13, 8, 5, 15, 10, 5, 3, 1, 0, 13, 10, 9, 9, 7, 2, 14, 6, 2, 9, 8, 7, 13, 0, 3, 8, 8, 10, 11, 4, 0, 15, 7]
theorem E1_lit : Wo.digs G1 = E1 := by decide +kernel
theorem G2_lit : Sha.tagged 6 [[252, 194, 233, 63, 113, 188, 61, 255, 93, 88, 140, 237, 68, 91, 45, 194], [0, 0, 0, 1], [4, 173, 126, 169, 20, 69, 13, 142, 234, 13, 135, 24, 179, 21, 239, 248]] = [82, 57, 133, 132, 116, 112, 157, 137, 7, 101, 248, 14, 220, 236, 55, 205] := by
 have e : SN.tagN 6 [[252, 194, 233, 63, 113, 188, 61, 255, 93, 88, 140, 237, 68, 91, 45, 194], [0, 0, 0, 1], [4, 173, 126, 169, 20, 69, 13, 142, 234, 13, 135, 24, 179, 21, 239, 248]] = [82, 57, 133, 132, 116, 112, 157, 137, 7, 101, 248, 14, 220, 236, 55, 205] := by decide +kernel
 exact SN.of_toNat ((SN.tagN_eq 6 [[252, 194, 233, 63, 113, 188, 61, 255, 93, 88, 140, 237, 68, 91, 45, 194], [0, 0, 0, 1], [4, 173, 126, 169, 20, 69, 13, 142, 234, 13, 135, 24, 179, 21, 239, 248]] (by decide)).symm.trans (e.trans (by decide)))
def E2 : List Nat := [5, 2, 3, 9, 8, 5, 8, 4, 7, 4, 7, 0, 9, 13, 8, 9, 0, 7, 6, 5, 15, 8, 0, 14, 13, 12, 14, 12, 3, 7, 12, 13, 0, 14, 14]
theorem E2_lit : Wo.digs G2 = E2 := by decide +kernel
def LX : List UInt8 := [137, 190, 239, 194, 173, 105, 138, 52, 116, 182, 161, 143, 22, 254, 14, 186]
theorem qN7 : SN.pubOfN ON 1 (SN.chainsN ON 1 (fun i => SN.walkN ON 0 i (E1.getD i 0) 0 (SN.secretN [97, 117, 100, 105, 116, 111, 114, 98] 0 i)) (fun i => E2.getD i 0) (fun i => 15 - E2.getD i 0) 35 0 []) = [137, 190, 239, 194, 173, 105, 138, 52, 116, 182, 161, 143, 22, 254, 14, 186] := by decide +kernel
theorem qHP : SN.chainsN ON 1 (fun i => SN.walkN ON 0 i (E1.getD i 0) 0 (SN.secretN [97, 117, 100, 105, 116, 111, 114, 98] 0 i)) (fun i => E2.getD i 0) (fun i => 15 - E2.getD i 0) 35 0 [] = (Wo.ends O 1 E2 (Wo.signs [97, 117, 100, 105, 116, 111, 114, 98] 0 E1 35) 35).map (List.map UInt8.toNat) := by
 have h1 : ∀ i, (Wo.walk O 0 i 0 (Wo.secret [97, 117, 100, 105, 116, 111, 114, 98] 0 i) (E1.getD i 0)).length ≤ 1048576 := fun i => Wo.walk_small _ _ _ _ _ (by rw [Wo.secret_length]; decide) _
 have h2 : ∀ i, SN.walkN ON 0 i (E1.getD i 0) 0 (SN.secretN [97, 117, 100, 105, 116, 111, 114, 98] 0 i) = (Wo.walk O 0 i 0 (Wo.secret [97, 117, 100, 105, 116, 111, 114, 98] 0 i) (E1.getD i 0)).map UInt8.toNat := fun i => by
  rw [qEN 0 i (by decide), ← qJQ]
  exact SN.walkN_eq O 0 i (by decide) (by decide) (E1.getD i 0) 0 (Wo.secret [97, 117, 100, 105, 116, 111, 114, 98] 0 i) (by rw [Wo.secret_length]; decide)
 have := SN.chainsN_eq O 1 (by decide) (by decide) (fun i => Wo.walk O 0 i 0 (Wo.secret [97, 117, 100, 105, 116, 111, 114, 98] 0 i) (E1.getD i 0)) h1 (fun i => SN.walkN ON 0 i (E1.getD i 0) 0 (SN.secretN [97, 117, 100, 105, 116, 111, 114, 98] 0 i)) h2 (fun i => E2.getD i 0) (fun i => 15 - E2.getD i 0) 35 0 []
 rw [qJQ, List.nil_append, ← List.range_eq_range'] at this
 have e : Wo.ends O 1 E2 (Wo.signs [97, 117, 100, 105, 116, 111, 114, 98] 0 E1 35) 35 = (List.range 35).map fun i => Wo.walk O 1 i (E2.getD i 0) (Wo.walk O 0 i 0 (Wo.secret [97, 117, 100, 105, 116, 111, 114, 98] 0 i) (E1.getD i 0)) (15 - E2.getD i 0) := by
  unfold Wo.ends
  apply List.map_congr_left
  intro i hi
  rw [List.mem_range] at hi
  rw [Wo.signs_get _ _ _ _ _ hi, opn_lit]
 rw [e]
 exact this
theorem LX_lit : Wo.publicOf O 1 (Wo.ends O 1 E2 (Wo.signs [97, 117, 100, 105, 116, 111, 114, 98] 0 E1 35) 35) = LX := by
 have h2 := Mk.flat_small (w := 1048576) (Wo.ends_small O 1 E2 (Wo.signs [97, 117, 100, 105, 116, 111, 114, 98] 0 E1 35) 35 (fun s hs => Nat.le_of_eq (Wo.signs_16 _ _ _ _ s hs)))
 rw [Wo.ends_length] at h2
 have := SN.pubOfN_eq O 1 (by decide) (Wo.ends O 1 E2 (Wo.signs [97, 117, 100, 105, 116, 111, 114, 98] 0 E1 35) 35) (by rw [Wo.ends_length]; show 16 + _ + _ < _; omega)
 rw [← qHP, qJQ] at this
 exact SN.of_toNat ((this.symm.trans qN7).trans (by decide))
theorem lv_lit : Xm.leaves [97, 117, 100, 105, 116, 111, 114, 98] 4 = [[4, 48, 214, 253, 150, 8, 107, 224, 242, 74, 125, 178, 104, 78, 45, 89], [181, 103, 124, 109, 204, 137, 245, 219, 91, 20, 4, 13, 32, 168, 103, 207], [235, 233, 220, 176, 229, 253, 9, 44, 130, 126, 235, 213, 232, 222, 94, 9], [125, 204, 114, 40, 58, 53, 49, 141, 222, 80, 123, 192, 3, 168, 24, 249]] := qHG (qGQ.trans (by decide))
theorem n23_lit : Sha.tagged 5 [[235, 233, 220, 176, 229, 253, 9, 44, 130, 126, 235, 213, 232, 222, 94, 9], [125, 204, 114, 40, 58, 53, 49, 141, 222, 80, 123, 192, 3, 168, 24, 249]] = [60, 137, 152, 186, 203, 182, 99, 177, 63, 116, 94, 13, 68, 72, 156, 163] := by
 have e : SN.tagN 5 [[235, 233, 220, 176, 229, 253, 9, 44, 130, 126, 235, 213, 232, 222, 94, 9], [125, 204, 114, 40, 58, 53, 49, 141, 222, 80, 123, 192, 3, 168, 24, 249]] = [60, 137, 152, 186, 203, 182, 99, 177, 63, 116, 94, 13, 68, 72, 156, 163] := by decide +kernel
 exact SN.of_toNat ((SN.tagN_eq 5 [[235, 233, 220, 176, 229, 253, 9, 44, 130, 126, 235, 213, 232, 222, 94, 9], [125, 204, 114, 40, 58, 53, 49, 141, 222, 80, 123, 192, 3, 168, 24, 249]] (by decide)).symm.trans (e.trans (by decide)))
theorem nx_lit : Sha.tagged 5 [[181, 103, 124, 109, 204, 137, 245, 219, 91, 20, 4, 13, 32, 168, 103, 207], [137, 190, 239, 194, 173, 105, 138, 52, 116, 182, 161, 143, 22, 254, 14, 186]] = [199, 228, 241, 38, 218, 122, 217, 73, 81, 224, 236, 144, 241, 18, 123, 244] := by
 have e : SN.tagN 5 [[181, 103, 124, 109, 204, 137, 245, 219, 91, 20, 4, 13, 32, 168, 103, 207], [137, 190, 239, 194, 173, 105, 138, 52, 116, 182, 161, 143, 22, 254, 14, 186]] = [199, 228, 241, 38, 218, 122, 217, 73, 81, 224, 236, 144, 241, 18, 123, 244] := by decide +kernel
 exact SN.of_toNat ((SN.tagN_eq 5 [[181, 103, 124, 109, 204, 137, 245, 219, 91, 20, 4, 13, 32, 168, 103, 207], [137, 190, 239, 194, 173, 105, 138, 52, 116, 182, 161, 143, 22, 254, 14, 186]] (by decide)).symm.trans (e.trans (by decide)))
theorem bad_lit : Sha.tagged 5 [[199, 228, 241, 38, 218, 122, 217, 73, 81, 224, 236, 144, 241, 18, 123, 244], [60, 137, 152, 186, 203, 182, 99, 177, 63, 116, 94, 13, 68, 72, 156, 163]] = [168, 97, 235, 206, 207, 206, 98, 108, 181, 244, 6, 33, 216, 252, 126, 160] := by
 have e : SN.tagN 5 [[199, 228, 241, 38, 218, 122, 217, 73, 81, 224, 236, 144, 241, 18, 123, 244], [60, 137, 152, 186, 203, 182, 99, 177, 63, 116, 94, 13, 68, 72, 156, 163]] = [168, 97, 235, 206, 207, 206, 98, 108, 181, 244, 6, 33, 216, 252, 126, 160] := by decide +kernel
 exact SN.of_toNat ((SN.tagN_eq 5 [[199, 228, 241, 38, 218, 122, 217, 73, 81, 224, 236, 144, 241, 18, 123, 244], [60, 137, 152, 186, 203, 182, 99, 177, 63, 116, 94, 13, 68, 72, 156, 163]] (by decide)).symm.trans (e.trans (by decide)))
theorem path4 (a b c d : List UInt8) : Mk.path [a, b, c, d] 0 2 = [b, Sha.tagged 5 [c, d]] := by simp [Mk.path, Mk.lvl, Mk.above, Mk.node, List.range_succ]
theorem climb4 (x a b : List UInt8) : Mk.climb x 1 [a, b] = Sha.tagged 5 [Sha.tagged 5 [a, x], b] := rfl
end Xw1
theorem qQ5 : ¬ Mk.climb (Wo.publicOf (Wo.opn (qAG 1)) 1 (Wo.ends (Wo.opn (qAG 1)) 1 (Wo.digs (Xm.digest (Wo.opn (qAG 1)) 1 (atM 1 0 1 (nW 4 0).dig))) (sgC (qAG 1) 0 (atM 1 0 1 (nW 4 0).dig)) 35)) 1 (sgP (qAG 1) 2 0) = Xm.root (qAG 1) 2 := by
 have hs : qAG 1 = [97, 117, 100, 105, 116, 111, 114, 98] := rfl
 have h1 : Xm.digest Xw1.O 0 Xw1.M = Xw1.G1 := Xw1.G1_lit
 have h2 : Xm.digest Xw1.O 1 Xw1.M = Xw1.G2 := Xw1.G2_lit
 have hr : Xm.root [97, 117, 100, 105, 116, 111, 114, 98] 2 = [101, 12, 161, 181, 223, 198, 74, 60, 112, 220, 105, 68, 168, 64, 74, 68] := SN.of_toNat (qD3.trans (by decide))
 unfold sgC sgP
 rw [hs, hr, Xw1.opn_lit, Xw1.M_lit, h1, h2, Xw1.E1_lit, Xw1.E2_lit, Xw1.LX_lit, show Xm.leaves [97, 117, 100, 105, 116, 111, 114, 98] (2 ^ 2) = Xm.leaves [97, 117, 100, 105, 116, 111, 114, 98] 4 from rfl, Xw1.lv_lit, Xw1.path4, Xw1.climb4, Xw1.n23_lit]
 rw [show Sha.tagged 5 [[181, 103, 124, 109, 204, 137, 245, 219, 91, 20, 4, 13, 32, 168, 103, 207], Xw1.LX] = [199, 228, 241, 38, 218, 122, 217, 73, 81, 224, 236, 144, 241, 18, 123, 244] from Xw1.nx_lit, Xw1.bad_lit]
 decide
theorem qRs : Sha.tagged 16 [[111, 116, 104, 101, 114], Wo.opn (qAG 1) ++ Xm.root (qAG 1) 2 ++ [2]] ≠ qBB 1 := fun e => by
 have hv : Tn.nat (qBB 1) = [87, 177, 97, 52, 61, 74, 170, 120, 191, 124, 176, 213, 59, 31, 0, 126] := congrArg Prod.snd qD5
 have h1 : (Wo.opn (qAG 1)).length = 16 := Wo.opn_length _
 have h3 := qBh (i := 1) (by decide)
 have h := SN.tagN_eq 16 [[111, 116, 104, 101, 114], Wo.opn (qAG 1) ++ Xm.root (qAG 1) 2 ++ [2]] (by
  simp only [List.flatten_cons, List.flatten_nil, List.append_nil, List.length_append, List.length_cons, List.length_nil, h1, h3]
  decide)
 have e2 : (Wo.opn (qAG 1) ++ Xm.root (qAG 1) 2 ++ [2]).map UInt8.toNat = SN.tagN 3 [(qAG 1).map UInt8.toNat] ++ [101, 12, 161, 181, 223, 198, 74, 60, 112, 220, 105, 68, 168, 64, 74, 68] ++ [2] := by
  rw [List.map_append, List.map_append, qDi _ (by decide)]
  exact congrArg (fun z => SN.tagN 3 [(qAG 1).map UInt8.toNat] ++ z ++ [2]) qD3
 have e3 : SN.tagN 16 [[111, 116, 104, 101, 114], SN.tagN 3 [(qAG 1).map UInt8.toNat] ++ [101, 12, 161, 181, 223, 198, 74, 60, 112, 220, 105, 68, 168, 64, 74, 68] ++ [2]] ≠ [87, 177, 97, 52, 61, 74, 170, 120, 191, 124, 176, 213, 59, 31, 0, 126] := by decide +kernel
 refine e3 ?_
 rw [← e2, ← hv, ← e]
 exact h
end Go.Proofs.YtfldiegfenndjaaGreatDoor
