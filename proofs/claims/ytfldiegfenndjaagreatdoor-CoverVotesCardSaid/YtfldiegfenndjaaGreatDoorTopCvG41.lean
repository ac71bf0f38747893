/- A part of the proof. -/
import Derived.Test.YtfldiegfenndjaaGreatDoorTopCvG38
import Derived.Test.YtfldiegfenndjaaGreatDoorTopCvG22
set_option linter.unusedSimpArgs false
set_option linter.unusedVariables false
namespace Go.Proofs.YtfldiegfenndjaaGreatDoor
open Go Go.Fw Go.Proofs.Tryz
set_option maxRecDepth 100000
set_option maxHeartbeats 1000000
attribute [local irreducible] SN.tagN SN.walkN SN.chainsN SN.pubOfN SN.secretN Sha.tagged Hd.dig
namespace Xw2
def O : List UInt8 := [2, 5, 218, 247, 242, 253, 235, 199, 25, 150, 135, 101, 117, 32, 229, 92]
def ON : List Nat := [2, 5, 218, 247, 242, 253, 235, 199, 25, 150, 135, 101, 117, 32, 229, 92]
theorem qJQ : O.map UInt8.toNat = ON := by decide
theorem opn_lit : Wo.opn [97, 117, 100, 105, 116, 111, 114, 99] = O := by
 have h := SN.tagN_eq 3 [[97, 117, 100, 105, 116, 111, 114, 99]] (by decide)
 have e : SN.tagN 3 [[97, 117, 100, 105, 116, 111, 114, 99]] = ON := by decide +kernel
 exact SN.of_toNat (((show SN.tagN 3 [[97, 117, 100, 105, 116, 111, 114, 99]] = (Sha.tagged 3 [[97, 117, 100, 105, 116, 111, 114, 99]]).map UInt8.toNat from h).symm.trans e).trans (by decide))
theorem qEN (leaf i : Nat) (h : leaf < 18446744073709551616) : SN.secretN [97, 117, 100, 105, 116, 111, 114, 99] leaf i = (Wo.secret [97, 117, 100, 105, 116, 111, 114, 99] leaf i).map UInt8.toNat := SN.secretN_eq [97, 117, 100, 105, 116, 111, 114, 99] leaf i h (by decide)
def M : List UInt8 := [176, 4, 16, 176, 167, 107, 25, 111, 22, 167, 119, 188, 125, 200, 111, 217]
theorem M_lit : atM 1 0 2 (nW 4 0).dig = M := by
 have h : Tn.nat (atM 1 0 2 (nW 4 0).dig) = SN.tagN 18 [Tn.nat (plB 1 0 2), Tn.nat (nW 4 0).dig] := (SN.tagN_eq 18 [plB 1 0 2, (nW 4 0).dig] (by
  have h1 : (nW 4 0).dig.length = 16 := qAs (qB8 (by decide) (by decide))
  have h2 := qG0 1 0 2
  simp only [List.flatten_cons, List.flatten_nil, List.append_nil, List.length_append, List.length_cons, List.length_nil]; omega)).symm
 rw [qNa] at h
 exact SN.of_toNat (h.trans (show SN.tagN 18 [[0, 0, 0, 1, 0, 0, 2], [142, 143, 63, 182, 161, 44, 145, 104, 38, 118, 204, 33, 135, 96, 33, 83]] = M.map UInt8.toNat by decide +kernel))
def G1 : List UInt8 := [218, 157, 77, 103, 18, 184, 166, 127, 240, 234, 207, 215, 138, 129, 185, 200]
def G2 : List UInt8 := [31, 20, 21, 63, 173, 236, 142, 124, 60, 36, 208, 43, 188, 52, 38, 181]
theorem G1_lit : Sha.tagged 6 [[2, 5, 218, 247, 242, 253, 235, 199, 25, 150, 135, 101, 117, 32, 229, 92], [0, 0, 0, 0], [176, 4, 16, 176, 167, 107, 25, 111, 22, 167, 119, 188, 125, 200, 111, 217]] = [218, 157, 77, 103, 18, 184, 166, 127, 240, 234, 207, 215, 138, 129, 185, 200] := by
 have e : SN.tagN 6 [[2, 5, 218, 247, 242, 253, 235, 199, 25, 150, 135, 101, 117, 32, 229, 92], [0, 0, 0, 0], [176, 4, 16, 176, 167, 107, 25, 111, 22, 167, 119, 188, 125, 200, 111, 217]] = [218, 157, 77, 103, 18, 184, 166, 127, 240, 234, 207, 215, 138, 129, 185, 200] := by decide +kernel
 exact SN.of_toNat ((SN.tagN_eq 6 [[2, 5, 218, 247, 242, 253, 235, 199, 25, 150, 135, 101, 117, 32, 229, 92], [0, 0, 0, 0], [176, 4, 16, 176, 167, 107, 25, 111, 22, 167, 119, 188, 125, 200, 111, 217]] (by decide)).symm.trans (e.trans (by decide)))
def E1 : List Nat := [13, 10, 9, 13, 4, 13, 6, 7, 1, 2, 11, 8, 10, 6, 7, 15, 15, 0, 14, 10, 12, 15, 13, 7, 8, 10, 8, 1, 11, 9, 12, 8, 0, 12, 0]
theorem E1_lit : Wo.digs G1 = E1 := by decide +kernel
theorem G2_lit : Sha.tagged 6 [[2, 5, 218, 247, 242, 253, 235, 199, 25, 150, 135, 101, 117, 32, 229, 92], [0, 0, 0, 1], [176, 4, 16, 176, 167, 107, 25, 111, 22, 167, 119, 188, 125, 200, 111, 217]] = [31, 20, 21, 63, 173, 236, 142, 124, 60, 36, 208, 43, 188, 52, 38, 181] := by
 have e : SN.tagN 6 [[2, 5, 218, 247, 242, 253, 235, 199, 25, 150, 135, 101, 117, 32, 229, 92], [0, 0, 0, 1], [176, 4, 16, 176, 167, 107, 25, 111, 22, 167, 119, 188, 125, 200, 111, 217]] = [31, 20, 21, 63, 173, 236, 142, 124, 60, 36, 208, 43, 188, 52, 38, 181] := by decide +kernel
 exact SN.of_toNat ((SN.tagN_eq 6 [[2, 5, 218, 247, 242, 253, 235, 199, 25, 150, 135, 101, 117, 32, 229, 92], [0, 0, 0, 1], [176, 4, 16, 176, 167, 107, 25, 111, 22, 167, 119, 188, 125, 200, 111, 217]] (by decide)).symm.trans (e.trans (by decide)))
def E2 : List Nat := [1, 15, 1, 4, 1, 5, 3, 15, 10, 13, 14, 12, 8, 14, 7, 12, 3, 12, 2, 4, 13, 0, 2, 11, 11, 12, 3, 4, 2, 6, 11, 5, 0, 15, 4]
theorem E2_lit : Wo.digs G2 = E2 := by decide +kernel
def LX : List UInt8 := [85, 219, 119, 214, 186, 52, 244, 89, 108, 249, 118, 236, 170, 36, 119, 119]
theorem qN7 : SN.pubOfN ON 1 (SN.chainsN ON 1 (fun i => SN.walkN ON 0 i (E1.getD i 0) 0 (SN.secretN [97, 117, 100, 105, 116, 111, 114, 99] 0 i)) (fun i => E2.getD i 0) (fun i => 15 - E2.getD i 0) 35 0 []) = [85, 219, 119, 214, 186, 52, 244, 89, 108, 249, 118, 236, 170, 36, 119, 119] := by decide +kernel
theorem qHP : SN.chainsN ON 1 (fun i => SN.walkN ON 0 i (E1.getD i 0) 0 (SN.secretN [97, 117, 100, 105, 116, 111, 114, 99] 0 i)) (fun i => E2.getD i 0) (fun i => 15 - E2.getD i 0) 35 0 [] = (Wo.ends O 1 E2 (Wo.signs [97, 117, 100, 105, 116, 111, 114, 99] 0 E1 35) 35).map (List.map UInt8.toNat) := by
 have h1 : ∀ i, (Wo.walk O 0 i 0 (Wo.secret [97, 117, 100, 105, 116, 111, 114, 99] 0 i) (E1.getD i 0)).length ≤ 1048576 := fun i => Wo.walk_small _ _ _ _ _ (by rw [Wo.secret_length]; decide) _
 have h2 : ∀ i, SN.walkN ON 0 i (E1.getD i 0) 0 (SN.secretN [97, 117, 100, 105, 116, 111, 114, 99] 0 i) = (Wo.walk O 0 i 0 (Wo.secret [97, 117, 100, 105, 116, 111, 114, 99] 0 i) (E1.getD i 0)).map UInt8.toNat := fun i => by
  rw [qEN 0 i (by decide), ← qJQ]
  exact SN.walkN_eq O 0 i (by decide) (by decide) (E1.getD i 0) 0 (Wo.secret [97, 117, 100, 105, 116, 111, 114, 99] 0 i) (by rw [Wo.secret_length]; decide)
 have := SN.chainsN_eq O 1 (by decide) (by decide) (fun i => Wo.walk O 0 i 0 (Wo.secret [97, 117, 100, 105, 116, 111, 114, 99] 0 i) (E1.getD i 0)) h1 (fun i => SN.walkN ON 0 i (E1.getD i 0) 0 (SN.secretN [97, 117, 100, 105, 116, 111, 114, 99] 0 i)) h2 (fun i => E2.getD i 0) (fun i => 15 - E2.getD i 0) 35 0 []
 rw [qJQ, List.nil_append, ← List.range_eq_range'] at this
 have e : Wo.ends O 1 E2 (Wo.signs [97, 117, 100, 105, 116, 111, 114, 99] 0 E1 35) 35 = (List.range 35).map fun i => Wo.walk O 1 i (E2.getD i 0) (Wo.walk O 0 i 0 (Wo.secret [97, 117, 100, 105, 116, 111, 114, 99] 0 i) (E1.getD i 0)) (15 - E2.getD i 0) := by
  unfold Wo.ends
  apply List.map_congr_left
  intro i hi
  rw [List.mem_range] at hi
  rw [Wo.signs_get _ _ _ _ _ hi, opn_lit]
 rw [e]
 exact this
theorem LX_lit : Wo.publicOf O 1 (Wo.ends O 1 E2 (Wo.signs [97, 117, 100, 105, 116, 111, 114, 99] 0 E1 35) 35) = LX := by
 have h2 := Mk.flat_small (w := 1048576) (Wo.ends_small O 1 E2 (Wo.signs [97, 117, 100, 105, 116, 111, 114, 99] 0 E1 35) 35 (fun s hs => Nat.le_of_eq (Wo.signs_16 _ _ _ _ s hs)))
 rw [Wo.ends_length] at h2
 have := SN.pubOfN_eq O 1 (by decide) (Wo.ends O 1 E2 (Wo.signs [97, 117, 100, 105, 116, 111, 114, 99] 0 E1 35) 35) (by rw [Wo.ends_length]; show 16 + _ + _ < _; omega)
 rw [← qHP, qJQ] at this
 exact SN.of_toNat ((this.symm.trans qN7).trans (by decide))
theorem lv_lit : Xm.leaves [97, 117, 100, 105, 116, 111, 114, 99] 4 = [[2, 45, 57, 30, 201, 111, 61, 146, 173, 198, 83, 130, 3, 77, 41, 86], [83, 5, 230, 27, 232, 63, 134, 247, 227, 242, 193, 29, 117, 61, 159, 141], [52, 28, 142, 41, 175, 164, 164, 183, 55, 52, 143, 43, 168, 202, 32, 241], [221, 7, 194, 248, 148, 204, 187, 159, 23, 180, 89, 107, 186, 193, 136, 235]] := qHG (qGP.trans (by decide))
theorem n23_lit : Sha.tagged 5 [[52, 28, 142, 41, 175, 164, 164, 183, 55, 52, 143, 43, 168, 202, 32, 241], [221, 7, 194, 248, 148, 204, 187, 159, 23, 180, 89, 107, 186, 193, 136, 235]] = [22, 162, 241, 176, 116, 185, 36, 227, 209, 111, 182, 166, 134, 53, 54, 119] := by
 have e : SN.tagN 5 [[52, 28, 142, 41, 175, 164, 164, 183, 55, 52, 143, 43, 168, 202, 32, 241], [221, 7, 194, 248, 148, 204, 187, 159, 23, 180, 89, 107, 186, 193, 136, 235]] = [22, 162, 241, 176, 116, 185, 36, 227, 209, 111, 182, 166, 134, 53, 54, 119] := by decide +kernel
 exact SN.of_toNat ((SN.tagN_eq 5 [[52, 28, 142, 41, 175, 164, 164, 183, 55, 52, 143, 43, 168, 202, 32, 241], [221, 7, 194, 248, 148, 204, 187, 159, 23, 180, 89, 107, 186, 193, 136, 235]] (by decide)).symm.trans (e.trans (by decide)))
theorem nx_lit : Sha.tagged 5 [[83, 5, 230, 27, 232, 63, 134, 247, 227, 242, 193, 29, 117, 61, 159, 141], [85, 219, 119, 214, 186, 52, 244, 89, 108, 249, 118, 236, 170, 36, 119, 119]] = [63, 199, 238, 43, 50, 20, 95, 29, 114, 92, 246, 125, 242, 97, 82, 163] := by
 have e : SN.tagN 5 [[83, 5, 230, 27, 232, 63, 134, 247, 227, 242, 193, 29, 117, 61, 159, 141], [85, 219, 119, 214, 186, 52, 244, 89, 108, 249, 118, 236, 170, 36, 119, 119]] = [63, 199, 238, 43, 50, 20, 95, 29, 114, 92, 246, 125, 242, 97, 82, 163] := by decide +kernel
 exact SN.of_toNat ((SN.tagN_eq 5 [[83, 5, 230, 27, 232, 63, 134, 247, 227, 242, 193, 29, 117, 61, 159, 141], [85, 219, 119, 214, 186, 52, 244, 89, 108, 249, 118, 236, 170, 36, 119, 119]] (by decide)).symm.trans (e.trans (by decide)))
theorem bad_lit : Sha.tagged 5 [[63, 199, 238, 43, 50, 20, 95, 29, 114, 92, 246, 125, 242, 97, 82, 163], [22, 162, 241, 176, 116, 185, 36, 227, 209, 111, 182, 166, 134, 53, 54, 119]] = [241, 131, 76, 109, 155, 146, 14, 251, 141, 138, 233, 164, 223, 106, 182, 190] := by
 have e : SN.tagN 5 [[63, 199, 238, 43, 50, 20, 95, 29, 114, 92, 246, 125, 242, 97, 82, 163], [22, 162, 241, 176, 116, 185, 36, 227, 209, 111, 182, 166, 134, 53, 54, 119]] = [241, 131, 76, 109, 155, 146, 14, 251, 141, 138, 233, 164, 223, 106, 182, 190] := by decide +kernel
 exact SN.of_toNat ((SN.tagN_eq 5 [[63, 199, 238, 43, 50, 20, 95, 29, 114, 92, 246, 125, 242, 97, 82, 163], [22, 162, 241, 176, 116, 185, 36, 227, 209, 111, 182, 166, 134, 53, 54, 119]] (by decide)).symm.trans (e.trans (by decide)))
theorem path4 (a b c d : List UInt8) : Mk.path [a, b, c, d] 0 2 = [b, Sha.tagged 5 [c, d]] := by simp [Mk.path, Mk.lvl, Mk.above, Mk.node, List.range_succ]
theorem climb4 (x a b : List UInt8) : Mk.climb x 1 [a, b] = Sha.tagged 5 [Sha.tagged 5 [a, x], b] := rfl
end Xw2
theorem qQ4 : ¬ Mk.climb (Wo.publicOf (Wo.opn (qAG 2)) 1 (Wo.ends (Wo.opn (qAG 2)) 1 (Wo.digs (Xm.digest (Wo.opn (qAG 2)) 1 (atM 1 0 2 (nW 4 0).dig))) (sgC (qAG 2) 0 (atM 1 0 2 (nW 4 0).dig)) 35)) 1 (sgP (qAG 2) 2 0) = Xm.root (qAG 2) 2 := by
 have hs : qAG 2 = [97, 117, 100, 105, 116, 111, 114, 99] := rfl
 have h1 : Xm.digest Xw2.O 0 Xw2.M = Xw2.G1 := Xw2.G1_lit
 have h2 : Xm.digest Xw2.O 1 Xw2.M = Xw2.G2 := Xw2.G2_lit
 have hr : Xm.root [97, 117, 100, 105, 116, 111, 114, 99] 2 = [146, 83, 211, 224, 30, 128, 154, 79, 165, 236, 208, 225, 73, 13, 246, 50] := SN.of_toNat (qD2.trans (by decide))
 unfold sgC sgP
 rw [hs, hr, Xw2.opn_lit, Xw2.M_lit, h1, h2, Xw2.E1_lit, Xw2.E2_lit, Xw2.LX_lit, show Xm.leaves [97, 117, 100, 105, 116, 111, 114, 99] (2 ^ 2) = Xm.leaves [97, 117, 100, 105, 116, 111, 114, 99] 4 from rfl, Xw2.lv_lit, Xw2.path4, Xw2.climb4, Xw2.n23_lit]
 rw [show Sha.tagged 5 [[83, 5, 230, 27, 232, 63, 134, 247, 227, 242, 193, 29, 117, 61, 159, 141], Xw2.LX] = [63, 199, 238, 43, 50, 20, 95, 29, 114, 92, 246, 125, 242, 97, 82, 163] from Xw2.nx_lit, Xw2.bad_lit]
 decide
theorem qRr : Sha.tagged 16 [[111, 116, 104, 101, 114], Wo.opn (qAG 2) ++ Xm.root (qAG 2) 2 ++ [2]] ≠ qBB 2 := fun e => by
 have hv : Tn.nat (qBB 2) = [211, 171, 142, 237, 106, 8, 105, 31, 51, 110, 5, 136, 202, 130, 194, 228] := congrArg Prod.snd qEu
 have h1 : (Wo.opn (qAG 2)).length = 16 := Wo.opn_length _
 have h3 := qBh (i := 2) (by decide)
 have h := SN.tagN_eq 16 [[111, 116, 104, 101, 114], Wo.opn (qAG 2) ++ Xm.root (qAG 2) 2 ++ [2]] (by
  simp only [List.flatten_cons, List.flatten_nil, List.append_nil, List.length_append, List.length_cons, List.length_nil, h1, h3]
  decide)
 have e2 : (Wo.opn (qAG 2) ++ Xm.root (qAG 2) 2 ++ [2]).map UInt8.toNat = SN.tagN 3 [(qAG 2).map UInt8.toNat] ++ [146, 83, 211, 224, 30, 128, 154, 79, 165, 236, 208, 225, 73, 13, 246, 50] ++ [2] := by
  rw [List.map_append, List.map_append, qDi _ (by decide)]
  exact congrArg (fun z => SN.tagN 3 [(qAG 2).map UInt8.toNat] ++ z ++ [2]) qD2
 have e3 : SN.tagN 16 [[111, 116, 104, 101, 114], SN.tagN 3 [(qAG 2).map UInt8.toNat] ++ [146, 83, 211, 224, 30, 128, 154, 79, 165, 236, 208, 225, 73, 13, 246, 50] ++ [2]] ≠ [211, 171, 142, 237, 106, 8, 105, 31, 51, 110, 5, 136, 202, 130, 194, 228] := by decide +kernel
 refine e3 ?_
 rw [← e2, ← hv, ← e]
 exact h
end Go.Proofs.YtfldiegfenndjaaGreatDoor
