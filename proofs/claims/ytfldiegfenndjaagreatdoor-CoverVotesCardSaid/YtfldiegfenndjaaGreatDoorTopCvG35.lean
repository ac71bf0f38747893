/- A part of the proof. -/
import Derived.Test.YtfldiegfenndjaaGreatDoorTopCvG33
import Derived.Test.YtfldiegfenndjaaGreatDoorTopCvG34
set_option linter.unusedSimpArgs false
set_option linter.unusedVariables false
namespace Go.Proofs.YtfldiegfenndjaaGreatDoor
set_option maxRecDepth 100000
set_option maxHeartbeats 1000000
attribute [local irreducible] SN.tagN Sha.tagged Xm.root Wo.opn Sm.nd
def qAG (i : Nat) : List UInt8 := [97, 117, 100, 105, 116, 111, 114, UInt8.ofNat (97 + i)]
def qBO (i : Nat) : List UInt8 := Sha.tagged 15 [[0, UInt8.ofNat i]]
def qBB (i : Nat) : List UInt8 := Sha.tagged 16 [[120, UInt8.ofNat (97 + i)], Wo.opn (qAG i) ++ Xm.root (qAG i) 2 ++ [2]]
def qAB (a : Nat) : List Sm.PR := (List.range a).map fun i => (qBO i, qBB i)
theorem qDi (s : List UInt8) (h : s.length ≤ 1000) : (Wo.opn s).map UInt8.toNat = SN.tagN 3 [s.map UInt8.toNat] := by
 unfold Wo.opn
 exact (SN.tagN_eq 3 [s] (by simp only [List.flatten_cons, List.flatten_nil, List.append_nil, List.length_cons, List.length_nil]; omega)).symm
theorem qD6 : Tn.natP (qBO 0, qBB 0) = ([105, 72, 128, 237, 61, 5, 50, 182, 223, 75, 24, 94, 147, 245, 19, 39], [81, 101, 123, 141, 114, 225, 175, 9, 201, 238, 186, 21, 217, 190, 45, 19]) := by
 have hk : (qBO 0).map UInt8.toNat = [105, 72, 128, 237, 61, 5, 50, 182, 223, 75, 24, 94, 147, 245, 19, 39] := by
  rw [show (qBO 0).map UInt8.toNat = SN.tagN 15 [[0, 0]] from (SN.tagN_eq 15 [[0, UInt8.ofNat 0]] (by decide)).symm]
  decide +kernel
 have hv : (qBB 0).map UInt8.toNat = [81, 101, 123, 141, 114, 225, 175, 9, 201, 238, 186, 21, 217, 190, 45, 19] := by
  have h := SN.tagN_eq 16 [[120, UInt8.ofNat (97 + 0)], Wo.opn (qAG 0) ++ Xm.root (qAG 0) 2 ++ [2]] (by
   have h1 : (Wo.opn (qAG 0)).length = 16 := Wo.opn_length _
   have h2 := congrArg List.length qGv
   rw [List.length_map] at h2
   have h3 : (Xm.root (qAG 0) 2).length = 16 := h2
   simp only [List.flatten_cons, List.flatten_nil, List.append_nil, List.length_append, List.length_cons, List.length_nil, h1, h3]
   decide)
  unfold qBB
  rw [← h]
  have e : (Wo.opn (qAG 0) ++ Xm.root (qAG 0) 2 ++ [2]).map UInt8.toNat = SN.tagN 3 [(qAG 0).map UInt8.toNat] ++ [22, 164, 247, 0, 48, 253, 180, 71, 220, 85, 164, 252, 188, 160, 204, 90] ++ [2] := by
   rw [List.map_append, List.map_append, qDi _ (by decide)]
   exact congrArg (fun z => SN.tagN 3 [(qAG 0).map UInt8.toNat] ++ z ++ [2]) qGv
  show SN.tagN 16 [[120, UInt8.ofNat (97 + 0)].map UInt8.toNat, (Wo.opn (qAG 0) ++ Xm.root (qAG 0) 2 ++ [2]).map UInt8.toNat] = _
  rw [e]
  decide +kernel
 exact Prod.ext hk hv
theorem qD5 : Tn.natP (qBO 1, qBB 1) = ([88, 245, 185, 155, 41, 107, 180, 138, 125, 166, 83, 171, 115, 216, 18, 165], [87, 177, 97, 52, 61, 74, 170, 120, 191, 124, 176, 213, 59, 31, 0, 126]) := by
 have hk : (qBO 1).map UInt8.toNat = [88, 245, 185, 155, 41, 107, 180, 138, 125, 166, 83, 171, 115, 216, 18, 165] := by
  rw [show (qBO 1).map UInt8.toNat = SN.tagN 15 [[0, 1]] from (SN.tagN_eq 15 [[0, UInt8.ofNat 1]] (by decide)).symm]
  decide +kernel
 have hv : (qBB 1).map UInt8.toNat = [87, 177, 97, 52, 61, 74, 170, 120, 191, 124, 176, 213, 59, 31, 0, 126] := by
  have h := SN.tagN_eq 16 [[120, UInt8.ofNat (97 + 1)], Wo.opn (qAG 1) ++ Xm.root (qAG 1) 2 ++ [2]] (by
   have h1 : (Wo.opn (qAG 1)).length = 16 := Wo.opn_length _
   have h2 := congrArg List.length qD3
   rw [List.length_map] at h2
   have h3 : (Xm.root (qAG 1) 2).length = 16 := h2
   simp only [List.flatten_cons, List.flatten_nil, List.append_nil, List.length_append, List.length_cons, List.length_nil, h1, h3]
   decide)
  unfold qBB
  rw [← h]
  have e : (Wo.opn (qAG 1) ++ Xm.root (qAG 1) 2 ++ [2]).map UInt8.toNat = SN.tagN 3 [(qAG 1).map UInt8.toNat] ++ [101, 12, 161, 181, 223, 198, 74, 60, 112, 220, 105, 68, 168, 64, 74, 68] ++ [2] := by
   rw [List.map_append, List.map_append, qDi _ (by decide)]
   exact congrArg (fun z => SN.tagN 3 [(qAG 1).map UInt8.toNat] ++ z ++ [2]) qD3
  show SN.tagN 16 [[120, UInt8.ofNat (97 + 1)].map UInt8.toNat, (Wo.opn (qAG 1) ++ Xm.root (qAG 1) 2 ++ [2]).map UInt8.toNat] = _
  rw [e]
  decide +kernel
 exact Prod.ext hk hv
theorem qEu : Tn.natP (qBO 2, qBB 2) = ([93, 80, 203, 230, 14, 126, 127, 19, 21, 244, 174, 144, 89, 226, 94, 228], [211, 171, 142, 237, 106, 8, 105, 31, 51, 110, 5, 136, 202, 130, 194, 228]) := by
 have hk : (qBO 2).map UInt8.toNat = [93, 80, 203, 230, 14, 126, 127, 19, 21, 244, 174, 144, 89, 226, 94, 228] := by
  rw [show (qBO 2).map UInt8.toNat = SN.tagN 15 [[0, 2]] from (SN.tagN_eq 15 [[0, UInt8.ofNat 2]] (by decide)).symm]
  decide +kernel
 have hv : (qBB 2).map UInt8.toNat = [211, 171, 142, 237, 106, 8, 105, 31, 51, 110, 5, 136, 202, 130, 194, 228] := by
  have h := SN.tagN_eq 16 [[120, UInt8.ofNat (97 + 2)], Wo.opn (qAG 2) ++ Xm.root (qAG 2) 2 ++ [2]] (by
   have h1 : (Wo.opn (qAG 2)).length = 16 := Wo.opn_length _
   have h2 := congrArg List.length qD2
   rw [List.length_map] at h2
   have h3 : (Xm.root (qAG 2) 2).length = 16 := h2
   simp only [List.flatten_cons, List.flatten_nil, List.append_nil, List.length_append, List.length_cons, List.length_nil, h1, h3]
   decide)
  unfold qBB
  rw [← h]
  have e : (Wo.opn (qAG 2) ++ Xm.root (qAG 2) 2 ++ [2]).map UInt8.toNat = SN.tagN 3 [(qAG 2).map UInt8.toNat] ++ [146, 83, 211, 224, 30, 128, 154, 79, 165, 236, 208, 225, 73, 13, 246, 50] ++ [2] := by
   rw [List.map_append, List.map_append, qDi _ (by decide)]
   exact congrArg (fun z => SN.tagN 3 [(qAG 2).map UInt8.toNat] ++ z ++ [2]) qD2
  show SN.tagN 16 [[120, UInt8.ofNat (97 + 2)].map UInt8.toNat, (Wo.opn (qAG 2) ++ Xm.root (qAG 2) 2 ++ [2]).map UInt8.toNat] = _
  rw [e]
  decide +kernel
 exact Prod.ext hk hv
theorem qJp : Tn.natP (qBO 3, qBB 3) = ([148, 10, 18, 170, 77, 162, 171, 186, 8, 98, 48, 154, 194, 169, 63, 108], [202, 223, 191, 156, 64, 177, 216, 84, 242, 250, 240, 94, 244, 69, 99, 71]) := by
 have hk : (qBO 3).map UInt8.toNat = [148, 10, 18, 170, 77, 162, 171, 186, 8, 98, 48, 154, 194, 169, 63, 108] := by
  rw [show (qBO 3).map UInt8.toNat = SN.tagN 15 [[0, 3]] from (SN.tagN_eq 15 [[0, UInt8.ofNat 3]] (by decide)).symm]
  decide +kernel
 have hv : (qBB 3).map UInt8.toNat = [202, 223, 191, 156, 64, 177, 216, 84, 242, 250, 240, 94, 244, 69, 99, 71] := by
  have h := SN.tagN_eq 16 [[120, UInt8.ofNat (97 + 3)], Wo.opn (qAG 3) ++ Xm.root (qAG 3) 2 ++ [2]] (by
   have h1 : (Wo.opn (qAG 3)).length = 16 := Wo.opn_length _
   have h2 := congrArg List.length qGu
   rw [List.length_map] at h2
   have h3 : (Xm.root (qAG 3) 2).length = 16 := h2
   simp only [List.flatten_cons, List.flatten_nil, List.append_nil, List.length_append, List.length_cons, List.length_nil, h1, h3]
   decide)
  unfold qBB
  rw [← h]
  have e : (Wo.opn (qAG 3) ++ Xm.root (qAG 3) 2 ++ [2]).map UInt8.toNat = SN.tagN 3 [(qAG 3).map UInt8.toNat] ++ [148, 225, 153, 219, 213, 181, 119, 81, 164, 172, 175, 225, 88, 150, 136, 15] ++ [2] := by
   rw [List.map_append, List.map_append, qDi _ (by decide)]
   exact congrArg (fun z => SN.tagN 3 [(qAG 3).map UInt8.toNat] ++ z ++ [2]) qGu
  show SN.tagN 16 [[120, UInt8.ofNat (97 + 3)].map UInt8.toNat, (Wo.opn (qAG 3) ++ Xm.root (qAG 3) 2 ++ [2]).map UInt8.toNat] = _
  rw [e]
  decide +kernel
 exact Prod.ext hk hv
theorem qOw : Tn.natP (qBO 4, qBB 4) = ([236, 85, 91, 97, 199, 175, 137, 90, 50, 65, 185, 193, 130, 224, 18, 81], [89, 208, 221, 23, 45, 135, 41, 36, 25, 129, 78, 47, 21, 211, 0, 164]) := by
 have hk : (qBO 4).map UInt8.toNat = [236, 85, 91, 97, 199, 175, 137, 90, 50, 65, 185, 193, 130, 224, 18, 81] := by
  rw [show (qBO 4).map UInt8.toNat = SN.tagN 15 [[0, 4]] from (SN.tagN_eq 15 [[0, UInt8.ofNat 4]] (by decide)).symm]
  decide +kernel
 have hv : (qBB 4).map UInt8.toNat = [89, 208, 221, 23, 45, 135, 41, 36, 25, 129, 78, 47, 21, 211, 0, 164] := by
  have h := SN.tagN_eq 16 [[120, UInt8.ofNat (97 + 4)], Wo.opn (qAG 4) ++ Xm.root (qAG 4) 2 ++ [2]] (by
   have h1 : (Wo.opn (qAG 4)).length = 16 := Wo.opn_length _
   have h2 := congrArg List.length qGt
   rw [List.length_map] at h2
   have h3 : (Xm.root (qAG 4) 2).length = 16 := h2
   simp only [List.flatten_cons, List.flatten_nil, List.append_nil, List.length_append, List.length_cons, List.length_nil, h1, h3]
   decide)
  unfold qBB
  rw [← h]
  have e : (Wo.opn (qAG 4) ++ Xm.root (qAG 4) 2 ++ [2]).map UInt8.toNat = SN.tagN 3 [(qAG 4).map UInt8.toNat] ++ [70, 197, 109, 249, 108, 48, 180, 93, 6, 9, 118, 143, 33, 233, 157, 204] ++ [2] := by
   rw [List.map_append, List.map_append, qDi _ (by decide)]
   exact congrArg (fun z => SN.tagN 3 [(qAG 4).map UInt8.toNat] ++ z ++ [2]) qGt
  show SN.tagN 16 [[120, UInt8.ofNat (97 + 4)].map UInt8.toNat, (Wo.opn (qAG 4) ++ Xm.root (qAG 4) 2 ++ [2]).map UInt8.toNat] = _
  rw [e]
  decide +kernel
 exact Prod.ext hk hv
theorem qBa (a : Nat) : Tn.small (qAB a) := fun p hp => by
 obtain ⟨i, _, rfl⟩ := List.mem_map.1 hp
 exact ⟨Nat.le_trans (Nat.le_of_eq (Sha.tagged_length _ _)) (by decide), Nat.le_trans (Nat.le_of_eq (Sha.tagged_length _ _)) (by decide)⟩
theorem qDX {l : List Sm.PR} (h : Tn.small l) (f : Nat) (b : Bool) : Tn.small (Sm.side f b l) := fun p hp => h p (List.mem_filter.1 hp).1
theorem qFM : (qAB 1).map Tn.natP = [([105, 72, 128, 237, 61, 5, 50, 182, 223, 75, 24, 94, 147, 245, 19, 39], [81, 101, 123, 141, 114, 225, 175, 9, 201, 238, 186, 21, 217, 190, 45, 19])] := by
 show [Tn.natP (qBO 0, qBB 0)] = _
 rw [qD6]
theorem qTi : Tn.nat (Sm.nd 128 (qAB 1)) = [1, 238, 227, 159, 201, 246, 222, 37, 82, 179, 40, 184, 102, 102, 32, 228, 23] := by
 rw [← Tn.ndN_eq 128 _ (qBa 1), qFM]
 decide +kernel
theorem qPO : Tn.nat (Sm.nd 127 (Sm.side 127 true (qAB 1))) = [1, 238, 227, 159, 201, 246, 222, 37, 82, 179, 40, 184, 102, 102, 32, 228, 23] := by
 rw [← Tn.ndN_eq 127 _ (qDX (qBa 1) 127 true), ← Tn.sideN_eq, qFM]
 decide +kernel
theorem qPN : Tn.nat (Sm.nd 127 (Sm.side 127 false (qAB 1))) = [0] := by
 rw [← Tn.ndN_eq 127 _ (qDX (qBa 1) 127 false), ← Tn.sideN_eq, qFM]
 decide +kernel
theorem qFL : (qAB 2).map Tn.natP = [([105, 72, 128, 237, 61, 5, 50, 182, 223, 75, 24, 94, 147, 245, 19, 39], [81, 101, 123, 141, 114, 225, 175, 9, 201, 238, 186, 21, 217, 190, 45, 19]), ([88, 245, 185, 155, 41, 107, 180, 138, 125, 166, 83, 171, 115, 216, 18, 165], [87, 177, 97, 52, 61, 74, 170, 120, 191, 124, 176, 213, 59, 31, 0, 126])] := by
 show [Tn.natP (qBO 0, qBB 0), Tn.natP (qBO 1, qBB 1)] = _
 rw [qD6, qD5]
theorem qTh : Tn.nat (Sm.nd 128 (qAB 2)) = [2, 130, 35, 49, 183, 102, 82, 165, 250, 168, 254, 82, 193, 186, 49, 175, 116] := by
 rw [← Tn.ndN_eq 128 _ (qBa 2), qFL]
 decide +kernel
theorem qPM : Tn.nat (Sm.nd 127 (Sm.side 127 true (qAB 2))) = [2, 242, 153, 50, 69, 83, 239, 211, 214, 39, 121, 13, 71, 217, 70, 228, 62] := by
 rw [← Tn.ndN_eq 127 _ (qDX (qBa 2) 127 true), ← Tn.sideN_eq, qFL]
 decide +kernel
theorem qPL : Tn.nat (Sm.nd 127 (Sm.side 127 false (qAB 2))) = [0] := by
 rw [← Tn.ndN_eq 127 _ (qDX (qBa 2) 127 false), ← Tn.sideN_eq, qFL]
 decide +kernel
theorem qFK : (qAB 3).map Tn.natP = [([105, 72, 128, 237, 61, 5, 50, 182, 223, 75, 24, 94, 147, 245, 19, 39], [81, 101, 123, 141, 114, 225, 175, 9, 201, 238, 186, 21, 217, 190, 45, 19]), ([88, 245, 185, 155, 41, 107, 180, 138, 125, 166, 83, 171, 115, 216, 18, 165], [87, 177, 97, 52, 61, 74, 170, 120, 191, 124, 176, 213, 59, 31, 0, 126]), ([93, 80, 203, 230, 14, 126, 127, 19, 21, 244, 174, 144, 89, 226, 94, 228], [211, 171, 142, 237, 106, 8, 105, 31, 51, 110, 5, 136, 202, 130, 194, 228])] := by
 show [Tn.natP (qBO 0, qBB 0), Tn.natP (qBO 1, qBB 1), Tn.natP (qBO 2, qBB 2)] = _
 rw [qD6, qD5, qEu]
theorem qTg : Tn.nat (Sm.nd 128 (qAB 3)) = [2, 148, 32, 134, 241, 150, 96, 103, 162, 143, 48, 199, 58, 226, 85, 100, 187] := by
 rw [← Tn.ndN_eq 128 _ (qBa 3), qFK]
 decide +kernel
theorem qPK : Tn.nat (Sm.nd 127 (Sm.side 127 true (qAB 3))) = [2, 40, 242, 172, 117, 68, 136, 87, 170, 255, 55, 198, 211, 109, 15, 216, 119] := by
 rw [← Tn.ndN_eq 127 _ (qDX (qBa 3) 127 true), ← Tn.sideN_eq, qFK]
 decide +kernel
theorem qPJ : Tn.nat (Sm.nd 127 (Sm.side 127 false (qAB 3))) = [0] := by
 rw [← Tn.ndN_eq 127 _ (qDX (qBa 3) 127 false), ← Tn.sideN_eq, qFK]
 decide +kernel
theorem qFJ : (qAB 4).map Tn.natP = [([105, 72, 128, 237, 61, 5, 50, 182, 223, 75, 24, 94, 147, 245, 19, 39], [81, 101, 123, 141, 114, 225, 175, 9, 201, 238, 186, 21, 217, 190, 45, 19]), ([88, 245, 185, 155, 41, 107, 180, 138, 125, 166, 83, 171, 115, 216, 18, 165], [87, 177, 97, 52, 61, 74, 170, 120, 191, 124, 176, 213, 59, 31, 0, 126]), ([93, 80, 203, 230, 14, 126, 127, 19, 21, 244, 174, 144, 89, 226, 94, 228], [211, 171, 142, 237, 106, 8, 105, 31, 51, 110, 5, 136, 202, 130, 194, 228]), ([148, 10, 18, 170, 77, 162, 171, 186, 8, 98, 48, 154, 194, 169, 63, 108], [202, 223, 191, 156, 64, 177, 216, 84, 242, 250, 240, 94, 244, 69, 99, 71])] := by
 show [Tn.natP (qBO 0, qBB 0), Tn.natP (qBO 1, qBB 1), Tn.natP (qBO 2, qBB 2), Tn.natP (qBO 3, qBB 3)] = _
 rw [qD6, qD5, qEu, qJp]
theorem qQi : Tn.nat (Sm.nd 128 (qAB 4)) = [2, 233, 213, 23, 155, 205, 123, 190, 204, 206, 83, 49, 142, 61, 28, 173, 219] := by
 rw [← Tn.ndN_eq 128 _ (qBa 4), qFJ]
 decide +kernel
theorem qPI : Tn.nat (Sm.nd 127 (Sm.side 127 true (qAB 4))) = [2, 40, 242, 172, 117, 68, 136, 87, 170, 255, 55, 198, 211, 109, 15, 216, 119] := by
 rw [← Tn.ndN_eq 127 _ (qDX (qBa 4) 127 true), ← Tn.sideN_eq, qFJ]
 decide +kernel
theorem qPH : Tn.nat (Sm.nd 127 (Sm.side 127 false (qAB 4))) = [1, 175, 189, 195, 53, 222, 45, 1, 161, 84, 183, 240, 237, 117, 242, 133, 98] := by
 rw [← Tn.ndN_eq 127 _ (qDX (qBa 4) 127 false), ← Tn.sideN_eq, qFJ]
 decide +kernel
theorem qFI : (qAB 5).map Tn.natP = [([105, 72, 128, 237, 61, 5, 50, 182, 223, 75, 24, 94, 147, 245, 19, 39], [81, 101, 123, 141, 114, 225, 175, 9, 201, 238, 186, 21, 217, 190, 45, 19]), ([88, 245, 185, 155, 41, 107, 180, 138, 125, 166, 83, 171, 115, 216, 18, 165], [87, 177, 97, 52, 61, 74, 170, 120, 191, 124, 176, 213, 59, 31, 0, 126]), ([93, 80, 203, 230, 14, 126, 127, 19, 21, 244, 174, 144, 89, 226, 94, 228], [211, 171, 142, 237, 106, 8, 105, 31, 51, 110, 5, 136, 202, 130, 194, 228]), ([148, 10, 18, 170, 77, 162, 171, 186, 8, 98, 48, 154, 194, 169, 63, 108], [202, 223, 191, 156, 64, 177, 216, 84, 242, 250, 240, 94, 244, 69, 99, 71]), ([236, 85, 91, 97, 199, 175, 137, 90, 50, 65, 185, 193, 130, 224, 18, 81], [89, 208, 221, 23, 45, 135, 41, 36, 25, 129, 78, 47, 21, 211, 0, 164])] := by
 show [Tn.natP (qBO 0, qBB 0), Tn.natP (qBO 1, qBB 1), Tn.natP (qBO 2, qBB 2), Tn.natP (qBO 3, qBB 3), Tn.natP (qBO 4, qBB 4)] = _
 rw [qD6, qD5, qEu, qJp, qOw]
theorem qTf : Tn.nat (Sm.nd 128 (qAB 5)) = [2, 213, 52, 177, 165, 114, 120, 237, 146, 94, 106, 125, 252, 90, 56, 82, 249] := by
 rw [← Tn.ndN_eq 128 _ (qBa 5), qFI]
 decide +kernel
theorem qPG : Tn.nat (Sm.nd 127 (Sm.side 127 true (qAB 5))) = [2, 40, 242, 172, 117, 68, 136, 87, 170, 255, 55, 198, 211, 109, 15, 216, 119] := by
 rw [← Tn.ndN_eq 127 _ (qDX (qBa 5) 127 true), ← Tn.sideN_eq, qFI]
 decide +kernel
theorem qPF : Tn.nat (Sm.nd 127 (Sm.side 127 false (qAB 5))) = [2, 47, 245, 142, 191, 14, 44, 44, 105, 43, 189, 138, 163, 237, 117, 74, 168] := by
 rw [← Tn.ndN_eq 127 _ (qDX (qBa 5) 127 false), ← Tn.sideN_eq, qFI]
 decide +kernel
end Go.Proofs.YtfldiegfenndjaaGreatDoor
