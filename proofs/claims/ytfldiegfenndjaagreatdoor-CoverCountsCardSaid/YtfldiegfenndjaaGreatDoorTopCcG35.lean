/- A part of the proof. -/
import Derived.Test.YtfldiegfenndjaaGreatDoorTopCcG16
import Derived.Test.YtfldiegfenndjaaGreatDoorTopCcG24
import Derived.Test.YtfldiegfenndjaaGreatDoorTopCcG20
set_option linter.unusedSimpArgs false
set_option linter.unusedVariables false
namespace Go.Proofs.YtfldiegfenndjaaGreatDoor
set_option maxRecDepth 100000
set_option maxHeartbeats 1000000
attribute [local irreducible] SN.tagN Sha.tagged Xm.root Wo.opn Sm.nd
def qAI (i : Nat) : List UInt8 := [97, 117, 100, 105, 116, 111, 114, UInt8.ofNat (97 + i)]
def qBO (i : Nat) : List UInt8 := Sha.tagged 15 [[0, UInt8.ofNat i]]
def qBN (i : Nat) : List UInt8 := Sha.tagged 16 [[120, UInt8.ofNat (97 + i)], Wo.opn (qAI i) ++ Xm.root (qAI i) 2 ++ [2]]
def qAD (a : Nat) : List Sm.PR := (List.range a).map fun i => (qBO i, qBN i)
theorem qFQ (s : List UInt8) (h : s.length ≤ 1000) : (Wo.opn s).map UInt8.toNat = SN.tagN 3 [s.map UInt8.toNat] := by
 unfold Wo.opn
 exact (SN.tagN_eq 3 [s] (by simp only [List.flatten_cons, List.flatten_nil, List.append_nil, List.length_cons, List.length_nil]; omega)).symm
theorem qD0 : Tn.natP (qBO 0, qBN 0) = ([105, 72, 128, 237, 61, 5, 50, 182, 223, 75, 24, 94, 147, 245, 19, 39], [81, 101, 123, 141, 114, 225, 175, 9, 201, 238, 186, 21, 217, 190, 45, 19]) := by
 have hk : (qBO 0).map UInt8.toNat = [105, 72, 128, 237, 61, 5, 50, 182, 223, 75, 24, 94, 147, 245, 19, 39] := by
  rw [show (qBO 0).map UInt8.toNat = SN.tagN 15 [[0, 0]] from (SN.tagN_eq 15 [[0, UInt8.ofNat 0]] (by decide)).symm]
  decide +kernel
 have hv : (qBN 0).map UInt8.toNat = [81, 101, 123, 141, 114, 225, 175, 9, 201, 238, 186, 21, 217, 190, 45, 19] := by
  have h := SN.tagN_eq 16 [[120, UInt8.ofNat (97 + 0)], Wo.opn (qAI 0) ++ Xm.root (qAI 0) 2 ++ [2]] (by
   have h1 : (Wo.opn (qAI 0)).length = 16 := Wo.opn_length _
   have h2 := congrArg List.length qGw
   rw [List.length_map] at h2
   have h3 : (Xm.root (qAI 0) 2).length = 16 := h2
   simp only [List.flatten_cons, List.flatten_nil, List.append_nil, List.length_append, List.length_cons, List.length_nil, h1, h3]
   decide)
  unfold qBN
  rw [← h]
  have e : (Wo.opn (qAI 0) ++ Xm.root (qAI 0) 2 ++ [2]).map UInt8.toNat = SN.tagN 3 [(qAI 0).map UInt8.toNat] ++ [22, 164, 247, 0, 48, 253, 180, 71, 220, 85, 164, 252, 188, 160, 204, 90] ++ [2] := by
   rw [List.map_append, List.map_append, qFQ _ (by decide)]
   exact congrArg (fun z => SN.tagN 3 [(qAI 0).map UInt8.toNat] ++ z ++ [2]) qGw
  show SN.tagN 16 [[120, UInt8.ofNat (97 + 0)].map UInt8.toNat, (Wo.opn (qAI 0) ++ Xm.root (qAI 0) 2 ++ [2]).map UInt8.toNat] = _
  rw [e]
  decide +kernel
 exact Prod.ext hk hv
theorem qEn : Tn.natP (qBO 1, qBN 1) = ([88, 245, 185, 155, 41, 107, 180, 138, 125, 166, 83, 171, 115, 216, 18, 165], [87, 177, 97, 52, 61, 74, 170, 120, 191, 124, 176, 213, 59, 31, 0, 126]) := by
 have hk : (qBO 1).map UInt8.toNat = [88, 245, 185, 155, 41, 107, 180, 138, 125, 166, 83, 171, 115, 216, 18, 165] := by
  rw [show (qBO 1).map UInt8.toNat = SN.tagN 15 [[0, 1]] from (SN.tagN_eq 15 [[0, UInt8.ofNat 1]] (by decide)).symm]
  decide +kernel
 have hv : (qBN 1).map UInt8.toNat = [87, 177, 97, 52, 61, 74, 170, 120, 191, 124, 176, 213, 59, 31, 0, 126] := by
  have h := SN.tagN_eq 16 [[120, UInt8.ofNat (97 + 1)], Wo.opn (qAI 1) ++ Xm.root (qAI 1) 2 ++ [2]] (by
   have h1 : (Wo.opn (qAI 1)).length = 16 := Wo.opn_length _
   have h2 := congrArg List.length qGv
   rw [List.length_map] at h2
   have h3 : (Xm.root (qAI 1) 2).length = 16 := h2
   simp only [List.flatten_cons, List.flatten_nil, List.append_nil, List.length_append, List.length_cons, List.length_nil, h1, h3]
   decide)
  unfold qBN
  rw [← h]
  have e : (Wo.opn (qAI 1) ++ Xm.root (qAI 1) 2 ++ [2]).map UInt8.toNat = SN.tagN 3 [(qAI 1).map UInt8.toNat] ++ [101, 12, 161, 181, 223, 198, 74, 60, 112, 220, 105, 68, 168, 64, 74, 68] ++ [2] := by
   rw [List.map_append, List.map_append, qFQ _ (by decide)]
   exact congrArg (fun z => SN.tagN 3 [(qAI 1).map UInt8.toNat] ++ z ++ [2]) qGv
  show SN.tagN 16 [[120, UInt8.ofNat (97 + 1)].map UInt8.toNat, (Wo.opn (qAI 1) ++ Xm.root (qAI 1) 2 ++ [2]).map UInt8.toNat] = _
  rw [e]
  decide +kernel
 exact Prod.ext hk hv
theorem qG1 : Tn.natP (qBO 2, qBN 2) = ([93, 80, 203, 230, 14, 126, 127, 19, 21, 244, 174, 144, 89, 226, 94, 228], [211, 171, 142, 237, 106, 8, 105, 31, 51, 110, 5, 136, 202, 130, 194, 228]) := by
 have hk : (qBO 2).map UInt8.toNat = [93, 80, 203, 230, 14, 126, 127, 19, 21, 244, 174, 144, 89, 226, 94, 228] := by
  rw [show (qBO 2).map UInt8.toNat = SN.tagN 15 [[0, 2]] from (SN.tagN_eq 15 [[0, UInt8.ofNat 2]] (by decide)).symm]
  decide +kernel
 have hv : (qBN 2).map UInt8.toNat = [211, 171, 142, 237, 106, 8, 105, 31, 51, 110, 5, 136, 202, 130, 194, 228] := by
  have h := SN.tagN_eq 16 [[120, UInt8.ofNat (97 + 2)], Wo.opn (qAI 2) ++ Xm.root (qAI 2) 2 ++ [2]] (by
   have h1 : (Wo.opn (qAI 2)).length = 16 := Wo.opn_length _
   have h2 := congrArg List.length qGu
   rw [List.length_map] at h2
   have h3 : (Xm.root (qAI 2) 2).length = 16 := h2
   simp only [List.flatten_cons, List.flatten_nil, List.append_nil, List.length_append, List.length_cons, List.length_nil, h1, h3]
   decide)
  unfold qBN
  rw [← h]
  have e : (Wo.opn (qAI 2) ++ Xm.root (qAI 2) 2 ++ [2]).map UInt8.toNat = SN.tagN 3 [(qAI 2).map UInt8.toNat] ++ [146, 83, 211, 224, 30, 128, 154, 79, 165, 236, 208, 225, 73, 13, 246, 50] ++ [2] := by
   rw [List.map_append, List.map_append, qFQ _ (by decide)]
   exact congrArg (fun z => SN.tagN 3 [(qAI 2).map UInt8.toNat] ++ z ++ [2]) qGu
  show SN.tagN 16 [[120, UInt8.ofNat (97 + 2)].map UInt8.toNat, (Wo.opn (qAI 2) ++ Xm.root (qAI 2) 2 ++ [2]).map UInt8.toNat] = _
  rw [e]
  decide +kernel
 exact Prod.ext hk hv
theorem qJs : Tn.natP (qBO 3, qBN 3) = ([148, 10, 18, 170, 77, 162, 171, 186, 8, 98, 48, 154, 194, 169, 63, 108], [202, 223, 191, 156, 64, 177, 216, 84, 242, 250, 240, 94, 244, 69, 99, 71]) := by
 have hk : (qBO 3).map UInt8.toNat = [148, 10, 18, 170, 77, 162, 171, 186, 8, 98, 48, 154, 194, 169, 63, 108] := by
  rw [show (qBO 3).map UInt8.toNat = SN.tagN 15 [[0, 3]] from (SN.tagN_eq 15 [[0, UInt8.ofNat 3]] (by decide)).symm]
  decide +kernel
 have hv : (qBN 3).map UInt8.toNat = [202, 223, 191, 156, 64, 177, 216, 84, 242, 250, 240, 94, 244, 69, 99, 71] := by
  have h := SN.tagN_eq 16 [[120, UInt8.ofNat (97 + 3)], Wo.opn (qAI 3) ++ Xm.root (qAI 3) 2 ++ [2]] (by
   have h1 : (Wo.opn (qAI 3)).length = 16 := Wo.opn_length _
   have h2 := congrArg List.length qGt
   rw [List.length_map] at h2
   have h3 : (Xm.root (qAI 3) 2).length = 16 := h2
   simp only [List.flatten_cons, List.flatten_nil, List.append_nil, List.length_append, List.length_cons, List.length_nil, h1, h3]
   decide)
  unfold qBN
  rw [← h]
  have e : (Wo.opn (qAI 3) ++ Xm.root (qAI 3) 2 ++ [2]).map UInt8.toNat = SN.tagN 3 [(qAI 3).map UInt8.toNat] ++ [148, 225, 153, 219, 213, 181, 119, 81, 164, 172, 175, 225, 88, 150, 136, 15] ++ [2] := by
   rw [List.map_append, List.map_append, qFQ _ (by decide)]
   exact congrArg (fun z => SN.tagN 3 [(qAI 3).map UInt8.toNat] ++ z ++ [2]) qGt
  show SN.tagN 16 [[120, UInt8.ofNat (97 + 3)].map UInt8.toNat, (Wo.opn (qAI 3) ++ Xm.root (qAI 3) 2 ++ [2]).map UInt8.toNat] = _
  rw [e]
  decide +kernel
 exact Prod.ext hk hv
theorem qPM : Tn.natP (qBO 4, qBN 4) = ([236, 85, 91, 97, 199, 175, 137, 90, 50, 65, 185, 193, 130, 224, 18, 81], [89, 208, 221, 23, 45, 135, 41, 36, 25, 129, 78, 47, 21, 211, 0, 164]) := by
 have hk : (qBO 4).map UInt8.toNat = [236, 85, 91, 97, 199, 175, 137, 90, 50, 65, 185, 193, 130, 224, 18, 81] := by
  rw [show (qBO 4).map UInt8.toNat = SN.tagN 15 [[0, 4]] from (SN.tagN_eq 15 [[0, UInt8.ofNat 4]] (by decide)).symm]
  decide +kernel
 have hv : (qBN 4).map UInt8.toNat = [89, 208, 221, 23, 45, 135, 41, 36, 25, 129, 78, 47, 21, 211, 0, 164] := by
  have h := SN.tagN_eq 16 [[120, UInt8.ofNat (97 + 4)], Wo.opn (qAI 4) ++ Xm.root (qAI 4) 2 ++ [2]] (by
   have h1 : (Wo.opn (qAI 4)).length = 16 := Wo.opn_length _
   have h2 := congrArg List.length qGs
   rw [List.length_map] at h2
   have h3 : (Xm.root (qAI 4) 2).length = 16 := h2
   simp only [List.flatten_cons, List.flatten_nil, List.append_nil, List.length_append, List.length_cons, List.length_nil, h1, h3]
   decide)
  unfold qBN
  rw [← h]
  have e : (Wo.opn (qAI 4) ++ Xm.root (qAI 4) 2 ++ [2]).map UInt8.toNat = SN.tagN 3 [(qAI 4).map UInt8.toNat] ++ [70, 197, 109, 249, 108, 48, 180, 93, 6, 9, 118, 143, 33, 233, 157, 204] ++ [2] := by
   rw [List.map_append, List.map_append, qFQ _ (by decide)]
   exact congrArg (fun z => SN.tagN 3 [(qAI 4).map UInt8.toNat] ++ z ++ [2]) qGs
  show SN.tagN 16 [[120, UInt8.ofNat (97 + 4)].map UInt8.toNat, (Wo.opn (qAI 4) ++ Xm.root (qAI 4) 2 ++ [2]).map UInt8.toNat] = _
  rw [e]
  decide +kernel
 exact Prod.ext hk hv
theorem qBg (a : Nat) : Tn.small (qAD a) := fun p hp => by
 obtain ⟨i, _, rfl⟩ := List.mem_map.1 hp
 exact ⟨Nat.le_trans (Nat.le_of_eq (Sha.tagged_length _ _)) (by decide), Nat.le_trans (Nat.le_of_eq (Sha.tagged_length _ _)) (by decide)⟩
theorem qDY {l : List Sm.PR} (h : Tn.small l) (f : Nat) (b : Bool) : Tn.small (Sm.side f b l) := fun p hp => h p (List.mem_filter.1 hp).1
theorem qFN : (qAD 1).map Tn.natP = [([105, 72, 128, 237, 61, 5, 50, 182, 223, 75, 24, 94, 147, 245, 19, 39], [81, 101, 123, 141, 114, 225, 175, 9, 201, 238, 186, 21, 217, 190, 45, 19])] := by
 show [Tn.natP (qBO 0, qBN 0)] = _
 rw [qD0]
theorem qT2 : Tn.nat (Sm.nd 128 (qAD 1)) = [1, 238, 227, 159, 201, 246, 222, 37, 82, 179, 40, 184, 102, 102, 32, 228, 23] := by
 rw [← Tn.ndN_eq 128 _ (qBg 1), qFN]
 decide +kernel
theorem qPo : Tn.nat (Sm.nd 127 (Sm.side 127 true (qAD 1))) = [1, 238, 227, 159, 201, 246, 222, 37, 82, 179, 40, 184, 102, 102, 32, 228, 23] := by
 rw [← Tn.ndN_eq 127 _ (qDY (qBg 1) 127 true), ← Tn.sideN_eq, qFN]
 decide +kernel
theorem qPn : Tn.nat (Sm.nd 127 (Sm.side 127 false (qAD 1))) = [0] := by
 rw [← Tn.ndN_eq 127 _ (qDY (qBg 1) 127 false), ← Tn.sideN_eq, qFN]
 decide +kernel
theorem qFM : (qAD 2).map Tn.natP = [([105, 72, 128, 237, 61, 5, 50, 182, 223, 75, 24, 94, 147, 245, 19, 39], [81, 101, 123, 141, 114, 225, 175, 9, 201, 238, 186, 21, 217, 190, 45, 19]), ([88, 245, 185, 155, 41, 107, 180, 138, 125, 166, 83, 171, 115, 216, 18, 165], [87, 177, 97, 52, 61, 74, 170, 120, 191, 124, 176, 213, 59, 31, 0, 126])] := by
 show [Tn.natP (qBO 0, qBN 0), Tn.natP (qBO 1, qBN 1)] = _
 rw [qD0, qEn]
theorem qT1 : Tn.nat (Sm.nd 128 (qAD 2)) = [2, 130, 35, 49, 183, 102, 82, 165, 250, 168, 254, 82, 193, 186, 49, 175, 116] := by
 rw [← Tn.ndN_eq 128 _ (qBg 2), qFM]
 decide +kernel
theorem qPm : Tn.nat (Sm.nd 127 (Sm.side 127 true (qAD 2))) = [2, 242, 153, 50, 69, 83, 239, 211, 214, 39, 121, 13, 71, 217, 70, 228, 62] := by
 rw [← Tn.ndN_eq 127 _ (qDY (qBg 2) 127 true), ← Tn.sideN_eq, qFM]
 decide +kernel
theorem qPl : Tn.nat (Sm.nd 127 (Sm.side 127 false (qAD 2))) = [0] := by
 rw [← Tn.ndN_eq 127 _ (qDY (qBg 2) 127 false), ← Tn.sideN_eq, qFM]
 decide +kernel
theorem qFL : (qAD 3).map Tn.natP = [([105, 72, 128, 237, 61, 5, 50, 182, 223, 75, 24, 94, 147, 245, 19, 39], [81, 101, 123, 141, 114, 225, 175, 9, 201, 238, 186, 21, 217, 190, 45, 19]), ([88, 245, 185, 155, 41, 107, 180, 138, 125, 166, 83, 171, 115, 216, 18, 165], [87, 177, 97, 52, 61, 74, 170, 120, 191, 124, 176, 213, 59, 31, 0, 126]), ([93, 80, 203, 230, 14, 126, 127, 19, 21, 244, 174, 144, 89, 226, 94, 228], [211, 171, 142, 237, 106, 8, 105, 31, 51, 110, 5, 136, 202, 130, 194, 228])] := by
 show [Tn.natP (qBO 0, qBN 0), Tn.natP (qBO 1, qBN 1), Tn.natP (qBO 2, qBN 2)] = _
 rw [qD0, qEn, qG1]
theorem qT0 : Tn.nat (Sm.nd 128 (qAD 3)) = [2, 148, 32, 134, 241, 150, 96, 103, 162, 143, 48, 199, 58, 226, 85, 100, 187] := by
 rw [← Tn.ndN_eq 128 _ (qBg 3), qFL]
 decide +kernel
theorem qPk : Tn.nat (Sm.nd 127 (Sm.side 127 true (qAD 3))) = [2, 40, 242, 172, 117, 68, 136, 87, 170, 255, 55, 198, 211, 109, 15, 216, 119] := by
 rw [← Tn.ndN_eq 127 _ (qDY (qBg 3) 127 true), ← Tn.sideN_eq, qFL]
 decide +kernel
theorem qPj : Tn.nat (Sm.nd 127 (Sm.side 127 false (qAD 3))) = [0] := by
 rw [← Tn.ndN_eq 127 _ (qDY (qBg 3) 127 false), ← Tn.sideN_eq, qFL]
 decide +kernel
theorem qFK : (qAD 4).map Tn.natP = [([105, 72, 128, 237, 61, 5, 50, 182, 223, 75, 24, 94, 147, 245, 19, 39], [81, 101, 123, 141, 114, 225, 175, 9, 201, 238, 186, 21, 217, 190, 45, 19]), ([88, 245, 185, 155, 41, 107, 180, 138, 125, 166, 83, 171, 115, 216, 18, 165], [87, 177, 97, 52, 61, 74, 170, 120, 191, 124, 176, 213, 59, 31, 0, 126]), ([93, 80, 203, 230, 14, 126, 127, 19, 21, 244, 174, 144, 89, 226, 94, 228], [211, 171, 142, 237, 106, 8, 105, 31, 51, 110, 5, 136, 202, 130, 194, 228]), ([148, 10, 18, 170, 77, 162, 171, 186, 8, 98, 48, 154, 194, 169, 63, 108], [202, 223, 191, 156, 64, 177, 216, 84, 242, 250, 240, 94, 244, 69, 99, 71])] := by
 show [Tn.natP (qBO 0, qBN 0), Tn.natP (qBO 1, qBN 1), Tn.natP (qBO 2, qBN 2), Tn.natP (qBO 3, qBN 3)] = _
 rw [qD0, qEn, qG1, qJs]
theorem qTz : Tn.nat (Sm.nd 128 (qAD 4)) = [2, 233, 213, 23, 155, 205, 123, 190, 204, 206, 83, 49, 142, 61, 28, 173, 219] := by
 rw [← Tn.ndN_eq 128 _ (qBg 4), qFK]
 decide +kernel
theorem qPi : Tn.nat (Sm.nd 127 (Sm.side 127 true (qAD 4))) = [2, 40, 242, 172, 117, 68, 136, 87, 170, 255, 55, 198, 211, 109, 15, 216, 119] := by
 rw [← Tn.ndN_eq 127 _ (qDY (qBg 4) 127 true), ← Tn.sideN_eq, qFK]
 decide +kernel
theorem qPh : Tn.nat (Sm.nd 127 (Sm.side 127 false (qAD 4))) = [1, 175, 189, 195, 53, 222, 45, 1, 161, 84, 183, 240, 237, 117, 242, 133, 98] := by
 rw [← Tn.ndN_eq 127 _ (qDY (qBg 4) 127 false), ← Tn.sideN_eq, qFK]
 decide +kernel
theorem qFJ : (qAD 5).map Tn.natP = [([105, 72, 128, 237, 61, 5, 50, 182, 223, 75, 24, 94, 147, 245, 19, 39], [81, 101, 123, 141, 114, 225, 175, 9, 201, 238, 186, 21, 217, 190, 45, 19]), ([88, 245, 185, 155, 41, 107, 180, 138, 125, 166, 83, 171, 115, 216, 18, 165], [87, 177, 97, 52, 61, 74, 170, 120, 191, 124, 176, 213, 59, 31, 0, 126]), ([93, 80, 203, 230, 14, 126, 127, 19, 21, 244, 174, 144, 89, 226, 94, 228], [211, 171, 142, 237, 106, 8, 105, 31, 51, 110, 5, 136, 202, 130, 194, 228]), ([148, 10, 18, 170, 77, 162, 171, 186, 8, 98, 48, 154, 194, 169, 63, 108], [202, 223, 191, 156, 64, 177, 216, 84, 242, 250, 240, 94, 244, 69, 99, 71]), ([236, 85, 91, 97, 199, 175, 137, 90, 50, 65, 185, 193, 130, 224, 18, 81], [89, 208, 221, 23, 45, 135, 41, 36, 25, 129, 78, 47, 21, 211, 0, 164])] := by
 show [Tn.natP (qBO 0, qBN 0), Tn.natP (qBO 1, qBN 1), Tn.natP (qBO 2, qBN 2), Tn.natP (qBO 3, qBN 3), Tn.natP (qBO 4, qBN 4)] = _
 rw [qD0, qEn, qG1, qJs, qPM]
theorem qTy : Tn.nat (Sm.nd 128 (qAD 5)) = [2, 213, 52, 177, 165, 114, 120, 237, 146, 94, 106, 125, 252, 90, 56, 82, 249] := by
 rw [← Tn.ndN_eq 128 _ (qBg 5), qFJ]
 decide +kernel
theorem qPg : Tn.nat (Sm.nd 127 (Sm.side 127 true (qAD 5))) = [2, 40, 242, 172, 117, 68, 136, 87, 170, 255, 55, 198, 211, 109, 15, 216, 119] := by
 rw [← Tn.ndN_eq 127 _ (qDY (qBg 5) 127 true), ← Tn.sideN_eq, qFJ]
 decide +kernel
theorem qPf : Tn.nat (Sm.nd 127 (Sm.side 127 false (qAD 5))) = [2, 47, 245, 142, 191, 14, 44, 44, 105, 43, 189, 138, 163, 237, 117, 74, 168] := by
 rw [← Tn.ndN_eq 127 _ (qDY (qBg 5) 127 false), ← Tn.sideN_eq, qFJ]
 decide +kernel
end Go.Proofs.YtfldiegfenndjaaGreatDoor
namespace Go.Proofs.YtfldiegfenndjaaGreatDoor
open Go Go.Fw Go.Proofs.Tryz
set_option maxRecDepth 100000
set_option maxHeartbeats 1000000
attribute [local irreducible] SN.tagN Sha.tagged SN.sumN
namespace Wn
open Sha Wd
def valN : List Nat → Nat → Nat
 | _, 0 => 0
 | l, k + 1 => valN l k * 256 + l.getD k 0
theorem valN_lt (l : List UInt8) : ∀ k, valN (l.map UInt8.toNat) k < 256 ^ k
 | 0 => Nat.one_pos
 | k + 1 => by
  have h1 := valN_lt l k
  have h2 := (l.getD k 0).toNat_lt
  rw [valN, SN.getD_map, Nat.pow_succ]; omega
theorem qQq (l : List UInt8) : ∀ k, k ≤ 8 → (val l k).toNat = valN (l.map UInt8.toNat) k
 | 0, _ => rfl
 | k + 1, h => by
  have ih := qQq l k (by omega)
  have h1 := valN_lt l k
  have h2 := (l.getD k 0).toNat_lt
  have hp : 256 ^ k ≤ 256 ^ 7 := Nat.pow_le_pow_right (by decide) (by omega)
  have hm : valN (l.map UInt8.toNat) k * 2 ^ 8 < 2 ^ 64 := by
   have : (256 : Nat) ^ 7 * 2 ^ 8 = 2 ^ 64 := by decide
   omega
  rw [val, UInt64.toNat_or, UInt64.toNat_ofNat', ih, valN, SN.getD_map]
  show valN (l.map UInt8.toNat) k * 2 ^ 8 % 2 ^ 64 ||| (l.getD k 0).toUInt64.toNat = _
  rw [Nat.mod_eq_of_lt hm, UInt8.toNat_toUInt64, Nat.mul_comm, ← Nat.two_pow_add_eq_or_of_lt (show (l.getD k 0).toNat < 2 ^ 8 from h2)]
def nxt (s : Strm) : Nat → Strm
 | 0 => s
 | k + 1 => (nxt s k).next
noncomputable def wordN (seed : List Nat) (k : Nat) : Nat := valN ((SN.sumN (seed ++ SN.bytes4 (k / 4))).drop (8 * (k % 4))) 8
theorem qJ4 (seed : List UInt8) : ∀ k, k < 1000000 → (nxt (Strm.new seed) k).seed = seed ∧ ((nxt (Strm.new seed) k).fill.left = (sum (seed ++ numB (UInt64.ofNat (k / 4)) 4)).drop (8 * (k % 4)) ∧ (nxt (Strm.new seed) k).fill.count = UInt64.ofNat (k / 4 + 1))
  | 0, _ => by
    refine ⟨rfl, ?_⟩
    show (Strm.new seed).fill.left = _ ∧ (Strm.new seed).fill.count = _
    unfold Strm.fill Strm.new
    rw [if_pos rfl]
    exact ⟨rfl, rfl⟩
  | k + 1, hk => by
    obtain ⟨h1, h2, h3⟩ := qJ4 seed k (by omega)
    have hs : (nxt (Strm.new seed) (k + 1)).seed = seed := by
      show (nxt (Strm.new seed) k).fill.seed = seed
      rw [Strm.fill_seed]; exact h1
    have hl : (nxt (Strm.new seed) (k + 1)).left = (sum (seed ++ numB (UInt64.ofNat (k / 4)) 4)).drop (8 * (k % 4) + 8) := by
      show (nxt (Strm.new seed) k).fill.left.drop 8 = _
      rw [h2, List.drop_drop]
    have hc : (nxt (Strm.new seed) (k + 1)).count = UInt64.ofNat (k / 4 + 1) := h3
    refine ⟨hs, ?_⟩
    unfold Strm.fill
    by_cases h4 : k % 4 = 3
    · have e0 : (nxt (Strm.new seed) (k + 1)).left = [] := by rw [hl, List.drop_of_length_le (by rw [sum_length]; omega)]
      rw [if_pos e0, hs, hc, show (k + 1) / 4 = k / 4 + 1 by omega, show (k + 1) % 4 = 0 by omega]
      refine ⟨rfl, ?_⟩
      dsimp only
      apply UInt64.toNat_inj.1
      rw [UInt64.toNat_add, UInt64.toNat_ofNat', UInt64.toNat_ofNat']
      show ((k / 4 + 1) % 2 ^ 64 + 1) % 2 ^ 64 = (k / 4 + 1 + 1) % 2 ^ 64
      omega
    · have e0 : ¬ (nxt (Strm.new seed) (k + 1)).left = [] := fun e => by
        have := congrArg List.length e
        rw [hl, List.length_drop, sum_length, List.length_nil] at this
        omega
      rw [if_neg e0, hl, hc, show (k + 1) / 4 = k / 4 by omega, show 8 * ((k + 1) % 4) = 8 * (k % 4) + 8 by omega]
      exact ⟨rfl, rfl⟩
theorem qPb (seed : List UInt8) (hs : seed.length ≤ 1000000) {k : Nat} (hk : k < 1000000) : (nxt (Strm.new seed) k).num.toNat = wordN (seed.map UInt8.toNat) k := by
 obtain ⟨_, h2, _⟩ := qJ4 seed k hk
 unfold Strm.num wordN
 rw [qQq _ 8 (Nat.le_refl 8), h2, List.map_drop]
 have := SN.sumN_eq (seed ++ numB (UInt64.ofNat (k / 4)) 4) (by rw [List.length_append, numB_length]; omega)
 rw [List.map_append, ← SN.bytes4_eq _ (by omega)] at this
 rw [this]
end Wn
end Go.Proofs.YtfldiegfenndjaaGreatDoor
