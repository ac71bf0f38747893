/- A part of the proof: contracts of functions of the program, each for every state of the heaps that it names. -/
import Derived.Test.YtlopnfgacopkbaaDoorXe
set_option linter.unusedSimpArgs false
set_option linter.unusedVariables false
namespace Go.Proofs.YtlopnfgacopkbaaDoor
set_option maxRecDepth 100000
set_option maxHeartbeats 1000000

namespace Xe

def G1 : List UInt8 := [3, 132, 60, 218, 14, 135, 152, 202, 120, 117, 146, 133, 161, 116, 253, 142]
theorem G1_lit : Xm.digest O 1 [104, 101, 108, 108, 111] = G1 := by
  have h := SN.tagN_eq 6 [O, Xm.four 1, [104, 101, 108, 108, 111]] (by decide)
  have e : SN.tagN 6 [ON, [0, 0, 0, 1], [104, 101, 108, 108, 111]] = [3, 132, 60, 218, 14, 135, 152, 202, 120, 117, 146, 133, 161, 116, 253, 142] := by decide +kernel
  have h2 : SN.tagN 6 [ON, [0, 0, 0, 1], [104, 101, 108, 108, 111]] = (Sha.tagged 6 [O, Xm.four 1, [104, 101, 108, 108, 111]]).map UInt8.toNat := h
  exact lit (show (Sha.tagged 6 [O, Xm.four 1, [104, 101, 108, 108, 111]]).map UInt8.toNat = _ from h2.symm.trans e) (by decide)
def E1 : List Nat := [0, 3, 8, 4, 3, 12, 13, 10, 0, 14, 8, 7, 9, 8, 12, 10, 7, 8, 7, 5, 9, 2, 8, 5, 10, 1, 7, 4, 15, 13, 8, 14, 0, 14, 12]
theorem E1_lit : Wo.digs G1 = E1 := by decide +kernel

def G2 : List UInt8 := [65, 5, 58, 15, 4, 178, 98, 249, 170, 103, 164, 8, 152, 231, 250, 198]
theorem G2_lit : Xm.digest O 1 [104, 97, 108, 108, 111] = G2 := by
  have h := SN.tagN_eq 6 [O, Xm.four 1, [104, 97, 108, 108, 111]] (by decide)
  have e : SN.tagN 6 [ON, [0, 0, 0, 1], [104, 97, 108, 108, 111]] = [65, 5, 58, 15, 4, 178, 98, 249, 170, 103, 164, 8, 152, 231, 250, 198] := by decide +kernel
  have h2 : SN.tagN 6 [ON, [0, 0, 0, 1], [104, 97, 108, 108, 111]] = (Sha.tagged 6 [O, Xm.four 1, [104, 97, 108, 108, 111]]).map UInt8.toNat := h
  exact lit (show (Sha.tagged 6 [O, Xm.four 1, [104, 97, 108, 108, 111]]).map UInt8.toNat = _ from h2.symm.trans e) (by decide)
def E2 : List Nat := [4, 1, 0, 5, 3, 10, 0, 15, 0, 4, 11, 2, 6, 2, 15, 9, 10, 10, 6, 7, 10, 4, 0, 8, 9, 8, 14, 7, 15, 10, 12, 6, 1, 0, 1]
theorem E2_lit : Wo.digs G2 = E2 := by decide +kernel

def LX : List UInt8 := [123, 211, 233, 38, 14, 49, 145, 135, 128, 158, 144, 234, 118, 199, 37, 119]
theorem LX_num : SN.pubOfN ON 1 (SN.chainsN ON 1 (fun i => SN.walkN ON 1 i (E1.getD i 0) 0 (SN.secretN [115, 101, 101, 100] 1 i)) (fun i => E2.getD i 0) (fun i => 15 - E2.getD i 0) 35 0 []) = [123, 211, 233, 38, 14, 49, 145, 135, 128, 158, 144, 234, 118, 199, 37, 119] := by decide +kernel
theorem ends_lit : SN.chainsN ON 1 (fun i => SN.walkN ON 1 i (E1.getD i 0) 0 (SN.secretN [115, 101, 101, 100] 1 i)) (fun i => E2.getD i 0) (fun i => 15 - E2.getD i 0) 35 0 [] = (Wo.ends O 1 E2 (Wo.signs [115, 101, 101, 100] 1 E1 35) 35).map (List.map UInt8.toNat) := by
  have h1 : ∀ i, (Wo.walk O 1 i 0 (Wo.secret [115, 101, 101, 100] 1 i) (E1.getD i 0)).length ≤ 1048576 := fun i => Wo.walk_small _ _ _ _ _ (by rw [Wo.secret_length]; decide) _
  have h2 : ∀ i, SN.walkN ON 1 i (E1.getD i 0) 0 (SN.secretN [115, 101, 101, 100] 1 i) = (Wo.walk O 1 i 0 (Wo.secret [115, 101, 101, 100] 1 i) (E1.getD i 0)).map UInt8.toNat := fun i => by
    rw [secret_lit 1 i (by decide), ← O_map]
    exact SN.walkN_eq O 1 i (by decide) (by decide) (E1.getD i 0) 0 (Wo.secret [115, 101, 101, 100] 1 i) (by rw [Wo.secret_length]; decide)
  have := SN.chainsN_eq O 1 (by decide) (by decide) (fun i => Wo.walk O 1 i 0 (Wo.secret [115, 101, 101, 100] 1 i) (E1.getD i 0)) h1 (fun i => SN.walkN ON 1 i (E1.getD i 0) 0 (SN.secretN [115, 101, 101, 100] 1 i)) h2 (fun i => E2.getD i 0) (fun i => 15 - E2.getD i 0) 35 0 []
  rw [O_map, List.nil_append, ← List.range_eq_range'] at this
  have e : Wo.ends O 1 E2 (Wo.signs [115, 101, 101, 100] 1 E1 35) 35 = (List.range 35).map fun i => Wo.walk O 1 i (E2.getD i 0) (Wo.walk O 1 i 0 (Wo.secret [115, 101, 101, 100] 1 i) (E1.getD i 0)) (15 - E2.getD i 0) := by
    unfold Wo.ends
    apply List.map_congr_left
    intro i hi
    rw [List.mem_range] at hi
    rw [Wo.signs_get _ _ _ _ _ hi, opn_lit]
  rw [e]
  exact this
theorem LX_lit : (Wo.publicOf O 1 (Wo.ends O 1 E2 (Wo.signs [115, 101, 101, 100] 1 E1 35) 35)) = LX := by
  have h2 := Mk.flat_small (w := 1048576) (Wo.ends_small O 1 E2 (Wo.signs [115, 101, 101, 100] 1 E1 35) 35 (fun s hs => Nat.le_of_eq (Wo.signs_16 _ _ _ _ s hs)))
  rw [Wo.ends_length] at h2
  have := SN.pubOfN_eq O 1 (by decide) (Wo.ends O 1 E2 (Wo.signs [115, 101, 101, 100] 1 E1 35) 35) (by rw [Wo.ends_length]; show 16 + _ + _ < _; omega)
  rw [← ends_lit, O_map] at this
  exact lit (this.symm.trans LX_num) (by decide)
end Xe

end Go.Proofs.YtlopnfgacopkbaaDoor
