/- A part of the proof: contracts of functions of the program, each for every state of the heaps that it names. -/
import Derived.Test.YtadckkaepngloaaDoorShaX
set_option linter.unusedSimpArgs false
set_option linter.unusedVariables false
namespace Go.Proofs.YtadckkaepngloaaDoor
open Go Go.Fw
set_option maxRecDepth 100000
set_option maxHeartbeats 1000000

theorem ent14 : Enters Tryd.prog 14 := Enters.of Tryd.func14 rfl (by kernel_rfl)
theorem spoken : Sha.hexB (Sha.sum [97, 98, 99]) = [98, 97, 55, 56, 49, 54, 98, 102, 56, 102, 48, 49, 99, 102, 101, 97, 52, 49, 52, 49, 52, 48, 100, 101, 53, 100, 97, 101, 50, 50, 50, 51, 98, 48, 48, 51, 54, 49, 97, 51, 57, 54, 49, 55, 55, 97, 57, 99, 98, 52, 49, 48, 102, 102, 54, 49, 102, 50, 48, 48, 49, 53, 97, 100] := by decide +kernel
namespace Sha
def nyb (b : UInt8) (j : Nat) : UInt8 := if j = 0 then hi b else b &&& 15
def dig (b : UInt8) (j : Nat) : UInt8 := digits.getD (nyb b j).toNat 0
def part (b : UInt8) : Nat → Nat
  | 0 => 0
  | 1 => (hi b).toNat
  | _ => b.toNat
def nibOk (b : UInt8) (j : Nat) : Bool := decide (part b j < 256) && (decide (48 ≤ (dig b j).toNat ∧ (dig b j).toNat ≤ 57 ∧ 16 * part b j + (dig b j - 48).toNat = part b (j + 1)) || decide (97 ≤ (dig b j).toNat ∧ (dig b j).toNat ≤ 102 ∧ 16 * part b j + (dig b j - 97).toNat + 10 = part b (j + 1)))
theorem nib_tab : ∀ b : Fin 256, nibOk (UInt8.ofNat b.val) 0 = true ∧ nibOk (UInt8.ofNat b.val) 1 = true := by decide +kernel
theorem nib (b : UInt8) (j : Nat) (hj : j < 2) : part b j < 256 ∧ ((48 ≤ (dig b j).toNat ∧ (dig b j).toNat ≤ 57 ∧ 16 * part b j + (dig b j - 48).toNat = part b (j + 1)) ∨ (97 ≤ (dig b j).toNat ∧ (dig b j).toNat ≤ 102 ∧ 16 * part b j + (dig b j - 97).toNat + 10 = part b (j + 1))) := by
  have h := nib_tab ⟨b.toNat, b.toNat_lt⟩
  simp only [UInt8.ofNat_toNat] at h
  have h1 : nibOk b j = true := by
    match j, hj with
    | 0, _ => exact h.1
    | 1, _ => exact h.2
  simp only [nibOk, Bool.and_eq_true, Bool.or_eq_true, decide_eq_true_eq] at h1
  exact h1
theorem hexB_get : ∀ (s : List UInt8) (k : Nat) (b : UInt8) (j : Nat), s[k]? = some b → j < 2 → (hexB s)[2 * k + j]? = some (dig b j)
  | [], _, _, _, h, _ => by simp at h
  | a :: l, 0, b, j, h, hj => by
    simp at h
    subst h
    match j, hj with
    | 0, _ => rfl
    | 1, _ => rfl
  | a :: l, k + 1, b, j, h, hj => by
    have e : hexB (a :: l) = dig a 0 :: dig a 1 :: hexB l := rfl
    rw [e, show 2 * (k + 1) + j = (2 * k + j) + 1 + 1 by omega, List.getElem?_cons_succ, List.getElem?_cons_succ]
    exact hexB_get l k b j (by simpa using h) hj
end Sha

theorem speaks03_ct (F : Hp) (hK : Cells F ⟨0, 0, none⟩ (Sha.K.map W32)) : Ct Tryd.prog 14 [] [F] (fun _ : Unit => .bool true) (fun _ => True) (fun _ => [F]) := by
  refine Ct.walk Tryd.func14 rfl Tryd.ntmps14 rfl (fun w0 => ?_)
  change J _ [] _ _ _
  refine J.seq (fun K1 hK1 => ?_)
  refine J.region ?_
  refine J.y (op_assign rfl rfl) rfl rfl rfl ?_
  refine J.nil ?_
  refine J.then_n (J.k hK1 ?_)
  refine J.keepE [] trivial ?_
  refine J.seq (fun K2 hK2 => ?_)
  refine J.region ?_
  refine J.e (op_buildSlice (l := [.const ((Value.string (ByteArray.mk #[97, 98, 99])))]) (xs := [[Str [97, 98, 99]]]) rfl rfl rfl rfl Tryd.underlying22 el9 rfl (by decide) (by decide) (by simp)) rfl rfl rfl ?_
  intro g1 _
  change J _ _ _ [F, blk g1 [Str [97, 98, 99]] 9] _
  refine J.e (op_call rfl rfl ent16 (Ct.use0 (fun F' hF => sum_ct F' (hK.mono (hF _ (by simp))) (some ⟨g1, 0, none⟩) 1 1 [[97, 98, 99]] (((row_blk (q := True) (xs := strsV [[97, 98, 99]]) rfl (by simp [strsV])).sl (m := blk g1 [Str [97, 98, 99]] 9)).mono (hF _ (by simp))) (by decide) (by decide)))) rfl rfl rfl ?_
  intro g2 _
  refine J.e (op_call rfl rfl ent19 (Ct.use0 (fun F' _ => hex_ct F' (Sha.sum [97, 98, 99]) (by rw [Sha.sum_length]; decide)))) rfl rfl rfl ?_
  intro g3 _
  refine J.y ((op_seq rfl rfl rfl).as (v' := .bool true) (congrArg Value.bool (decide_eq_true spoken))) rfl rfl rfl ?_
  refine J.y (op_move rfl rfl) rfl rfl rfl ?_
  refine J.eg (Wan.is rfl rfl rfl rfl rfl) (op_buildSlice (l := [.const ((Value.string (ByteArray.mk #[97])))]) (xs := [[Str [97]]]) rfl rfl rfl rfl Tryd.underlying22 el9 rfl (by decide) (by decide) (by simp)) rfl rfl ?_
  intro g6 _
  change J _ _ _ [F, blk g1 [Str [97, 98, 99]] 9, blk g6 [Str [97]] 9] _
  refine J.eg (Wan.is rfl rfl rfl rfl rfl) (op_call rfl rfl ent18 (Ct.use0 (fun F' hF => tagged_ct F' (hK.mono (hF _ (by simp))) 1 (some ⟨g6, 0, none⟩) 1 1 [[97]] (((row_blk (q := True) (xs := strsV [[97]]) rfl (by simp [strsV])).sl (m := blk g6 [Str [97]] 9)).mono (hF _ (by simp))) (by decide) (by decide)))) rfl rfl ?_
  intro g7 _
  refine J.yg (Wan.is rfl rfl rfl rfl rfl) (op_slen Tryd.underlying9 rfl rfl) rfl rfl ?_
  refine J.yg (Wan.is rfl rfl rfl rfl rfl) ((op_eql rfl rfl rfl).as (v' := .bool true) (congrArg Value.bool (decide_eq_true (by rw [Sha.tagged_length]; rfl)))) rfl rfl ?_
  refine J.y (op_pickT rfl rfl rfl) rfl rfl rfl ?_
  refine J.y (op_assign rfl rfl) rfl rfl rfl ?_
  refine J.nil ?_
  refine J.then_n (J.k hK2 ?_)
  refine J.keepE [(0, _)] ⟨rfl, trivial⟩ ?_
  refine J.ret ?_
  exact J.done (fun _ _ h => h) (res1 rfl rfl) (retOk () rfl trivial [0] rfl (by decide))

theorem shaHex_ct (F : Hp) (hK : Cells F ⟨0, 0, none⟩ (Sha.K.map W32)) (s : List UInt8) : Ct Tryd.prog 4 [Str s] [F] (fun _ : Unit => .bool true) (fun _ => True) (fun _ => [F]) := by
  obtain ⟨t, ht⟩ : ∃ t, t = s.take 100 := ⟨_, rfl⟩
  have ht1 : t.length ≤ 100 := by rw [ht, List.length_take]; omega
  have htl : (s.take (min s.length 100)).drop 0 = t := by
    rw [ht, List.drop_zero]
    by_cases h : s.length ≤ 100
    · rw [List.take_of_length_le (by omega), List.take_of_length_le h]
    · rw [Nat.min_eq_right (by omega)]
  have hhl := Sha.hexB_length t
  refine Ct.walk Tryd.func4 rfl Tryd.ntmps4 rfl (fun w0 => ?_)
  change J _ [(0, _)] _ _ _
  refine J.seq (fun K1 hK1 => ?_)
  refine J.region ?_
  refine J.y (op_assign rfl rfl) rfl rfl rfl ?_
  refine J.nil ?_
  refine J.then_n (J.k hK1 ?_)
  refine J.keepE [(0, _)] ⟨rfl, trivial⟩ ?_
  refine J.seq (fun K2 hK2 => ?_)
  refine J.seq (fun K3 hK3 => ?_)
  refine J.region ?_
  refine J.e (op_call rfl rfl ent14 (speaks03_ct F hK)) rfl rfl rfl ?_
  intro g8 _
  refine J.y ((op_not rfl rfl).as (v' := .bool false) rfl) rfl rfl rfl ?_
  refine J.nil ?_
  refine J.then_n (J.k hK3 ?_)
  refine J.keepE [(0, _), (9, _)] ⟨rfl, rfl, trivial⟩ ?_
  refine J.condF rfl rfl ?_
  refine J.skip ?_
  refine J.then_n (J.k hK2 ?_)
  refine J.keepE [(0, _)] ⟨rfl, trivial⟩ ?_
  refine J.seq (fun K4 hK4 => ?_)
  refine J.region ?_
  refine J.y (op_move rfl rfl) rfl rfl rfl ?_
  refine J.y (op_move rfl rfl) rfl rfl rfl ?_
  refine J.y (op_slen Tryd.underlying9 rfl rfl) rfl rfl rfl ?_
  refine J.y ((op_min rfl rfl rfl).as (v' := I ((min s.length 100 : Nat) : Int)) (congrArg I (by omega))) rfl rfl rfl ?_
  refine J.y ((op_sslice (l := 0) (h := min s.length 100) Tryd.underlying9 rfl rfl rfl rfl ⟨by omega, by omega⟩).as (congrArg Str htl)) rfl rfl rfl ?_
  refine J.y (op_assign rfl rfl) rfl rfl rfl ?_
  refine J.nil ?_
  refine J.then_n (J.k hK4 ?_)
  refine J.keepE [(0, _)] ⟨rfl, trivial⟩ ?_
  refine J.seq (fun K5 hK5 => ?_)
  refine J.region ?_
  refine J.y (op_move rfl rfl) rfl rfl rfl ?_
  refine J.e (op_call rfl rfl ent19 (hex_ct F t (by omega))) rfl rfl rfl ?_
  intro g16 _
  refine J.y (op_assign rfl rfl) rfl rfl rfl ?_
  refine J.nil ?_
  refine J.then_n (J.k hK5 ?_)
  refine J.keepE [(0, _), (3, _)] ⟨rfl, rfl, trivial⟩ ?_
  refine J.seq (fun K6 hK6 => ?_)
  refine J.seq (fun K7 hK7 => ?_)
  refine J.region ?_
  refine J.y (op_move rfl rfl) rfl rfl rfl ?_
  refine J.y (op_slen Tryd.underlying9 rfl rfl) rfl rfl rfl ?_
  refine J.y (op_move rfl rfl) rfl rfl rfl ?_
  refine J.y (op_slen Tryd.underlying9 rfl rfl) rfl rfl rfl ?_
  refine J.y (op_mul rfl rfl rfl (by omega)) rfl rfl rfl ?_
  refine J.y (op_neq rfl rfl rfl) rfl rfl rfl ?_
  refine J.nil ?_
  refine J.then_n (J.k hK7 ?_)
  refine J.keepE [(0, _), (3, _), (22, _)] ⟨rfl, rfl, rfl, trivial⟩ ?_
  refine J.condF rfl ((by rw [hhl]; simp)) ?_
  refine J.skip ?_
  refine J.then_n (J.k hK6 ?_)
  refine J.keepE [(0, _), (3, _)] ⟨rfl, rfl, trivial⟩ ?_
  refine J.seq (fun K8 hK8 => ?_)
  refine J.seq (fun K9 hK9 => ?_)
  refine J.region ?_
  refine J.y (op_assign rfl rfl) rfl rfl rfl ?_
  refine J.nil ?_
  refine J.then_n (J.k hK9 ?_)
  refine J.keepE [(0, _), (3, _), (4, _)] ⟨rfl, rfl, rfl, trivial⟩ ?_
  refine J.block ?_
  refine J.loop (fun k : Nat => [(0, Str t), (3, Str (Sha.hexB t)), (4, I k)]) (fun _ => [F]) (fun k => k ≤ t.length) (fun k => t.length - k) 0 (Nat.zero_le _) ⟨rfl, rfl, rfl, trivial⟩ (fun _ h => h) ?_
  intro k hk I0 hI0
  refine J.seq (fun K10 hK10 => ?_)
  refine J.seq (fun K11 hK11 => ?_)
  refine J.region ?_
  refine J.y (op_move rfl rfl) rfl rfl rfl ?_
  refine J.y (op_move rfl rfl) rfl rfl rfl ?_
  refine J.y (op_slen Tryd.underlying9 rfl rfl) rfl rfl rfl ?_
  refine J.y (op_lss rfl rfl rfl) rfl rfl rfl ?_
  refine J.nil ?_
  refine J.then_n (J.k hK11 ?_)
  refine J.keepE [(0, _), (3, _), (4, _), (26, _)] ⟨rfl, rfl, rfl, rfl, trivial⟩ ?_
  refine J.ite rfl (fun h26 => ?_) (fun h26 => ?_)
  ·
    refine J.skip ?_
    refine J.then_n (J.k hK10 ?_)
    refine J.keepE [(0, _), (3, _), (4, _)] ⟨rfl, rfl, rfl, trivial⟩ ?_
    refine J.seq (fun K12 hK12 => ?_)
    refine J.block ?_
    refine J.seq (fun K13 hK13 => ?_)
    have hkn : k < t.length := by omega
    obtain ⟨b, hb0⟩ : ∃ b, t[k]? = some b := ⟨_, List.getElem?_eq_getElem (by omega)⟩
    refine J.region ?_
    refine J.y (op_assign rfl rfl) rfl rfl rfl ?_
    refine J.nil ?_
    refine J.then_n (J.k hK13 ?_)
    refine J.keepE [(0, _), (3, _), (4, _), (5, _)] ⟨rfl, rfl, rfl, rfl, trivial⟩ ?_
    refine J.seq (fun K14 hK14 => ?_)
    refine J.seq (fun K15 hK15 => ?_)
    refine J.region ?_
    refine J.y (op_assign rfl rfl) rfl rfl rfl ?_
    refine J.nil ?_
    refine J.then_n (J.k hK15 ?_)
    refine J.keepE [(0, _), (3, _), (4, _), (5, _), (6, _)] ⟨rfl, rfl, rfl, rfl, rfl, trivial⟩ ?_
    refine J.block ?_
    refine J.loop (fun j : Nat => [(0, Str t), (3, Str (Sha.hexB t)), (4, I k), (5, I (Sha.part b j : Nat)), (6, I j)]) (fun _ => [F]) (fun j => j ≤ 2) (fun j => 2 - j) 0 (Nat.zero_le _) ⟨rfl, rfl, rfl, rfl, rfl, trivial⟩ (fun _ h => h) ?_
    intro j hj I2 hI2
    refine J.seq (fun K16 hK16 => ?_)
    refine J.seq (fun K17 hK17 => ?_)
    refine J.region ?_
    refine J.y (op_move rfl rfl) rfl rfl rfl ?_
    refine J.y (op_lss rfl rfl rfl) rfl rfl rfl ?_
    refine J.nil ?_
    refine J.then_n (J.k hK17 ?_)
    refine J.keepE [(0, _), (3, _), (4, _), (5, _), (6, _), (30, _)] ⟨rfl, rfl, rfl, rfl, rfl, rfl, trivial⟩ ?_
    refine J.ite rfl (fun h30 => ?_) (fun h30 => ?_)
    ·
      refine J.skip ?_
      refine J.then_n (J.k hK16 ?_)
      refine J.keepE [(0, _), (3, _), (4, _), (5, _), (6, _)] ⟨rfl, rfl, rfl, rfl, rfl, trivial⟩ ?_
      refine J.seq (fun K18 hK18 => ?_)
      refine J.block ?_
      refine J.seq (fun K19 hK19 => ?_)
      have hnib := Sha.nib b j (by omega)
      have h48 := (Sha.dig b j - 48).toNat_lt
      have h97 := (Sha.dig b j - 97).toNat_lt
      refine J.region ?_
      refine J.y (op_move rfl rfl) rfl rfl rfl ?_
      refine J.y (op_move rfl rfl) rfl rfl rfl ?_
      refine J.y (op_mul rfl rfl rfl (by omega)) rfl rfl rfl ?_
      refine J.y (op_move rfl rfl) rfl rfl rfl ?_
      refine J.y ((op_add rfl rfl rfl (by omega)).as (v' := I ((2 * k + j : Nat) : Int)) (congrArg I (by omega))) rfl rfl rfl ?_
      refine J.y (op_sindex (i := 2 * k + j) Tryd.underlying9 rfl rfl (by rfl) (Sha.hexB_get t k b j hb0 (by omega))) rfl rfl rfl ?_
      refine J.y (op_assign rfl rfl) rfl rfl rfl ?_
      refine J.nil ?_
      refine J.then_n (J.k hK19 ?_)
      refine J.keepE [(0, _), (3, _), (4, _), (5, _), (6, _), (7, _)] ⟨rfl, rfl, rfl, rfl, rfl, rfl, trivial⟩ ?_
      refine J.seq (fun K20 hK20 => ?_)
      refine J.region ?_
      refine J.y (op_move rfl rfl) rfl rfl rfl ?_
      refine J.y (op_geq rfl rfl rfl) rfl rfl rfl ?_
      refine J.y (op_move rfl rfl) rfl rfl rfl ?_
      refine J.split (d := 41) rfl (fun h41 => ?_) (fun h41 => ?_)
      ·
        refine J.yg (Wan.is rfl rfl rfl rfl rfl) (op_move rfl rfl) rfl rfl ?_
        refine J.yg (Wan.is rfl rfl rfl rfl rfl) (op_leq rfl rfl rfl) rfl rfl ?_
        refine J.y (op_pickT rfl rfl rfl) rfl rfl rfl ?_
        refine J.nil ?_
        refine J.then_n (J.k hK20 ?_)
        refine J.keepE [(0, _), (3, _), (4, _), (5, _), (6, _), (7, _), (44, _)] ⟨rfl, rfl, rfl, rfl, rfl, rfl, rfl, trivial⟩ ?_
        refine J.ite rfl (fun h44 => ?_) (fun h44 => ?_)
        ·
          refine J.region ?_
          refine J.y (op_move rfl rfl) rfl rfl rfl ?_
          refine J.y (op_mul rfl rfl rfl (by omega)) rfl rfl rfl ?_
          refine J.y (op_move rfl rfl) rfl rfl rfl ?_
          refine J.y (op_sub8 (b := 48) rfl rfl rfl) rfl rfl rfl ?_
          refine J.y (op_cv_u8_i64 rfl rfl Tryd.underlying5 Tryd.underlying3) rfl rfl rfl ?_
          refine J.y (op_add rfl rfl rfl (by omega)) rfl rfl rfl ?_
          refine J.y (op_assign rfl rfl) rfl rfl rfl ?_
          refine J.nil ?_
          refine J.blk_n ?_
          refine J.then_n (J.k hK18 ?_)
          refine J.keepE [(0, _), (3, _), (4, _), (5, _), (6, _)] ⟨rfl, rfl, rfl, rfl, rfl, trivial⟩ ?_
          refine J.region ?_
          refine J.y (op_move rfl rfl) rfl rfl rfl ?_
          refine J.y (op_add rfl rfl rfl (by omega)) rfl rfl rfl ?_
          refine J.y (op_assign rfl rfl) rfl rfl rfl ?_
          refine J.nil ?_
          refine J.then_n ?_
          exact J.kk (j + 1) (fun x (hx : x ≤ 2 ∧ 2 - x < 2 - j) => hI2 x hx.1 hx.2) ⟨by omega, by omega⟩ ⟨rfl, rfl, rfl, congrArg (fun z : Int => some (I z)) (by omega), rfl, trivial⟩ (fun _ h => h)
        ·
          refine J.seq (fun K21 hK21 => ?_)
          refine J.region ?_
          refine J.y (op_move rfl rfl) rfl rfl rfl ?_
          refine J.y (op_geq rfl rfl rfl) rfl rfl rfl ?_
          refine J.y (op_move rfl rfl) rfl rfl rfl ?_
          refine J.bool (d := 53) (b' := true) rfl ((decide_eq_true (by omega))) ?_
          refine J.yg (Wan.is rfl rfl rfl rfl rfl) (op_move rfl rfl) rfl rfl ?_
          refine J.yg (Wan.is rfl rfl rfl rfl rfl) (op_leq rfl rfl rfl) rfl rfl ?_
          refine J.y (op_pickT rfl rfl rfl) rfl rfl rfl ?_
          refine J.nil ?_
          refine J.then_n (J.k hK21 ?_)
          refine J.keepE [(0, _), (3, _), (4, _), (5, _), (6, _), (7, _), (56, _)] ⟨rfl, rfl, rfl, rfl, rfl, rfl, rfl, trivial⟩ ?_
          refine J.condT rfl ((decide_eq_true (by omega))) ?_
          refine J.region ?_
          refine J.y (op_move rfl rfl) rfl rfl rfl ?_
          refine J.y (op_mul rfl rfl rfl (by omega)) rfl rfl rfl ?_
          refine J.y (op_move rfl rfl) rfl rfl rfl ?_
          refine J.y (op_sub8 (b := 97) rfl rfl rfl) rfl rfl rfl ?_
          refine J.y (op_cv_u8_i64 rfl rfl Tryd.underlying5 Tryd.underlying3) rfl rfl rfl ?_
          refine J.y (op_add rfl rfl rfl (by omega)) rfl rfl rfl ?_
          refine J.y (op_add rfl rfl rfl (by omega)) rfl rfl rfl ?_
          refine J.y (op_assign rfl rfl) rfl rfl rfl ?_
          refine J.nil ?_
          refine J.blk_n ?_
          refine J.then_n (J.k hK18 ?_)
          refine J.keepE [(0, _), (3, _), (4, _), (5, _), (6, _)] ⟨rfl, rfl, rfl, rfl, rfl, trivial⟩ ?_
          refine J.region ?_
          refine J.y (op_move rfl rfl) rfl rfl rfl ?_
          refine J.y (op_add rfl rfl rfl (by omega)) rfl rfl rfl ?_
          refine J.y (op_assign rfl rfl) rfl rfl rfl ?_
          refine J.nil ?_
          refine J.then_n ?_
          exact J.kk (j + 1) (fun x (hx : x ≤ 2 ∧ 2 - x < 2 - j) => hI2 x hx.1 hx.2) ⟨by omega, by omega⟩ ⟨rfl, rfl, rfl, congrArg (fun z : Int => some (I z)) (by omega), rfl, trivial⟩ (fun _ h => h)
      ·
        refine J.no (Wan.is rfl rfl rfl rfl rfl) rfl rfl ?_
        refine J.no (Wan.is rfl rfl rfl rfl rfl) rfl rfl ?_
        refine J.y (op_pickF rfl rfl rfl) rfl rfl rfl ?_
        refine J.nil ?_
        refine J.then_n (J.k hK20 ?_)
        refine J.keepE [(0, _), (3, _), (4, _), (5, _), (6, _), (7, _), (44, _)] ⟨rfl, rfl, rfl, rfl, rfl, rfl, rfl, trivial⟩ ?_
        refine J.condF rfl rfl ?_
        refine J.seq (fun K22 hK22 => ?_)
        refine J.region ?_
        refine J.y (op_move rfl rfl) rfl rfl rfl ?_
        refine J.y (op_geq rfl rfl rfl) rfl rfl rfl ?_
        refine J.y (op_move rfl rfl) rfl rfl rfl ?_
        refine J.bool (d := 53) (b' := true) rfl ((decide_eq_true (by omega))) ?_
        refine J.yg (Wan.is rfl rfl rfl rfl rfl) (op_move rfl rfl) rfl rfl ?_
        refine J.yg (Wan.is rfl rfl rfl rfl rfl) (op_leq rfl rfl rfl) rfl rfl ?_
        refine J.y (op_pickT rfl rfl rfl) rfl rfl rfl ?_
        refine J.nil ?_
        refine J.then_n (J.k hK22 ?_)
        refine J.keepE [(0, _), (3, _), (4, _), (5, _), (6, _), (7, _), (56, _)] ⟨rfl, rfl, rfl, rfl, rfl, rfl, rfl, trivial⟩ ?_
        refine J.condT rfl ((decide_eq_true (by omega))) ?_
        refine J.region ?_
        refine J.y (op_move rfl rfl) rfl rfl rfl ?_
        refine J.y (op_mul rfl rfl rfl (by omega)) rfl rfl rfl ?_
        refine J.y (op_move rfl rfl) rfl rfl rfl ?_
        refine J.y (op_sub8 (b := 97) rfl rfl rfl) rfl rfl rfl ?_
        refine J.y (op_cv_u8_i64 rfl rfl Tryd.underlying5 Tryd.underlying3) rfl rfl rfl ?_
        refine J.y (op_add rfl rfl rfl (by omega)) rfl rfl rfl ?_
        refine J.y (op_add rfl rfl rfl (by omega)) rfl rfl rfl ?_
        refine J.y (op_assign rfl rfl) rfl rfl rfl ?_
        refine J.nil ?_
        refine J.blk_n ?_
        refine J.then_n (J.k hK18 ?_)
        refine J.keepE [(0, _), (3, _), (4, _), (5, _), (6, _)] ⟨rfl, rfl, rfl, rfl, rfl, trivial⟩ ?_
        refine J.region ?_
        refine J.y (op_move rfl rfl) rfl rfl rfl ?_
        refine J.y (op_add rfl rfl rfl (by omega)) rfl rfl rfl ?_
        refine J.y (op_assign rfl rfl) rfl rfl rfl ?_
        refine J.nil ?_
        refine J.then_n ?_
        exact J.kk (j + 1) (fun x (hx : x ≤ 2 ∧ 2 - x < 2 - j) => hI2 x hx.1 hx.2) ⟨by omega, by omega⟩ ⟨rfl, rfl, rfl, congrArg (fun z : Int => some (I z)) (by omega), rfl, trivial⟩ (fun _ h => h)
    ·
      refine J.exit ?_
      refine J.then_x ?_
      refine J.then_x ?_
      refine J.blk_eq ?_
      refine J.then_n (J.k hK14 ?_)
      refine J.keepE [(0, _), (3, _), (4, _), (5, _)] ⟨rfl, rfl, rfl, rfl, trivial⟩ ?_
      refine J.seq (fun K23 hK23 => ?_)
      refine J.region ?_
      refine J.y (op_move rfl rfl) rfl rfl rfl ?_
      refine J.y (op_move rfl rfl) rfl rfl rfl ?_
      refine J.y (op_move rfl rfl) rfl rfl rfl ?_
      refine J.y (op_sindex (i := k) Tryd.underlying9 rfl rfl rfl hb0) rfl rfl rfl ?_
      refine J.y (op_cv_u8_i64 rfl rfl Tryd.underlying5 Tryd.underlying3) rfl rfl rfl ?_
      refine J.y (op_neq rfl rfl rfl) rfl rfl rfl ?_
      refine J.nil ?_
      refine J.then_n (J.k hK23 ?_)
      refine J.keepE [(0, _), (3, _), (4, _), (69, _)] ⟨rfl, rfl, rfl, rfl, trivial⟩ ?_
      refine J.condF rfl ((decide_eq_false (by rw [show j = 2 by omega]; simp [Sha.part]))) ?_
      refine J.skip ?_
      refine J.blk_n ?_
      refine J.then_n (J.k hK12 ?_)
      refine J.keepE [(0, _), (3, _), (4, _)] ⟨rfl, rfl, rfl, trivial⟩ ?_
      refine J.region ?_
      refine J.y (op_move rfl rfl) rfl rfl rfl ?_
      refine J.y (op_add rfl rfl rfl (by omega)) rfl rfl rfl ?_
      refine J.y (op_assign rfl rfl) rfl rfl rfl ?_
      refine J.nil ?_
      refine J.then_n ?_
      exact J.kk (k + 1) (fun x (hx : x ≤ t.length ∧ t.length - x < t.length - k) => hI0 x hx.1 hx.2) ⟨by omega, by omega⟩ ⟨rfl, rfl, rfl, trivial⟩ (fun _ h => h)
  ·
    refine J.exit ?_
    refine J.then_x ?_
    refine J.then_x ?_
    refine J.blk_eq ?_
    refine J.then_n (J.k hK8 ?_)
    refine J.keepE [] trivial ?_
    refine J.seq (fun K24 hK24 => ?_)
    refine J.region ?_
    refine J.y (op_assign rfl rfl) rfl rfl rfl ?_
    refine J.nil ?_
    refine J.then_n (J.k hK24 ?_)
    refine J.keepE [(2, _)] ⟨rfl, trivial⟩ ?_
    refine J.ret ?_
    exact J.done (fun _ _ h => h) (res1 rfl rfl) (retOk () rfl trivial [0] rfl (by decide))

end Go.Proofs.YtadckkaepngloaaDoor
