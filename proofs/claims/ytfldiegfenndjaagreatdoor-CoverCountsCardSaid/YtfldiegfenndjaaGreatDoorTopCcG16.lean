/- A part of the proof. -/
import Derived.Test.YtfldiegfenndjaaGreatDoorTopCcG8
import Derived.Test.YtfldiegfenndjaaGreatDoorTopCcG15
import Derived.Test.YtfldiegfenndjaaGreatDoorTopCcG14
import Derived.Test.YtfldiegfenndjaaGreatDoorTopCcG11
import Derived.Test.YtfldiegfenndjaaGreatDoorTopCcG4
import Derived.Test.YtfldiegfenndjaaGreatDoorTopCcG5
import Derived.Test.YtfldiegfenndjaaGreatDoorTopCcG10
set_option linter.unusedSimpArgs false
set_option linter.unusedVariables false
namespace Go.Proofs.YtfldiegfenndjaaGreatDoor
open Go Go.Fw Go.Proofs.Tryz
set_option maxRecDepth 100000
set_option maxHeartbeats 1000000
namespace Sha
theorem qMP (tag : UInt8) (a : List (List UInt8)) (x : List UInt8) : tagB tag (a ++ [x]) = tagB tag a ++ (numB (UInt64.ofNat x.length) 4 ++ x) := by
 unfold tagB
 rw [List.flatMap_append, ← List.append_assoc]; simp
theorem tagB_take_succ (tag : UInt8) (ls : List (List UInt8)) (k : Nat) (h : k < ls.length) : tagB tag (ls.take (k + 1)) = tagB tag (ls.take k) ++ (numB (UInt64.ofNat (ls.getD k []).length) 4 ++ ls.getD k []) := by
 rw [List.take_succ_eq_append_getElem h, qMP, List.getD_eq_getElem?_getD, List.getElem?_eq_getElem h]; rfl
theorem flat_take (ls : List (List UInt8)) (k : Nat) : (ls.take k).flatten.length ≤ ls.flatten.length := by
 have := congrArg (fun l => l.flatten.length) (List.take_append_drop k ls)
 simp only [List.flatten_append, List.length_append] at this; omega
end Sha
attribute [local irreducible] Sha.tagB
theorem qKw (F : Hp) (tag : UInt8) (A : Option Addr) (n c : Nat) (ls : List (List UInt8)) (hl : Sl F 1 A n c (qAL ls)) (htot : ls.flatten.length ≤ 8589934592) (hn : n ≤ 1073741824) :
    Ct prog 40 [B8 tag, .slice A n c] [F] (fun _ : Unit => Str (Sha.tagged tag ls)) (fun _ => True) (fun _ => [F]) := by
  have hlen : ls.length = n := by have := hl.1; simpa [qAL] using this
  refine Ct.walk func40 rfl ntmps40 rfl (fun w0 hw0 => ?_)
  refine J.g fun K1 hK1 => J.b rfl <| J.c hK1 <| J.M 0 1 ?_
  refine J.g fun K2 hK2 => J.b rfl <| J.u (qAH (l := [.tmp 7]) (xs := [[B8 tag]]) rfl rfl rfl rfl qBP el5 rfl (by decide) (by decide) (by simp)) rfl fun g8 _ => J.f (qBB (l := [tag]) rfl rfl qBP u5_ u9_ (m := blk g8 [B8 tag] 5) (by simp) (qAr (q := True) (xs := [[B8 tag]]) rfl (by simp)).sl) rfl <| J.b rfl <| J.c hK2 <| J.M 1 5 ?_
  refine J.k fun K3 hK3 => J.k fun K4 hK4 => J.c5 [0] [F] rfl (by decide) <| J.E <| J.b rfl <| J.c hK4 <| J.V 1 5 6 ?_
  refine J.T <| J.b2 (fun k : Nat => [(1, .slice A n c), (5, Str (Sha.tagB tag (ls.take k))), (6, I k)]) (fun _ => [F]) (fun k => k ≤ n) (fun k => n - k) 0 (Nat.zero_le _) ⟨rfl, by unfold Sha.tagB; rfl, rfl, trivial⟩ (fun _ h => h) ?_
  intro k hk I0 hI0
  have htl := Sha.tagB_length tag (ls.take k)
  have hft := Sha.flat_take ls k
  rw [List.length_take] at htl
  refine J.k fun K5 hK5 => J.g fun K6 hK6 => J.p 2 rfl <| J.f (qAZ qAn rfl rfl) rfl <| J.f (qAS rfl rfl rfl) rfl <| J.c hK6 <| J.W 1 5 6 13 ?_
  refine J.a0 rfl (fun h13 => ?_) (fun h13 => ?_)
  ·
    refine J.a1 hK5 <| J.V 1 5 6 ?_
    refine J.k fun K7 hK7 => J.T ?_
    have hts := Sha.tagB_take_succ tag ls k (by omega)
    have hgl := qKB (qAi [] (show k < ls.length by omega))
    refine J.b5 [F] [] (.y 0 (.y 1 (.y 2 (.y 3 (.y 4 (.y 5 (.y 7 (.y 8 (.y 9 (.y 10 (.e 6 (.y 11 (.y 12 (.y 13 .nil)))))))))))))) Tryz.wide (by decide +kernel) (by simp) ?_
    iterate 3 refine J.G ?_
    refine J.j rfl (qAG rfl rfl rfl qAn z9_ hl (by omega)) rfl rfl <| J.j rfl (qAK rfl rfl b9_ (m := F) (by simp) (hl.elem (qAa (qAi [] (show k < ls.length by omega))))) rfl rfl <| J.j rfl (qA0 u9_ rfl rfl) rfl rfl <| J.G ?_
    refine J.G ?_
    refine J.j rfl (qAG rfl rfl rfl qAn z9_ hl (by omega)) rfl rfl <| J.j rfl (qAK rfl rfl b9_ (m := F) (by simp) (hl.elem (qAa (qAi [] (show k < ls.length by omega))))) rfl rfl <| J.a7 rfl (qAB rfl rfl ent42 (Ct.use0 (fun F' hF => qNm F' (ls.getD k []).length (by omega)))) rfl (by simp) fun g22 _ => J.j rfl ((qBZ rfl rfl rfl (by rw [Sha.numB_length]; omega))) rfl rfl <| J.j rfl ((qBZ rfl rfl rfl (by rw [List.length_append, Sha.numB_length]; omega)).as (v' := Str (Sha.tagB tag (ls.take (k + 1)))) (by rw [hts])) rfl rfl <| J.c0 ?_
    refine J.b4 <| J.a4 <| J.q (J.H hK7 ?_)
    refine J.V 1 5 6 ?_
    exact J.E <| J.b rfl <| J.f ((qAO rfl rfl rfl (by omega)).nat (k + 1) (by omega)) rfl <| J.b rfl <| J.a2 <| J.q <| J.a6 (k + 1) (fun x (hx : x ≤ n ∧ n - x < n - k) => hI0 x hx.1 hx.2) ⟨by omega, by omega⟩ ⟨rfl, rfl, rfl, trivial⟩ (fun _ h => h)
  refine J.b0 <| J.Z <| J.Z <| J.b1 ?_
  refine J.q (J.H hK3 ?_)
  refine J.A 5 ?_
  refine J.k fun K8 hK8 => ?_
  have htl := Sha.tagB_length tag ls
  refine J.E <| J.f ((qAj rfl rfl).as (v' := Str (Sha.tagB tag ls)) (by rw [List.take_of_length_le (by omega)])) rfl <| J.u (qAB rfl rfl ent41 (Ct.use0 (fun F' hF => qMQ F' (Sha.tagB tag ls) (by omega)))) rfl fun g30 _ => J.f ((qCC u9_ rfl rfl rfl rfl ⟨by omega, by rw [Sha.sum_length]; decide⟩).as (congrArg Str (List.drop_zero))) rfl <| J.b rfl <| J.c hK8 <| J.A 4 ?_
  exact J.D <| J.L hw0 rfl () (by unfold Sha.tagged; rfl) trivial [0] rfl (by decide)
end Go.Proofs.YtfldiegfenndjaaGreatDoor
namespace Go.Proofs.YtfldiegfenndjaaGreatDoor
open Go Go.Fw Go.Proofs.Tryz
set_option maxRecDepth 100000
set_option maxHeartbeats 1000000
theorem ent147 : qAC prog 147 := qAC.of func147 rfl (by kernel_rfl)
theorem gsome {s : List UInt8} {i : Nat} (h : i < s.length) : s[i]? = some (s.getD i 0) := qAi 0 h
theorem qKS (F : Hp) (k : List UInt8) (hk : k.length ≤ 1000000) (d : Nat) (hd : d ≤ 1000000) : Ct prog 147 [Str (k), I ((d : Nat) : Int)] [F] (fun _ : Unit => I ((Sm.bit k d : Nat) : Int)) (fun _ => True) (fun _ => [F]) := by
 refine Ct.walk func147 rfl ntmps147 rfl (fun w0 hw0 => ?_)
 refine J.g fun K1 hK1 => J.b rfl <| J.c hK1 <| J.M 0 1 ?_
 refine J.k fun K2 hK2 => J.g fun K3 hK3 => J.b rfl <| J.f (qAS rfl rfl rfl) rfl <| J.b rfl <| J.c3 (d := 7) rfl (fun h7 => ?_) (fun h7 => ?_)
 ·
  refine J.p 6 rfl <| J.c hK3 <| J.V 0 1 13 ?_
  refine J.d1 ?_
  refine J.g fun K4 hK4 => J.b rfl <| J.c hK4 <| J.A 4 ?_
  exact J.D <| J.a5 <| J.L hw0 rfl () (by unfold Sm.bit; rw [if_neg (by omega)]; rfl) trivial [0] rfl (by decide)
 refine J.p 2 rfl <| J.O (qA0 u9_ rfl rfl) rfl <| J.O ((qCD rfl rfl rfl (by first | omega | (have h8 := (UInt8.ofNat ((k.getD (d / 8) 0).toNat / 2 ^ (7 - d % 8))).toNat_lt; omega))).nat (8 * k.length) (by omega)) rfl <| J.O (qBG rfl rfl rfl) rfl <| J.b rfl <| J.c hK3 <| J.V 0 1 13 ?_
 refine J.a0 rfl (fun h13 => ?_) (fun h13 => ?_)
 ·
  refine J.g fun K5 hK5 => J.b rfl <| J.c hK5 <| J.A 4 ?_
  exact J.D <| J.a5 <| J.L hw0 rfl () (by unfold Sm.bit; rw [if_neg (by omega)]; rfl) trivial [0] rfl (by decide)
 refine J.a1 hK2 <| J.M 0 1 ?_
 refine J.k fun K6 hK6 => ?_
 have hb8 : ((k.getD (d / 8) 0).toNat / 2 ^ (7 - d % 8)) < 256 := Nat.lt_of_le_of_lt (Nat.div_le_self _ _) (k.getD (d / 8) 0).toNat_lt
 have hbe : (UInt8.ofNat ((k.getD (d / 8) 0).toNat / 2 ^ (7 - d % 8))).toNat &&& 1 = Sm.bit k d := by
  unfold Sm.bit
  rw [if_pos (by omega), UInt8.toNat_ofNat_of_lt' hb8, Nat.and_one_is_mod]
 refine J.E <| J.p 2 rfl <| J.f ((qJv rfl rfl rfl (by first | omega | (have h8 := (UInt8.ofNat ((k.getD (d / 8) 0).toNat / 2 ^ (7 - d % 8))).toNat_lt; omega))).nat (d / 8) (by omega)) rfl <| J.f (qBS u9_ rfl rfl rfl (gsome (by omega))) rfl <| J.b rfl <| J.f ((qFS rfl rfl rfl (by first | omega | (have h8 := (UInt8.ofNat ((k.getD (d / 8) 0).toNat / 2 ^ (7 - d % 8))).toNat_lt; omega))).nat (d % 8) (by omega)) rfl <| J.f ((qAs rfl rfl rfl (by omega)).nat (7 - d % 8) (by omega)) rfl <| J.f ((qNE rfl rfl rfl).as (v' := B8 (UInt8.ofNat ((k.getD (d / 8) 0).toNat / 2 ^ (7 - d % 8)))) (by rw [Nat.min_eq_left (by omega)])) rfl <| J.f (qBT rfl rfl u5_ u3_) rfl <| J.f (qIz (a := (UInt8.ofNat ((k.getD (d / 8) 0).toNat / 2 ^ (7 - d % 8))).toNat) (b := 1) rfl rfl rfl (by first | omega | (have h8 := (UInt8.ofNat ((k.getD (d / 8) 0).toNat / 2 ^ (7 - d % 8))).toNat_lt; omega))) rfl <| J.b rfl <| J.c hK6 <| J.A 4 ?_
 exact J.D <| J.L hw0 rfl () (by rw [hbe]) trivial [0] rfl (by decide)
theorem qEF (F : Hp) (k : List UInt8) (hk : k.length ≤ 1000000) (b : List UInt8) (hb : b.length ≤ 1000000) (d : Int) : Ct prog 100 [Str (k), Str (b), I (d)] [F] (fun _ : Unit => .bool (Sm.belowB k b (min d.toNat 128))) (fun _ => True) (fun _ => [F]) := by
 refine Ct.walk func100 rfl ntmps100 rfl (fun w0 hw0 => ?_)
 refine J.g fun K1 hK1 => J.b rfl <| J.c hK1 <| J.V 0 1 2 ?_
 refine J.k fun K2 hK2 => J.g fun K3 hK3 => J.b rfl <| J.f ((qJy rfl rfl rfl).nat (d.toNat) (by omega)) rfl <| J.f ((qJx rfl rfl rfl).nat (min d.toNat 128) (by omega)) rfl <| J.b rfl <| J.c hK3 <| J.W 0 1 10 11 ?_
 refine J.T <| J.b2 (X := Nat) (fun ζ => [(0, Str (k)), (1, Str (b)), (10, I ((min d.toNat 128 : Nat) : Int)), (11, I ((ζ : Nat) : Int))]) (fun ζ => [F]) (fun ζ => ζ ≤ min d.toNat 128 ∧ ∀ j < ζ, Sm.bit k j = Sm.bit b j) (fun ζ => min d.toNat 128 - ζ) 0 (⟨Nat.zero_le _, fun j h => absurd h (Nat.not_lt_zero j)⟩) ⟨rfl, rfl, rfl, rfl, trivial⟩ (fun _ h => h) ?_
 rintro i ⟨hi, hs⟩ I0 hI0
 refine J.g fun K4 hK4 => J.f (qAS rfl rfl rfl) rfl <| J.c hK4 <| J.a3 0 1 10 11 12 ?_
 refine J.k fun K5 hK5 => J.a0 rfl (fun h12 => ?_) (fun h12 => ?_)
 ·
  refine J.a1 hK5 <| J.W 0 1 10 11 ?_
  refine J.k fun K6 hK6 => J.T <| J.g fun K7 hK7 => J.p 2 rfl <| J.c hK7 <| J.a3 0 1 7 10 11 ?_
  refine J.g fun K8 hK8 => J.p 2 rfl <| J.u (qAB rfl rfl ent147 (Ct.use0 (fun F' hF => qKS F' k (by first | omega | exact hsm _) i (by omega)))) rfl fun g16 _ => J.p 2 rfl <| J.u (qAB rfl rfl ent147 (Ct.use0 (fun F' hF => qKS F' b (by first | omega | exact hsm _) i (by omega)))) rfl fun g19 _ => J.f (qAx rfl rfl rfl) rfl <| J.c hK8 <| J.a3 0 1 10 11 20 ?_
  refine J.a0 rfl (fun h20 => ?_) (fun h20 => ?_)
  ·
   refine J.g fun K9 hK9 => J.b rfl <| J.c hK9 <| J.A 6 ?_
   exact J.D <| J.b3 <| J.a5 <| J.a5 <| J.b3 <| J.a5 <| J.L hw0 rfl () (by rw [Sm.belowB_no (i := i) (by omega) (by omega)]) trivial [0] rfl (by decide)
  refine J.b7 <| J.a4 <| J.q (J.H hK6 ?_)
  refine J.W 0 1 10 11 ?_
  exact J.E <| J.f ((qAO rfl rfl rfl (by omega)).nat (i + 1) (by omega)) rfl <| J.b rfl <| J.a2 <| J.q <| J.a6 (i + 1) (fun η (hη : _ ∧ min d.toNat 128 - η < min d.toNat 128 - i) => hI0 η hη.1 hη.2) ⟨⟨by omega, fun j hj => by rcases Nat.lt_succ_iff_lt_or_eq.1 hj with h | rfl; exact hs j h; omega⟩, by first | omega | (dsimp only; omega)⟩ ⟨rfl, rfl, rfl, rfl, trivial⟩ (fun _ h => h)
 refine J.b0 <| J.Z <| J.Z <| J.b1 ?_
 refine J.q (J.H hK2 ?_)
 refine J.c6 [] trivial <| J.g fun K10 hK10 => J.b rfl <| J.c hK10 <| J.A 6 ?_
 exact J.D <| J.L hw0 rfl () (by rw [Sm.belowB_yes (fun j hj => hs j (by omega))]) trivial [0] rfl (by decide)
theorem qRa (F : Hp)  : Ct prog 31 [] [F] (fun x : Nat × Hp => Ptr x.1) (fun x => qHV x.2 x.1 ([])) (fun x => [x.2, F]) := by
 refine Ct.walk func31 rfl ntmps31 rfl (fun w0 hw0 => ?_)
 refine J.g fun K1 hK1 => J.b rfl <| J.c hK1 <| J.c6 [] trivial <| J.g fun K2 hK2 => J.u (qGN rfl) rfl ?_
 rintro g1 _
 refine J.f (qAQ (places := [(0, 1)]) (r := [.map (some g1)]) rfl rfl rfl qML zeroValue166 (fun _ => by kernel_rfl) rfl) rfl <| J.u (qAl rfl rfl rfl) rfl fun g3 _ => J.b rfl <| J.c hK2 <| J.A 0 ?_
 exact J.D <| J.c2 hw0 (fun _ _ h => h) (qOW rfl rfl) (qB3 (g3, U [blk g3 [.map (some g1)] 166, qAN g1 (.map #[] 0)]) (rfl) (fun hd => ⟨g1, qAN g1 (.map #[] 0), rfl, hd, (qRJ.nil g1)⟩) [2, 1, 0] rfl rfl (by decide))
theorem qRb (F : Hp) (g : Nat) (l : List Sm.PR) (hT : qEX F g l) (k : List UInt8) : Ct prog 102 [Ptr g, Str (k)] [F] (fun _ : Unit => .tuple #[Str ((Sm.getP l k).getD []), .bool ((Sm.getP l k).isSome)]) (fun _ => True) (fun _ => [F]) := by
 have hT0 := hT
 obtain ⟨gm, hc, hm⟩ := hT0
 refine Ct.walk func102 rfl ntmps102 rfl (fun w0 hw0 => ?_)
 refine J.g fun K1 hK1 => J.p 2 rfl <| J.c hK1 <| J.M 0 1 ?_
 refine J.k fun K2 hK2 => J.g fun K3 hK3 => J.b rfl <| J.f ((qBm qTa rfl rfl rfl).as (v' := .bool false) rfl) rfl <| J.c hK3 <| J.V 0 1 9 ?_
 refine J.b6 ?_
 refine J.a1 hK2 <| J.M 0 1 ?_
 refine J.g fun K4 hK4 => J.b rfl <| J.f (qAE rfl rfl) rfl <| J.a8 0 qML sizeOf164 rfl rfl rfl rfl rfl <| J.f (qAK rfl rfl isAgg164 (m := F) (by simp) (hc)) rfl <| J.b rfl <| J.f ((qLL rfl rfl rfl underlying164 u9_ e9_ (m := F) (by simp) hm).as (v' := .tuple #[Str ((Sm.getP l k).getD []), .bool ((Sm.getP l k).isSome)]) (by rw [qI9, qNk, Option.isSome_map])) rfl <| J.p 5 rfl <| J.c hK4 <| J.M 6 7 ?_
 refine J.g fun K5 hK5 => J.p 4 rfl <| J.c hK5 <| J.M 4 5 ?_
 exact J.D <| J.c2 hw0 (fun _ _ h => h) (qDb rfl rfl rfl) (qBD () rfl trivial [0] rfl (by decide))
theorem qRZ (F m : Hp) (g : Nat) (l : List Sm.PR) (hb : qHV m g l) (k v : List UInt8) (hk : k.length = 16) : Ct prog 57 [Ptr g, Str (k), Str (v)] [m, F] (fun _ : Hp => I ((0 : Nat) : Int)) (fun m' => qHV m' g (Sm.putP l k v)) (fun m' => [m', F]) := by
 obtain ⟨gm, mm, rfl, hd, hmp⟩ := hb
 refine Ct.walk func57 rfl ntmps57 rfl (fun w0 hw0 => ?_)
 refine J.f2 hd ?_
 refine J.g fun K1 hK1 => J.b rfl <| J.c hK1 <| J.V 0 1 2 ?_
 refine J.k fun K2 hK2 => J.T <| J.g fun K3 hK3 => J.b rfl <| J.f (qBm qTa rfl rfl rfl) rfl <| J.b rfl <| J.c hK3 <| J.W 0 1 2 7 ?_
 refine J.b6 ?_
 refine J.g fun K4 hK4 => J.b rfl <| J.f (qA0 u9_ rfl rfl) rfl <| J.f ((qAx rfl rfl rfl).no (by omega)) rfl <| J.b rfl <| J.c hK4 <| J.W 0 1 2 10 ?_
 refine J.b6 ?_
 refine J.b7 <| J.a4 <| J.q (J.H hK2 ?_)
 refine J.V 0 1 2 ?_
 refine J.g fun K5 hK5 => J.b rfl <| J.f (qAE rfl rfl) rfl <| J.a8 0 qML sizeOf164 rfl rfl rfl rfl rfl <| J.c4 0 isAgg164 rfl rfl rfl rfl rfl <| J.p 2 rfl <| J.c1 (qH0 (i := 1) rfl rfl rfl rfl underlying164 u9_ rfl hmp) rfl rfl ?_
 rintro m5_1 hm5_1
 rw [qMw] at hm5_1
 refine J.c hK5 <| J.c6 [] trivial <| J.g fun K6 hK6 => J.b rfl <| J.c hK6 <| J.A 6 ?_
 exact J.D <| J.c2 hw0 (fun _ _ h => h) (qOW rfl rfl) (qB3 (U [blk g [.map (some gm)] 166, m5_1]) (rfl) (fun hd => ⟨gm, m5_1, rfl, hd, hm5_1⟩) [0, 1, 2] rfl rfl (by decide))
namespace Sha
end Sha
attribute [local irreducible] Sha.tagB
end Go.Proofs.YtfldiegfenndjaaGreatDoor
namespace Go.Proofs.YtfldiegfenndjaaGreatDoor
set_option maxRecDepth 100000
set_option maxHeartbeats 1000000
namespace SN
def qAo {α : Type} (n : Nat) (g : Nat → α) : α := Nat.rec (g 0) (fun m _ => g (Nat.succ m)) n
theorem qAg {α : Type} (n : Nat) (g : Nat → α) : qAo n g = g n := by cases n <;> rfl
noncomputable def forceL {α : Type} (l : List Nat) : (List Nat → α) → α := List.rec (fun g => g []) (fun a _ ih g => qAo a fun x => ih fun r => g (x :: r)) l
theorem qAy {α : Type} : ∀ (l : List Nat) (g : List Nat → α), forceL l g = g l
 | [], _ => rfl
 | a :: l, g => by
  show qAo a (fun x => forceL l fun r => g (x :: r)) = g (a :: l)
  rw [qAg, qAy l]
def rot (x r q : Nat) : Nat := x / r + x % r * q
noncomputable def sch (n : Nat) : Nat → Nat → Nat → Nat → Nat → Nat → Nat → Nat → Nat → Nat → Nat → Nat → Nat → Nat → Nat → Nat → List Nat :=
 Nat.rec (fun a b c d e f g h i j k l m n o p => [a, b, c, d, e, f, g, h, i, j, k, l, m, n, o, p])
  (fun _ ih a b c d e f g h i j k l m n o p => a :: qAo ((a + Nat.xor (Nat.xor (rot b 128 33554432) (rot b 262144 16384)) (b / 8) + j + Nat.xor (Nat.xor (rot o 131072 32768) (rot o 524288 8192)) (o / 1024)) % 4294967296) fun x => ih b c d e f g h i j k l m n o p x) n
noncomputable def rds (kw : List Nat) : List Nat → Nat → Nat → Nat → Nat → Nat → Nat → Nat → Nat → List Nat :=
 List.rec (fun _ a b c d e f g h => [a, b, c, d, e, f, g, h])
  (fun k _ ih ws a b c d e f g h => List.rec [] (fun w ws _ =>
   qAo ((h + Nat.xor (Nat.xor (rot e 64 67108864) (rot e 2048 2097152)) (rot e 33554432 128) + Nat.xor (Nat.land e f) (Nat.land (4294967295 - e) g) + k + w) % 4294967296) fun t1 =>
   qAo ((t1 + (Nat.xor (Nat.xor (rot a 4 1073741824) (rot a 8192 524288)) (rot a 4194304 1024) + Nat.xor (Nat.xor (Nat.land a b) (Nat.land a c)) (Nat.land b c))) % 4294967296) fun x =>
   qAo ((d + t1) % 4294967296) fun y => ih ws x a b c y e f g) ws) kw
theorem qPE (k w : Nat) (ks ws : List Nat) (a b c d e f g h : Nat) : rds (k :: ks) (w :: ws) a b c d e f g h =
      qAo ((h + Nat.xor (Nat.xor (rot e 64 67108864) (rot e 2048 2097152)) (rot e 33554432 128) + Nat.xor (Nat.land e f) (Nat.land (4294967295 - e) g) + k + w) % 4294967296) fun t1 =>
      qAo ((t1 + (Nat.xor (Nat.xor (rot a 4 1073741824) (rot a 8192 524288)) (rot a 4194304 1024) + Nat.xor (Nat.xor (Nat.land a b) (Nat.land a c)) (Nat.land b c))) % 4294967296) fun x =>
      qAo ((d + t1) % 4294967296) fun y => rds ks ws x a b c y e f g := rfl
theorem qO4 (n' a b c d e f g h i j k l m n o p : Nat) : sch (n' + 1) a b c d e f g h i j k l m n o p = a :: qAo ((a + Nat.xor (Nat.xor (rot b 128 33554432) (rot b 262144 16384)) (b / 8) + j + Nat.xor (Nat.xor (rot o 131072 32768) (rot o 524288 8192)) (o / 1024)) % 4294967296) fun x => sch n' b c d e f g h i j k l m n o p x := rfl
theorem qR4 (ws : List Nat) (a b c d e f g h : Nat) : rds [] ws a b c d e f g h = [a, b, c, d, e, f, g, h] := rfl
theorem qO3 (a b c d e f g h i j k l m n o p : Nat) : sch 0 a b c d e f g h i j k l m n o p = [a, b, c, d, e, f, g, h, i, j, k, l, m, n, o, p] := rfl
attribute [local irreducible] rds sch
theorem rot_eq (x : UInt32) (r : Nat) (h1 : 1 ≤ r) (h2 : r < 32) : rot x.toNat (2 ^ r) (4294967296 / 2 ^ r) = (Sha.rotr x r).toNat := (R3.rotr_nat x r h1 h2).symm
theorem xor_eq (a b : UInt32) : Nat.xor a.toNat b.toNat = (a ^^^ b).toNat := (UInt32.toNat_xor a b).symm
theorem and_eq (a b : UInt32) : Nat.land a.toNat b.toNat = (a &&& b).toNat := (UInt32.toNat_and a b).symm
theorem not_eq (a : UInt32) : 4294967295 - a.toNat = (~~~ a).toNat := by simp
theorem qPG (k w : UInt32) (ks ws : List Nat) (s : Sha.St8) : rds (k.toNat :: ks) (w.toNat :: ws) s.a.toNat s.b.toNat s.c.toNat s.d.toNat s.e.toNat s.f.toNat s.g.toNat s.h.toNat =
    rds ks ws (Sha.rnd w k s).a.toNat (Sha.rnd w k s).b.toNat (Sha.rnd w k s).c.toNat (Sha.rnd w k s).d.toNat (Sha.rnd w k s).e.toNat (Sha.rnd w k s).f.toNat (Sha.rnd w k s).g.toNat (Sha.rnd w k s).h.toNat := by
  obtain ⟨S1, hS1⟩ : ∃ x, x = Sha.rotr s.e 6 ^^^ Sha.rotr s.e 11 ^^^ Sha.rotr s.e 25 := ⟨_, rfl⟩
  obtain ⟨CH, hCH⟩ : ∃ x, x = s.e &&& s.f ^^^ ~~~ s.e &&& s.g := ⟨_, rfl⟩
  obtain ⟨T1, hT1⟩ : ∃ x, x = s.h + S1 + CH + k + w := ⟨_, rfl⟩
  obtain ⟨S0, hS0⟩ : ∃ x, x = Sha.rotr s.a 2 ^^^ Sha.rotr s.a 13 ^^^ Sha.rotr s.a 22 := ⟨_, rfl⟩
  obtain ⟨MJ, hMJ⟩ : ∃ x, x = s.a &&& s.b ^^^ s.a &&& s.c ^^^ s.b &&& s.c := ⟨_, rfl⟩
  have hrn : Sha.rnd w k s = ⟨T1 + (S0 + MJ), s.a, s.b, s.c, s.d + T1, s.e, s.f, s.g⟩ := by rw [hT1, hS0, hMJ, hS1, hCH]; rfl
  have e1 : Nat.xor (Nat.xor (rot s.e.toNat 64 67108864) (rot s.e.toNat 2048 2097152)) (rot s.e.toNat 33554432 128) = S1.toNat := by
    rw [show rot s.e.toNat 64 67108864 = _ from rot_eq s.e 6 (by decide) (by decide), show rot s.e.toNat 2048 2097152 = _ from rot_eq s.e 11 (by decide) (by decide), show rot s.e.toNat 33554432 128 = _ from rot_eq s.e 25 (by decide) (by decide), xor_eq, xor_eq, ← hS1]
  have e2 : Nat.xor (Nat.land s.e.toNat s.f.toNat) (Nat.land (4294967295 - s.e.toNat) s.g.toNat) = CH.toNat := by rw [not_eq, and_eq, and_eq, xor_eq, ← hCH]
  have e3 : Nat.xor (Nat.xor (rot s.a.toNat 4 1073741824) (rot s.a.toNat 8192 524288)) (rot s.a.toNat 4194304 1024) = S0.toNat := by
    rw [show rot s.a.toNat 4 1073741824 = _ from rot_eq s.a 2 (by decide) (by decide), show rot s.a.toNat 8192 524288 = _ from rot_eq s.a 13 (by decide) (by decide), show rot s.a.toNat 4194304 1024 = _ from rot_eq s.a 22 (by decide) (by decide), xor_eq, xor_eq, ← hS0]
  have e4 : Nat.xor (Nat.xor (Nat.land s.a.toNat s.b.toNat) (Nat.land s.a.toNat s.c.toNat)) (Nat.land s.b.toNat s.c.toNat) = MJ.toNat := by rw [and_eq, and_eq, and_eq, xor_eq, xor_eq, ← hMJ]
  have t1 : (s.h.toNat + S1.toNat + CH.toNat + k.toNat + w.toNat) % 4294967296 = T1.toNat := by rw [hT1]; simp only [UInt32.toNat_add]; omega
  have t2 : (T1.toNat + (S0.toNat + MJ.toNat)) % 4294967296 = (T1 + (S0 + MJ)).toNat := by simp only [UInt32.toNat_add]; omega
  have t3 : (s.d.toNat + T1.toNat) % 4294967296 = (s.d + T1).toNat := by simp only [UInt32.toNat_add]
  rw [hrn, qPE, qAg, e1, e2, t1, qAg, e3, e4, t2, qAg, t3]
def fold (ks ws : List UInt32) (s : Sha.St8) : Sha.St8 := (ks.zip ws).foldl (fun s kw => Sha.rnd kw.2 kw.1 s) s
theorem fold_cons (k w : UInt32) (ks ws : List UInt32) (s : Sha.St8) : fold (k :: ks) (w :: ws) s = fold ks ws (Sha.rnd w k s) := by unfold fold; rw [List.zip_cons_cons, List.foldl_cons]
theorem qKK (ws : List UInt32) (s : Sha.St8) : fold [] ws s = s := by unfold fold; rw [List.zip_nil_left, List.foldl_nil]
theorem qPF (ks : List UInt32) : ∀ (ws : List UInt32) (s : Sha.St8), ks.length = ws.length → rds (ks.map UInt32.toNat) (ws.map UInt32.toNat) s.a.toNat s.b.toNat s.c.toNat s.d.toNat s.e.toNat s.f.toNat s.g.toNat s.h.toNat = (fold ks ws s).list.map UInt32.toNat := by
 induction ks with
 | nil =>
  intro ws s h
  cases ws with
  | nil => rw [List.map_nil, qR4, qKK, Sha.St8.list]; rfl
  | cons _ _ => cases h
 | cons k ks ih =>
  intro ws s h
  cases ws with
  | nil => cases h
  | cons w ws =>
   rw [List.map_cons, List.map_cons, qPG k w (ks.map UInt32.toNat) (ws.map UInt32.toNat) s, fold_cons, ih ws (Sha.rnd w k s) (by simpa using h)]
theorem fold_rnds (ws : List UInt32) (s : Sha.St8) (hw : ws.length = 64) : ∀ m i, i + m = 64 → fold (Sha.K.drop i) (ws.drop i) (Sha.rnds ws s i) = Sha.rnds ws s 64
 | 0, i, h => by
  obtain rfl : i = 64 := by omega
  rw [List.drop_of_length_le (l := ws) (by omega), List.drop_of_length_le (l := Sha.K) (Nat.le_refl 64), qKK]
 | m + 1, i, h => by
  have h1 : i < Sha.K.length := by show i < 64; omega
  have h2 : i < ws.length := by omega
  rw [List.drop_eq_getElem_cons h1, List.drop_eq_getElem_cons h2, fold_cons]
  have e : Sha.rnd ws[i] Sha.K[i] (Sha.rnds ws s i) = Sha.rnds ws s (i + 1) := by
   rw [Sha.rnds, List.getD_eq_getElem?_getD, List.getD_eq_getElem?_getD, List.getElem?_eq_getElem h1, List.getElem?_eq_getElem h2]; rfl
  rw [e]
  exact fold_rnds ws s hw m (i + 1) (by omega)
theorem exts_succ' (l : List UInt32) : ∀ n, Sha.exts (n + 1) l = Sha.exts n (Sha.ext l)
 | 0 => rfl
 | n + 1 => by rw [Sha.exts, exts_succ' l n]; rfl
theorem qEu (p l : List UInt32) (k : Nat) : (p ++ l).getD (p.length + k) 0 = l.getD k 0 := by
 rw [List.getD_eq_getElem?_getD, List.getElem?_append_right (by omega), Nat.add_sub_cancel_left, ← List.getD_eq_getElem?_getD]
theorem qTh (b : UInt32) : Nat.xor (Nat.xor (rot b.toNat 128 33554432) (rot b.toNat 262144 16384)) (b.toNat / 8) = (Sha.sg0 b).toNat := by
 have h1 : rot b.toNat 128 33554432 = (Sha.rotr b 7).toNat := rot_eq b 7 (by decide) (by decide)
 have h2 : rot b.toNat 262144 16384 = (Sha.rotr b 18).toNat := rot_eq b 18 (by decide) (by decide)
 have h3 : b.toNat / 8 = (Sha.shr b 3).toNat := (R3.shr_nat b 3 (by decide)).symm
 rw [h1, h2, h3, xor_eq, xor_eq]; unfold Sha.sg0; rfl
theorem qTg (b : UInt32) : Nat.xor (Nat.xor (rot b.toNat 131072 32768) (rot b.toNat 524288 8192)) (b.toNat / 1024) = (Sha.sg1 b).toNat := by
 have h1 : rot b.toNat 131072 32768 = (Sha.rotr b 17).toNat := rot_eq b 17 (by decide) (by decide)
 have h2 : rot b.toNat 524288 8192 = (Sha.rotr b 19).toNat := rot_eq b 19 (by decide) (by decide)
 have h3 : b.toNat / 1024 = (Sha.shr b 10).toNat := (R3.shr_nat b 10 (by decide)).symm
 rw [h1, h2, h3, xor_eq, xor_eq]; unfold Sha.sg1; rfl
theorem ext_eq (q : List UInt32) (a b c d e f g h i j k l m n' o p : UInt32) : Sha.ext (q ++ [a, b, c, d, e, f, g, h, i, j, k, l, m, n', o, p]) = (q ++ [a]) ++ [b, c, d, e, f, g, h, i, j, k, l, m, n', o, p, a + Sha.sg0 b + j + Sha.sg1 o] := by
 have hlen : (q ++ [a, b, c, d, e, f, g, h, i, j, k, l, m, n', o, p]).length = q.length + 16 := by rw [List.length_append]; rfl
 unfold Sha.ext
 have g0 : (q ++ [a, b, c, d, e, f, g, h, i, j, k, l, m, n', o, p]).getD (q.length + 0) 0 = a := qEu q [a, b, c, d, e, f, g, h, i, j, k, l, m, n', o, p] 0
 have g1 : (q ++ [a, b, c, d, e, f, g, h, i, j, k, l, m, n', o, p]).getD (q.length + 1) 0 = b := qEu q [a, b, c, d, e, f, g, h, i, j, k, l, m, n', o, p] 1
 have g9 : (q ++ [a, b, c, d, e, f, g, h, i, j, k, l, m, n', o, p]).getD (q.length + 9) 0 = j := qEu q [a, b, c, d, e, f, g, h, i, j, k, l, m, n', o, p] 9
 have g14 : (q ++ [a, b, c, d, e, f, g, h, i, j, k, l, m, n', o, p]).getD (q.length + 14) 0 = o := qEu q [a, b, c, d, e, f, g, h, i, j, k, l, m, n', o, p] 14
 rw [hlen, show q.length + 16 - 16 = q.length + 0 by omega, show q.length + 16 - 15 = q.length + 1 by omega, show q.length + 16 - 7 = q.length + 9 by omega, show q.length + 16 - 2 = q.length + 14 by omega, g0, g1, g9, g14]
 generalize a + Sha.sg0 b + j + Sha.sg1 o = x
 simp only [List.append_assoc, List.cons_append, List.nil_append]
theorem sch_sum (a b j o : UInt32) : (a.toNat + (Sha.sg0 b).toNat + j.toNat + (Sha.sg1 o).toNat) % 4294967296 = (a + Sha.sg0 b + j + Sha.sg1 o).toNat := by
 generalize Sha.sg0 b = x
 generalize Sha.sg1 o = y
 simp only [UInt32.toNat_add]; omega
theorem qO5 (n : Nat) : ∀ (q : List UInt32) (a b c d e f g h i j k l m n' o p : UInt32), (Sha.exts n (q ++ [a, b, c, d, e, f, g, h, i, j, k, l, m, n', o, p])).map UInt32.toNat = q.map UInt32.toNat ++ sch n a.toNat b.toNat c.toNat d.toNat e.toNat f.toNat g.toNat h.toNat i.toNat j.toNat k.toNat l.toNat m.toNat n'.toNat o.toNat p.toNat := by
 induction n with
 | zero => intro q a b c d e f g h i j k l m n' o p; rw [Sha.exts, List.map_append, qO3]; rfl
 | succ n ih =>
  intro q a b c d e f g h i j k l m n' o p
  rw [exts_succ', ext_eq, ih (q ++ [a]), qO4, qAg, qTh, qTg, sch_sum]
  generalize sch n b.toNat c.toNat d.toNat e.toNat f.toNat g.toNat h.toNat i.toNat j.toNat k.toNat l.toNat m.toNat n'.toNat o.toNat p.toNat _ = z
  simp only [List.map_append, List.append_assoc, List.map_cons, List.map_nil, List.cons_append, List.nil_append]
def w4 (l : List Nat) : Nat := ((l.getD 0 0 * 256 + l.getD 1 0) * 256 + l.getD 2 0) * 256 + l.getD 3 0
theorem getD_map (l : List UInt8) (i : Nat) : (l.map UInt8.toNat).getD i 0 = (l.getD i 0).toNat := by
 rw [List.getD_eq_getElem?_getD, List.getD_eq_getElem?_getD, List.getElem?_map]
 cases l[i]? <;> rfl
theorem w4_eq (l : List UInt8) (i : Nat) : w4 ((l.map UInt8.toNat).drop (4 * i)) = (Sha.word l i).toNat := by
 have hg : ∀ k, (((l.map UInt8.toNat).drop (4 * i)).getD k 0) = (l.getD (4 * i + k) 0).toNat := fun k => by
  rw [List.getD_eq_getElem?_getD, List.getElem?_drop, ← List.getD_eq_getElem?_getD, getD_map]
 unfold w4 Sha.word
 rw [hg, hg, hg, hg, R3.be32_nat, Nat.add_zero]
 omega
noncomputable def mixN (ks : List Nat) (b : List Nat) (A B C D E F G H : Nat) : List Nat :=
 qAo (w4 b) fun a0 => qAo (w4 (b.drop 4)) fun a1 => qAo (w4 (b.drop 8)) fun a2 => qAo (w4 (b.drop 12)) fun a3 =>
 qAo (w4 (b.drop 16)) fun a4 => qAo (w4 (b.drop 20)) fun a5 => qAo (w4 (b.drop 24)) fun a6 => qAo (w4 (b.drop 28)) fun a7 =>
 qAo (w4 (b.drop 32)) fun a8 => qAo (w4 (b.drop 36)) fun a9 => qAo (w4 (b.drop 40)) fun a10 => qAo (w4 (b.drop 44)) fun a11 =>
 qAo (w4 (b.drop 48)) fun a12 => qAo (w4 (b.drop 52)) fun a13 => qAo (w4 (b.drop 56)) fun a14 => qAo (w4 (b.drop 60)) fun a15 =>
 rds ks (sch 48 a0 a1 a2 a3 a4 a5 a6 a7 a8 a9 a10 a11 a12 a13 a14 a15) A B C D E F G H
def KN : List Nat := [1116352408, 1899447441, 3049323471, 3921009573, 961987163, 1508970993, 2453635748, 2870763221, 3624381080, 310598401, 607225278, 1426881987, 1925078388, 2162078206, 2614888103, 3248222580, 3835390401, 4022224774, 264347078, 604807628, 770255983, 1249150122, 1555081692, 1996064986, 2554220882, 2821834349, 2952996808, 3210313671, 3336571891, 3584528711, 113926993, 338241895, 666307205, 773529912, 1294757372, 1396182291, 1695183700, 1986661051, 2177026350, 2456956037, 2730485921, 2820302411, 3259730800, 3345764771, 3516065817, 3600352804, 4094571909, 275423344, 430227734, 506948616, 659060556, 883997877, 958139571, 1322822218, 1537002063, 1747873779, 1955562222, 2024104815, 2227730452, 2361852424, 2428436474, 2756734187, 3204031479, 3329325298]
theorem KN_eq : KN = Sha.K.map UInt32.toNat := by decide +kernel
theorem qSf (b : List UInt8) (s : Sha.St8) : mixN KN (b.map UInt8.toNat) s.a.toNat s.b.toNat s.c.toNat s.d.toNat s.e.toNat s.f.toNat s.g.toNat s.h.toNat = (Sha.rnds (Sha.sched b) s 64).list.map UInt32.toNat := by
 have hw := fun i => w4_eq b i
 have h0 := hw 0; have h1 := hw 1; have h2 := hw 2; have h3 := hw 3; have h4 := hw 4; have h5 := hw 5; have h6 := hw 6; have h7 := hw 7
 have h8 := hw 8; have h9 := hw 9; have h10 := hw 10; have h11 := hw 11; have h12 := hw 12; have h13 := hw 13; have h14 := hw 14; have h15 := hw 15
 simp only [Nat.reduceMul, Nat.mul_zero, List.drop_zero] at h0 h1 h2 h3 h4 h5 h6 h7 h8 h9 h10 h11 h12 h13 h14 h15
 unfold mixN
 simp only [qAg]
 rw [h0, h1, h2, h3, h4, h5, h6, h7, h8, h9, h10, h11, h12, h13, h14, h15]
 have hs := qO5 48 [] (Sha.word b 0) (Sha.word b 1) (Sha.word b 2) (Sha.word b 3) (Sha.word b 4) (Sha.word b 5) (Sha.word b 6) (Sha.word b 7) (Sha.word b 8) (Sha.word b 9) (Sha.word b 10) (Sha.word b 11) (Sha.word b 12) (Sha.word b 13) (Sha.word b 14) (Sha.word b 15)
 have hf : [] ++ [Sha.word b 0, Sha.word b 1, Sha.word b 2, Sha.word b 3, Sha.word b 4, Sha.word b 5, Sha.word b 6, Sha.word b 7, Sha.word b 8, Sha.word b 9, Sha.word b 10, Sha.word b 11, Sha.word b 12, Sha.word b 13, Sha.word b 14, Sha.word b 15] = Sha.firsts b 16 := rfl
 rw [hf, List.map_nil, List.nil_append] at hs
 rw [← hs, show Sha.exts 48 (Sha.firsts b 16) = Sha.sched b from rfl, KN_eq, qPF _ _ _ (by rw [Sha.sched_length]; rfl)]
 have := fold_rnds (Sha.sched b) s (Sha.sched_length b) 64 0 rfl
 rw [List.drop_zero, List.drop_zero] at this
 rw [show Sha.rnds (Sha.sched b) s 0 = s from rfl] at this
 rw [this]
noncomputable def blocks (n : Nat) : List Nat → Nat → Nat → Nat → Nat → Nat → Nat → Nat → Nat → List Nat :=
 Nat.rec (fun _ a b c d e f g h => [a, b, c, d, e, f, g, h])
  (fun _ ih p a b c d e f g h => forceL (mixN KN p a b c d e f g h) fun r =>
   qAo ((a + r.getD 0 0) % 4294967296) fun a' => qAo ((b + r.getD 1 0) % 4294967296) fun b' => qAo ((c + r.getD 2 0) % 4294967296) fun c' => qAo ((d + r.getD 3 0) % 4294967296) fun d' =>
   qAo ((e + r.getD 4 0) % 4294967296) fun e' => qAo ((f + r.getD 5 0) % 4294967296) fun f' => qAo ((g + r.getD 6 0) % 4294967296) fun g' => qAo ((h + r.getD 7 0) % 4294967296) fun h' =>
   ih (p.drop 64) a' b' c' d' e' f' g' h') n
theorem qGR (s : Sha.St8) (p : List UInt8) : ∀ k, Sha.mixes s p (k + 1) = Sha.mixes (Sha.mix s p) (p.drop 64) k
 | 0 => by rw [Sha.mixes, Sha.mixes, Sha.mixes, Nat.mul_zero, List.drop_zero]
 | k + 1 => by
  rw [Sha.mixes, qGR s p k, Sha.mixes, List.drop_drop]
  congr 2
  omega
theorem qJK (n : Nat) (p : List Nat) (a b c d e f g h : Nat) : blocks (n + 1) p a b c d e f g h = forceL (mixN KN p a b c d e f g h) fun r => qAo ((a + r.getD 0 0) % 4294967296) fun a' => qAo ((b + r.getD 1 0) % 4294967296) fun b' => qAo ((c + r.getD 2 0) % 4294967296) fun c' => qAo ((d + r.getD 3 0) % 4294967296) fun d' => qAo ((e + r.getD 4 0) % 4294967296) fun e' => qAo ((f + r.getD 5 0) % 4294967296) fun f' => qAo ((g + r.getD 6 0) % 4294967296) fun g' => qAo ((h + r.getD 7 0) % 4294967296) fun h' => blocks n (p.drop 64) a' b' c' d' e' f' g' h' := rfl
theorem qJJ (p : List Nat) (a b c d e f g h : Nat) : blocks 0 p a b c d e f g h = [a, b, c, d, e, f, g, h] := rfl
attribute [local irreducible] blocks mixN KN
theorem add_eq (x y : UInt32) : (x.toNat + y.toNat) % 4294967296 = (x + y).toNat := by simp only [UInt32.toNat_add]
theorem g0 (r : Sha.St8) : (r.list.map UInt32.toNat).getD 0 0 = r.a.toNat := rfl
theorem f0 (s r : Sha.St8) : (s.add r).a = s.a + r.a := rfl
theorem g1 (r : Sha.St8) : (r.list.map UInt32.toNat).getD 1 0 = r.b.toNat := rfl
theorem f1 (s r : Sha.St8) : (s.add r).b = s.b + r.b := rfl
theorem g2 (r : Sha.St8) : (r.list.map UInt32.toNat).getD 2 0 = r.c.toNat := rfl
theorem f2 (s r : Sha.St8) : (s.add r).c = s.c + r.c := rfl
theorem g3 (r : Sha.St8) : (r.list.map UInt32.toNat).getD 3 0 = r.d.toNat := rfl
theorem f3 (s r : Sha.St8) : (s.add r).d = s.d + r.d := rfl
theorem g4 (r : Sha.St8) : (r.list.map UInt32.toNat).getD 4 0 = r.e.toNat := rfl
theorem f4 (s r : Sha.St8) : (s.add r).e = s.e + r.e := rfl
theorem g5 (r : Sha.St8) : (r.list.map UInt32.toNat).getD 5 0 = r.f.toNat := rfl
theorem f5 (s r : Sha.St8) : (s.add r).f = s.f + r.f := rfl
theorem g6 (r : Sha.St8) : (r.list.map UInt32.toNat).getD 6 0 = r.g.toNat := rfl
theorem f6 (s r : Sha.St8) : (s.add r).g = s.g + r.g := rfl
theorem g7 (r : Sha.St8) : (r.list.map UInt32.toNat).getD 7 0 = r.h.toNat := rfl
theorem f7 (s r : Sha.St8) : (s.add r).h = s.h + r.h := rfl
theorem qOC (n : Nat) : ∀ (p : List UInt8) (s : Sha.St8), blocks n (p.map UInt8.toNat) s.a.toNat s.b.toNat s.c.toNat s.d.toNat s.e.toNat s.f.toNat s.g.toNat s.h.toNat = (Sha.mixes s p n).list.map UInt32.toNat := by
 induction n with
 | zero => intro p s; rw [qJJ, Sha.mixes]; rfl
 | succ n ih =>
  intro p s
  have hm := qSf p s
  generalize hr : Sha.rnds (Sha.sched p) s 64 = r at hm
  have hmx : Sha.mix s p = s.add r := by unfold Sha.mix; rw [hr]
  have hi := ih (p.drop 64) (s.add r)
  rw [qGR, hmx, ← hi, qJK, qAy, hm, qAg, qAg, qAg, qAg, qAg, qAg, qAg, qAg]
  have h0 : (s.a.toNat + (r.list.map UInt32.toNat).getD 0 0) % 4294967296 = (s.add r).a.toNat := by rw [g0, f0, add_eq]
  have h1 : (s.b.toNat + (r.list.map UInt32.toNat).getD 1 0) % 4294967296 = (s.add r).b.toNat := by rw [g1, f1, add_eq]
  have h2 : (s.c.toNat + (r.list.map UInt32.toNat).getD 2 0) % 4294967296 = (s.add r).c.toNat := by rw [g2, f2, add_eq]
  have h3 : (s.d.toNat + (r.list.map UInt32.toNat).getD 3 0) % 4294967296 = (s.add r).d.toNat := by rw [g3, f3, add_eq]
  have h4 : (s.e.toNat + (r.list.map UInt32.toNat).getD 4 0) % 4294967296 = (s.add r).e.toNat := by rw [g4, f4, add_eq]
  have h5 : (s.f.toNat + (r.list.map UInt32.toNat).getD 5 0) % 4294967296 = (s.add r).f.toNat := by rw [g5, f5, add_eq]
  have h6 : (s.g.toNat + (r.list.map UInt32.toNat).getD 6 0) % 4294967296 = (s.add r).g.toNat := by rw [g6, f6, add_eq]
  have h7 : (s.h.toNat + (r.list.map UInt32.toNat).getD 7 0) % 4294967296 = (s.add r).h.toNat := by rw [g7, f7, add_eq]
  rw [List.map_drop, h0, h1, h2, h3, h4, h5, h6, h7]
def bytes4 (x : Nat) : List Nat := [x / 16777216 % 256, x / 65536 % 256, x / 256 % 256, x % 256]
theorem bytes4_eq (x : Nat) (h : x < 18446744073709551616) : bytes4 x = (Sha.numB (UInt64.ofNat x) 4).map UInt8.toNat := by
 rw [R3.four_nat x h]
 simp [bytes4, UInt8.toNat_ofNat']
noncomputable def padN (l : List Nat) : List Nat := l ++ 128 :: List.replicate ((119 - l.length % 64) % 64) 0 ++ (bytes4 (8 * l.length / 4294967296) ++ bytes4 (8 * l.length))
theorem padN_eq (l : List UInt8) (h : l.length < 1152921504606846976) : padN (l.map UInt8.toNat) = (Sha.pad l).map UInt8.toNat := by
 unfold padN Sha.pad
 simp only [List.map_append, List.length_map, List.map_replicate, List.map_cons, List.map_nil, List.append_assoc, List.cons_append, List.nil_append]
 have e : (8 * UInt64.ofNat l.length).toNat = 8 * l.length := by
  rw [UInt64.toNat_mul, UInt64.toNat_ofNat', Nat.mod_eq_of_lt (show l.length < 2 ^ 64 by omega)]
  exact Nat.mod_eq_of_lt (by show 8 * l.length < 18446744073709551616; omega)
 have h8 : (Sha.numB (8 * UInt64.ofNat l.length) 8).map UInt8.toNat = bytes4 (8 * l.length / 4294967296) ++ bytes4 (8 * l.length) := by
  unfold Sha.numB
  rw [e]
  simp [List.range_succ, R3.u8_of64, bytes4, UInt8.toNat_ofNat', Nat.div_div_eq_div_mul]
 rw [h8]
 rfl
noncomputable def sumN (l : List Nat) : List Nat := forceL (padN l) fun p => (blocks (p.length / 64) p 1779033703 3144134277 1013904242 2773480762 1359893119 2600822924 528734635 1541459225).flatMap bytes4
theorem sumN_eq (l : List UInt8) (h : l.length < 1152921504606846976) : sumN (l.map UInt8.toNat) = (Sha.sum l).map UInt8.toNat := by
 unfold sumN
 rw [qAy, padN_eq l h, List.length_map]
 have hb := qOC ((Sha.pad l).length / 64) (Sha.pad l) Sha.init
 rw [show blocks ((Sha.pad l).length / 64) ((Sha.pad l).map UInt8.toNat) 1779033703 3144134277 1013904242 2773480762 1359893119 2600822924 528734635 1541459225 = _ from hb]
 unfold Sha.sum Sha.out
 generalize (Sha.mixes Sha.init (Sha.pad l) ((Sha.pad l).length / 64)).list = L
 induction L with
 | nil => rfl
 | cons x L ih =>
  rw [List.map_cons, List.flatMap_cons, List.flatMap_cons, List.map_append, ih, bytes4_eq _ (by have := x.toNat_lt; omega)]
  congr 2
  rw [show x.toUInt64 = UInt64.ofNat x.toNat from by apply UInt64.toNat_inj.1; simp]
noncomputable def tagN (tag : Nat) (ls : List (List Nat)) : List Nat := (sumN (tag :: ls.flatMap fun s => bytes4 s.length ++ s)).take 16
theorem tagN_eq (tag : UInt8) (ls : List (List UInt8)) (h : ls.flatten.length + 4 * ls.length < 1152921504606846975) : tagN tag.toNat (ls.map (List.map UInt8.toNat)) = (Sha.tagged tag ls).map UInt8.toNat := by
 unfold tagN Sha.tagged
 have e : tag.toNat :: (ls.map (List.map UInt8.toNat)).flatMap (fun s => bytes4 s.length ++ s) = (Sha.tagB tag ls).map UInt8.toNat := by
  unfold Sha.tagB
  simp only [List.map_append, List.map_cons, List.map_nil, List.cons_append, List.nil_append]
  congr 1
  induction ls with
  | nil => rfl
  | cons a l ih =>
   simp only [List.flatten_cons, List.length_append, List.length_cons] at h
   rw [List.map_cons, List.flatMap_cons, List.flatMap_cons, List.map_append, List.map_append, List.length_map, ih (by omega), bytes4_eq _ (by omega)]
 rw [e, sumN_eq _ (by rw [Sha.tagB_length]; omega), List.map_take]
theorem of_toNat {a b : List UInt8} (h : a.map UInt8.toNat = b.map UInt8.toNat) : a = b := by
 induction a generalizing b with
 | nil => cases b with
  | nil => rfl
  | cons _ _ => cases h
 | cons x a ih => cases b with
  | nil => cases h
  | cons y b =>
   rw [List.map_cons, List.map_cons, List.cons.injEq] at h
   rw [UInt8.toNat_inj.1 h.1, ih h.2]
end SN
end Go.Proofs.YtfldiegfenndjaaGreatDoor
namespace Go.Proofs.YtfldiegfenndjaaGreatDoor
set_option maxRecDepth 100000
set_option maxHeartbeats 1000000
def qJp : List (List Nat) := [[105, 72, 128, 237, 61, 5, 50, 182, 223, 75, 24, 94, 147, 245, 19, 39],
 [88, 245, 185, 155, 41, 107, 180, 138, 125, 166, 83, 171, 115, 216, 18, 165],
 [93, 80, 203, 230, 14, 126, 127, 19, 21, 244, 174, 144, 89, 226, 94, 228],
 [148, 10, 18, 170, 77, 162, 171, 186, 8, 98, 48, 154, 194, 169, 63, 108],
 [236, 85, 91, 97, 199, 175, 137, 90, 50, 65, 185, 193, 130, 224, 18, 81],
 [79, 166, 20, 31, 51, 117, 145, 24, 240, 79, 98, 79, 106, 240, 3, 239],
 [238, 121, 90, 181, 53, 208, 204, 57, 93, 94, 55, 236, 103, 150, 52, 189],
 [206, 246, 68, 71, 242, 240, 44, 227, 11, 163, 124, 42, 109, 136, 184, 223],
 [102, 153, 141, 118, 18, 20, 90, 81, 197, 162, 183, 200, 132, 241, 168, 231],
 [105, 185, 227, 83, 69, 124, 42, 97, 92, 121, 35, 66, 28, 255, 32, 8],
 [63, 79, 253, 228, 120, 212, 65, 1, 74, 138, 77, 92, 45, 83, 29, 6],
 [6, 68, 43, 83, 187, 176, 175, 5, 40, 111, 126, 28, 241, 42, 58, 162],
 [84, 209, 206, 161, 181, 40, 188, 84, 7, 18, 199, 241, 13, 30, 46, 161],
 [176, 37, 113, 44, 248, 46, 217, 3, 30, 200, 199, 117, 42, 191, 130, 40],
 [31, 198, 219, 239, 77, 143, 38, 133, 43, 141, 86, 40, 35, 16, 12, 192]]
attribute [local irreducible] SN.tagN Sha.tagged
theorem qM4 : (List.range 15).map (fun i => SN.tagN 15 [[0, i]]) = qJp := by decide +kernel
def qAM (n : Nat) : List UInt8 := Sha.tagged 15 [[UInt8.ofNat (n / 256), UInt8.ofNat n]]
theorem qCc (n : Nat) : (qAM n).length = 16 := Sha.tagged_length _ _
theorem qGJ {i : Nat} (hi : i < 15) : (qAM i).map UInt8.toNat = qJp.getD i [] := by
 have h := SN.tagN_eq 15 [[UInt8.ofNat (i / 256), UInt8.ofNat i]] (by simp)
 have h2 : SN.tagN 15 [[0, i]] = (qAM i).map UInt8.toNat := by
  rw [← qAM] at h
  rw [← h]
  have e1 : (UInt8.ofNat (i / 256)).toNat = 0 := by rw [show i / 256 = 0 by omega]; rfl
  have e2 : (UInt8.ofNat i).toNat = i := by rw [UInt8.toNat_ofNat']; omega
  show SN.tagN 15 [[0, i]] = SN.tagN 15 [[(UInt8.ofNat (i / 256)).toNat, (UInt8.ofNat i).toNat]]
  rw [e1, e2]
 rw [← h2, ← qM4, List.getD_eq_getElem?_getD, List.getElem?_map, List.getElem?_range hi]; rfl
theorem qM3 : ∀ i j : Fin 15, i ≠ j → qJp.getD i.val [] ≠ qJp.getD j.val [] := by decide +kernel
theorem qHv {i j : Nat} (hi : i < 15) (hj : j < 15) (h : i ≠ j) : qAM i ≠ qAM j := fun e =>
 qM3 ⟨i, hi⟩ ⟨j, hj⟩ (fun q => h (congrArg Fin.val q)) (by rw [← qGJ hi, ← qGJ hj, e])
end Go.Proofs.YtfldiegfenndjaaGreatDoor
namespace Go.Proofs.YtfldiegfenndjaaGreatDoor
open Go Go.Fw Go.Proofs.Tryz
set_option maxRecDepth 100000
set_option maxHeartbeats 1000000
attribute [local irreducible] SN.tagN Sha.tagged
namespace Tn
open SN (forceL qAy)
abbrev nat (l : List UInt8) : List Nat := l.map UInt8.toNat
theorem qSe {a b : List UInt8} : nat a = nat b ↔ a = b := ⟨SN.of_toNat, fun h => by rw [h]⟩
def kvN : List Nat → Nat
 | [] => 0
 | b :: r => b * 256 ^ r.length + kvN r
theorem qQ6 : ∀ k : List UInt8, kvN (nat k) = Sm.kv k
 | [] => rfl
 | b :: r => by
  show b.toNat * 256 ^ (nat r).length + kvN (nat r) = _
  rw [qQ6 r, show (nat r).length = r.length from List.length_map _, Sm.kv]
def qLg (s : List Nat) : Prop := s ≠ [] ∧ s.take 1 = [1]
instance (s : List Nat) : Decidable (qLg s) := by unfold qLg; infer_instance
theorem qSo (s : List UInt8) : qLg (nat s) ↔ Sb.isLf s := by
 unfold qLg Sb.isLf
 cases s with
 | nil => simp
 | cons a r =>
  simp only [nat, List.map_cons, List.take_succ_cons, List.take_zero, ne_eq, reduceCtorEq, not_false_eq_true, true_and, List.cons.injEq, and_true]
  constructor
  · intro h; exact UInt8.toNat_inj.1 h
  · intro h; rw [h]; rfl
noncomputable def joinN (a b : List Nat) : List Nat := forceL a fun a => forceL b fun b => if a = [0] ∧ (b = [0] ∨ qLg b) then b else if b = [0] ∧ qLg a then a else 2 :: SN.tagN 10 [a, b]
theorem qRL (s : List UInt8) : nat s = [0] ↔ s = [0] := qSe (b := [0])
theorem qP7 (a b : List UInt8) (ha : a.length ≤ 1000) (hb : b.length ≤ 1000) : joinN (nat a) (nat b) = nat (Sb.join a b) := by
  unfold joinN Sb.join
  rw [qAy, qAy]
  simp only [qRL, qSo]
  split
  · rfl
  · split
    · rfl
    · have := SN.tagN_eq 10 [a, b] (by simp only [List.flatten_cons, List.flatten_nil, List.append_nil, List.length_append, List.length_cons, List.length_nil]; omega)
      show 2 :: SN.tagN 10 [nat a, nat b] = nat (2 :: Sha.tagged 10 [a, b])
      exact congrArg (List.cons 2) this
abbrev PN := List Nat × List Nat
def natP (p : Sm.PR) : PN := (nat p.1, nat p.2)
def qKz (f : Nat) (b : Bool) (l : List PN) : List PN := l.filter fun p => decide (kvN p.1 / 2 ^ f % 2 = 0) == b
theorem sideN_eq (f : Nat) (b : Bool) (l : List Sm.PR) : qKz f b (l.map natP) = (Sm.side f b l).map natP := by
 unfold qKz Sm.side
 rw [List.filter_map]
 congr 1
 apply List.filter_congr
 intro p _
 show (decide (kvN (nat p.1) / 2 ^ f % 2 = 0) == b) = _
 rw [qQ6]
noncomputable def ndN : Nat → List PN → List Nat
 | _, [] => [0]
 | _, [p] => 1 :: SN.tagN 9 [p.1, p.2]
 | 0, _ => []
 | f + 1, l => joinN (ndN f (qKz f true l)) (ndN f (qKz f false l))
theorem qSc (f : Nat) (p q : PN) (r : List PN) : ndN (f + 1) (p :: q :: r) = joinN (ndN f (qKz f true (p :: q :: r))) (ndN f (qKz f false (p :: q :: r))) := by
 rw [ndN]
 · intro h; cases h
 · intro x h; cases h
def small (l : List Sm.PR) : Prop := ∀ p ∈ l, p.1.length ≤ 1000 ∧ p.2.length ≤ 1000
theorem qPe : ∀ (f : Nat) (l : List Sm.PR), (Sm.nd f l).length ≤ 17
  | f, [] => by rw [Sm.nd_nil]; decide
  | f, [p] => by rw [Sm.nd_one]; unfold Sb.leafN; rw [List.length_cons, Sha.tagged_length]; decide
  | 0, p :: q :: r => Nat.zero_le _
  | f + 1, p :: q :: r => by
    rw [Sm.nd_two f (by simp)]
    unfold Sb.join
    have h1 := qPe f (Sm.side f true (p :: q :: r))
    have h2 := qPe f (Sm.side f false (p :: q :: r))
    split
    · exact h2
    · split
      · exact h1
      · rw [List.length_cons, Sha.tagged_length]; decide
theorem ndN_eq : ∀ (f : Nat) (l : List Sm.PR), small l → ndN f (l.map natP) = nat (Sm.nd f l)
 | f, [], _ => by rw [Sm.nd_nil]; cases f <;> rfl
 | f, [p], h => by
  have h1 := h p (.head _)
  have := SN.tagN_eq 9 [p.1, p.2] (by simp only [List.flatten_cons, List.flatten_nil, List.append_nil, List.length_append, List.length_cons, List.length_nil]; omega)
  rw [Sm.nd_one]
  have e : ndN f [natP p] = 1 :: SN.tagN 9 [nat p.1, nat p.2] := by cases f <;> rfl
  show ndN f [natP p] = _
  rw [e]
  show _ = nat (1 :: Sha.tagged 9 [p.1, p.2])
  exact congrArg (List.cons 1) this
 | 0, p :: q :: r, _ => rfl
 | f + 1, p :: q :: r, h => by
  have hs : ∀ b, small (Sm.side f b (p :: q :: r)) := fun b x hx => h x (List.mem_filter.1 hx).1
  rw [Sm.nd_two f (by simp), List.map_cons, List.map_cons, qSc, ← List.map_cons, ← List.map_cons, sideN_eq, sideN_eq, ndN_eq f _ (hs true), ndN_eq f _ (hs false)]
  exact qP7 _ _ (Nat.le_trans (qPe _ _) (by decide)) (Nat.le_trans (qPe _ _) (by decide))
end Tn
end Go.Proofs.YtfldiegfenndjaaGreatDoor
namespace Go.Proofs.YtfldiegfenndjaaGreatDoor
set_option maxRecDepth 100000
set_option maxHeartbeats 1000000
namespace SM
def qA7 : Nat → (Nat → Nat) → Nat
 | 0, _ => 0
 | n + 1, f => f 0 + 18446744073709551616 * qA7 n (fun i => f (i + 1))
theorem qAt : ∀ {n : Nat} {f g : Nat → Nat}, (∀ i, f i = g i) → qA7 n f = qA7 n g
 | 0, _, _, _ => rfl
 | n + 1, f, g, h => by rw [qA7, qA7, h 0, qAt (fun i => h (i + 1))]
theorem qA1 : ∀ (n : Nat) (f g : Nat → Nat), qA7 n f + qA7 n g = qA7 n (fun i => f i + g i)
 | 0, _, _ => rfl
 | n + 1, f, g => by
  have := qA1 n (fun i => f (i + 1)) (fun i => g (i + 1))
  simp only [qA7]
  rw [← this]; omega
theorem qC9 : ∀ (n : Nat) (f : Nat → Nat) (c : Nat), qA7 n f * c = qA7 n (fun i => f i * c)
 | 0, _, c => Nat.zero_mul c
 | n + 1, f, c => by
  have := qC9 n (fun i => f (i + 1)) c
  simp only [qA7]
  rw [← this, Nat.add_mul, Nat.mul_assoc]
theorem qMW {x y X Y : Nat} (hx : x < 2 ^ 64) (hy : y < 2 ^ 64) : Nat.land (x + 2 ^ 64 * X) (y + 2 ^ 64 * Y) = Nat.land x y + 2 ^ 64 * Nat.land X Y := by
 have hxy : Nat.land x y < 2 ^ 64 := Nat.lt_of_le_of_lt Nat.and_le_left hx
 apply Nat.eq_of_testBit_eq
 intro i
 rw [Nat.add_comm x, Nat.add_comm y, Nat.add_comm (Nat.land x y)]
 show ((2 ^ 64 * X + x) &&& (2 ^ 64 * Y + y)).testBit i = (2 ^ 64 * Nat.land X Y + Nat.land x y).testBit i
 rw [Nat.testBit_and, Nat.testBit_two_pow_mul_add _ hx, Nat.testBit_two_pow_mul_add _ hy, Nat.testBit_two_pow_mul_add _ hxy]
 by_cases h : i < 64
 · simp only [h, if_true]; exact (Nat.testBit_and x y i).symm
 · simp only [h, if_false]; exact (Nat.testBit_and X Y (i - 64)).symm
theorem qMU {x y X Y : Nat} (hx : x < 2 ^ 64) (hy : y < 2 ^ 64) : Nat.xor (x + 2 ^ 64 * X) (y + 2 ^ 64 * Y) = Nat.xor x y + 2 ^ 64 * Nat.xor X Y := by
 have hxy : Nat.xor x y < 2 ^ 64 := Nat.xor_lt_two_pow hx hy
 apply Nat.eq_of_testBit_eq
 intro i
 rw [Nat.add_comm x, Nat.add_comm y, Nat.add_comm (Nat.xor x y)]
 show ((2 ^ 64 * X + x) ^^^ (2 ^ 64 * Y + y)).testBit i = (2 ^ 64 * Nat.xor X Y + Nat.xor x y).testBit i
 rw [Nat.testBit_xor, Nat.testBit_two_pow_mul_add _ hx, Nat.testBit_two_pow_mul_add _ hy, Nat.testBit_two_pow_mul_add _ hxy]
 by_cases h : i < 64
 · simp only [h, if_true]; exact (Nat.testBit_xor x y i).symm
 · simp only [h, if_false]; exact (Nat.testBit_xor X Y (i - 64)).symm
theorem qMV {x m X M r : Nat} (hx : x < 2 ^ 64) (hm : m < 2 ^ 32) (hr : r ≤ 32) : Nat.land (Nat.shiftRight (x + 2 ^ 64 * X) r) (m + 2 ^ 64 * M) = Nat.land (Nat.shiftRight x r) m + 2 ^ 64 * Nat.land (Nat.shiftRight X r) M := by
  have hm2 : m < 2 ^ 64 := Nat.lt_trans hm (by decide)
  have hxy : Nat.land (Nat.shiftRight x r) m < 2 ^ 64 := Nat.lt_of_le_of_lt Nat.and_le_right hm2
  apply Nat.eq_of_testBit_eq
  intro i
  rw [Nat.add_comm x, Nat.add_comm m, Nat.add_comm (Nat.land _ _)]
  show (((2 ^ 64 * X + x) >>> r) &&& (2 ^ 64 * M + m)).testBit i = (2 ^ 64 * Nat.land (Nat.shiftRight X r) M + Nat.land (Nat.shiftRight x r) m).testBit i
  rw [Nat.testBit_and, Nat.testBit_shiftRight, Nat.testBit_two_pow_mul_add _ hx, Nat.testBit_two_pow_mul_add _ hm2, Nat.testBit_two_pow_mul_add _ hxy]
  by_cases h : i < 64
  · simp only [h, if_true]
    show _ = ((x >>> r) &&& m).testBit i
    rw [Nat.testBit_and, Nat.testBit_shiftRight]
    by_cases h2 : r + i < 64
    · simp only [h2, if_true]
    · have : m.testBit i = false := Nat.testBit_lt_two_pow (Nat.lt_of_lt_of_le hm (Nat.pow_le_pow_right (by decide) (by omega)))
      rw [this, Bool.and_false, Bool.and_false]
  · have h2 : ¬ r + i < 64 := by omega
    simp only [h, h2, if_false]
    show _ = ((X >>> r) &&& M).testBit (i - 64)
    rw [Nat.testBit_and, Nat.testBit_shiftRight, show r + i - 64 = r + (i - 64) by omega]
theorem qD1 : ∀ (n : Nat) {f g : Nat → Nat}, (∀ i, f i < 2 ^ 64) → (∀ i, g i < 2 ^ 64) → Nat.land (qA7 n f) (qA7 n g) = qA7 n (fun i => Nat.land (f i) (g i))
 | 0, _, _, _, _ => Nat.and_zero _
 | n + 1, f, g, hf, hg => by
  have ih := qD1 n (fun i => hf (i + 1)) (fun i => hg (i + 1))
  simp only [qA7]
  rw [← ih]
  exact qMW (hf 0) (hg 0)
theorem qHy : ∀ (n : Nat) {f g : Nat → Nat}, (∀ i, f i < 2 ^ 64) → (∀ i, g i < 2 ^ 64) → Nat.xor (qA7 n f) (qA7 n g) = qA7 n (fun i => Nat.xor (f i) (g i))
 | 0, _, _, _, _ => Nat.xor_zero _
 | n + 1, f, g, hf, hg => by
  have ih := qHy n (fun i => hf (i + 1)) (fun i => hg (i + 1))
  simp only [qA7]
  rw [← ih]
  exact qMU (hf 0) (hg 0)
theorem qFP : ∀ (n : Nat) {f : Nat → Nat} {m r : Nat}, (∀ i, f i < 2 ^ 64) → m < 2 ^ 32 → r ≤ 32 → Nat.land (Nat.shiftRight (qA7 n f) r) (qA7 n fun _ => m) = qA7 n (fun i => Nat.land (Nat.shiftRight (f i) r) m)
 | 0, _, _, _, _, _, _ => Nat.and_zero _
 | n + 1, f, m, r, hf, hm, hr => by
  have ih := qFP n (fun i => hf (i + 1)) hm hr
  simp only [qA7]
  rw [← ih]
  exact qMV (hf 0) hm hr
theorem qM9 : ∀ (n : Nat) (f : Nat → Nat) (c : Nat), (∀ i, f i ≤ c) → qA7 n (fun _ => c) - qA7 n f = qA7 n (fun i => c - f i) := fun n f c h => by
 have h1 := qA1 n (fun i => c - f i) f
 have h2 : qA7 n (fun i => c - f i + f i) = qA7 n (fun _ => c) := qAt fun i => Nat.sub_add_cancel (h i)
 omega
def qBC (n : Nat) : Nat := qA7 n fun _ => 1
theorem qCr (n c : Nat) : c * qBC n = qA7 n fun _ => c := by
 rw [Nat.mul_comm, qBC, qC9]; exact qAt fun _ => Nat.one_mul c
def pk (n : Nat) (a : Nat → UInt32) : Nat := qA7 n fun i => (a i).toNat
def qDa (o x r : Nat) : Nat := Nat.land (Nat.shiftRight x r) ((2 ^ (32 - r) - 1) * o) + Nat.land x ((2 ^ r - 1) * o) * 2 ^ (32 - r)
def qHW (o x r : Nat) : Nat := Nat.land (Nat.shiftRight x r) ((2 ^ (32 - r) - 1) * o)
def qC4 (o x : Nat) : Nat := Nat.land x (4294967295 * o)
theorem u32 (a : UInt32) : a.toNat < 2 ^ 32 := a.toNat_lt
theorem u64 (a : UInt32) : a.toNat < 2 ^ 64 := Nat.lt_trans a.toNat_lt (by decide)
theorem m32 {r : Nat} (h1 : 1 ≤ r) : 2 ^ (32 - r) - 1 < 2 ^ 32 := by
 have := Nat.pow_le_pow_right (n := 2) (by decide) (show 32 - r ≤ 32 by omega)
 omega
theorem qHL (x k : Nat) : Nat.land x (2 ^ k - 1) = x % 2 ^ k := Nat.and_two_pow_sub_one_eq_mod x k
theorem qJf (x : UInt32) {r : Nat} (h2 : r ≤ 32) : Nat.land (Nat.shiftRight x.toNat r) (2 ^ (32 - r) - 1) = x.toNat / 2 ^ r := by
 rw [qHL]
 show (x.toNat >>> r) % _ = _
 rw [Nat.shiftRight_eq_div_pow]
 apply Nat.mod_eq_of_lt
 rw [Nat.div_lt_iff_lt_mul (Nat.pow_pos (by decide)), ← Nat.pow_add, show 32 - r + r = 32 by omega]
 exact u32 x
theorem qGp (n : Nat) (a : Nat → UInt32) {r : Nat} (h1 : 1 ≤ r) (h2 : r < 32) : qHW (qBC n) (pk n a) r = pk n fun i => Sha.shr (a i) r := by
 unfold qHW pk
 rw [qCr, qFP n (fun i => u64 (a i)) (m32 h1) (by omega)]
 refine qAt fun i => ?_
 rw [qJf _ (by omega)]
 exact (R3.shr_nat (a i) r (by omega)).symm
theorem qCR (n : Nat) (a : Nat → UInt32) {r : Nat} (h1 : 1 ≤ r) (h2 : r < 32) : qDa (qBC n) (pk n a) r = pk n fun i => Sha.rotr (a i) r := by
 unfold qDa pk
 have hlow : 2 ^ r - 1 < 2 ^ 64 := by
  have := Nat.pow_le_pow_right (n := 2) (by decide) (show r ≤ 64 by omega)
  have := Nat.pow_pos (n := r) (show 0 < 2 by decide)
  omega
 rw [qCr, qCr, qFP n (fun i => u64 (a i)) (m32 h1) (by omega), qD1 n (fun i => u64 (a i)) (fun _ => hlow), qC9, qA1]
 refine qAt fun i => ?_
 rw [qJf _ (by omega), qHL]
 have := SN.rot_eq (a i) r h1 h2
 rw [← this]
 unfold SN.rot
 congr 2
 rw [show (4294967296 : Nat) = 2 ^ r * 2 ^ (32 - r) by rw [← Nat.pow_add, show r + (32 - r) = 32 by omega], Nat.mul_div_cancel_left _ (Nat.pow_pos (by decide))]
theorem qDl (n : Nat) {f : Nat → Nat} (h : ∀ i, f i < 2 ^ 64) : qC4 (qBC n) (qA7 n f) = qA7 n fun i => f i % 4294967296 := by
 unfold qC4
 rw [qCr, qD1 n h (fun _ => by decide)]
 exact qAt fun i => qHL (f i) 32
theorem qC8 (n : Nat) (a b : Nat → UInt32) : Nat.xor (pk n a) (pk n b) = pk n fun i => a i ^^^ b i := by
 unfold pk
 rw [qHy n (fun i => u64 (a i)) (fun i => u64 (b i))]
 exact qAt fun i => SN.xor_eq (a i) (b i)
theorem qHw (n : Nat) (a b : Nat → UInt32) : Nat.land (pk n a) (pk n b) = pk n fun i => a i &&& b i := by
 unfold pk
 rw [qD1 n (fun i => u64 (a i)) (fun i => u64 (b i))]
 exact qAt fun i => SN.and_eq (a i) (b i)
theorem qTp (n : Nat) (a : Nat → UInt32) : 4294967295 * qBC n - pk n a = pk n fun i => ~~~ a i := by
 unfold pk
 rw [qCr, qM9 n _ _ (fun i => by have := u32 (a i); omega)]
 exact qAt fun i => SN.not_eq (a i)
theorem qBX (n : Nat) (k : UInt32) : k.toNat * qBC n = pk n fun _ => k := qCr n k.toNat
end SM
end Go.Proofs.YtfldiegfenndjaaGreatDoor
namespace Go.Proofs.YtfldiegfenndjaaGreatDoor
set_option maxRecDepth 100000
set_option maxHeartbeats 1000000
namespace SM
open SN (qAo qAg)
noncomputable def schP (u : Nat) (n : Nat) : Nat → Nat → Nat → Nat → Nat → Nat → Nat → Nat → Nat → Nat → Nat → Nat → Nat → Nat → Nat → Nat → List Nat :=
 Nat.rec (fun a b c d e f g h i j k l m n o p => [a, b, c, d, e, f, g, h, i, j, k, l, m, n, o, p])
  (fun _ ih a b c d e f g h i j k l m n o p => a :: qAo (qC4 u (a + Nat.xor (Nat.xor (qDa u b 7) (qDa u b 18)) (qHW u b 3) + j + Nat.xor (Nat.xor (qDa u o 17) (qDa u o 19)) (qHW u o 10))) fun x => ih b c d e f g h i j k l m n o p x) n
noncomputable def rdsP (u : Nat) (kw : List Nat) : List Nat → Nat → Nat → Nat → Nat → Nat → Nat → Nat → Nat → List Nat :=
 List.rec (fun _ a b c d e f g h => [a, b, c, d, e, f, g, h])
  (fun k _ ih ws a b c d e f g h => List.rec [] (fun w ws _ =>
   qAo (qC4 u (h + Nat.xor (Nat.xor (qDa u e 6) (qDa u e 11)) (qDa u e 25) + Nat.xor (Nat.land e f) (Nat.land (4294967295 * u - e) g) + k * u + w)) fun t1 =>
   qAo (qC4 u (t1 + (Nat.xor (Nat.xor (qDa u a 2) (qDa u a 13)) (qDa u a 22) + Nat.xor (Nat.xor (Nat.land a b) (Nat.land a c)) (Nat.land b c)))) fun x =>
   qAo (qC4 u (d + t1)) fun y => ih ws x a b c y e f g) ws) kw
theorem qMs (u k w : Nat) (ks ws : List Nat) (a b c d e f g h : Nat) : rdsP u (k :: ks) (w :: ws) a b c d e f g h =
      qAo (qC4 u (h + Nat.xor (Nat.xor (qDa u e 6) (qDa u e 11)) (qDa u e 25) + Nat.xor (Nat.land e f) (Nat.land (4294967295 * u - e) g) + k * u + w)) fun t1 =>
      qAo (qC4 u (t1 + (Nat.xor (Nat.xor (qDa u a 2) (qDa u a 13)) (qDa u a 22) + Nat.xor (Nat.xor (Nat.land a b) (Nat.land a c)) (Nat.land b c)))) fun x =>
      qAo (qC4 u (d + t1)) fun y => rdsP u ks ws x a b c y e f g := rfl
theorem qMi (u n' a b c d e f g h i j k l m n o p : Nat) : schP u (n' + 1) a b c d e f g h i j k l m n o p = a :: qAo (qC4 u (a + Nat.xor (Nat.xor (qDa u b 7) (qDa u b 18)) (qHW u b 3) + j + Nat.xor (Nat.xor (qDa u o 17) (qDa u o 19)) (qHW u o 10))) fun x => schP u n' b c d e f g h i j k l m n o p x := rfl
theorem qPH (u : Nat) (ws : List Nat) (a b c d e f g h : Nat) : rdsP u [] ws a b c d e f g h = [a, b, c, d, e, f, g, h] := rfl
theorem qMh (u a b c d e f g h i j k l m n o p : Nat) : schP u 0 a b c d e f g h i j k l m n o p = [a, b, c, d, e, f, g, h, i, j, k, l, m, n, o, p] := rfl
attribute [local irreducible] rdsP schP
def qTP : Nat → (Nat → UInt32) → (Nat → UInt32) → (Nat → UInt32) → (Nat → UInt32) → (Nat → UInt32) → (Nat → UInt32) → (Nat → UInt32) → (Nat → UInt32) → (Nat → UInt32) → (Nat → UInt32) → (Nat → UInt32) → (Nat → UInt32) → (Nat → UInt32) → (Nat → UInt32) → (Nat → UInt32) → (Nat → UInt32) → List (Nat → UInt32)
 | 0, a, b, c, d, e, f, g, h, i, j, k, l, m, n, o, p => [a, b, c, d, e, f, g, h, i, j, k, l, m, n, o, p]
 | n' + 1, a, b, c, d, e, f, g, h, i, j, k, l, m, n, o, p => a :: qTP n' b c d e f g h i j k l m n o p (fun z => a z + Sha.sg0 (b z) + j z + Sha.sg1 (o z))
theorem qQG (z : Nat) (n' : Nat) : ∀ (q : List UInt32) (a b c d e f g h i j k l m n o p : Nat → UInt32), Sha.exts n' (q ++ [a z, b z, c z, d z, e z, f z, g z, h z, i z, j z, k z, l z, m z, n z, o z, p z]) = q ++ (qTP n' a b c d e f g h i j k l m n o p).map (fun w => w z) := by
 induction n' with
 | zero => intro q a b c d e f g h i j k l m n o p; rfl
 | succ n' ih =>
  intro q a b c d e f g h i j k l m n o p
  rw [SN.exts_succ', SN.ext_eq]
  have := ih (q ++ [a z]) b c d e f g h i j k l m n o p (fun z => a z + Sha.sg0 (b z) + j z + Sha.sg1 (o z))
  rw [this, qTP, List.map_cons, List.append_assoc]; rfl
theorem lane4 {x y z w : Nat} (h1 : x < 2 ^ 32) (h2 : y < 2 ^ 32) (h3 : z < 2 ^ 32) (h4 : w < 2 ^ 32) : x + y + z + w < 2 ^ 64 := by omega
theorem lane5 {x y z w v : Nat} (h1 : x < 2 ^ 32) (h2 : y < 2 ^ 32) (h3 : z < 2 ^ 32) (h4 : w < 2 ^ 32) (h5 : v < 2 ^ 32) : x + y + z + w + v < 2 ^ 64 := by omega
theorem lane3 {x y z : Nat} (h1 : x < 2 ^ 32) (h2 : y < 2 ^ 32) (h3 : z < 2 ^ 32) : x + (y + z) < 2 ^ 64 := by omega
theorem qT6 {x y : Nat} (h1 : x < 2 ^ 32) (h2 : y < 2 ^ 32) : x + y < 2 ^ 64 := by omega
theorem sum5 (a b c d e : UInt32) : (a.toNat + b.toNat + c.toNat + d.toNat + e.toNat) % 4294967296 = (a + b + c + d + e).toNat := by
 simp only [UInt32.toNat_add]; omega
theorem sum3 (a b c : UInt32) : (a.toNat + (b.toNat + c.toNat)) % 4294967296 = (a + (b + c)).toNat := by
 simp only [UInt32.toNat_add]; omega
theorem qRr (N : Nat) (n' : Nat) : ∀ (a b c d e f g h i j k l m n o p : Nat → UInt32), schP (qBC N) n' (pk N a) (pk N b) (pk N c) (pk N d) (pk N e) (pk N f) (pk N g) (pk N h) (pk N i) (pk N j) (pk N k) (pk N l) (pk N m) (pk N n) (pk N o) (pk N p) = (qTP n' a b c d e f g h i j k l m n o p).map (pk N) := by
 induction n' with
 | zero => intro a b c d e f g h i j k l m n o p; rw [qMh]; rfl
 | succ n' ih =>
  intro a b c d e f g h i j k l m n o p
  have e1 : Nat.xor (Nat.xor (qDa (qBC N) (pk N b) 7) (qDa (qBC N) (pk N b) 18)) (qHW (qBC N) (pk N b) 3) = pk N fun z => Sha.sg0 (b z) := by
   rw [qCR N b (by decide) (by decide), qCR N b (by decide) (by decide), qGp N b (by decide) (by decide), qC8, qC8]; rfl
  have e2 : Nat.xor (Nat.xor (qDa (qBC N) (pk N o) 17) (qDa (qBC N) (pk N o) 19)) (qHW (qBC N) (pk N o) 10) = pk N fun z => Sha.sg1 (o z) := by
   rw [qCR N o (by decide) (by decide), qCR N o (by decide) (by decide), qGp N o (by decide) (by decide), qC8, qC8]; rfl
  have e3 : qC4 (qBC N) (pk N a + (pk N fun z => Sha.sg0 (b z)) + pk N j + (pk N fun z => Sha.sg1 (o z))) = pk N fun z => a z + Sha.sg0 (b z) + j z + Sha.sg1 (o z) := by
   unfold pk
   rw [qA1, qA1, qA1, qDl N (fun z => lane4 (u32 _) (u32 _) (u32 _) (u32 _))]
   exact qAt fun z => SN.sch_sum (a z) (b z) (j z) (o z)
  rw [qMi, qAg, e1, e2, e3, ih, qTP, List.map_cons]
def qER (ks : List UInt32) (ws : List (Nat → UInt32)) (s : Nat → Sha.St8) (z : Nat) : Sha.St8 := SN.fold ks (ws.map fun w => w z) (s z)
theorem qR5 (N : Nat) (ks : List UInt32) : ∀ (ws : List (Nat → UInt32)) (s : Nat → Sha.St8), ks.length = ws.length →
    rdsP (qBC N) (ks.map UInt32.toNat) (ws.map (pk N)) (pk N fun z => (s z).a) (pk N fun z => (s z).b) (pk N fun z => (s z).c) (pk N fun z => (s z).d) (pk N fun z => (s z).e) (pk N fun z => (s z).f) (pk N fun z => (s z).g) (pk N fun z => (s z).h) =
      [pk N fun z => (qER ks ws s z).a, pk N fun z => (qER ks ws s z).b, pk N fun z => (qER ks ws s z).c, pk N fun z => (qER ks ws s z).d, pk N fun z => (qER ks ws s z).e, pk N fun z => (qER ks ws s z).f, pk N fun z => (qER ks ws s z).g, pk N fun z => (qER ks ws s z).h] := by
  induction ks with
  | nil =>
    intro ws s h
    cases ws with
    | nil => rw [List.map_nil, qPH]; rfl
    | cons _ _ => cases h
  | cons k ks ih =>
    intro ws s h
    cases ws with
    | nil => cases h
    | cons w ws =>
      have e1 : Nat.xor (Nat.xor (qDa (qBC N) (pk N fun z => (s z).e) 6) (qDa (qBC N) (pk N fun z => (s z).e) 11)) (qDa (qBC N) (pk N fun z => (s z).e) 25) = pk N fun z => Sha.rotr (s z).e 6 ^^^ Sha.rotr (s z).e 11 ^^^ Sha.rotr (s z).e 25 := by
        rw [qCR N _ (by decide) (by decide), qCR N _ (by decide) (by decide), qCR N _ (by decide) (by decide), qC8, qC8]
      have e2 : Nat.xor (Nat.land (pk N fun z => (s z).e) (pk N fun z => (s z).f)) (Nat.land (4294967295 * qBC N - pk N fun z => (s z).e) (pk N fun z => (s z).g)) = pk N fun z => (s z).e &&& (s z).f ^^^ ~~~ (s z).e &&& (s z).g := by
        rw [qTp, qHw, qHw, qC8]
      have e3 : Nat.xor (Nat.xor (qDa (qBC N) (pk N fun z => (s z).a) 2) (qDa (qBC N) (pk N fun z => (s z).a) 13)) (qDa (qBC N) (pk N fun z => (s z).a) 22) = pk N fun z => Sha.rotr (s z).a 2 ^^^ Sha.rotr (s z).a 13 ^^^ Sha.rotr (s z).a 22 := by
        rw [qCR N _ (by decide) (by decide), qCR N _ (by decide) (by decide), qCR N _ (by decide) (by decide), qC8, qC8]
      have e4 : Nat.xor (Nat.xor (Nat.land (pk N fun z => (s z).a) (pk N fun z => (s z).b)) (Nat.land (pk N fun z => (s z).a) (pk N fun z => (s z).c))) (Nat.land (pk N fun z => (s z).b) (pk N fun z => (s z).c)) = pk N fun z => (s z).a &&& (s z).b ^^^ (s z).a &&& (s z).c ^^^ (s z).b &&& (s z).c := by
        rw [qHw, qHw, qHw, qC8, qC8]
      have t1 : qC4 (qBC N) ((pk N fun z => (s z).h) + (pk N fun z => Sha.rotr (s z).e 6 ^^^ Sha.rotr (s z).e 11 ^^^ Sha.rotr (s z).e 25) + (pk N fun z => (s z).e &&& (s z).f ^^^ ~~~ (s z).e &&& (s z).g) + k.toNat * qBC N + pk N w) = pk N fun z => (s z).h + (Sha.rotr (s z).e 6 ^^^ Sha.rotr (s z).e 11 ^^^ Sha.rotr (s z).e 25) + ((s z).e &&& (s z).f ^^^ ~~~ (s z).e &&& (s z).g) + k + w z := by
        rw [qBX]
        unfold pk
        rw [qA1, qA1, qA1, qA1, qDl N (fun z => lane5 (u32 _) (u32 _) (u32 _) (u32 _) (u32 _))]
        exact qAt fun z => sum5 _ _ _ _ _
      have t2 : ∀ T : Nat → UInt32, qC4 (qBC N) (pk N T + ((pk N fun z => Sha.rotr (s z).a 2 ^^^ Sha.rotr (s z).a 13 ^^^ Sha.rotr (s z).a 22) + (pk N fun z => (s z).a &&& (s z).b ^^^ (s z).a &&& (s z).c ^^^ (s z).b &&& (s z).c))) = pk N fun z => T z + ((Sha.rotr (s z).a 2 ^^^ Sha.rotr (s z).a 13 ^^^ Sha.rotr (s z).a 22) + ((s z).a &&& (s z).b ^^^ (s z).a &&& (s z).c ^^^ (s z).b &&& (s z).c)) := fun T => by
        unfold pk
        rw [qA1, qA1, qDl N (fun z => lane3 (u32 _) (u32 _) (u32 _))]
        exact qAt fun z => sum3 _ _ _
      have t3 : ∀ T : Nat → UInt32, qC4 (qBC N) ((pk N fun z => (s z).d) + pk N T) = pk N fun z => (s z).d + T z := fun T => by
        unfold pk
        rw [qA1, qDl N (fun z => qT6 (u32 _) (u32 _))]
        exact qAt fun z => by simp only [UInt32.toNat_add]
      rw [List.map_cons, List.map_cons, qMs, qAg, e1, e2, t1, qAg, e3, e4, t2, qAg, t3]
      have hr := ih ws (fun z => Sha.rnd (w z) k (s z)) (by simpa using h)
      have hf : ∀ z, qER (k :: ks) (w :: ws) s z = qER ks ws (fun z => Sha.rnd (w z) k (s z)) z := fun z => by
        unfold qER
        rw [List.map_cons, SN.fold_cons]
      simp only [hf]
      exact hr
end SM
end Go.Proofs.YtfldiegfenndjaaGreatDoor
