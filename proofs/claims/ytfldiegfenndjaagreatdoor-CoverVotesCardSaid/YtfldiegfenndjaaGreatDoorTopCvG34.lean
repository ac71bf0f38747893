/- A part of the proof. -/
import Derived.Test.YtfldiegfenndjaaGreatDoorTopCvG22
import Derived.Test.YtfldiegfenndjaaGreatDoorTopCvG21
set_option linter.unusedSimpArgs false
set_option linter.unusedVariables false
namespace Go.Proofs.YtfldiegfenndjaaGreatDoor
set_option maxRecDepth 100000
set_option maxHeartbeats 1000000
attribute [local irreducible] SN.tagN Sha.tagged
namespace SM
open SN (qAj qAb forceL qAt)
noncomputable def runP {α : Type} (u o0 o1 o2 o3 o4 LC : Nat) (n : Nat) : Nat → Nat → Nat → Nat → Nat → (Nat → Nat → Nat → Nat → α) → α :=
 Nat.rec (fun _ A B C D g => g A B C D) (fun _ ih k A B C D g => stepP u o0 o1 o2 o3 o4 (LC + k * 256 * u) A B C D fun A B C D => ih (k + 1) A B C D g) n
theorem qMR {α : Type} (u o0 o1 o2 o3 o4 LC n k A B C D : Nat) (g : Nat → Nat → Nat → Nat → α) : runP u o0 o1 o2 o3 o4 LC (n + 1) k A B C D g = stepP u o0 o1 o2 o3 o4 (LC + k * 256 * u) A B C D fun A B C D => runP u o0 o1 o2 o3 o4 LC n (k + 1) A B C D g := rfl
attribute [local irreducible] qA5 Sha.word Sha.shr stepP runP outs
noncomputable def lcN (N : Nat) : Nat := qA5 N fun z => z / 35 * 16777216 + z % 35 * 65536
theorem qFF {leaf : Nat} (h : leaf < 256) (chain k : Nat) : Wo.place leaf chain k = plc leaf chain k := by
 unfold Wo.place plc
 rw [show leaf / 2 ^ 24 = 0 by omega, show leaf / 2 ^ 16 = 0 by omega, show leaf / 2 ^ 8 = 0 by omega]; rfl
theorem lc_eq {N : Nat} (hN : N ≤ 8960) {k : Nat} (hk : k < 256) : lcN N + k * 256 * qBC N = pk N fun z => Sha.be32 (UInt8.ofNat (z / 35)) (UInt8.ofNat (z % 35)) (UInt8.ofNat k) 0 := by
 unfold lcN pk
 rw [qCe, qA1]
 refine qG1 fun z hz => ?_
 rw [R3.be32_nat, UInt8.toNat_ofNat', UInt8.toNat_ofNat', UInt8.toNat_ofNat']
 have h1 : z / 35 < 256 := by omega
 have h2 : z % 35 < 35 := Nat.mod_lt _ (by decide)
 show z / 35 * 16777216 + z % 35 * 65536 + k * 256 = 256 * (256 * (256 * (z / 35 % 2 ^ 8) + z % 35 % 2 ^ 8) + k % 2 ^ 8) + 0
 rw [Nat.mod_eq_of_lt (show z / 35 < 2 ^ 8 by omega), Nat.mod_eq_of_lt (show z % 35 < 2 ^ 8 by omega), Nat.mod_eq_of_lt (show k < 2 ^ 8 by omega)]
 generalize z / 35 = p
 generalize z % 35 = q
 omega
theorem qRY {α : Type} {N : Nat} (hN : N ≤ 8960) (o : List UInt8) (ho : o.length = 16) (n : Nat) : ∀ (k : Nat) (a b c d : Nat → UInt32) (g : Nat → Nat → Nat → Nat → α), k + n ≤ 256 →
    ∃ a' b' c' d' : Nat → UInt32, runP (qBC N) (oW o 0).toNat (oW o 1).toNat (oW o 2).toNat (oW o 3).toNat (oW o 4).toNat (lcN N) n k (pk N a) (pk N b) (pk N c) (pk N d) g = g (pk N a') (pk N b') (pk N c') (pk N d') ∧
      ∀ z, z < N → x16 (a' z) (b' z) (c' z) (d' z) = Wo.walk o (z / 35) (z % 35) k (x16 (a z) (b z) (c z) (d z)) n := by
  induction n with
  | zero => intro k a b c d g _; exact ⟨a, b, c, d, by unfold runP; rfl, fun z _ => rfl⟩
  | succ n ih =>
    intro k a b c d g hk
    rw [qMR]
    obtain ⟨a1, b1, c1, d1, h1, h2⟩ := qOU N o ho (fun z => z / 35) (fun z => z % 35) k a b c d _ (lc_eq hN (by omega)) (fun A B C D => runP (qBC N) (oW o 0).toNat (oW o 1).toNat (oW o 2).toNat (oW o 3).toNat (oW o 4).toNat (lcN N) n (k + 1) A B C D g)
    obtain ⟨a2, b2, c2, d2, h3, h4⟩ := ih (k + 1) a1 b1 c1 d1 g (by omega)
    refine ⟨a2, b2, c2, d2, h1.trans h3, fun z hz => ?_⟩
    rw [h4 z hz, h2 z hz, ← qFF (by omega)]
    have := Wo.walk_add o (z / 35) (z % 35) k (x16 (a z) (b z) (c z) (d z)) 1 n
    rw [Nat.add_comm 1 n] at this
    exact this
noncomputable def manyW {α : Type} (n : Nat) (ms : List (List Nat)) (g : Nat → Nat → Nat → Nat → Nat → α) : α := qAj (qBC n) fun u => cols (ms.map fun m => w4s 16 (SN.padN m)) fun ws => oneP u ws (g u)
theorem qPU {α : Type} (L : List (List UInt8)) (h : ∀ l ∈ L, l.length ≤ 55) (g : Nat → Nat → Nat → Nat → Nat → α) : ∃ a b c d : Nat → UInt32, manyW L.length (L.map (List.map UInt8.toNat)) g = g (qBC L.length) (pk L.length a) (pk L.length b) (pk L.length c) (pk L.length d) ∧
    ∀ z (hz : z < L.length), x16 (a z) (b z) (c z) (d z) = (Sha.sum L[z]).take 16 := by
  obtain ⟨M, hM⟩ : ∃ M, M = L.map Sha.pad := ⟨_, rfl⟩
  have hlen : M.length = L.length := by rw [hM, List.length_map]
  have e1 : (L.map (List.map UInt8.toNat)).map (fun m => w4s 16 (SN.padN m)) = M.map fun b => (Sha.firsts b 16).map UInt32.toNat := by
    rw [hM, List.map_map, List.map_map]
    refine List.map_congr_left fun l hl => ?_
    have h5 := h l hl
    show w4s 16 (SN.padN (l.map UInt8.toNat)) = (Sha.firsts (Sha.pad l) 16).map UInt32.toNat
    rw [SN.padN_eq l (by omega), qQS 16 _ (by rw [Sha.pad_length]; omega)]
  refine ⟨fun z => (Sha.mix Sha.init (M.getD z [])).a, fun z => (Sha.mix Sha.init (M.getD z [])).b, fun z => (Sha.mix Sha.init (M.getD z [])).c, fun z => (Sha.mix Sha.init (M.getD z [])).d, ?_, fun z hz => ?_⟩
  · unfold manyW
    rw [qAb, e1, qNh, qPw, ← hlen, qM0]
  · have e2 : M.getD z [] = Sha.pad L[z] := by
      rw [hM, List.getD_eq_getElem?_getD, List.getElem?_map, List.getElem?_eq_getElem hz]; rfl
    have h5 := h L[z] (List.getElem_mem hz)
    rw [← qTW, e2]
    unfold Sha.sum
    rw [show (Sha.pad L[z]).length / 64 = 1 by rw [Sha.pad_length]; omega, Sha.mixes, Sha.mixes, Nat.mul_zero, List.drop_zero]
theorem qSm (a b c d : UInt32) : byt a b c d = (x16 a b c d).map UInt8.toNat := by
 unfold byt x16
 rw [b4, b4, b4, b4]
 simp only [List.map_append]
attribute [local irreducible] manyW
noncomputable def topsN (L : Nat) (seed o : List Nat) : List (List Nat) :=
 manyW (35 * L) ((List.range (35 * L)).map fun z => tagL 1 [seed, [0, 0, 0, z / 35, z % 35, 0]]) fun u A B C D =>
  forceL [((16 * 256 + o.getD 0 0) * 256 + o.getD 1 0) * 256 + o.getD 2 0, ((o.getD 3 0 * 256 + o.getD 4 0) * 256 + o.getD 5 0) * 256 + o.getD 6 0, ((o.getD 7 0 * 256 + o.getD 8 0) * 256 + o.getD 9 0) * 256 + o.getD 10 0, ((o.getD 11 0 * 256 + o.getD 12 0) * 256 + o.getD 13 0) * 256 + o.getD 14 0, ((o.getD 15 0 * 256 + 0) * 256 + 0) * 256 + 0, lcN (35 * L)] fun q =>
  runP u (q.getD 0 0) (q.getD 1 0) (q.getD 2 0) (q.getD 3 0) (q.getD 4 0) (q.getD 5 0) 15 0 A B C D fun A B C D => outs (35 * L) A B C D
theorem qOP {L : Nat} (hL : L ≤ 255) (seed : List UInt8) (hs : seed.length ≤ 40) : topsN L (seed.map UInt8.toNat) ((Wo.opn seed).map UInt8.toNat) = (List.range (35 * L)).map fun z => (Wo.walk (Wo.opn seed) (z / 35) (z % 35) 0 (Wo.secret seed (z / 35) (z % 35)) 15).map UInt8.toNat := by
 obtain ⟨o, ho⟩ : ∃ o, o = Wo.opn seed := ⟨_, rfl⟩
 have h16 : o.length = 16 := by rw [ho]; exact Wo.opn_length seed
 rw [← ho]
 obtain ⟨S, hS⟩ : ∃ S, S = (List.range (35 * L)).map fun z => Sha.tagB 1 [seed, plc (z / 35) (z % 35) 0] := ⟨_, rfl⟩
 have hlen : S.length = 35 * L := by rw [hS, List.length_map, List.length_range]
 have hb : ∀ z, (Sha.tagB 1 [seed, plc (z / 35) (z % 35) 0]).length ≤ 55 := fun z => by
  rw [Sha.tagB_length]
  simp only [List.flatten_cons, List.flatten_nil, List.length_append, List.length_cons, List.length_nil]
  unfold plc
  simp only [List.length_cons, List.length_nil]
  omega
 have e1 : (List.range (35 * L)).map (fun z => tagL 1 [seed.map UInt8.toNat, [0, 0, 0, z / 35, z % 35, 0]]) = S.map (List.map UInt8.toNat) := by
  rw [hS, List.map_map]
  refine List.map_congr_left fun z hz => ?_
  have hz2 := List.mem_range.1 hz
  have := qRK 1 [seed, plc (z / 35) (z % 35) 0] (hb z)
  rw [Function.comp_apply, ← this]
  have e2 : (plc (z / 35) (z % 35) 0).map UInt8.toNat = [0, 0, 0, z / 35, z % 35, 0] := by
   unfold plc
   simp only [List.map_cons, List.map_nil]
   rw [UInt8.toNat_ofNat', UInt8.toNat_ofNat', Nat.mod_eq_of_lt (show z / 35 < 2 ^ 8 by omega), Nat.mod_eq_of_lt (show z % 35 < 2 ^ 8 by omega)]; rfl
  rw [List.map_cons, List.map_cons, List.map_nil, e2]; rfl
 have hw : ∀ (p q r s : UInt8), ((p.toNat * 256 + q.toNat) * 256 + r.toNat) * 256 + s.toNat = (Sha.be32 p q r s).toNat := fun p q r s => by rw [R3.be32_nat]; omega
 have hg : ∀ i, (o.map UInt8.toNat).getD i 0 = (o.getD i 0).toNat := fun i => SN.getD_map o i
 unfold topsN
 rw [e1, ← hlen]
 obtain ⟨a, b, c, d, h1, h2⟩ := qPU S (fun l hl => by
  rw [hS] at hl
  obtain ⟨z, _, rfl⟩ := List.mem_map.1 hl
  exact hb z) (fun u A B C D =>
  forceL [((16 * 256 + (o.map UInt8.toNat).getD 0 0) * 256 + (o.map UInt8.toNat).getD 1 0) * 256 + (o.map UInt8.toNat).getD 2 0, (((o.map UInt8.toNat).getD 3 0 * 256 + (o.map UInt8.toNat).getD 4 0) * 256 + (o.map UInt8.toNat).getD 5 0) * 256 + (o.map UInt8.toNat).getD 6 0, (((o.map UInt8.toNat).getD 7 0 * 256 + (o.map UInt8.toNat).getD 8 0) * 256 + (o.map UInt8.toNat).getD 9 0) * 256 + (o.map UInt8.toNat).getD 10 0, (((o.map UInt8.toNat).getD 11 0 * 256 + (o.map UInt8.toNat).getD 12 0) * 256 + (o.map UInt8.toNat).getD 13 0) * 256 + (o.map UInt8.toNat).getD 14 0, (((o.map UInt8.toNat).getD 15 0 * 256 + 0) * 256 + 0) * 256 + 0, lcN S.length] fun q =>
  runP u (q.getD 0 0) (q.getD 1 0) (q.getD 2 0) (q.getD 3 0) (q.getD 4 0) (q.getD 5 0) 15 0 A B C D fun A B C D => outs S.length A B C D)
 refine h1.trans ?_
 obtain ⟨a2, b2, c2, d2, h3, h4⟩ := qRY (N := S.length) (by omega) o h16 15 0 a b c d (fun A B C D => outs S.length A B C D) (by decide)
 rw [qAt]
 have q0 : ((16 * 256 + (o.map UInt8.toNat).getD 0 0) * 256 + (o.map UInt8.toNat).getD 1 0) * 256 + (o.map UInt8.toNat).getD 2 0 = (oW o 0).toNat := by rw [hg, hg, hg]; have h := hw 16 (o.getD 0 0) (o.getD 1 0) (o.getD 2 0); rw [show (16 : UInt8).toNat = 16 from rfl] at h; exact h
 have q1 : (((o.map UInt8.toNat).getD 3 0 * 256 + (o.map UInt8.toNat).getD 4 0) * 256 + (o.map UInt8.toNat).getD 5 0) * 256 + (o.map UInt8.toNat).getD 6 0 = (oW o 1).toNat := by rw [hg, hg, hg, hg]; exact hw _ _ _ _
 have q2 : (((o.map UInt8.toNat).getD 7 0 * 256 + (o.map UInt8.toNat).getD 8 0) * 256 + (o.map UInt8.toNat).getD 9 0) * 256 + (o.map UInt8.toNat).getD 10 0 = (oW o 2).toNat := by rw [hg, hg, hg, hg]; exact hw _ _ _ _
 have q3 : (((o.map UInt8.toNat).getD 11 0 * 256 + (o.map UInt8.toNat).getD 12 0) * 256 + (o.map UInt8.toNat).getD 13 0) * 256 + (o.map UInt8.toNat).getD 14 0 = (oW o 3).toNat := by rw [hg, hg, hg, hg]; exact hw _ _ _ _
 have q4 : (((o.map UInt8.toNat).getD 15 0 * 256 + 0) * 256 + 0) * 256 + 0 = (oW o 4).toNat := by rw [hg]; have h := hw (o.getD 15 0) 0 0 0; rw [show (0 : UInt8).toNat = 0 from rfl] at h; exact h
 rw [q0, q1, q2, q3, q4]
 simp only [List.getD_cons_zero, List.getD_cons_succ]
 rw [h3]
 rw [qRq]
 refine List.map_congr_left fun z hz => ?_
 have hz2 := List.mem_range.1 hz
 rw [qSm, h4 z hz2, h2 z hz2]
 have e3 : (Sha.sum S[z]).take 16 = Wo.secret seed (z / 35) (z % 35) := by
  unfold Wo.secret Sha.tagged
  rw [qFF (by omega)]
  congr 2
  simp only [hS, List.getElem_map, List.getElem_range]
 rw [e3]
end SM
end Go.Proofs.YtfldiegfenndjaaGreatDoor
namespace Go.Proofs.YtfldiegfenndjaaGreatDoor
set_option maxRecDepth 100000
set_option maxHeartbeats 1000000
attribute [local irreducible] SN.tagN Sha.tagged SM.topsN
namespace SM
open SN (qAj qAb forceL qAt)
noncomputable def forceLL {α : Type} (l : List (List Nat)) : (List (List Nat) → α) → α := List.rec (fun g => g []) (fun a _ ih g => forceL a fun x => ih fun r => g (x :: r)) l
theorem qGV {α : Type} : ∀ (l : List (List Nat)) (g : List (List Nat) → α), forceLL l g = g l
 | [], _ => rfl
 | a :: l, g => by
  show forceL a (fun x => forceLL l fun r => g (x :: r)) = g (a :: l)
  rw [qAt, qGV l]
noncomputable def aboveN (l : List (List Nat)) : List (List Nat) := (List.range (l.length / 2)).map fun k => SN.tagN 5 [l.getD (2 * k) [], l.getD (2 * k + 1) []]
noncomputable def lvlN (l : List (List Nat)) : Nat → List (List Nat)
 | 0 => l
 | j + 1 => aboveN (lvlN l j)
def natL (l : List (List UInt8)) : List (List Nat) := l.map (List.map UInt8.toNat)
theorem qHH (l : List (List UInt8)) (i : Nat) : (natL l).getD i [] = (l.getD i []).map UInt8.toNat := by
 unfold natL
 rw [List.getD_eq_getElem?_getD, List.getD_eq_getElem?_getD, List.getElem?_map]
 cases l[i]? <;> rfl
theorem qIF {l : List (List UInt8)} (h : ∀ x ∈ l, x.length = 16) (i : Nat) : (l.getD i []).length ≤ 16 := by
 rw [List.getD_eq_getElem?_getD]
 by_cases hi : i < l.length
 · rw [List.getElem?_eq_getElem hi]; exact Nat.le_of_eq (h _ (List.getElem_mem hi))
 · rw [List.getElem?_eq_none (by omega)]; exact Nat.zero_le _
theorem qN5 (l : List (List UInt8)) (h : ∀ x ∈ l, x.length = 16) : aboveN (natL l) = natL (Mk.above l) := by
 unfold aboveN Mk.above
 rw [show (natL l).length = l.length from List.length_map _]
 show _ = List.map _ (List.map _ _)
 rw [List.map_map]
 refine List.map_congr_left fun k _ => ?_
 rw [qHH, qHH]
 have h1 := qIF h (2 * k)
 have h2 := qIF h (2 * k + 1)
 exact SN.tagN_eq 5 [l.getD (2 * k) [], l.getD (2 * k + 1) []] (by simp only [List.flatten_cons, List.flatten_nil, List.append_nil, List.length_append, List.length_cons, List.length_nil]; omega)
theorem qQI (l : List (List UInt8)) : ∀ x ∈ Mk.above l, x.length = 16 := fun x hx => by
 obtain ⟨k, _, rfl⟩ := List.mem_map.1 hx
 exact Sha.tagged_length _ _
theorem qNA (l : List (List UInt8)) (h : ∀ x ∈ l, x.length = 16) : ∀ j, lvlN (natL l) j = natL (Mk.lvl l j) ∧ ∀ x ∈ Mk.lvl l j, x.length = 16
 | 0 => ⟨rfl, h⟩
 | j + 1 => by
  obtain ⟨h1, h2⟩ := qNA l h j
  exact ⟨by rw [lvlN, h1, qN5 _ h2, Mk.lvl], qQI _⟩
noncomputable def leavesN (L : Nat) (seed : List Nat) : List (List Nat) := forceL (SN.tagN 3 [seed]) fun o => forceLL (topsN L seed o) fun tops =>
 (List.range L).map fun leaf => SN.tagN 4 (o :: [0, 0, 0, leaf, 0, 0] :: (tops.drop (35 * leaf)).take 35)
noncomputable def rootN (h : Nat) (seed : List Nat) : List Nat := (lvlN (leavesN (2 ^ h) seed) h).getD 0 []
theorem qMZ {β : Type} (f : Nat → β) (L leaf : Nat) (h : leaf < L) : (((List.range (35 * L)).map f).drop (35 * leaf)).take 35 = (List.range 35).map fun i => f (35 * leaf + i) := by
 apply List.ext_getElem?
 intro i
 rw [List.getElem?_take, List.getElem?_map]
 by_cases hi : i < 35
 · rw [if_pos hi, List.getElem?_drop, List.getElem?_map, List.getElem?_range (by omega), List.getElem?_range hi]; rfl
 · rw [if_neg hi, List.getElem?_eq_none (by rw [List.length_range]; omega)]; rfl
theorem leavesN_eq (L : Nat) (hp : L ≤ 64) (seed : List UInt8) (hs : seed.length ≤ 40) : leavesN L (seed.map UInt8.toNat) = natL (Xm.leaves seed L) := by
 have ho : SN.tagN 3 [seed.map UInt8.toNat] = (Wo.opn seed).map UInt8.toNat := SN.tagN_eq 3 [seed] (by simp only [List.flatten_cons, List.flatten_nil, List.append_nil, List.length_cons, List.length_nil]; omega)
 unfold leavesN
 rw [qAt, qGV, ho, qOP (by omega) seed hs]
 have e : ((List.range (L)).map fun leaf => SN.tagN 4 ((Wo.opn seed).map UInt8.toNat :: [0, 0, 0, leaf, 0, 0] :: (((List.range (35 * L)).map fun z => (Wo.walk (Wo.opn seed) (z / 35) (z % 35) 0 (Wo.secret seed (z / 35) (z % 35)) 15).map UInt8.toNat).drop (35 * leaf)).take 35)) = natL (Xm.leaves seed (L)) := by
  unfold natL Xm.leaves
  rw [List.map_map]
  refine List.map_congr_left fun leaf hl => ?_
  have hl2 := List.mem_range.1 hl
  rw [qMZ _ _ _ hl2]
  have e1 : ((List.range 35).map fun i => (Wo.walk (Wo.opn seed) ((35 * leaf + i) / 35) ((35 * leaf + i) % 35) 0 (Wo.secret seed ((35 * leaf + i) / 35) ((35 * leaf + i) % 35)) 15).map UInt8.toNat) = natL (Wo.tops seed leaf 35) := by
   unfold natL Wo.tops
   rw [List.map_map]
   refine List.map_congr_left fun i hi => ?_
   have hi2 := List.mem_range.1 hi
   rw [show (35 * leaf + i) / 35 = leaf by omega, show (35 * leaf + i) % 35 = i by omega]; rfl
  rw [e1]
  have e2 : (Wo.place leaf 0 0).map UInt8.toNat = [0, 0, 0, leaf, 0, 0] := by
   rw [qFF (by omega)]
   unfold plc
   simp only [List.map_cons, List.map_nil]
   rw [UInt8.toNat_ofNat', Nat.mod_eq_of_lt (show leaf < 2 ^ 8 by omega)]; rfl
  have h16 : ∀ x ∈ Wo.tops seed leaf 35, x.length = 16 := fun x hx => by
   obtain ⟨i, _, rfl⟩ := List.mem_map.1 hx
   exact Wo.walk_16 _ _ _ _ _ (Wo.secret_length _ _ _) 15
  have hfl : (Wo.tops seed leaf 35).flatten.length ≤ 100000 := by
   have : ∀ l : List (List UInt8), (∀ x ∈ l, x.length = 16) → l.flatten.length = 16 * l.length := fun l hl => by
    induction l with
    | nil => rfl
    | cons a l ih => rw [List.flatten_cons, List.length_append, ih (fun x hx => hl x (.tail _ hx)), hl a (.head _), List.length_cons]; omega
   rw [this _ h16]
   unfold Wo.tops
   rw [List.length_map, List.length_range]; decide
  have ht := SN.tagN_eq 4 ([Wo.opn seed, Wo.place leaf 0 0] ++ Wo.tops seed leaf 35) (by
   have h35 : (Wo.tops seed leaf 35).length = 35 := by unfold Wo.tops; rw [List.length_map, List.length_range]
   rw [List.flatten_append, List.length_append, List.length_append, h35]
   simp only [List.flatten_cons, List.flatten_nil, List.append_nil, List.length_append, List.length_cons, List.length_nil, Wo.opn_length]
   unfold Wo.place
   simp only [List.length_cons, List.length_nil]
   omega)
  rw [Function.comp_apply]
  show _ = (Wo.pub seed leaf).map UInt8.toNat
  unfold Wo.pub Wo.publicOf
  rw [← ht, List.map_append, List.map_cons, List.map_cons, List.map_nil, e2]
  rfl
 exact e
theorem rootN_eq (h : Nat) (h6 : h ≤ 6) (seed : List UInt8) (hs : seed.length ≤ 40) : rootN h (seed.map UInt8.toNat) = (Xm.root seed h).map UInt8.toNat := by
 unfold rootN
 rw [leavesN_eq (2 ^ h) (Xm.pow_le h h6) seed hs, (qNA _ (fun x hx => by
  obtain ⟨k, _, rfl⟩ := List.mem_map.1 hx
  exact Sha.tagged_length _ _) h).1, qHH]
 rfl
end SM
end Go.Proofs.YtfldiegfenndjaaGreatDoor
namespace Go.Proofs.YtfldiegfenndjaaGreatDoor
set_option maxRecDepth 100000
set_option maxHeartbeats 1000000
attribute [local irreducible] SN.tagN Sha.tagged
theorem qLL : SM.natL (Xm.leaves [97, 117, 100, 105, 116, 111, 114, 97] 4) = [[231, 8, 164, 122, 234, 57, 121, 228, 189, 73, 3, 251, 107, 179, 0, 61], [203, 62, 250, 140, 57, 218, 216, 163, 107, 203, 193, 53, 104, 74, 112, 135], [64, 243, 149, 4, 237, 171, 250, 26, 169, 213, 237, 102, 127, 193, 221, 63], [112, 121, 42, 219, 189, 106, 24, 216, 174, 48, 72, 122, 28, 150, 237, 133]] := by
 rw [← SM.leavesN_eq 4 (by decide) [97, 117, 100, 105, 116, 111, 114, 97] (by decide)]
 decide +kernel
theorem qGv : (Xm.root [97, 117, 100, 105, 116, 111, 114, 97] 2).map UInt8.toNat = [22, 164, 247, 0, 48, 253, 180, 71, 220, 85, 164, 252, 188, 160, 204, 90] := by
 rw [← SM.rootN_eq 2 (by decide) [97, 117, 100, 105, 116, 111, 114, 97] (by decide)]
 unfold SM.rootN
 rw [SM.leavesN_eq 4 (by decide) [97, 117, 100, 105, 116, 111, 114, 97] (by decide), show Xm.leaves [97, 117, 100, 105, 116, 111, 114, 97] (2 ^ 2) = Xm.leaves [97, 117, 100, 105, 116, 111, 114, 97] 4 from rfl, qLL]
 decide +kernel
end Go.Proofs.YtfldiegfenndjaaGreatDoor
namespace Go.Proofs.YtfldiegfenndjaaGreatDoor
set_option maxRecDepth 100000
set_option maxHeartbeats 1000000
attribute [local irreducible] SN.tagN Sha.tagged
theorem qGQ : SM.natL (Xm.leaves [97, 117, 100, 105, 116, 111, 114, 98] 4) = [[4, 48, 214, 253, 150, 8, 107, 224, 242, 74, 125, 178, 104, 78, 45, 89], [181, 103, 124, 109, 204, 137, 245, 219, 91, 20, 4, 13, 32, 168, 103, 207], [235, 233, 220, 176, 229, 253, 9, 44, 130, 126, 235, 213, 232, 222, 94, 9], [125, 204, 114, 40, 58, 53, 49, 141, 222, 80, 123, 192, 3, 168, 24, 249]] := by
 rw [← SM.leavesN_eq 4 (by decide) [97, 117, 100, 105, 116, 111, 114, 98] (by decide)]
 decide +kernel
theorem qD3 : (Xm.root [97, 117, 100, 105, 116, 111, 114, 98] 2).map UInt8.toNat = [101, 12, 161, 181, 223, 198, 74, 60, 112, 220, 105, 68, 168, 64, 74, 68] := by
 rw [← SM.rootN_eq 2 (by decide) [97, 117, 100, 105, 116, 111, 114, 98] (by decide)]
 unfold SM.rootN
 rw [SM.leavesN_eq 4 (by decide) [97, 117, 100, 105, 116, 111, 114, 98] (by decide), show Xm.leaves [97, 117, 100, 105, 116, 111, 114, 98] (2 ^ 2) = Xm.leaves [97, 117, 100, 105, 116, 111, 114, 98] 4 from rfl, qGQ]
 decide +kernel
end Go.Proofs.YtfldiegfenndjaaGreatDoor
namespace Go.Proofs.YtfldiegfenndjaaGreatDoor
set_option maxRecDepth 100000
set_option maxHeartbeats 1000000
attribute [local irreducible] SN.tagN Sha.tagged
theorem qGP : SM.natL (Xm.leaves [97, 117, 100, 105, 116, 111, 114, 99] 4) = [[2, 45, 57, 30, 201, 111, 61, 146, 173, 198, 83, 130, 3, 77, 41, 86], [83, 5, 230, 27, 232, 63, 134, 247, 227, 242, 193, 29, 117, 61, 159, 141], [52, 28, 142, 41, 175, 164, 164, 183, 55, 52, 143, 43, 168, 202, 32, 241], [221, 7, 194, 248, 148, 204, 187, 159, 23, 180, 89, 107, 186, 193, 136, 235]] := by
 rw [← SM.leavesN_eq 4 (by decide) [97, 117, 100, 105, 116, 111, 114, 99] (by decide)]
 decide +kernel
theorem qD2 : (Xm.root [97, 117, 100, 105, 116, 111, 114, 99] 2).map UInt8.toNat = [146, 83, 211, 224, 30, 128, 154, 79, 165, 236, 208, 225, 73, 13, 246, 50] := by
 rw [← SM.rootN_eq 2 (by decide) [97, 117, 100, 105, 116, 111, 114, 99] (by decide)]
 unfold SM.rootN
 rw [SM.leavesN_eq 4 (by decide) [97, 117, 100, 105, 116, 111, 114, 99] (by decide), show Xm.leaves [97, 117, 100, 105, 116, 111, 114, 99] (2 ^ 2) = Xm.leaves [97, 117, 100, 105, 116, 111, 114, 99] 4 from rfl, qGP]
 decide +kernel
end Go.Proofs.YtfldiegfenndjaaGreatDoor
namespace Go.Proofs.YtfldiegfenndjaaGreatDoor
set_option maxRecDepth 100000
set_option maxHeartbeats 1000000
attribute [local irreducible] SN.tagN Sha.tagged
theorem qLK : SM.natL (Xm.leaves [97, 117, 100, 105, 116, 111, 114, 100] 4) = [[198, 149, 46, 117, 245, 194, 222, 115, 21, 246, 154, 234, 33, 201, 233, 219], [219, 125, 191, 45, 52, 221, 66, 214, 150, 0, 146, 125, 207, 244, 193, 161], [230, 187, 162, 124, 128, 73, 30, 186, 143, 103, 12, 55, 4, 147, 220, 214], [168, 113, 21, 22, 134, 58, 106, 239, 27, 8, 113, 48, 136, 97, 31, 138]] := by
 rw [← SM.leavesN_eq 4 (by decide) [97, 117, 100, 105, 116, 111, 114, 100] (by decide)]
 decide +kernel
theorem qGu : (Xm.root [97, 117, 100, 105, 116, 111, 114, 100] 2).map UInt8.toNat = [148, 225, 153, 219, 213, 181, 119, 81, 164, 172, 175, 225, 88, 150, 136, 15] := by
 rw [← SM.rootN_eq 2 (by decide) [97, 117, 100, 105, 116, 111, 114, 100] (by decide)]
 unfold SM.rootN
 rw [SM.leavesN_eq 4 (by decide) [97, 117, 100, 105, 116, 111, 114, 100] (by decide), show Xm.leaves [97, 117, 100, 105, 116, 111, 114, 100] (2 ^ 2) = Xm.leaves [97, 117, 100, 105, 116, 111, 114, 100] 4 from rfl, qLK]
 decide +kernel
end Go.Proofs.YtfldiegfenndjaaGreatDoor
namespace Go.Proofs.YtfldiegfenndjaaGreatDoor
set_option maxRecDepth 100000
set_option maxHeartbeats 1000000
attribute [local irreducible] SN.tagN Sha.tagged
theorem qLJ : SM.natL (Xm.leaves [97, 117, 100, 105, 116, 111, 114, 101] 4) = [[42, 214, 133, 70, 54, 105, 95, 208, 235, 8, 159, 45, 109, 104, 180, 250], [52, 126, 86, 238, 39, 173, 136, 76, 232, 205, 67, 21, 211, 165, 53, 144], [13, 122, 197, 13, 214, 210, 106, 221, 212, 182, 116, 40, 145, 249, 245, 202], [176, 4, 220, 121, 78, 170, 102, 53, 50, 90, 172, 152, 71, 246, 179, 119]] := by
 rw [← SM.leavesN_eq 4 (by decide) [97, 117, 100, 105, 116, 111, 114, 101] (by decide)]
 decide +kernel
theorem qGt : (Xm.root [97, 117, 100, 105, 116, 111, 114, 101] 2).map UInt8.toNat = [70, 197, 109, 249, 108, 48, 180, 93, 6, 9, 118, 143, 33, 233, 157, 204] := by
 rw [← SM.rootN_eq 2 (by decide) [97, 117, 100, 105, 116, 111, 114, 101] (by decide)]
 unfold SM.rootN
 rw [SM.leavesN_eq 4 (by decide) [97, 117, 100, 105, 116, 111, 114, 101] (by decide), show Xm.leaves [97, 117, 100, 105, 116, 111, 114, 101] (2 ^ 2) = Xm.leaves [97, 117, 100, 105, 116, 111, 114, 101] 4 from rfl, qLJ]
 decide +kernel
end Go.Proofs.YtfldiegfenndjaaGreatDoor
