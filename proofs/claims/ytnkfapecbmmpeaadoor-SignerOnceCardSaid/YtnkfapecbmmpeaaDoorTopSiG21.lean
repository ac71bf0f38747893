/- A part of the proof: contracts of functions of the program, each for every state of the heaps that it names. -/
import Derived.Test.YtnkfapecbmmpeaaDoorTopSiG20
set_option linter.unusedSimpArgs false
set_option linter.unusedVariables false
namespace Go.Proofs.YtnkfapecbmmpeaaDoor
open Go Go.Fw
set_option maxRecDepth 100000
set_option maxHeartbeats 1000000
theorem ent87 : Enters Tryd.prog 87 := Enters.of Tryd.func87 rfl (by kernel_rfl)
theorem ent92 : Enters Tryd.prog 92 := Enters.of Tryd.func92 rfl (by kernel_rfl)
theorem ent93 : Enters Tryd.prog 93 := Enters.of Tryd.func93 rfl (by kernel_rfl)
theorem ent126 : Enters Tryd.prog 126 := Enters.of Tryd.func126 rfl (by kernel_rfl)
theorem ent132 : Enters Tryd.prog 132 := Enters.of Tryd.func132 rfl (by kernel_rfl)

namespace Xm
def leaves (seed : List UInt8) (k : Nat) : List (List UInt8) := (List.range k).map fun i => Wo.pub seed i
def root (seed : List UInt8) (h : Nat) : List UInt8 := Mk.root (leaves seed (2 ^ h)) h
def four (n : Nat) : List UInt8 := [UInt8.ofNat (n / 2 ^ 24), UInt8.ofNat (n / 2 ^ 16), UInt8.ofNat (n / 2 ^ 8), UInt8.ofNat n]
def digest (o : List UInt8) (i : Nat) (m : List UInt8) : List UInt8 := Sha.tagged 6 [o, four i, m]
theorem leaves_succ (seed : List UInt8) (k : Nat) : leaves seed (k + 1) = leaves seed k ++ [Wo.pub seed k] := by simp [leaves, List.range_succ]
theorem leaves_length (seed : List UInt8) (k : Nat) : (leaves seed k).length = k := by simp [leaves]
theorem leaves_get (seed : List UInt8) (k i : Nat) (h : i < k) : (leaves seed k).getD i [] = Wo.pub seed i := by
  unfold leaves
  rw [List.getD_eq_getElem?_getD, List.getElem?_map, List.getElem?_range h]; rfl
theorem pub_length (seed : List UInt8) (i : Nat) : (Wo.pub seed i).length = 16 := Sha.tagged_length _ _
theorem leaves_small (seed : List UInt8) (k : Nat) : ∀ s ∈ leaves seed k, s.length ≤ 1048576 := fun s hs => by
  simp only [leaves, List.mem_map] at hs
  obtain ⟨i, _, rfl⟩ := hs
  rw [pub_length]; decide
theorem digest_length (o : List UInt8) (i : Nat) (m : List UInt8) : (digest o i m).length = 16 := Sha.tagged_length _ _
theorem four_length (n : Nat) : (four n).length = 4 := rfl
theorem pow_le (h : Nat) (h6 : h ≤ 6) : 2 ^ h ≤ 64 := Nat.le_trans (Nat.pow_le_pow_right (by decide) h6) (by decide)
end Xm
attribute [local irreducible] Sha.tagged Wo.pub Wo.publicOf Wo.signs Wo.ends Wo.digs Wo.walk Wo.opn Mk.root Mk.path Mk.climb
theorem Xm.leaves0 (seed : List UInt8) : Xm.leaves seed 0 = [] := rfl
theorem Wo.recPub (seed : List UInt8) (leaf : Nat) (d : List UInt8) (hd : d.length ≤ 16) : Wo.publicOf (Wo.opn seed) leaf (Wo.ends (Wo.opn seed) leaf (Wo.digs d) (Wo.signs seed leaf (Wo.digs d) 35) 35) = Wo.pub seed leaf := by
  rw [Wo.recovers seed leaf (Wo.digs d) (Wo.digs_le d hd) 35]; unfold Wo.pub; rfl
def keyCells (seed o r : List UInt8) (h : Int) (A : Option Addr) (n c : Nat) : List Value := [Str seed, Str o, Str r, I h, .slice A n c]
/-- a key in memory -/
def Keyed (mm : Hp) (g : Nat) (seed : List UInt8) (h : Nat) : Prop := ∃ A c mr, mm = U [blk g (keyCells seed (Wo.opn seed) (Xm.root seed h) h A (2 ^ h) c) 186, mr] ∧ Dj (blk g (keyCells seed (Wo.opn seed) (Xm.root seed h) h A (2 ^ h) c) 186) mr ∧ Row mr 9 1 A (2 ^ h) c (strsV (Xm.leaves seed (2 ^ h)))
theorem Keyed.see {mm : Hp} {g : Nat} {seed : List UInt8} {h : Nat} (hk : Keyed mm g seed h) : ∃ A c, Cells mm ⟨g, 0, none⟩ (keyCells seed (Wo.opn seed) (Xm.root seed h) h A (2 ^ h) c) ∧ Sl mm 1 A (2 ^ h) c (strsV (Xm.leaves seed (2 ^ h))) := by
  obtain ⟨A, c, mr, rfl, hd, hr⟩ := hk
  exact ⟨A, c, Cells.blk0.mono (le_U2l _ _), hr.sl.mono (le_U2r hd)⟩

theorem xnew_ct (F : Hp) (hK : Cells F ⟨1, 0, none⟩ (Sha.K.map W32)) (seed : List UInt8) (h : Nat) (hs : seed.length ≤ 1048576) (h6 : h ≤ 6) :
    Ct Tryd.prog 82 [Str seed, I h] [F] (fun x : Nat × Hp => .tuple #[Ptr x.1, I 0]) (fun x => Keyed x.2 x.1 seed h) (fun x => [x.2, F]) := by
  have hp64 := Xm.pow_le h h6
  have hp0 := Nat.two_pow_pos h
  refine Ct.walk Tryd.func82 rfl Tryd.ntmps82 rfl (fun w0 hw0 => ?_)
  change J _ [(0, _), (1, _)] _ _ _
  refine J.seq (fun K1 hK1 => ?_)
  refine J.region ?_
  refine J.y (op_assign rfl rfl) rfl rfl rfl ?_
  refine J.y (op_assign rfl rfl) rfl rfl rfl ?_
  refine J.nil ?_
  refine J.then_n (J.k hK1 ?_)
  refine J.keepE [(0, _), (1, _)] ⟨rfl, rfl, trivial⟩ ?_
  refine J.seq (fun K2 hK2 => ?_)
  refine J.seq (fun K3 hK3 => ?_)
  refine J.region ?_
  refine J.y (op_move rfl rfl) rfl rfl rfl ?_
  refine J.y ((op_lss rfl rfl rfl).as (v' := .bool false) (congrArg Value.bool (decide_eq_false (by omega)))) rfl rfl rfl ?_
  refine J.y (op_move rfl rfl) rfl rfl rfl ?_
  refine J.yg (Wan.is rfl rfl rfl rfl rfl) (op_move rfl rfl) rfl rfl ?_
  refine J.yg (Wan.is rfl rfl rfl rfl rfl) ((op_gtr rfl rfl rfl).as (v' := .bool false) (congrArg Value.bool (decide_eq_false (by omega)))) rfl rfl ?_
  refine J.y (op_pickF rfl rfl rfl) rfl rfl rfl ?_
  refine J.nil ?_
  refine J.then_n (J.k hK3 ?_)
  refine J.keepE [(0, _), (1, _), (15, _)] ⟨rfl, rfl, rfl, trivial⟩ ?_
  refine J.condF rfl rfl ?_
  refine J.skip ?_
  refine J.then_n (J.k hK2 ?_)
  refine J.keepE [(0, _), (1, _)] ⟨rfl, rfl, trivial⟩ ?_
  refine J.seq (fun K4 hK4 => ?_)
  refine J.region ?_
  refine J.y (op_move rfl rfl) rfl rfl rfl ?_
  refine J.y (op_buildStruct (l := [(0, .tmp 16)]) (places := [(0, 1), (1, 3), (4, 1)]) (r := keyCells seed [] [] 0 none 0 0) rfl rfl rfl Tryd.underlying186 Tryd.zeroValue186 (fun _ => by kernel_rfl) rfl) rfl rfl rfl ?_
  refine J.e (op_box rfl rfl (l := keyCells seed [] [] 0 none 0 0) rfl) rfl rfl rfl ?_
  intro g18 _
  change J _ _ _ [F, blk g18 (keyCells seed [] [] 0 none 0 0) 186] _
  refine J.y (op_assign rfl rfl) rfl rfl rfl ?_
  refine J.nil ?_
  refine J.then_n (J.k hK4 ?_)
  refine J.keepE [(0, _), (1, _), (6, _)] ⟨rfl, rfl, rfl, trivial⟩ ?_
  refine J.seq (fun K5 hK5 => ?_)
  refine J.seq (fun K6 hK6 => ?_)
  refine J.addEmpty [0, 1, 2] [F, blk g18 (keyCells seed [] [] 0 none 0 0) 186, (fun _ => none)] rfl (by decide) ?_
  refine J.region ?_
  refine J.y (op_move rfl rfl) rfl rfl rfl ?_
  refine J.y ((op_shlI (a := 1) (m := h) rfl rfl rfl ⟨by omega, by have := Int.pow_pos (n := 2) (m := h) (by decide); omega, by rw [Int.one_mul]; exact Int.ofNat_le.2 (show 2 ^ h ≤ 9223372036854775807 by omega)⟩).as (v' := I ((2 ^ h : Nat) : Int)) (congrArg I (by simp))) rfl rfl rfl ?_
  refine J.y (op_move rfl rfl) rfl rfl rfl ?_
  refine J.nil ?_
  refine J.then_n (J.k hK6 ?_)
  refine J.keepE [(0, _), (1, _), (6, _), (20, _), (21, _)] ⟨rfl, rfl, rfl, rfl, rfl, trivial⟩ ?_
  refine J.block ?_
  refine J.loop (X := Nat × Option Addr × Nat × Hp) (fun x => [(0, Str seed), (1, I h), (6, Ptr g18), (20, I ((2 ^ h : Nat) : Int)), (21, I x.1)]) (fun x => [F, blk g18 (keyCells seed [] [] 0 x.2.1 x.1 x.2.2.1) 186, x.2.2.2]) (fun x => x.1 ≤ 2 ^ h ∧ Row x.2.2.2 9 1 x.2.1 x.1 x.2.2.1 (strsV (Xm.leaves seed x.1))) (fun x => 2 ^ h - x.1) (0, none, 0, fun _ => none) (⟨Nat.zero_le _, by rw [Xm.leaves0]; exact RowQ.nil⟩) ⟨rfl, rfl, rfl, rfl, rfl, trivial⟩ (fun _ h => h) ?_
  rintro ⟨k, A6, c6, m⟩ ⟨hk, hrow⟩ I0 hI0
  dsimp only at hk hrow ⊢
  refine J.seq (fun K7 hK7 => ?_)
  refine J.region ?_
  refine J.y (op_lss rfl rfl rfl) rfl rfl rfl ?_
  refine J.nil ?_
  refine J.then_n (J.k hK7 ?_)
  refine J.keepE [(0, _), (1, _), (6, _), (20, _), (21, _), (22, _)] ⟨rfl, rfl, rfl, rfl, rfl, rfl, trivial⟩ ?_
  refine J.seq (fun K8 hK8 => ?_)
  refine J.ite rfl (fun h22 => ?_) (fun h22 => ?_)
  ·
    refine J.skip ?_
    refine J.then_n (J.k hK8 ?_)
    refine J.keepE [(0, _), (1, _), (6, _), (20, _), (21, _)] ⟨rfl, rfl, rfl, rfl, rfl, trivial⟩ ?_
    refine J.seq (fun K9 hK9 => ?_)
    refine J.block ?_
    refine J.seq (fun K10 hK10 => ?_)
    refine J.region ?_
    refine J.y (op_move rfl rfl) rfl rfl rfl ?_
    refine J.y (op_assign rfl rfl) rfl rfl rfl ?_
    refine J.nil ?_
    refine J.then_n (J.k hK10 ?_)
    refine J.keepE [(0, _), (1, _), (6, _), (7, _), (20, _), (21, _)] ⟨rfl, rfl, rfl, rfl, rfl, rfl, trivial⟩ ?_
    refine J.draw [blk g18 (keyCells seed [] [] 0 A6 k c6) 186] [12] (.y 0 (.y 1 (.y 2 (.y 3 (.y 4 (.y 5 (.y 6 (.e 7 (.e 8 (.e 9 (.y 10 (.y 11 (.e 12 .nil))))))))))))) Tryd.wide (by decide +kernel) (by simp) ?_
    refine J.dy rfl (op_move rfl rfl) rfl rfl rfl rfl ?_
    refine J.dy rfl (op_move rfl rfl) rfl rfl rfl rfl ?_
    refine J.dy rfl (op_nilCheck rfl rfl) rfl rfl rfl rfl ?_
    refine J.dy rfl (op_fieldAddr (j := 4) rfl rfl Tryd.underlying186 rfl Tryd.sizeOf55 rfl) rfl rfl rfl rfl ?_
    refine J.dy rfl (op_loadB 0 rfl rfl rfl Tryd.isAgg55 rfl) rfl rfl rfl rfl ?_
    refine J.dy rfl (op_move rfl rfl) rfl rfl rfl rfl ?_
    refine J.dy rfl (op_move rfl rfl) rfl rfl rfl rfl ?_
    refine J.de rfl (op_call rfl rfl ent126 (Ct.use0 (fun F' hF => wpub_ct F' (hK.mono (hF _ (by simp))) seed k hs (by omega)))) rfl rfl rfl (by simp) ?_
    intro g31 _
    refine J.de rfl (op_buildSlice (l := [.tmp 31]) (xs := [[Str (Wo.pub seed k)]]) rfl rfl rfl rfl Tryd.underlying55 el9 rfl (by decide) (by decide) (by simp)) rfl rfl rfl (by simp) ?_
    intro g32 _
    change J _ _ _ [F, blk g18 (keyCells seed [] [] 0 A6 k c6) 186, m, blk g32 [Str (Wo.pub seed k)] 9] _
    refine J.de rfl (op_append (i := 2) (m2 := blk g32 [Str (Wo.pub seed k)] 9) (ys := strsV [(Wo.pub seed k)]) rfl rfl rfl Tryd.underlying55 Tryd.underlying55 el9 rfl hrow (by simp) (row_blk (q := True) (xs := strsV [(Wo.pub seed k)]) rfl (by simp [strsV])).sl (one_strs _) (by omega) (by omega)) rfl rfl rfl (by simp) ?_
    rintro ⟨A33, c33, m33⟩ h33
    try dsimp only at h33
    change J _ ((33, .slice A33 (k + 1) c33) :: _) _ [F, blk g18 (keyCells seed [] [] 0 A6 k c6) 186, m33, blk g32 [Str (Wo.pub seed k)] 9] _
    rw [← strsV_app, ← Xm.leaves_succ] at h33
    refine J.dy rfl (op_nilCheck rfl rfl) rfl rfl rfl rfl ?_
    refine J.dy rfl (op_fieldAddr (j := 4) rfl rfl Tryd.underlying186 rfl Tryd.sizeOf55 rfl) rfl rfl rfl rfl ?_
    refine J.ds rfl (op_store (i := 1) (vs := [.slice A33 (k + 1) c33]) rfl rfl rfl rfl rfl Tryd.sizeOf55 rfl (by simp [keyCells])) rfl rfl rfl (fun _ _ => ?_)
    change J _ _ _ [F, blk g18 (keyCells seed [] [] 0 A33 (k + 1) c33) 186, m33, blk g32 [Str (Wo.pub seed k)] 9] _
    refine J.dnil ?_
    refine J.blk_n ?_
    refine J.then_n (J.k hK9 ?_)
    refine J.keepE [(0, _), (1, _), (6, _), (20, _), (21, _)] ⟨rfl, rfl, rfl, rfl, rfl, trivial⟩ ?_
    refine J.perm [0, 1, 2] [F, blk g18 (keyCells seed [] [] 0 A33 (k + 1) c33) 186, m33] rfl (by decide) ?_
    refine J.region ?_
    refine J.y ((op_add rfl rfl rfl (by first | omega | (refine ⟨?_, ?_⟩ <;> omega))).as (v' := I ((k + 1 : Nat) : Int)) (congrArg I (by omega))) rfl rfl rfl ?_
    refine J.y (op_move rfl rfl) rfl rfl rfl ?_
    refine J.nil ?_
    refine J.then_n ?_
    exact J.kk (k + 1, A33, c33, m33) (fun x (hx : _ ∧ 2 ^ h - x.1 < 2 ^ h - k) => hI0 x hx.1 hx.2) ⟨⟨by dsimp only; omega, h33⟩, by dsimp only; omega⟩ ⟨rfl, rfl, rfl, rfl, rfl, trivial⟩ (fun _ h => h)
  ·
    refine J.exit ?_
    refine J.then_x ?_
    refine J.then_x ?_
    refine J.blk_eq ?_
    refine J.then_n (J.k hK5 ?_)
    refine J.keepE [(0, _), (1, _), (6, _)] ⟨rfl, rfl, rfl, trivial⟩ ?_
    refine J.seq (fun K11 hK11 => ?_)
    have hkn : k = 2 ^ h := by omega
    subst hkn
    refine J.region ?_
    refine J.y (op_move rfl rfl) rfl rfl rfl ?_
    refine J.y (op_nilCheck rfl rfl) rfl rfl rfl ?_
    refine J.y (op_fieldAddr (j := 4) rfl rfl Tryd.underlying186 rfl Tryd.sizeOf55 rfl) rfl rfl rfl ?_
    refine J.y (op_loadB 1 rfl rfl rfl Tryd.isAgg55 rfl) rfl rfl rfl ?_
    refine J.e (op_call rfl rfl ent127 (Ct.use0 (fun F' hF => root_ct F' (hK.mono (hF _ (by simp))) A6 (2 ^ h) c6 (Xm.leaves seed (2 ^ h)) (hrow.sl.mono (hF _ (by simp))) h h6 rfl (Xm.leaves_small _ _)))) rfl rfl rfl ?_
    intro g42 _
    refine J.y (op_move rfl rfl) rfl rfl rfl ?_
    refine J.y (op_extract (v := Str (Xm.root seed h)) rfl rfl rfl) rfl rfl rfl ?_
    refine J.y (op_extract rfl rfl rfl) rfl rfl rfl ?_
    refine J.y (op_assign rfl rfl) rfl rfl rfl ?_
    refine J.y (op_assign rfl rfl) rfl rfl rfl ?_
    refine J.nil ?_
    refine J.then_n (J.k hK11 ?_)
    refine J.keepE [(0, _), (1, _), (6, _), (8, _)] ⟨rfl, rfl, rfl, rfl, trivial⟩ ?_
    refine J.seq (fun K12 hK12 => ?_)
    refine J.region ?_
    refine J.y (op_move rfl rfl) rfl rfl rfl ?_
    refine J.y (op_move rfl rfl) rfl rfl rfl ?_
    refine J.e (op_call rfl rfl ent128 (Ct.use0 (fun F' hF => wopen_ct F' (hK.mono (hF _ (by simp))) seed hs))) rfl rfl rfl ?_
    intro g47 _
    refine J.y (op_move rfl rfl) rfl rfl rfl ?_
    refine J.y (op_move rfl rfl) rfl rfl rfl ?_
    refine J.y (op_buildStruct (l := [(0, .tmp 47), (1, .tmp 48), (2, .tmp 49)]) (places := [(0, 1), (1, 1), (2, 1)]) (r := [Str (Wo.opn seed), Str (Xm.root seed h), I h]) rfl rfl rfl Tryd.underlying32 Tryd.zeroValue32 (fun _ => by kernel_rfl) rfl) rfl rfl rfl ?_
    refine J.y (op_nilCheck rfl rfl) rfl rfl rfl ?_
    refine J.y (op_fieldAddr (j := 1) rfl rfl Tryd.underlying186 rfl Tryd.sizeOf32 rfl) rfl rfl rfl ?_
    refine J.s (op_store (i := 1) (vs := [Str (Wo.opn seed), Str (Xm.root seed h), I h]) rfl rfl rfl rfl rfl Tryd.sizeOf32 rfl (by simp [keyCells])) rfl rfl (fun _ _ => ?_)
    change J _ _ _ [F, blk g18 (keyCells seed (Wo.opn seed) (Xm.root seed h) h A6 (2 ^ h) c6) 186, m] _
    refine J.nil ?_
    refine J.then_n (J.k hK12 ?_)
    refine J.keepE [(6, _)] ⟨rfl, trivial⟩ ?_
    refine J.seq (fun K13 hK13 => ?_)
    refine J.perm [1, 2, 0] [blk g18 (keyCells seed (Wo.opn seed) (Xm.root seed h) h A6 (2 ^ h) c6) 186, m, F] rfl (by decide) ?_
    refine J.region ?_
    refine J.y (op_move rfl rfl) rfl rfl rfl ?_
    refine J.y (op_assign rfl rfl) rfl rfl rfl ?_
    refine J.y (op_assign rfl rfl) rfl rfl rfl ?_
    refine J.nil ?_
    refine J.then_n (J.k hK13 ?_)
    refine J.keepE [(4, _), (5, _)] ⟨rfl, rfl, trivial⟩ ?_
    refine J.ret ?_
    exact J.done hw0 (fun _ _ h => h) (res2 rfl rfl rfl) (retOkU (g18, U [blk g18 (keyCells seed (Wo.opn seed) (Xm.root seed h) h A6 (2 ^ h) c6) 186, m]) rfl (fun hd => ⟨A6, c6, m, rfl, hd, hrow⟩) [0, 1, 2] rfl rfl (by decide))

theorem xcount_ct (F : Hp) (g : Nat) (seed o r : List UInt8) (h : Int) (A : Option Addr) (n c : Nat) (hc : Cells F ⟨g, 0, none⟩ (keyCells seed o r h A n c)) :
    Ct Tryd.prog 87 [Ptr g] [F] (fun _ : Unit => I n) (fun _ => True) (fun _ => [F]) := by
  refine Ct.walk Tryd.func87 rfl Tryd.ntmps87 rfl (fun w0 hw0 => ?_)
  change J _ [(0, _)] _ _ _
  refine J.seq (fun K1 hK1 => ?_)
  refine J.region ?_
  refine J.y (op_assign rfl rfl) rfl rfl rfl ?_
  refine J.nil ?_
  refine J.then_n (J.k hK1 ?_)
  refine J.keepE [(0, _)] ⟨rfl, trivial⟩ ?_
  refine J.seq (fun K2 hK2 => ?_)
  refine J.seq (fun K3 hK3 => ?_)
  refine J.region ?_
  refine J.y (op_move rfl rfl) rfl rfl rfl ?_
  refine J.y ((op_peq Tryd.underlying135 rfl rfl rfl).as (v' := .bool false) rfl) rfl rfl rfl ?_
  refine J.nil ?_
  refine J.then_n (J.k hK3 ?_)
  refine J.keepE [(0, _), (4, _)] ⟨rfl, rfl, trivial⟩ ?_
  refine J.condF rfl rfl ?_
  refine J.skip ?_
  refine J.then_n (J.k hK2 ?_)
  refine J.keepE [(0, _)] ⟨rfl, trivial⟩ ?_
  refine J.seq (fun K4 hK4 => ?_)
  refine J.region ?_
  refine J.y (op_move rfl rfl) rfl rfl rfl ?_
  refine J.y (op_nilCheck rfl rfl) rfl rfl rfl ?_
  refine J.y (op_fieldAddr (j := 4) rfl rfl Tryd.underlying186 rfl Tryd.sizeOf55 rfl) rfl rfl rfl ?_
  refine J.y (op_load rfl rfl Tryd.isAgg55 (m := F) (by simp) (hc.at (i := 4) rfl)) rfl rfl rfl ?_
  refine J.y (op_len Tryd.underlying55 rfl rfl) rfl rfl rfl ?_
  refine J.y (op_assign rfl rfl) rfl rfl rfl ?_
  refine J.nil ?_
  refine J.then_n (J.k hK4 ?_)
  refine J.keepE [(2, _)] ⟨rfl, trivial⟩ ?_
  refine J.ret ?_
  exact J.done hw0 (fun _ _ h => h) (res1 rfl rfl) (retOk () rfl trivial [0] rfl (by decide))

theorem xpublic_ct (F : Hp) (g : Nat) (seed o r : List UInt8) (h : Int) (A : Option Addr) (n c : Nat) (hc : Cells F ⟨g, 0, none⟩ (keyCells seed o r h A n c)) :
    Ct Tryd.prog 90 [Ptr g] [F] (fun _ : Unit => .agg #[Str o, Str r, I h]) (fun _ => True) (fun _ => [F]) := by
  refine Ct.walk Tryd.func90 rfl Tryd.ntmps90 rfl (fun w0 hw0 => ?_)
  change J _ [(0, _)] _ _ _
  refine J.seq (fun K1 hK1 => ?_)
  refine J.region ?_
  refine J.e (op_alloc rfl Tryd.zeroValue32 rfl) rfl rfl rfl ?_
  intro g2 _
  change J _ _ _ [F, blk g2 _ 32] _
  refine J.nil ?_
  refine J.then_n (J.k hK1 ?_)
  refine J.keepE [(0, _), (2, _)] ⟨rfl, rfl, trivial⟩ ?_
  refine J.seq (fun K2 hK2 => ?_)
  refine J.seq (fun K3 hK3 => ?_)
  refine J.region ?_
  refine J.y (op_move rfl rfl) rfl rfl rfl ?_
  refine J.y ((op_peq Tryd.underlying135 rfl rfl rfl).as (v' := .bool false) rfl) rfl rfl rfl ?_
  refine J.nil ?_
  refine J.then_n (J.k hK3 ?_)
  refine J.keepE [(0, _), (2, _), (4, _)] ⟨rfl, rfl, rfl, trivial⟩ ?_
  refine J.condF rfl rfl ?_
  refine J.skip ?_
  refine J.then_n (J.k hK2 ?_)
  refine J.keepE [(0, _), (2, _)] ⟨rfl, rfl, trivial⟩ ?_
  refine J.seq (fun K4 hK4 => ?_)
  refine J.region ?_
  refine J.y (op_move rfl rfl) rfl rfl rfl ?_
  refine J.y (op_nilCheck rfl rfl) rfl rfl rfl ?_
  refine J.y (op_fieldAddr (j := 1) rfl rfl Tryd.underlying186 rfl Tryd.sizeOf32 rfl) rfl rfl rfl ?_
  refine J.y (op_loadA rfl rfl Tryd.isAgg32 Tryd.sizeOf32 (m := F) (by simp) (vs := [Str o, Str r, I h]) (hc.sub 1 3) rfl) rfl rfl rfl ?_
  refine J.s (op_storeAll (l := [Str [], Str [], I 0]) (i := 1) (vs := [Str o, Str r, I h]) rfl rfl rfl rfl rfl Tryd.sizeOf32 rfl rfl) rfl rfl (fun _ _ => ?_)
  change J _ _ _ [F, blk g2 [Str o, Str r, I h] 32] _
  refine J.nil ?_
  refine J.then_n (J.k hK4 ?_)
  refine J.keepE [(2, _)] ⟨rfl, trivial⟩ ?_
  refine J.ret ?_
  exact J.done hw0 (fun _ _ h => h) (rv1 rfl (RV.blkA 1 rfl rfl Tryd.isAgg32 Tryd.sizeOf32)) (retOk () rfl trivial [0] rfl (by decide))

theorem xdigest_ct (F : Hp) (hK : Cells F ⟨1, 0, none⟩ (Sha.K.map W32)) (o : List UInt8) (i : Nat) (mg : List UInt8) (ho : o.length ≤ 1048576) (hi : i < 4611686018427387904) (hm : mg.length ≤ 1048576) :
    Ct Tryd.prog 93 [Str o, I i, Str mg] [F] (fun _ : Unit => Str (Xm.digest o i mg)) (fun _ => True) (fun _ => [F]) := by
  refine Ct.walk Tryd.func93 rfl Tryd.ntmps93 rfl (fun w0 hw0 => ?_)
  change J _ [(0, _), (1, _), (2, _)] _ _ _
  refine J.seq (fun K1 hK1 => ?_)
  refine J.region ?_
  refine J.y (op_assign rfl rfl) rfl rfl rfl ?_
  refine J.nil ?_
  refine J.then_n (J.k hK1 ?_)
  refine J.keepE [(0, _), (1, _), (2, _)] ⟨rfl, rfl, rfl, trivial⟩ ?_
  refine J.seq (fun K2 hK2 => ?_)
  refine J.region ?_
  refine J.y (op_move rfl rfl) rfl rfl rfl ?_
  refine J.y ((op_shrI (m := 24) rfl rfl rfl ⟨by decide, by omega⟩).as (v' := I ((i / 2 ^ 24 : Nat) : Int)) (congrArg I (by simp))) rfl rfl rfl ?_
  refine J.y (op_cv_i64_u8 rfl rfl Tryd.underlying3 Tryd.underlying5) rfl rfl rfl ?_
  refine J.y (op_move rfl rfl) rfl rfl rfl ?_
  refine J.y ((op_shrI (m := 16) rfl rfl rfl ⟨by decide, by omega⟩).as (v' := I ((i / 2 ^ 16 : Nat) : Int)) (congrArg I (by simp))) rfl rfl rfl ?_
  refine J.y (op_cv_i64_u8 rfl rfl Tryd.underlying3 Tryd.underlying5) rfl rfl rfl ?_
  refine J.y (op_move rfl rfl) rfl rfl rfl ?_
  refine J.y ((op_shrI (m := 8) rfl rfl rfl ⟨by decide, by omega⟩).as (v' := I ((i / 2 ^ 8 : Nat) : Int)) (congrArg I (by simp))) rfl rfl rfl ?_
  refine J.y (op_cv_i64_u8 rfl rfl Tryd.underlying3 Tryd.underlying5) rfl rfl rfl ?_
  refine J.y (op_move rfl rfl) rfl rfl rfl ?_
  refine J.y (op_cv_i64_u8 rfl rfl Tryd.underlying3 Tryd.underlying5) rfl rfl rfl ?_
  refine J.e (op_buildSlice (l := [.tmp 10, .tmp 13, .tmp 16, .tmp 18]) (xs := [[B8 (UInt8.ofNat (i / 2 ^ 24))], [B8 (UInt8.ofNat (i / 2 ^ 16))], [B8 (UInt8.ofNat (i / 2 ^ 8))], [B8 (UInt8.ofNat i)]]) rfl rfl rfl rfl Tryd.underlying30 el5 rfl (by decide) (by decide) (by simp)) rfl rfl rfl ?_
  intro g19 _
  change J _ _ _ [F, blk g19 [B8 (UInt8.ofNat (i / 2 ^ 24)), B8 (UInt8.ofNat (i / 2 ^ 16)), B8 (UInt8.ofNat (i / 2 ^ 8)), B8 (UInt8.ofNat i)] 5] _
  refine J.y (op_toStr (l := Xm.four i) rfl rfl Tryd.underlying30 Tryd.underlying5 Tryd.underlying9 (m := blk g19 [B8 (UInt8.ofNat (i / 2 ^ 24)), B8 (UInt8.ofNat (i / 2 ^ 16)), B8 (UInt8.ofNat (i / 2 ^ 8)), B8 (UInt8.ofNat i)] 5) (by simp) (slB (Xm.four i) rfl)) rfl rfl rfl ?_
  refine J.y (op_assign rfl rfl) rfl rfl rfl ?_
  refine J.nil ?_
  refine J.then_n (J.k hK2 ?_)
  refine J.keepE [(0, _), (2, _), (7, _)] ⟨rfl, rfl, rfl, trivial⟩ ?_
  refine J.seq (fun K3 hK3 => ?_)
  refine J.region ?_
  refine J.y (op_move rfl rfl) rfl rfl rfl ?_
  refine J.y (op_move rfl rfl) rfl rfl rfl ?_
  refine J.y (op_move rfl rfl) rfl rfl rfl ?_
  refine J.e (op_buildSlice (l := [.tmp 21, .tmp 22, .tmp 23]) (xs := [[Str (o)], [Str (Xm.four i)], [Str (mg)]]) rfl rfl rfl rfl Tryd.underlying55 el9 rfl (by decide) (by decide) (by simp)) rfl rfl rfl ?_
  intro g24 _
  change J _ _ _ [F, blk g19 [B8 (UInt8.ofNat (i / 2 ^ 24)), B8 (UInt8.ofNat (i / 2 ^ 16)), B8 (UInt8.ofNat (i / 2 ^ 8)), B8 (UInt8.ofNat i)] 5, blk g24 [Str (o), Str (Xm.four i), Str (mg)] 9] _
  refine J.e (op_call rfl rfl ent58 (Ct.use0 (fun F' hF => tagged_ct F' (hK.mono (hF _ (by simp))) 6 (some ⟨g24, 0, none⟩) 3 3 [o, Xm.four i, mg] ((slS [o, Xm.four i, mg] rfl).mono (hF (blk g24 (([o, Xm.four i, mg] : List (List UInt8)).map fun s => Str s) 9) (by simp))) (by have := small3 ho (show (Xm.four i).length ≤ 1048576 by rw [Xm.four_length]; decide) hm; omega) (by decide)))) rfl rfl rfl ?_
  intro g25 _
  refine J.y (op_assign rfl rfl) rfl rfl rfl ?_
  refine J.nil ?_
  refine J.then_n (J.k hK3 ?_)
  refine J.keepE [(6, _)] ⟨rfl, trivial⟩ ?_
  refine J.ret ?_
  exact J.done hw0 (fun _ _ h => h) (res1 rfl rfl) (retOk () rfl trivial [0] rfl (by decide))

theorem xsign_ct (F : Hp) (hK : Cells F ⟨1, 0, none⟩ (Sha.K.map W32)) (g : Nat) (seed : List UInt8) (h : Nat) (A : Option Addr) (c : Nat) (hc : Cells F ⟨g, 0, none⟩ (keyCells seed (Wo.opn seed) (Xm.root seed h) h A (2 ^ h) c)) (hsl : Sl F 1 A (2 ^ h) c (strsV (Xm.leaves seed (2 ^ h)))) (hs : seed.length ≤ 1048576) (h6 : h ≤ 6) (mg : List UInt8) (hm : mg.length ≤ 1048576) (i : Nat) (hi : i < 2 ^ h) :
    Ct Tryd.prog 89 [Ptr g, I i, Str mg] [F] (fun x : (Option Addr × Nat × Hp) × (Option Addr × Nat × Hp) => .tuple #[.agg #[I i, .slice x.1.1 35 x.1.2.1, .slice x.2.1 h x.2.2.1], I 0]) (fun x => Row x.1.2.2 9 1 x.1.1 35 x.1.2.1 (strsV (Wo.signs seed i (Wo.digs (Xm.digest (Wo.opn seed) i mg)) 35)) ∧ Row x.2.2.2 9 1 x.2.1 h x.2.2.1 (strsV (Mk.path (Xm.leaves seed (2 ^ h)) i h))) (fun x => [F, x.1.2.2, x.2.2.2]) := by
  have hp64 := Xm.pow_le h h6
  have hdl := Xm.digest_length (Wo.opn seed) i mg
  refine Ct.walk Tryd.func89 rfl Tryd.ntmps89 rfl (fun w0 hw0 => ?_)
  change J _ [(0, _), (1, _), (2, _)] _ _ _
  refine J.seq (fun K1 hK1 => ?_)
  refine J.region ?_
  refine J.e (op_alloc rfl Tryd.zeroValue75 rfl) rfl rfl rfl ?_
  intro g6 _
  change J _ _ _ [F, blk g6 _ 75] _
  refine J.y (op_assign rfl rfl) rfl rfl rfl ?_
  refine J.nil ?_
  refine J.then_n (J.k hK1 ?_)
  refine J.keepE [(0, _), (1, _), (2, _), (6, _)] ⟨rfl, rfl, rfl, rfl, trivial⟩ ?_
  refine J.seq (fun K2 hK2 => ?_)
  refine J.block ?_
  refine J.seq (fun K3 hK3 => ?_)
  refine J.region ?_
  refine J.y (op_move rfl rfl) rfl rfl rfl ?_
  refine J.y ((op_peq Tryd.underlying135 rfl rfl rfl).as (v' := .bool false) rfl) rfl rfl rfl ?_
  refine J.y (op_assign rfl rfl) rfl rfl rfl ?_
  refine J.nil ?_
  refine J.then_n (J.k hK3 ?_)
  refine J.keepE [(0, _), (1, _), (2, _), (6, _), (11, _)] ⟨rfl, rfl, rfl, rfl, rfl, trivial⟩ ?_
  refine J.condF rfl rfl ?_
  refine J.seq (fun K4 hK4 => ?_)
  refine J.region ?_
  refine J.y (op_move rfl rfl) rfl rfl rfl ?_
  refine J.y (op_move rfl rfl) rfl rfl rfl ?_
  refine J.e (op_call rfl rfl ent87 (Ct.use0 (fun F' hF => xcount_ct F' g seed (Wo.opn seed) (Xm.root seed h) h A (2 ^ h) c (hc.mono (hF F (by simp)))))) rfl rfl rfl ?_
  intro g18 _
  refine J.y ((op_geq rfl rfl rfl).as (v' := .bool false) (congrArg Value.bool (decide_eq_false (by omega)))) rfl rfl rfl ?_
  refine J.y (op_assign rfl rfl) rfl rfl rfl ?_
  refine J.nil ?_
  refine J.then_n (J.k hK4 ?_)
  refine J.keepE [(0, _), (1, _), (2, _), (6, _), (15, _)] ⟨rfl, rfl, rfl, rfl, rfl, trivial⟩ ?_
  refine J.condF rfl rfl ?_
  refine J.seq (fun K5 hK5 => ?_)
  refine J.region ?_
  refine J.y (op_move rfl rfl) rfl rfl rfl ?_
  refine J.y ((op_lss rfl rfl rfl).as (v' := .bool false) (congrArg Value.bool (decide_eq_false (by omega)))) rfl rfl rfl ?_
  refine J.y (op_assign rfl rfl) rfl rfl rfl ?_
  refine J.nil ?_
  refine J.then_n (J.k hK5 ?_)
  refine J.keepE [(0, _), (1, _), (2, _), (6, _), (21, _)] ⟨rfl, rfl, rfl, rfl, rfl, trivial⟩ ?_
  refine J.condF rfl rfl ?_
  refine J.skip ?_
  refine J.blk_n ?_
  refine J.then_n (J.k hK2 ?_)
  refine J.keepE [(0, _), (1, _), (2, _), (6, _)] ⟨rfl, rfl, rfl, rfl, trivial⟩ ?_
  refine J.seq (fun K6 hK6 => ?_)
  refine J.draw [F] [] (.y 0 (.y 1 (.y 2 (.y 3 (.y 4 (.y 5 (.y 6 (.y 7 (.y 8 (.y 9 (.y 10 (.y 11 (.e 12 (.e 13 (.y 14 (.y 15 (.y 16 (.y 17 (.y 18 .nil))))))))))))))))))) Tryd.wide (by decide +kernel) (by simp) ?_
  refine J.dy rfl (op_move rfl rfl) rfl rfl rfl rfl ?_
  refine J.dy rfl (op_nilCheck rfl rfl) rfl rfl rfl rfl ?_
  refine J.dy rfl (op_fieldAddr (j := 0) rfl rfl Tryd.underlying186 rfl Tryd.sizeOf9 rfl) rfl rfl rfl rfl ?_
  refine J.dy rfl (op_load rfl rfl Tryd.isAgg9 (m := F) (by simp) (hc.at (i := 0) rfl)) rfl rfl rfl rfl ?_
  refine J.dy rfl (op_move rfl rfl) rfl rfl rfl rfl ?_
  refine J.dy rfl (op_move rfl rfl) rfl rfl rfl rfl ?_
  refine J.dy rfl (op_nilCheck rfl rfl) rfl rfl rfl rfl ?_
  refine J.dy rfl (op_fieldAddr (j := 1) rfl rfl Tryd.underlying186 rfl Tryd.sizeOf32 rfl) rfl rfl rfl rfl ?_
  refine J.dy rfl (op_fieldAddr (j := 1) rfl rfl Tryd.underlying32 rfl Tryd.sizeOf9 rfl) rfl rfl rfl rfl ?_
  refine J.dy rfl (op_load rfl rfl Tryd.isAgg9 (m := F) (by simp) (hc.at (i := 1) rfl)) rfl rfl rfl rfl ?_
  refine J.dy rfl (op_move rfl rfl) rfl rfl rfl rfl ?_
  refine J.dy rfl (op_move rfl rfl) rfl rfl rfl rfl ?_
  refine J.de rfl (op_call rfl rfl ent93 (Ct.use0 (fun F' hF => xdigest_ct F' (hK.mono (hF _ (by simp))) (Wo.opn seed) i mg (by rw [Wo.opn_length]; decide) (by omega) hm))) rfl rfl rfl (by simp) ?_
  intro g38 _
  refine J.de rfl (op_call rfl rfl ent132 (Ct.use (fun F' hF => sign_ct F' (hK.mono (hF _ (by simp))) seed i (Xm.digest (Wo.opn seed) i mg) hs (by omega) hdl))) rfl rfl rfl (by simp) ?_
  rintro ⟨A39, c39, m39⟩ h39
  try dsimp only at h39
  change J _ ((39, .tuple #[.slice A39 35 c39, I 0]) :: _) _ [F, blk g6 _ 75, m39] _
  refine J.dy rfl (op_move rfl rfl) rfl rfl rfl rfl ?_
  refine J.dy rfl (op_extract (v := .slice A39 35 c39) rfl rfl rfl) rfl rfl rfl rfl ?_
  refine J.dy rfl (op_extract (v := I 0) rfl rfl rfl) rfl rfl rfl rfl ?_
  refine J.dy rfl (op_assign rfl rfl) rfl rfl rfl rfl ?_
  refine J.dy rfl (op_assign rfl rfl) rfl rfl rfl rfl ?_
  refine J.dnil ?_
  refine J.then_n (J.k hK6 ?_)
  refine J.keepE [(0, _), (1, _), (6, _), (8, _), (9, _)] ⟨rfl, rfl, rfl, rfl, rfl, trivial⟩ ?_
  refine J.seq (fun K7 hK7 => ?_)
  refine J.seq (fun K8 hK8 => ?_)
  refine J.region ?_
  refine J.y (op_move rfl rfl) rfl rfl rfl ?_
  refine J.y ((op_neq rfl rfl rfl).as (v' := .bool false) (congrArg Value.bool (decide_eq_false (by decide)))) rfl rfl rfl ?_
  refine J.nil ?_
  refine J.then_n (J.k hK8 ?_)
  refine J.keepE [(0, _), (1, _), (6, _), (8, _), (9, _), (43, _)] ⟨rfl, rfl, rfl, rfl, rfl, rfl, trivial⟩ ?_
  refine J.condF rfl rfl ?_
  refine J.skip ?_
  refine J.then_n (J.k hK7 ?_)
  refine J.keepE [(0, _), (1, _), (6, _), (8, _)] ⟨rfl, rfl, rfl, rfl, trivial⟩ ?_
  refine J.seq (fun K9 hK9 => ?_)
  refine J.region ?_
  refine J.y (op_move rfl rfl) rfl rfl rfl ?_
  refine J.y (op_nilCheck rfl rfl) rfl rfl rfl ?_
  refine J.y (op_fieldAddr (j := 4) rfl rfl Tryd.underlying186 rfl Tryd.sizeOf55 rfl) rfl rfl rfl ?_
  refine J.y (op_load rfl rfl Tryd.isAgg55 (m := F) (by simp) (hc.at (i := 4) rfl)) rfl rfl rfl ?_
  refine J.y (op_move rfl rfl) rfl rfl rfl ?_
  refine J.e (op_call rfl rfl ent133 (Ct.use (fun F' hF => path_ct F' (hK.mono (hF _ (by simp))) A (2 ^ h) c (Xm.leaves seed (2 ^ h)) (hsl.mono (hF F (by simp))) h h6 rfl (Xm.leaves_small _ _) i hi))) rfl rfl rfl ?_
  rintro ⟨A52, c52, m52⟩ h52
  try dsimp only at h52
  change J _ ((52, .tuple #[.slice A52 h c52, I 0]) :: _) _ [F, blk g6 _ 75, m39, m52] _
  refine J.y (op_move rfl rfl) rfl rfl rfl ?_
  refine J.y (op_extract (v := .slice A52 h c52) rfl rfl rfl) rfl rfl rfl ?_
  refine J.y (op_extract (v := I 0) rfl rfl rfl) rfl rfl rfl ?_
  refine J.y (op_assign rfl rfl) rfl rfl rfl ?_
  refine J.y (op_assign rfl rfl) rfl rfl rfl ?_
  refine J.nil ?_
  refine J.then_n (J.k hK9 ?_)
  refine J.keepE [(1, _), (6, _), (8, _), (9, _), (10, _)] ⟨rfl, rfl, rfl, rfl, rfl, trivial⟩ ?_
  refine J.seq (fun K10 hK10 => ?_)
  refine J.region ?_
  refine J.y (op_move rfl rfl) rfl rfl rfl ?_
  refine J.y (op_move rfl rfl) rfl rfl rfl ?_
  refine J.y (op_move rfl rfl) rfl rfl rfl ?_
  refine J.y (op_buildStruct (l := [(0, .tmp 55), (1, .tmp 56), (2, .tmp 57)]) (places := [(0, 1), (1, 1), (2, 1)]) (r := [I i, .slice A39 35 c39, .slice A52 h c52]) rfl rfl rfl Tryd.underlying75 Tryd.zeroValue75 (fun _ => by kernel_rfl) rfl) rfl rfl rfl ?_
  refine J.y (op_move rfl rfl) rfl rfl rfl ?_
  refine J.s (op_storeAll (l := [I 0, .slice none 0 0, .slice none 0 0]) (i := 1) (vs := [I i, .slice A39 35 c39, .slice A52 h c52]) rfl rfl rfl rfl rfl Tryd.sizeOf75 rfl rfl) rfl rfl (fun _ _ => ?_)
  change J _ _ _ [F, blk g6 [I i, .slice A39 35 c39, .slice A52 h c52] 75, m39, m52] _
  refine J.y (op_assign rfl rfl) rfl rfl rfl ?_
  refine J.nil ?_
  refine J.then_n (J.k hK10 ?_)
  refine J.keepE [(6, _), (7, _)] ⟨rfl, rfl, trivial⟩ ?_
  refine J.ret ?_
  exact J.done hw0 (fun _ _ h => h) (rv2 rfl (RV.blkA 1 rfl rfl Tryd.isAgg75 Tryd.sizeOf75) rfl) (retOk ((A39, c39, m39), (A52, c52, m52)) rfl ⟨h39, h52⟩ [0, 2, 3] rfl (by decide))

theorem Wo.publicOf_length (o : List UInt8) (leaf : Nat) (e : List (List UInt8)) : (Wo.publicOf o leaf e).length = 16 := by unfold Wo.publicOf; exact Sha.tagged_length _ _

theorem xverify_ct (F : Hp) (hK : Cells F ⟨1, 0, none⟩ (Sha.K.map W32)) (o r : List UInt8) (h : Nat) (mg : List UInt8) (i : Nat) (A1 : Option Addr) (c1 : Nat) (ch : List (List UInt8)) (hch : Sl F 1 A1 35 c1 (strsV ch)) (hsg : ∀ s ∈ ch, s.length = 16) (A2 : Option Addr) (c2 : Nat) (pt : List (List UInt8)) (hpt : Sl F 1 A2 h c2 (strsV pt)) (hps : ∀ s ∈ pt, s.length ≤ 1048576)
    (ho : o.length ≤ 1048576) (hm : mg.length ≤ 1048576) (h6 : h ≤ 6) (hi : i < 2 ^ h) :
    Ct Tryd.prog 40 [.agg #[Str o, Str r, I h], Str mg, .agg #[I i, .slice A1 35 c1, .slice A2 h c2]] [F] (fun _ : Unit => .bool (decide (Mk.climb (Wo.publicOf o i (Wo.ends o i (Wo.digs (Xm.digest o i mg)) ch 35)) i pt = r))) (fun _ => True) (fun _ => [F]) := by
  have hp64 := Xm.pow_le h h6
  have hdl := Xm.digest_length o i mg
  refine Ct.walk Tryd.func40 rfl Tryd.ntmps40 rfl (fun w0 hw0 => ?_)
  change J _ [(0, _), (1, _), (2, _)] _ _ _
  refine J.seq (fun K1 hK1 => ?_)
  refine J.region ?_
  refine J.e (op_box rfl rfl (l := [Str o, Str r, I h]) rfl) rfl rfl rfl ?_
  intro g3 _
  change J _ _ _ [F, blk g3 [Str o, Str r, I h] 32] _
  refine J.e (op_box rfl rfl (l := [I i, .slice A1 35 c1, .slice A2 h c2]) rfl) rfl rfl rfl ?_
  intro g5 _
  change J _ _ _ [F, blk g3 [Str o, Str r, I h] 32, blk g5 [I i, .slice A1 35 c1, .slice A2 h c2] 75] _
  refine J.y (op_assign rfl rfl) rfl rfl rfl ?_
  refine J.nil ?_
  refine J.then_n (J.k hK1 ?_)
  refine J.keepE [(1, _), (3, _), (5, _)] ⟨rfl, rfl, rfl, trivial⟩ ?_
  refine J.seq (fun K2 hK2 => ?_)
  refine J.seq (fun K3 hK3 => ?_)
  refine J.draw [F, blk g3 [Str o, Str r, I h] 32, blk g5 [I i, .slice A1 35 c1, .slice A2 h c2] 75] [] (.y 0 (.y 1 (.y 2 (.y 3 (.y 4 (.y 5 (.y 6 (.y 7 (.y 8 (.y 9 (.y 10 (.y 11 (.y 12 (.y 13 (.y 14 (.y 15 (.y 16 (.y 17 (.y 18 (.y 19 (.y 20 (.y 21 (.y 22 (.y 23 (.y 24 (.y 25 (.y 26 (.y 27 (.y 28 .nil))))))))))))))))))))))))))))) Tryd.wide (by decide +kernel) (by simp) ?_
  refine J.dy rfl (op_fieldAddr (j := 2) rfl rfl Tryd.underlying32 rfl Tryd.sizeOf3 rfl) rfl rfl rfl rfl ?_
  refine J.dy rfl (op_loadB 1 rfl rfl rfl Tryd.isAgg3 rfl) rfl rfl rfl rfl ?_
  refine J.dy rfl ((op_lss rfl rfl rfl).as (v' := .bool false) (congrArg Value.bool (decide_eq_false (by omega)))) rfl rfl rfl rfl ?_
  refine J.dy rfl (op_move rfl rfl) rfl rfl rfl rfl ?_
  refine J.dyg rfl (op_fieldAddr (j := 2) rfl rfl Tryd.underlying32 rfl Tryd.sizeOf3 rfl) (Wan.is rfl rfl rfl rfl rfl) rfl rfl rfl ?_
  refine J.dyg rfl (op_loadB 1 rfl rfl rfl Tryd.isAgg3 rfl) (Wan.is rfl rfl rfl rfl rfl) rfl rfl rfl ?_
  refine J.dyg rfl ((op_gtr rfl rfl rfl).as (v' := .bool false) (congrArg Value.bool (decide_eq_false (by omega)))) (Wan.is rfl rfl rfl rfl rfl) rfl rfl rfl ?_
  refine J.dy rfl (op_pickF rfl rfl rfl) rfl rfl rfl rfl ?_
  refine J.dy rfl (op_move rfl rfl) rfl rfl rfl rfl ?_
  refine J.dyg rfl (op_fieldAddr (j := 0) rfl rfl Tryd.underlying75 rfl Tryd.sizeOf3 rfl) (Wan.is rfl rfl rfl rfl rfl) rfl rfl rfl ?_
  refine J.dyg rfl (op_loadB 2 rfl rfl rfl Tryd.isAgg3 rfl) (Wan.is rfl rfl rfl rfl rfl) rfl rfl rfl ?_
  refine J.dyg rfl ((op_lss rfl rfl rfl).as (v' := .bool false) (congrArg Value.bool (decide_eq_false (by omega)))) (Wan.is rfl rfl rfl rfl rfl) rfl rfl rfl ?_
  refine J.dy rfl (op_pickF rfl rfl rfl) rfl rfl rfl rfl ?_
  refine J.dy rfl (op_move rfl rfl) rfl rfl rfl rfl ?_
  refine J.dyg rfl (op_fieldAddr (j := 0) rfl rfl Tryd.underlying75 rfl Tryd.sizeOf3 rfl) (Wan.is rfl rfl rfl rfl rfl) rfl rfl rfl ?_
  refine J.dyg rfl (op_loadB 2 rfl rfl rfl Tryd.isAgg3 rfl) (Wan.is rfl rfl rfl rfl rfl) rfl rfl rfl ?_
  refine J.dyg rfl (op_fieldAddr (j := 2) rfl rfl Tryd.underlying32 rfl Tryd.sizeOf3 rfl) (Wan.is rfl rfl rfl rfl rfl) rfl rfl rfl ?_
  refine J.dyg rfl (op_loadB 1 rfl rfl rfl Tryd.isAgg3 rfl) (Wan.is rfl rfl rfl rfl rfl) rfl rfl rfl ?_
  refine J.dyg rfl ((op_shlI (a := 1) (m := h) rfl rfl rfl ⟨by omega, by have := Int.pow_pos (n := 2) (m := h) (by decide); omega, by rw [Int.one_mul]; exact Int.ofNat_le.2 (show 2 ^ h ≤ 9223372036854775807 by omega)⟩).as (v' := I ((2 ^ h : Nat) : Int)) (congrArg I (by simp))) (Wan.is rfl rfl rfl rfl rfl) rfl rfl rfl ?_
  refine J.dyg rfl ((op_geq rfl rfl rfl).as (v' := .bool false) (congrArg Value.bool (decide_eq_false (by omega)))) (Wan.is rfl rfl rfl rfl rfl) rfl rfl rfl ?_
  refine J.dy rfl (op_pickF rfl rfl rfl) rfl rfl rfl rfl ?_
  refine J.dy rfl (op_move rfl rfl) rfl rfl rfl rfl ?_
  refine J.dyg rfl (op_fieldAddr (j := 2) rfl rfl Tryd.underlying75 rfl Tryd.sizeOf55 rfl) (Wan.is rfl rfl rfl rfl rfl) rfl rfl rfl ?_
  refine J.dyg rfl (op_loadB 2 rfl rfl rfl Tryd.isAgg55 rfl) (Wan.is rfl rfl rfl rfl rfl) rfl rfl rfl ?_
  refine J.dyg rfl (op_len Tryd.underlying55 rfl rfl) (Wan.is rfl rfl rfl rfl rfl) rfl rfl rfl ?_
  refine J.dyg rfl (op_fieldAddr (j := 2) rfl rfl Tryd.underlying32 rfl Tryd.sizeOf3 rfl) (Wan.is rfl rfl rfl rfl rfl) rfl rfl rfl ?_
  refine J.dyg rfl (op_loadB 1 rfl rfl rfl Tryd.isAgg3 rfl) (Wan.is rfl rfl rfl rfl rfl) rfl rfl rfl ?_
  refine J.dyg rfl ((op_neq rfl rfl rfl).as (v' := .bool false) (congrArg Value.bool (decide_eq_false (fun h => h rfl)))) (Wan.is rfl rfl rfl rfl rfl) rfl rfl rfl ?_
  refine J.dy rfl (op_pickF rfl rfl rfl) rfl rfl rfl rfl ?_
  refine J.dnil ?_
  refine J.then_n (J.k hK3 ?_)
  refine J.keepE [(1, _), (3, _), (5, _), (37, _)] ⟨rfl, rfl, rfl, rfl, trivial⟩ ?_
  refine J.condF rfl rfl ?_
  refine J.skip ?_
  refine J.then_n (J.k hK2 ?_)
  refine J.keepE [(1, _), (3, _), (5, _)] ⟨rfl, rfl, rfl, trivial⟩ ?_
  refine J.seq (fun K4 hK4 => ?_)
  refine J.draw [F, blk g3 [Str o, Str r, I h] 32, blk g5 [I i, .slice A1 35 c1, .slice A2 h c2] 75] [] (.y 0 (.y 1 (.y 2 (.y 3 (.y 4 (.y 5 (.y 6 (.y 7 (.y 8 (.y 10 (.y 11 (.e 9 (.e 12 (.y 13 (.y 14 (.y 15 (.y 16 (.y 17 .nil)))))))))))))))))) Tryd.wide (by decide +kernel) (by simp) ?_
  refine J.dy rfl (op_fieldAddr (j := 0) rfl rfl Tryd.underlying32 rfl Tryd.sizeOf9 rfl) rfl rfl rfl rfl ?_
  refine J.dy rfl (op_loadB 1 rfl rfl rfl Tryd.isAgg9 rfl) rfl rfl rfl rfl ?_
  refine J.dy rfl (op_fieldAddr (j := 0) rfl rfl Tryd.underlying75 rfl Tryd.sizeOf3 rfl) rfl rfl rfl rfl ?_
  refine J.dy rfl (op_loadB 2 rfl rfl rfl Tryd.isAgg3 rfl) rfl rfl rfl rfl ?_
  refine J.dy rfl (op_fieldAddr (j := 0) rfl rfl Tryd.underlying32 rfl Tryd.sizeOf9 rfl) rfl rfl rfl rfl ?_
  refine J.dy rfl (op_loadB 1 rfl rfl rfl Tryd.isAgg9 rfl) rfl rfl rfl rfl ?_
  refine J.dy rfl (op_fieldAddr (j := 0) rfl rfl Tryd.underlying75 rfl Tryd.sizeOf3 rfl) rfl rfl rfl rfl ?_
  refine J.dy rfl (op_loadB 2 rfl rfl rfl Tryd.isAgg3 rfl) rfl rfl rfl rfl ?_
  refine J.dy rfl (op_move rfl rfl) rfl rfl rfl rfl ?_
  refine J.dy rfl (op_fieldAddr (j := 1) rfl rfl Tryd.underlying75 rfl Tryd.sizeOf55 rfl) rfl rfl rfl rfl ?_
  refine J.dy rfl (op_loadB 2 rfl rfl rfl Tryd.isAgg55 rfl) rfl rfl rfl rfl ?_
  refine J.de rfl (op_call rfl rfl ent93 (Ct.use0 (fun F' hF => xdigest_ct F' (hK.mono (hF _ (by simp))) o i mg ho (by omega) hm))) rfl rfl rfl (by simp) ?_
  intro g48 _
  refine J.de rfl (op_call rfl rfl ent92 (Ct.use0 (fun F' hF => recover_ct F' (hK.mono (hF _ (by simp))) o i (Xm.digest o i mg) A1 c1 ch (hch.mono (hF F (by simp))) ho (by omega) hdl hsg))) rfl rfl rfl (by simp) ?_
  intro g51 _
  refine J.dy rfl (op_move rfl rfl) rfl rfl rfl rfl ?_
  refine J.dy rfl (op_extract (v := Str (Wo.publicOf o i (Wo.ends o i (Wo.digs (Xm.digest o i mg)) ch 35))) rfl rfl rfl) rfl rfl rfl rfl ?_
  refine J.dy rfl (op_extract (v := I 0) rfl rfl rfl) rfl rfl rfl rfl ?_
  refine J.dy rfl (op_assign rfl rfl) rfl rfl rfl rfl ?_
  refine J.dy rfl (op_assign rfl rfl) rfl rfl rfl rfl ?_
  refine J.dnil ?_
  refine J.then_n (J.k hK4 ?_)
  refine J.keepE [(3, _), (5, _), (7, _), (8, _)] ⟨rfl, rfl, rfl, rfl, trivial⟩ ?_
  refine J.seq (fun K5 hK5 => ?_)
  refine J.draw [F, blk g3 [Str o, Str r, I h] 32, blk g5 [I i, .slice A1 35 c1, .slice A2 h c2] 75] [] (.y 0 (.y 1 (.y 2 (.y 3 (.y 4 (.y 5 (.y 6 (.y 7 (.y 9 (.y 10 (.e 8 (.y 11 (.y 12 (.y 13 .nil)))))))))))))) Tryd.wide (by decide +kernel) (by simp) ?_
  refine J.dy rfl (op_move rfl rfl) rfl rfl rfl rfl ?_
  refine J.dy rfl ((op_eql rfl rfl rfl).as (v' := .bool true) (congrArg Value.bool (decide_eq_true (by decide)))) rfl rfl rfl rfl ?_
  refine J.dy rfl (op_move rfl rfl) rfl rfl rfl rfl ?_
  refine J.dyg rfl (op_move rfl rfl) (Wan.is rfl rfl rfl rfl rfl) rfl rfl rfl ?_
  refine J.dyg rfl (op_fieldAddr (j := 0) rfl rfl Tryd.underlying75 rfl Tryd.sizeOf3 rfl) (Wan.is rfl rfl rfl rfl rfl) rfl rfl rfl ?_
  refine J.dyg rfl (op_loadB 2 rfl rfl rfl Tryd.isAgg3 rfl) (Wan.is rfl rfl rfl rfl rfl) rfl rfl rfl ?_
  refine J.dyg rfl (op_fieldAddr (j := 2) rfl rfl Tryd.underlying75 rfl Tryd.sizeOf55 rfl) (Wan.is rfl rfl rfl rfl rfl) rfl rfl rfl ?_
  refine J.dyg rfl (op_loadB 2 rfl rfl rfl Tryd.isAgg55 rfl) (Wan.is rfl rfl rfl rfl rfl) rfl rfl rfl ?_
  refine J.dyg rfl (op_fieldAddr (j := 1) rfl rfl Tryd.underlying32 rfl Tryd.sizeOf9 rfl) (Wan.is rfl rfl rfl rfl rfl) rfl rfl rfl ?_
  refine J.dyg rfl (op_loadB 1 rfl rfl rfl Tryd.isAgg9 rfl) (Wan.is rfl rfl rfl rfl rfl) rfl rfl rfl ?_
  refine J.deg rfl (op_call rfl rfl ent94 (Ct.use0 (fun F' hF => climb_ct F' (hK.mono (hF _ (by simp))) (Wo.publicOf o i (Wo.ends o i (Wo.digs (Xm.digest o i mg)) ch 35)) i A2 h c2 pt (hpt.mono (hF F (by simp))) (by rw [Wo.publicOf_length]; decide) hps (by omega) (by omega)))) (Wan.is rfl rfl rfl rfl rfl) rfl rfl (by simp) ?_
  intro g62 _
  refine J.dyg rfl (op_seq rfl rfl rfl) (Wan.is rfl rfl rfl rfl rfl) rfl rfl rfl ?_
  refine J.dy rfl (op_pickT rfl rfl rfl) rfl rfl rfl rfl ?_
  refine J.dy rfl (op_assign rfl rfl) rfl rfl rfl rfl ?_
  refine J.dnil ?_
  refine J.then_n (J.k hK5 ?_)
  refine J.keepE [(6, _)] ⟨rfl, trivial⟩ ?_
  refine J.ret ?_
  exact J.done hw0 (fun _ _ h => h) (res1 rfl rfl) (retOk () rfl trivial [0] rfl (by decide))

end Go.Proofs.YtnkfapecbmmpeaaDoor

namespace Go.Proofs.YtnkfapecbmmpeaaDoor
open Go Go.Fw
set_option maxRecDepth 100000
set_option maxHeartbeats 1000000

theorem Mk.lvl_16 (l : List (List UInt8)) (hs : ∀ s ∈ l, s.length = 16) : ∀ j, ∀ s ∈ Mk.lvl l j, s.length = 16
  | 0, s, h => hs s h
  | j + 1, s, h => by
    simp only [Mk.lvl, Mk.above, List.mem_map] at h
    obtain ⟨k, _, rfl⟩ := h
    exact Mk.node_length _ _
theorem Mk.path_16 (l : List (List UInt8)) (i h : Nat) (hs : ∀ s ∈ l, s.length = 16) (hl : l.length = 2 ^ h) (hi : i < 2 ^ h) : ∀ s ∈ Mk.path l i h, s.length = 16 := fun s hp => by
  unfold Mk.path at hp
  simp only [List.mem_map, List.mem_range] at hp
  obtain ⟨j, hj, rfl⟩ := hp
  refine Mk.lvl_16 l hs j _ (Mk.getS_mem ?_)
  rw [Mk.lvl_length l h hl j (by omega), show h - j = (h - 1 - j) + 1 by omega, Nat.pow_succ, Nat.mul_comm]
  refine Mk.xor_one _ _ ?_
  rw [Nat.div_lt_iff_lt_mul (Nat.two_pow_pos j), Nat.mul_assoc, ← Nat.pow_add, Nat.mul_comm, ← Nat.pow_succ, show (h - 1 - j + j).succ = h by omega]
  exact hi
theorem Xm.leaves_16 (seed : List UInt8) (k : Nat) : ∀ s ∈ Xm.leaves seed k, s.length = 16 := fun s hs => by
  simp only [Xm.leaves, List.mem_map] at hs
  obtain ⟨i, _, rfl⟩ := hs
  exact Xm.pub_length _ _
theorem Wo.signs_len (seed : List UInt8) (i : Nat) (d : List Nat) : (Wo.signs seed i d 35).length = 35 := by simp [Wo.signs]

/-- a key in memory, to be read -/
def KeyA (m : Hp) (g : Nat) (seed : List UInt8) (h : Nat) : Prop := ∃ A c, Cells m ⟨g, 0, none⟩ (keyCells seed (Wo.opn seed) (Xm.root seed h) h A (2 ^ h) c) ∧ Sl m 1 A (2 ^ h) c (strsV (Xm.leaves seed (2 ^ h)))
theorem KeyA.mono {m m' : Hp} {g : Nat} {seed : List UInt8} {h : Nat} (hk : KeyA m g seed h) (hl : Le m m') : KeyA m' g seed h := by
  obtain ⟨A, c, h1, h2⟩ := hk
  exact ⟨A, c, h1.mono hl, h2.mono hl⟩
/-- an honest signature: its chains, its path -/
def sgC (seed : List UInt8) (i : Nat) (mg : List UInt8) : List (List UInt8) := Wo.signs seed i (Wo.digs (Xm.digest (Wo.opn seed) i mg)) 35
def sgP (seed : List UInt8) (h i : Nat) : List (List UInt8) := Mk.path (Xm.leaves seed (2 ^ h)) i h
theorem sgC_len (seed : List UInt8) (i : Nat) (mg : List UInt8) : (sgC seed i mg).length = 35 := Wo.signs_len _ _ _
theorem sgC_16 (seed : List UInt8) (i : Nat) (mg : List UInt8) : ∀ s ∈ sgC seed i mg, s.length = 16 := Wo.signs_16 _ _ _ _
theorem sgP_len (seed : List UInt8) (h i : Nat) : (sgP seed h i).length = h := Mk.path_length _ _ _
theorem sgP_16 (seed : List UInt8) {h i : Nat} (hi : i < 2 ^ h) : ∀ s ∈ sgP seed h i, s.length = 16 := Mk.path_16 _ _ _ (Xm.leaves_16 _ _) (Xm.leaves_length _ _) hi
theorem xnewK_ct (F : Hp) (hK : Cells F ⟨1, 0, none⟩ (Sha.K.map W32)) (seed : List UInt8) (h : Nat) (hs : seed.length ≤ 1048576) (h6 : h ≤ 6) :
    Ct Tryd.prog 82 [Str seed, I ((h : Nat) : Int)] [F] (fun x : Nat × Hp => .tuple #[Ptr x.1, I 0]) (fun x => KeyA x.2 x.1 seed h) (fun x => [F, x.2]) := fun w0 w hw =>
  (xnew_ct F hK seed h hs h6 w0 w hw).mono fun e w' ⟨x, he, hx, hs'⟩ => ⟨x, he, hx.see, hs'.pick [1, 0] (by decide)⟩
theorem xsignK_ct (F : Hp) (hK : Cells F ⟨1, 0, none⟩ (Sha.K.map W32)) (g : Nat) (seed : List UInt8) (h : Nat) (hk : KeyA F g seed h) (hs : seed.length ≤ 1048576) (h6 : h ≤ 6) (i : Nat) (hi : i < 2 ^ h) (mg : List UInt8) (hm : mg.length ≤ 1048576) :
    Ct Tryd.prog 89 [Ptr g, I ((i : Nat) : Int), Str mg] [F] (fun x : (Option Addr × Nat × Hp) × (Option Addr × Nat × Hp) => .tuple #[.agg #[I ((i : Nat) : Int), .slice x.1.1 (sgC seed i mg).length x.1.2.1, .slice x.2.1 (sgP seed h i).length x.2.2.1], I 0])
      (fun x => Row x.1.2.2 9 1 x.1.1 (sgC seed i mg).length x.1.2.1 (strsV (sgC seed i mg)) ∧ Row x.2.2.2 9 1 x.2.1 (sgP seed h i).length x.2.2.1 (strsV (sgP seed h i))) (fun x => [F, x.1.2.2, x.2.2.2]) := by
  obtain ⟨A, c, h1, h2⟩ := hk
  rw [sgC_len, sgP_len]
  exact xsign_ct F hK g seed h A c h1 h2 hs h6 mg hm i hi
theorem xpubK_ct (F : Hp) (g : Nat) (seed : List UInt8) (h : Nat) (hk : KeyA F g seed h) : Ct Tryd.prog 90 [Ptr g] [F] (fun _ : Unit => .agg #[Str (Wo.opn seed), Str (Xm.root seed h), I ((h : Nat) : Int)]) (fun _ => True) (fun _ => [F]) := by
  obtain ⟨A, c, h1, h2⟩ := hk
  exact xpublic_ct F g seed (Wo.opn seed) (Xm.root seed h) h A (2 ^ h) c h1
theorem xcountK_ct (F : Hp) (g : Nat) (seed : List UInt8) (h : Nat) (hk : KeyA F g seed h) : Ct Tryd.prog 87 [Ptr g] [F] (fun _ : Unit => I ((2 ^ h : Nat) : Int)) (fun _ => True) (fun _ => [F]) := by
  obtain ⟨A, c, h1, h2⟩ := hk
  exact xcount_ct F g seed (Wo.opn seed) (Xm.root seed h) h A (2 ^ h) c h1
theorem climb_rootK (seed : List UInt8) (h i : Nat) (hi : i < 2 ^ h) : Mk.climb (Wo.pub seed i) i (sgP seed h i) = Xm.root seed h := by
  have := Mk.climb_root (Xm.leaves seed (2 ^ h)) h i (Xm.leaves_length _ _) hi
  rw [Xm.leaves_get seed _ i hi] at this
  exact this
theorem xverK_ct (F : Hp) (hK : Cells F ⟨1, 0, none⟩ (Sha.K.map W32)) (seed : List UInt8) (h i : Nat) (mg : List UInt8) (A1 : Option Addr) (n1 c1 : Nat) (hch : Sl F 1 A1 n1 c1 (strsV (sgC seed i mg))) (A2 : Option Addr) (n2 c2 : Nat) (hpt : Sl F 1 A2 n2 c2 (strsV (sgP seed h i))) (hm : mg.length ≤ 1048576) (h6 : h ≤ 6) (hi : i < 2 ^ h) :
    Ct Tryd.prog 40 [.agg #[Str (Wo.opn seed), Str (Xm.root seed h), I ((h : Nat) : Int)], Str mg, .agg #[I ((i : Nat) : Int), .slice A1 n1 c1, .slice A2 n2 c2]] [F] (fun _ : Unit => .bool true) (fun _ => True) (fun _ => [F]) := by
  have e1 : (sgC seed i mg).length = n1 := by have := hch.1; simpa [strsV] using this
  have e2 : (sgP seed h i).length = n2 := by have := hpt.1; simpa [strsV] using this
  rw [sgC_len] at e1
  rw [sgP_len] at e2
  subst e1
  subst e2
  have := xverify_ct F hK (Wo.opn seed) (Xm.root seed h) h mg i A1 c1 (sgC seed i mg) hch (sgC_16 _ _ _) A2 c2 (sgP seed h i) hpt (fun s hs => by rw [sgP_16 seed hi s hs]; decide) (by rw [Wo.opn_length]; decide) hm h6 hi
  have e : Wo.publicOf (Wo.opn seed) i (Wo.ends (Wo.opn seed) i (Wo.digs (Xm.digest (Wo.opn seed) i mg)) (sgC seed i mg) 35) = Wo.pub seed i := Wo.recPub seed i _ (by rw [Xm.digest_length]; decide)
  rw [e, climb_rootK seed h i hi, decide_eq_true rfl] at this
  exact this

end Go.Proofs.YtnkfapecbmmpeaaDoor
