/- A part of the proof: contracts of functions of the program, each for every state of the heaps that it names. -/
import Derived.Test.YtnkfapecbmmpeaaDoorLgb3
import Derived.Test.YtnkfapecbmmpeaaDoorKym
set_option linter.unusedSimpArgs false
set_option linter.unusedVariables false
namespace Go.Proofs.YtnkfapecbmmpeaaDoor
open Go Go.Fw
set_option maxRecDepth 100000
set_option maxHeartbeats 1000000
theorem ent33 : Enters Tryd.prog 33 := Enters.of Tryd.func33 rfl (by kernel_rfl)
theorem ent82 : Enters Tryd.prog 82 := Enters.of Tryd.func82 rfl (by kernel_rfl)
theorem ent83 : Enters Tryd.prog 83 := Enters.of Tryd.func83 rfl (by kernel_rfl)
theorem ent86 : Enters Tryd.prog 86 := Enters.of Tryd.func86 rfl (by kernel_rfl)

/-- an index' note -/
def note (nx : Nat) : List UInt8 := Sha.numB (UInt64.ofNat (nx + 1)) 2
theorem note_len (nx : Nat) : (note nx).length = 2 := Sha.numB_length _ _

theorem xnewB_ct (F : Hp) (seed : List UInt8) (h : Int) (hh : h < 0 ∨ 6 < h) : Ct Tryd.prog 82 [Str (seed), I (h)] [F] (fun _ : Unit => .tuple #[.pointer none, I ((1 : Nat) : Int)]) (fun _ => True) (fun _ => [F]) := by
  refine Ct.walk Tryd.func82 rfl Tryd.ntmps82 rfl (fun w0 hw0 => ?_)
  change J _ [(0, _), (1, _)] _ _ _
  refine J.seq (fun K1 hK1 => ?_)
  refine J.region ?_
  refine J.y (op_assign rfl rfl) rfl rfl rfl ?_
  refine J.y (op_assign rfl rfl) rfl rfl rfl ?_
  refine J.nil ?_
  refine J.then_n (J.k hK1 ?_)
  refine J.keepE [(0, _), (1, _)] ⟨rfl, rfl, trivial⟩ ?_
  refine J.seq (fun K2 hK2 => ?_)
  refine J.seq (fun K3 hK3 => ?_)
  refine J.region ?_
  refine J.y (op_move rfl rfl) rfl rfl rfl ?_
  refine J.y (op_lss rfl rfl rfl) rfl rfl rfl ?_
  refine J.y (op_move rfl rfl) rfl rfl rfl ?_
  refine J.split (d := 12) rfl (fun h12 => ?_) (fun h12 => ?_)
  ·
    refine J.no (Wan.is rfl rfl rfl rfl rfl) rfl rfl ?_
    refine J.no (Wan.is rfl rfl rfl rfl rfl) rfl rfl ?_
    refine J.y (op_pickT rfl rfl rfl) rfl rfl rfl ?_
    refine J.nil ?_
    refine J.then_n (J.k hK3 ?_)
    refine J.keepE [(0, _), (1, _), (15, _)] ⟨rfl, rfl, rfl, trivial⟩ ?_
    refine J.condT rfl rfl ?_
    refine J.seq (fun K4 hK4 => ?_)
    refine J.region ?_
    refine J.y (op_assign rfl rfl) rfl rfl rfl ?_
    refine J.y (op_assign rfl rfl) rfl rfl rfl ?_
    refine J.nil ?_
    refine J.then_n (J.k hK4 ?_)
    refine J.keepE [(4, _), (5, _)] ⟨rfl, rfl, trivial⟩ ?_
    refine J.ret ?_
    refine J.then_r ?_
    exact J.done hw0 (fun _ _ h => h) (res2 rfl rfl rfl) (retOk () rfl trivial [0] rfl (by decide))
  ·
    refine J.yg (Wan.is rfl rfl rfl rfl rfl) (op_move rfl rfl) rfl rfl ?_
    refine J.yg (Wan.is rfl rfl rfl rfl rfl) ((op_gtr rfl rfl rfl).as (v' := .bool true) (congrArg Value.bool (decide_eq_true (by omega)))) rfl rfl ?_
    refine J.y (op_pickF rfl rfl rfl) rfl rfl rfl ?_
    refine J.nil ?_
    refine J.then_n (J.k hK3 ?_)
    refine J.keepE [(0, _), (1, _), (15, _)] ⟨rfl, rfl, rfl, trivial⟩ ?_
    refine J.condT rfl rfl ?_
    refine J.seq (fun K5 hK5 => ?_)
    refine J.region ?_
    refine J.y (op_assign rfl rfl) rfl rfl rfl ?_
    refine J.y (op_assign rfl rfl) rfl rfl rfl ?_
    refine J.nil ?_
    refine J.then_n (J.k hK5 ?_)
    refine J.keepE [(4, _), (5, _)] ⟨rfl, rfl, trivial⟩ ?_
    refine J.ret ?_
    refine J.then_r ?_
    exact J.done hw0 (fun _ _ h => h) (res2 rfl rfl rfl) (retOk () rfl trivial [0] rfl (by decide))

theorem sopen_e (F : Hp) (hK : Cells F ⟨1, 0, none⟩ (Sha.K.map W32)) (gd : Nat) (d : Dk) (hok : d.ok) (A : Option Addr) (c : Nat) (B : Option Addr) (e : Nat) (C : Option Addr) (f : Nat) (hc : Cells F ⟨gd, 0, none⟩ (d.cells A c B e C f)) (hL : Sl F 1 A d.last.length c (strsV d.last)) (hW : Sl F 2 B d.wait.length e (writV d.wait)) (hn2 : d.wait.length ≤ 1073741824) (first count : Nat) (h8 : 8 ≤ count) (hfc : first + count ≤ d.last.length) (hoff : d.off = false) (seed : List UInt8) (hsd : seed.length ≤ 1048576) (kh : Nat) (h6 : kh ≤ 6) (X : Hlf) (hX : hst d first (count / 2) 2 = X) (hXn : X.R.length ≤ 1048576) (hR : X.R = []) : Ct Tryd.prog 35 [Ptr gd, I ((first : Nat) : Int), I ((count : Nat) : Int), Str seed, I ((kh : Nat) : Int)] [F] (fun x : (Nat × Hp) × (Nat × Option Addr × Nat × Hp) × Nat => .tuple #[Ptr x.2.2, I ((0 : Nat) : Int)]) (fun x => KeyA x.1.2 x.1.1 seed kh ∧ Row x.2.1.2.2.2 9 1 x.2.1.2.1 X.R.length x.2.1.2.2.1 (strsV X.R)) (fun x => [F, x.1.2, blk x.2.1.1 (bkC gd first (count / 2) X x.2.1.2.1 x.2.1.2.2.1 false) 130, x.2.1.2.2.2, blk x.2.2 [Ptr x.1.1, Ptr x.2.1.1, I ((0 : Nat) : Int)] 139]) := by
  refine Ct.walk Tryd.func35 rfl Tryd.ntmps35 rfl (fun w0 hw0 => ?_)
  change J _ [(0, _), (1, _), (2, _), (3, _), (4, _)] _ _ _
  refine J.seq (fun K1 hK1 => ?_)
  refine J.region ?_
  refine J.y (op_assign rfl rfl) rfl rfl rfl ?_
  refine J.y (op_assign rfl rfl) rfl rfl rfl ?_
  refine J.nil ?_
  refine J.then_n (J.k hK1 ?_)
  refine J.keepE [(0, _), (1, _), (2, _), (3, _), (4, _)] ⟨rfl, rfl, rfl, rfl, rfl, trivial⟩ ?_
  refine J.seq (fun K2 hK2 => ?_)
  refine J.region ?_
  refine J.y (op_move rfl rfl) rfl rfl rfl ?_
  refine J.y (op_move rfl rfl) rfl rfl rfl ?_
  refine J.e (op_call rfl rfl ent82 (Ct.use (new := fun x : Nat × Hp => [x.2]) (fun F' hF => xnewK_ct F' (hK.mono (hF F (by simp))) seed kh hsd h6))) rfl rfl rfl ?_
  rintro ⟨g21, m21⟩ h21
  try dsimp only at h21
  change J _ ((21, .tuple #[Ptr g21, I 0]) :: _) _ [F, m21] _
  refine J.y (op_move rfl rfl) rfl rfl rfl ?_
  refine J.y (op_extract (v := Ptr g21) rfl rfl rfl) rfl rfl rfl ?_
  refine J.y (op_extract (v := I ((0 : Nat) : Int)) rfl rfl rfl) rfl rfl rfl ?_
  refine J.y (op_assign rfl rfl) rfl rfl rfl ?_
  refine J.y (op_assign rfl rfl) rfl rfl rfl ?_
  refine J.nil ?_
  refine J.then_n (J.k hK2 ?_)
  refine J.keepE [(0, _), (1, _), (2, _), (12, _), (13, _)] ⟨rfl, rfl, rfl, rfl, rfl, trivial⟩ ?_
  refine J.seq (fun K3 hK3 => ?_)
  refine J.seq (fun K4 hK4 => ?_)
  refine J.region ?_
  refine J.y (op_move rfl rfl) rfl rfl rfl ?_
  refine J.y ((op_neq rfl rfl rfl).as (v' := .bool false) (congrArg Value.bool (decide_eq_false (by decide)))) rfl rfl rfl ?_
  refine J.nil ?_
  refine J.then_n (J.k hK4 ?_)
  refine J.keepE [(0, _), (1, _), (2, _), (12, _), (13, _), (25, _)] ⟨rfl, rfl, rfl, rfl, rfl, rfl, trivial⟩ ?_
  refine J.condF rfl rfl ?_
  refine J.skip ?_
  refine J.then_n (J.k hK3 ?_)
  refine J.keepE [(0, _), (1, _), (2, _), (12, _)] ⟨rfl, rfl, rfl, rfl, trivial⟩ ?_
  refine J.seq (fun K5 hK5 => ?_)
  refine J.region ?_
  refine J.y (op_move rfl rfl) rfl rfl rfl ?_
  refine J.y (op_move rfl rfl) rfl rfl rfl ?_
  refine J.y (op_move rfl rfl) rfl rfl rfl ?_
  refine J.e (op_call rfl rfl ent33 (Ct.use (new := fun x : Nat × Option Addr × Nat × Hp => [blk x.1 (bkC gd first (count / 2) X x.2.1 x.2.2.1 false) 130, x.2.2.2]) (fun F' hF => by have := bopen_ct F' (hK.mono (hF F (by simp))) gd d hok A c B e C f (hc.mono (hF F (by simp))) (hL.mono (hF F (by simp))) (hW.mono (hF F (by simp))) hn2 first count h8 hfc hoff; rw [hX] at this; exact this))) rfl rfl rfl ?_
  rintro ⟨g31, A31, c31, m31⟩ h31
  try dsimp only at h31
  change J _ ((31, .tuple #[Ptr g31, I ((0 : Nat) : Int)]) :: _) _ [F, m21, blk g31 (bkC gd first (count / 2) X A31 c31 false) 130, m31] _
  refine J.y (op_move rfl rfl) rfl rfl rfl ?_
  refine J.y (op_extract (v := Ptr g31) rfl rfl rfl) rfl rfl rfl ?_
  refine J.y (op_extract (v := I ((0 : Nat) : Int)) rfl rfl rfl) rfl rfl rfl ?_
  refine J.y (op_assign rfl rfl) rfl rfl rfl ?_
  refine J.y (op_assign rfl rfl) rfl rfl rfl ?_
  refine J.nil ?_
  refine J.then_n (J.k hK5 ?_)
  refine J.keepE [(12, _), (13, _), (14, _)] ⟨rfl, rfl, rfl, trivial⟩ ?_
  refine J.seq (fun K6 hK6 => ?_)
  refine J.seq (fun K7 hK7 => ?_)
  refine J.region ?_
  refine J.y (op_move rfl rfl) rfl rfl rfl ?_
  refine J.y ((op_neq rfl rfl rfl).as (v' := .bool false) (congrArg Value.bool (decide_eq_false (by decide)))) rfl rfl rfl ?_
  refine J.nil ?_
  refine J.then_n (J.k hK7 ?_)
  refine J.keepE [(12, _), (13, _), (14, _), (35, _)] ⟨rfl, rfl, rfl, rfl, trivial⟩ ?_
  refine J.condF rfl rfl ?_
  refine J.skip ?_
  refine J.then_n (J.k hK6 ?_)
  refine J.keepE [(12, _), (14, _)] ⟨rfl, rfl, trivial⟩ ?_
  refine J.seq (fun K8 hK8 => ?_)
  refine J.region ?_
  refine J.y (op_move rfl rfl) rfl rfl rfl ?_
  refine J.y (op_move rfl rfl) rfl rfl rfl ?_
  refine J.y (op_buildStruct (l := [(0, .tmp 37), (1, .tmp 38)]) (vs := [Ptr g21, Ptr g31]) (places := [(0, 1), (1, 1), (2, 1)]) (r := [Ptr g21, Ptr g31, I 0]) rfl rfl rfl Tryd.underlying139 Tryd.zeroValue139 (fun _ => by kernel_rfl) rfl) rfl rfl rfl ?_
  refine J.e (op_box (l := [Ptr g21, Ptr g31, I 0]) rfl rfl rfl) rfl rfl rfl ?_
  intro g40 _
  change J _ _ _ [F, m21, blk g31 (bkC gd first (count / 2) X A31 c31 false) 130, m31, blk g40 [Ptr g21, Ptr g31, I 0] 139] _
  refine J.y (op_assign rfl rfl) rfl rfl rfl ?_
  refine J.nil ?_
  refine J.then_n (J.k hK8 ?_)
  refine J.keepE [(14, _), (15, _)] ⟨rfl, rfl, trivial⟩ ?_
  refine J.seq (fun K9 hK9 => ?_)
  refine J.seq (fun K10 hK10 => ?_)
  refine J.region ?_
  refine J.y (op_move rfl rfl) rfl rfl rfl ?_
  refine J.e (op_call rfl rfl ent83 (Ct.use (new := fun x : Option Addr × Nat × Hp => [x.2.2]) (fun F' hF => records_ct F' g31 gd ((first : Nat) : Int) (count / 2) ((X.at_ : Nat) : Int) X.t ((X.e : Nat) : Int) A31 X.R.length c31 false (Cells.blk0.mono (hF (blk g31 (bkC gd first (count / 2) X A31 c31 false) 130) (by simp))) X.R rfl (h31.sl.mono (hF m31 (by simp))) (by omega)))) rfl rfl rfl ?_
  rintro ⟨A42, c42, m42⟩ h42
  try dsimp only at h42
  change J _ ((42, .slice A42 X.R.length c42) :: _) _ [F, m21, blk g31 (bkC gd first (count / 2) X A31 c31 false) 130, m31, blk g40 [Ptr g21, Ptr g31, I 0] 139, m42] _
  refine J.y (op_assign rfl rfl) rfl rfl rfl ?_
  refine J.nil ?_
  refine J.then_n (J.k hK10 ?_)
  refine J.keepE [(15, _), (16, _)] ⟨rfl, rfl, trivial⟩ ?_
  refine J.seq (fun K11 hK11 => ?_)
  refine J.region ?_
  refine J.y (op_move rfl rfl) rfl rfl rfl ?_
  refine J.y (op_len Tryd.underlying55 rfl rfl) rfl rfl rfl ?_
  refine J.y ((op_gtr rfl rfl rfl).as (v' := .bool false) (congrArg Value.bool (decide_eq_false (by rw [hR]; decide)))) rfl rfl rfl ?_
  refine J.nil ?_
  refine J.then_n (J.k hK11 ?_)
  refine J.keepE [(15, _), (16, _), (45, _)] ⟨rfl, rfl, rfl, trivial⟩ ?_
  refine J.condF rfl rfl ?_
  refine J.skip ?_
  refine J.then_n (J.k hK9 ?_)
  refine J.keepE [(15, _)] ⟨rfl, trivial⟩ ?_
  refine J.seq (fun K12 hK12 => ?_)
  refine J.region ?_
  refine J.y (op_move rfl rfl) rfl rfl rfl ?_
  refine J.y (op_assign rfl rfl) rfl rfl rfl ?_
  refine J.y (op_assign rfl rfl) rfl rfl rfl ?_
  refine J.nil ?_
  refine J.then_n (J.k hK12 ?_)
  refine J.keepE [(10, _), (11, _)] ⟨rfl, rfl, trivial⟩ ?_
  refine J.ret ?_
  exact J.done hw0 (fun _ _ h => h) (res2 rfl rfl rfl) (retOk ((g21, m21), (g31, A31, c31, m31), g40) rfl ⟨h21, h31⟩ [0, 1, 2, 3, 4] rfl (by decide))

theorem sopen_y (F : Hp) (hK : Cells F ⟨1, 0, none⟩ (Sha.K.map W32)) (gd : Nat) (d : Dk) (hok : d.ok) (A : Option Addr) (c : Nat) (B : Option Addr) (e : Nat) (C : Option Addr) (f : Nat) (hc : Cells F ⟨gd, 0, none⟩ (d.cells A c B e C f)) (hL : Sl F 1 A d.last.length c (strsV d.last)) (hW : Sl F 2 B d.wait.length e (writV d.wait)) (hn2 : d.wait.length ≤ 1073741824) (first count : Nat) (h8 : 8 ≤ count) (hfc : first + count ≤ d.last.length) (hoff : d.off = false) (seed : List UInt8) (hsd : seed.length ≤ 1048576) (kh : Nat) (h6 : kh ≤ 6) (X : Hlf) (hX : hst d first (count / 2) 2 = X) (hXn : X.R.length ≤ 1048576) (hR : 0 < X.R.length) (r : List UInt8) (hr : r = (X.R.getD (X.R.length - 1) [])) (hr2 : r.length = 2) : Ct Tryd.prog 35 [Ptr gd, I ((first : Nat) : Int), I ((count : Nat) : Int), Str seed, I ((kh : Nat) : Int)] [F] (fun x : (Nat × Hp) × (Nat × Option Addr × Nat × Hp) × Nat => .tuple #[Ptr x.2.2, I ((0 : Nat) : Int)]) (fun x => KeyA x.1.2 x.1.1 seed kh ∧ Row x.2.1.2.2.2 9 1 x.2.1.2.1 X.R.length x.2.1.2.2.1 (strsV X.R)) (fun x => [F, x.1.2, blk x.2.1.1 (bkC gd first (count / 2) X x.2.1.2.1 x.2.1.2.2.1 false) 130, x.2.1.2.2.2, blk x.2.2 [Ptr x.1.1, Ptr x.2.1.1, I ((natB r : Nat) : Int)] 139]) := by
  refine Ct.walk Tryd.func35 rfl Tryd.ntmps35 rfl (fun w0 hw0 => ?_)
  change J _ [(0, _), (1, _), (2, _), (3, _), (4, _)] _ _ _
  refine J.seq (fun K1 hK1 => ?_)
  refine J.region ?_
  refine J.y (op_assign rfl rfl) rfl rfl rfl ?_
  refine J.y (op_assign rfl rfl) rfl rfl rfl ?_
  refine J.nil ?_
  refine J.then_n (J.k hK1 ?_)
  refine J.keepE [(0, _), (1, _), (2, _), (3, _), (4, _)] ⟨rfl, rfl, rfl, rfl, rfl, trivial⟩ ?_
  refine J.seq (fun K2 hK2 => ?_)
  refine J.region ?_
  refine J.y (op_move rfl rfl) rfl rfl rfl ?_
  refine J.y (op_move rfl rfl) rfl rfl rfl ?_
  refine J.e (op_call rfl rfl ent82 (Ct.use (new := fun x : Nat × Hp => [x.2]) (fun F' hF => xnewK_ct F' (hK.mono (hF F (by simp))) seed kh hsd h6))) rfl rfl rfl ?_
  rintro ⟨g21, m21⟩ h21
  try dsimp only at h21
  change J _ ((21, .tuple #[Ptr g21, I 0]) :: _) _ [F, m21] _
  refine J.y (op_move rfl rfl) rfl rfl rfl ?_
  refine J.y (op_extract (v := Ptr g21) rfl rfl rfl) rfl rfl rfl ?_
  refine J.y (op_extract (v := I ((0 : Nat) : Int)) rfl rfl rfl) rfl rfl rfl ?_
  refine J.y (op_assign rfl rfl) rfl rfl rfl ?_
  refine J.y (op_assign rfl rfl) rfl rfl rfl ?_
  refine J.nil ?_
  refine J.then_n (J.k hK2 ?_)
  refine J.keepE [(0, _), (1, _), (2, _), (12, _), (13, _)] ⟨rfl, rfl, rfl, rfl, rfl, trivial⟩ ?_
  refine J.seq (fun K3 hK3 => ?_)
  refine J.seq (fun K4 hK4 => ?_)
  refine J.region ?_
  refine J.y (op_move rfl rfl) rfl rfl rfl ?_
  refine J.y ((op_neq rfl rfl rfl).as (v' := .bool false) (congrArg Value.bool (decide_eq_false (by decide)))) rfl rfl rfl ?_
  refine J.nil ?_
  refine J.then_n (J.k hK4 ?_)
  refine J.keepE [(0, _), (1, _), (2, _), (12, _), (13, _), (25, _)] ⟨rfl, rfl, rfl, rfl, rfl, rfl, trivial⟩ ?_
  refine J.condF rfl rfl ?_
  refine J.skip ?_
  refine J.then_n (J.k hK3 ?_)
  refine J.keepE [(0, _), (1, _), (2, _), (12, _)] ⟨rfl, rfl, rfl, rfl, trivial⟩ ?_
  refine J.seq (fun K5 hK5 => ?_)
  refine J.region ?_
  refine J.y (op_move rfl rfl) rfl rfl rfl ?_
  refine J.y (op_move rfl rfl) rfl rfl rfl ?_
  refine J.y (op_move rfl rfl) rfl rfl rfl ?_
  refine J.e (op_call rfl rfl ent33 (Ct.use (new := fun x : Nat × Option Addr × Nat × Hp => [blk x.1 (bkC gd first (count / 2) X x.2.1 x.2.2.1 false) 130, x.2.2.2]) (fun F' hF => by have := bopen_ct F' (hK.mono (hF F (by simp))) gd d hok A c B e C f (hc.mono (hF F (by simp))) (hL.mono (hF F (by simp))) (hW.mono (hF F (by simp))) hn2 first count h8 hfc hoff; rw [hX] at this; exact this))) rfl rfl rfl ?_
  rintro ⟨g31, A31, c31, m31⟩ h31
  try dsimp only at h31
  change J _ ((31, .tuple #[Ptr g31, I ((0 : Nat) : Int)]) :: _) _ [F, m21, blk g31 (bkC gd first (count / 2) X A31 c31 false) 130, m31] _
  refine J.y (op_move rfl rfl) rfl rfl rfl ?_
  refine J.y (op_extract (v := Ptr g31) rfl rfl rfl) rfl rfl rfl ?_
  refine J.y (op_extract (v := I ((0 : Nat) : Int)) rfl rfl rfl) rfl rfl rfl ?_
  refine J.y (op_assign rfl rfl) rfl rfl rfl ?_
  refine J.y (op_assign rfl rfl) rfl rfl rfl ?_
  refine J.nil ?_
  refine J.then_n (J.k hK5 ?_)
  refine J.keepE [(12, _), (13, _), (14, _)] ⟨rfl, rfl, rfl, trivial⟩ ?_
  refine J.seq (fun K6 hK6 => ?_)
  refine J.seq (fun K7 hK7 => ?_)
  refine J.region ?_
  refine J.y (op_move rfl rfl) rfl rfl rfl ?_
  refine J.y ((op_neq rfl rfl rfl).as (v' := .bool false) (congrArg Value.bool (decide_eq_false (by decide)))) rfl rfl rfl ?_
  refine J.nil ?_
  refine J.then_n (J.k hK7 ?_)
  refine J.keepE [(12, _), (13, _), (14, _), (35, _)] ⟨rfl, rfl, rfl, rfl, trivial⟩ ?_
  refine J.condF rfl rfl ?_
  refine J.skip ?_
  refine J.then_n (J.k hK6 ?_)
  refine J.keepE [(12, _), (14, _)] ⟨rfl, rfl, trivial⟩ ?_
  refine J.seq (fun K8 hK8 => ?_)
  refine J.region ?_
  refine J.y (op_move rfl rfl) rfl rfl rfl ?_
  refine J.y (op_move rfl rfl) rfl rfl rfl ?_
  refine J.y (op_buildStruct (l := [(0, .tmp 37), (1, .tmp 38)]) (vs := [Ptr g21, Ptr g31]) (places := [(0, 1), (1, 1), (2, 1)]) (r := [Ptr g21, Ptr g31, I 0]) rfl rfl rfl Tryd.underlying139 Tryd.zeroValue139 (fun _ => by kernel_rfl) rfl) rfl rfl rfl ?_
  refine J.e (op_box (l := [Ptr g21, Ptr g31, I 0]) rfl rfl rfl) rfl rfl rfl ?_
  intro g40 _
  change J _ _ _ [F, m21, blk g31 (bkC gd first (count / 2) X A31 c31 false) 130, m31, blk g40 [Ptr g21, Ptr g31, I 0] 139] _
  refine J.y (op_assign rfl rfl) rfl rfl rfl ?_
  refine J.nil ?_
  refine J.then_n (J.k hK8 ?_)
  refine J.keepE [(14, _), (15, _)] ⟨rfl, rfl, trivial⟩ ?_
  refine J.seq (fun K9 hK9 => ?_)
  refine J.seq (fun K10 hK10 => ?_)
  refine J.region ?_
  refine J.y (op_move rfl rfl) rfl rfl rfl ?_
  refine J.e (op_call rfl rfl ent83 (Ct.use (new := fun x : Option Addr × Nat × Hp => [x.2.2]) (fun F' hF => records_ct F' g31 gd ((first : Nat) : Int) (count / 2) ((X.at_ : Nat) : Int) X.t ((X.e : Nat) : Int) A31 X.R.length c31 false (Cells.blk0.mono (hF (blk g31 (bkC gd first (count / 2) X A31 c31 false) 130) (by simp))) X.R rfl (h31.sl.mono (hF m31 (by simp))) (by omega)))) rfl rfl rfl ?_
  rintro ⟨A42, c42, m42⟩ h42
  try dsimp only at h42
  change J _ ((42, .slice A42 X.R.length c42) :: _) _ [F, m21, blk g31 (bkC gd first (count / 2) X A31 c31 false) 130, m31, blk g40 [Ptr g21, Ptr g31, I 0] 139, m42] _
  refine J.y (op_assign rfl rfl) rfl rfl rfl ?_
  refine J.nil ?_
  refine J.then_n (J.k hK10 ?_)
  refine J.keepE [(15, _), (16, _)] ⟨rfl, rfl, trivial⟩ ?_
  refine J.seq (fun K11 hK11 => ?_)
  refine J.region ?_
  refine J.y (op_move rfl rfl) rfl rfl rfl ?_
  refine J.y (op_len Tryd.underlying55 rfl rfl) rfl rfl rfl ?_
  refine J.y ((op_gtr rfl rfl rfl).as (v' := .bool true) (congrArg Value.bool (decide_eq_true (by omega)))) rfl rfl rfl ?_
  refine J.nil ?_
  refine J.then_n (J.k hK11 ?_)
  refine J.keepE [(15, _), (16, _), (45, _)] ⟨rfl, rfl, rfl, trivial⟩ ?_
  refine J.condT rfl rfl ?_
  refine J.seq (fun K12 hK12 => ?_)
  have hb2 := natB2 (⟨r, 0⟩ : RS)
  have ht : (⟨r, 0⟩ : RS).take 2 = ⟨[], 0⟩ := by rw [take_ok (by rw [hr2]; exact Nat.le_refl 2), List.drop_of_length_le (by rw [hr2]; exact Nat.le_refl 2)]
  have ho2 : (⟨r, 0⟩ : RS).out 2 = r := by rw [out_ok (by rw [hr2]; exact Nat.le_refl 2), List.take_of_length_le (by rw [hr2]; exact Nat.le_refl 2)]
  rw [ho2] at hb2
  refine J.region ?_
  refine J.y (op_move rfl rfl) rfl rfl rfl ?_
  refine J.y (op_move rfl rfl) rfl rfl rfl ?_
  refine J.y (op_len Tryd.underlying55 rfl rfl) rfl rfl rfl ?_
  refine J.y ((op_sub rfl rfl rfl (by first | omega | (refine ⟨?_, ?_⟩ <;> omega))).as (v' := I ((X.R.length - 1 : Nat) : Int)) (congrArg I (by omega))) rfl rfl rfl ?_
  refine J.y (op_indexAddr (i := X.R.length - 1) rfl rfl rfl Tryd.underlying55 Tryd.sizeOf9 h42.sl (by first | omega | (simp only [List.length_append, List.length_cons, List.length_nil, List.length_take, List.length_drop] at *; omega))) rfl rfl rfl ?_
  refine J.y (op_load rfl rfl Tryd.isAgg9 (m := m42) (by simp) (h42.sl.elem (strsV_get (getSome [] (by first | omega | (simp only [List.length_append, List.length_cons, List.length_nil, List.length_take, List.length_drop] at *; omega)))))) rfl rfl rfl ?_
  rw [← hr]
  refine J.e (op_call rfl rfl ent84 (Ct.use (new := fun g => [RSb g (⟨r, 0⟩ : RS)]) (fun F' _ => (read_ct F' r).mono (φ2 := fun _ => True) (val2 := Ptr) (ms2 := fun g => F' :: [RSb g (⟨r, 0⟩ : RS)]) id (fun _ _ => rfl) (fun _ h => h) (fun x w0 w _ h => h.pick [1, 0] (by decide))))) rfl rfl rfl ?_
  rintro g52 _
  change J _ ((52, Ptr g52) :: _) _ [F, m21, blk g31 (bkC gd first (count / 2) X A31 c31 false) 130, m31, blk g40 [Ptr g21, Ptr g31, I 0] 139, m42, RSb g52 (⟨r, 0⟩ : RS)] _
  refine J.y (op_assign rfl rfl) rfl rfl rfl ?_
  refine J.nil ?_
  refine J.then_n (J.k hK12 ?_)
  refine J.keepE [(15, _), (17, _)] ⟨rfl, rfl, trivial⟩ ?_
  refine J.seq (fun K13 hK13 => ?_)
  refine J.region ?_
  refine J.y (op_move rfl rfl) rfl rfl rfl ?_
  refine J.y (op_move rfl rfl) rfl rfl rfl ?_
  refine J.e (op_call rfl rfl ent85 (Ct.use1 6 (m' := fun _ : Unit => RSb g52 ((⟨r, 0⟩ : RS).take 2)) (new := fun _ => []) rfl (fun F' _ => rnum_ct F' g52 (⟨r, 0⟩ : RS) 2 (by decide) (by decide)))) rfl rfl rfl ?_
  intro g55 _
  change J _ _ _ [F, m21, blk g31 (bkC gd first (count / 2) X A31 c31 false) 130, m31, blk g40 [Ptr g21, Ptr g31, I 0] 139, m42, RSb g52 ((⟨r, 0⟩ : RS).take 2)] _
  rw [ho2]
  refine J.y (op_cvU_toI (a := natB r) rfl rfl Tryd.underlying108 Tryd.underlying3 (by first | omega | (simp only [List.length_append, List.length_cons, List.length_nil, List.length_take, List.length_drop] at *; omega))) rfl rfl rfl ?_
  refine J.y (op_nilCheck rfl rfl) rfl rfl rfl ?_
  refine J.y (op_fieldAddr (j := 2) rfl rfl Tryd.underlying139 rfl Tryd.sizeOf3 rfl) rfl rfl rfl ?_
  refine J.s (op_store (i := 4) (l := [Ptr g21, Ptr g31, I 0]) (vs := [I ((natB r : Nat) : Int)]) rfl rfl rfl rfl rfl Tryd.sizeOf3 rfl (by simp)) rfl rfl (fun _ _ => ?_)
  change J _ _ _ [F, m21, blk g31 (bkC gd first (count / 2) X A31 c31 false) 130, m31, blk g40 [Ptr g21, Ptr g31, I ((natB r : Nat) : Int)] 139, m42, RSb g52 ((⟨r, 0⟩ : RS).take 2)] _
  refine J.nil ?_
  refine J.then_n (J.k hK13 ?_)
  refine J.keepE [(15, _), (17, _)] ⟨rfl, rfl, trivial⟩ ?_
  refine J.seq (fun K14 hK14 => ?_)
  refine J.region ?_
  refine J.y (op_move rfl rfl) rfl rfl rfl ?_
  refine J.e (op_call rfl rfl ent86 (Ct.use1 6 (m' := fun _ : Unit => RSb g52 ((⟨r, 0⟩ : RS).take 2)) (new := fun _ => []) rfl (fun F' _ => end_ct F' g52 ((⟨r, 0⟩ : RS).take 2) ))) rfl rfl rfl ?_
  intro g60 _
  change J _ _ _ [F, m21, blk g31 (bkC gd first (count / 2) X A31 c31 false) 130, m31, blk g40 [Ptr g21, Ptr g31, I ((natB r : Nat) : Int)] 139, m42, RSb g52 ((⟨r, 0⟩ : RS).take 2)] _
  refine J.y ((op_neq rfl rfl rfl).as (v' := .bool false) (congrArg Value.bool (decide_eq_false (by rw [ht]; exact fun h => h rfl)))) rfl rfl rfl ?_
  refine J.nil ?_
  refine J.then_n (J.k hK14 ?_)
  refine J.keepE [(15, _), (61, _)] ⟨rfl, rfl, trivial⟩ ?_
  refine J.condF rfl rfl ?_
  refine J.skip ?_
  refine J.then_n (J.k hK9 ?_)
  refine J.keepE [(15, _)] ⟨rfl, trivial⟩ ?_
  refine J.seq (fun K15 hK15 => ?_)
  refine J.region ?_
  refine J.y (op_move rfl rfl) rfl rfl rfl ?_
  refine J.y (op_assign rfl rfl) rfl rfl rfl ?_
  refine J.y (op_assign rfl rfl) rfl rfl rfl ?_
  refine J.nil ?_
  refine J.then_n (J.k hK15 ?_)
  refine J.keepE [(10, _), (11, _)] ⟨rfl, rfl, trivial⟩ ?_
  refine J.ret ?_
  exact J.done hw0 (fun _ _ h => h) (res2 rfl rfl rfl) (retOk ((g21, m21), (g31, A31, c31, m31), g40) rfl ⟨h21, h31⟩ [0, 1, 2, 3, 4] rfl (by decide))

theorem sopen_n (F : Hp) (hK : Cells F ⟨1, 0, none⟩ (Sha.K.map W32)) (gd : Nat) (d : Dk) (hok : d.ok) (A : Option Addr) (c : Nat) (B : Option Addr) (e : Nat) (C : Option Addr) (f : Nat) (hc : Cells F ⟨gd, 0, none⟩ (d.cells A c B e C f)) (hL : Sl F 1 A d.last.length c (strsV d.last)) (hW : Sl F 2 B d.wait.length e (writV d.wait)) (hn2 : d.wait.length ≤ 1073741824) (first count : Nat) (h8 : 8 ≤ count) (hfc : first + count ≤ d.last.length) (hoff : d.off = false) (seed : List UInt8) (hsd : seed.length ≤ 1048576) (kh : Nat) (h6 : kh ≤ 6) (X : Hlf) (hX : hst d first (count / 2) 2 = X) (hXn : X.R.length ≤ 1048576) (hR : 0 < X.R.length) (r : List UInt8) (hr : r = (X.R.getD (X.R.length - 1) [])) (hr2 : r.length ≠ 2) : Ct Tryd.prog 35 [Ptr gd, I ((first : Nat) : Int), I ((count : Nat) : Int), Str seed, I ((kh : Nat) : Int)] [F] (fun _ : Unit => .tuple #[.pointer none, I ((4 : Nat) : Int)]) (fun _ => True) (fun _ => [F]) := by
  refine Ct.walk Tryd.func35 rfl Tryd.ntmps35 rfl (fun w0 hw0 => ?_)
  change J _ [(0, _), (1, _), (2, _), (3, _), (4, _)] _ _ _
  refine J.seq (fun K1 hK1 => ?_)
  refine J.region ?_
  refine J.y (op_assign rfl rfl) rfl rfl rfl ?_
  refine J.y (op_assign rfl rfl) rfl rfl rfl ?_
  refine J.nil ?_
  refine J.then_n (J.k hK1 ?_)
  refine J.keepE [(0, _), (1, _), (2, _), (3, _), (4, _)] ⟨rfl, rfl, rfl, rfl, rfl, trivial⟩ ?_
  refine J.seq (fun K2 hK2 => ?_)
  refine J.region ?_
  refine J.y (op_move rfl rfl) rfl rfl rfl ?_
  refine J.y (op_move rfl rfl) rfl rfl rfl ?_
  refine J.e (op_call rfl rfl ent82 (Ct.use (new := fun x : Nat × Hp => [x.2]) (fun F' hF => xnewK_ct F' (hK.mono (hF F (by simp))) seed kh hsd h6))) rfl rfl rfl ?_
  rintro ⟨g21, m21⟩ h21
  try dsimp only at h21
  change J _ ((21, .tuple #[Ptr g21, I 0]) :: _) _ [F, m21] _
  refine J.y (op_move rfl rfl) rfl rfl rfl ?_
  refine J.y (op_extract (v := Ptr g21) rfl rfl rfl) rfl rfl rfl ?_
  refine J.y (op_extract (v := I ((0 : Nat) : Int)) rfl rfl rfl) rfl rfl rfl ?_
  refine J.y (op_assign rfl rfl) rfl rfl rfl ?_
  refine J.y (op_assign rfl rfl) rfl rfl rfl ?_
  refine J.nil ?_
  refine J.then_n (J.k hK2 ?_)
  refine J.keepE [(0, _), (1, _), (2, _), (12, _), (13, _)] ⟨rfl, rfl, rfl, rfl, rfl, trivial⟩ ?_
  refine J.seq (fun K3 hK3 => ?_)
  refine J.seq (fun K4 hK4 => ?_)
  refine J.region ?_
  refine J.y (op_move rfl rfl) rfl rfl rfl ?_
  refine J.y ((op_neq rfl rfl rfl).as (v' := .bool false) (congrArg Value.bool (decide_eq_false (by decide)))) rfl rfl rfl ?_
  refine J.nil ?_
  refine J.then_n (J.k hK4 ?_)
  refine J.keepE [(0, _), (1, _), (2, _), (12, _), (13, _), (25, _)] ⟨rfl, rfl, rfl, rfl, rfl, rfl, trivial⟩ ?_
  refine J.condF rfl rfl ?_
  refine J.skip ?_
  refine J.then_n (J.k hK3 ?_)
  refine J.keepE [(0, _), (1, _), (2, _), (12, _)] ⟨rfl, rfl, rfl, rfl, trivial⟩ ?_
  refine J.seq (fun K5 hK5 => ?_)
  refine J.region ?_
  refine J.y (op_move rfl rfl) rfl rfl rfl ?_
  refine J.y (op_move rfl rfl) rfl rfl rfl ?_
  refine J.y (op_move rfl rfl) rfl rfl rfl ?_
  refine J.e (op_call rfl rfl ent33 (Ct.use (new := fun x : Nat × Option Addr × Nat × Hp => [blk x.1 (bkC gd first (count / 2) X x.2.1 x.2.2.1 false) 130, x.2.2.2]) (fun F' hF => by have := bopen_ct F' (hK.mono (hF F (by simp))) gd d hok A c B e C f (hc.mono (hF F (by simp))) (hL.mono (hF F (by simp))) (hW.mono (hF F (by simp))) hn2 first count h8 hfc hoff; rw [hX] at this; exact this))) rfl rfl rfl ?_
  rintro ⟨g31, A31, c31, m31⟩ h31
  try dsimp only at h31
  change J _ ((31, .tuple #[Ptr g31, I ((0 : Nat) : Int)]) :: _) _ [F, m21, blk g31 (bkC gd first (count / 2) X A31 c31 false) 130, m31] _
  refine J.y (op_move rfl rfl) rfl rfl rfl ?_
  refine J.y (op_extract (v := Ptr g31) rfl rfl rfl) rfl rfl rfl ?_
  refine J.y (op_extract (v := I ((0 : Nat) : Int)) rfl rfl rfl) rfl rfl rfl ?_
  refine J.y (op_assign rfl rfl) rfl rfl rfl ?_
  refine J.y (op_assign rfl rfl) rfl rfl rfl ?_
  refine J.nil ?_
  refine J.then_n (J.k hK5 ?_)
  refine J.keepE [(12, _), (13, _), (14, _)] ⟨rfl, rfl, rfl, trivial⟩ ?_
  refine J.seq (fun K6 hK6 => ?_)
  refine J.seq (fun K7 hK7 => ?_)
  refine J.region ?_
  refine J.y (op_move rfl rfl) rfl rfl rfl ?_
  refine J.y ((op_neq rfl rfl rfl).as (v' := .bool false) (congrArg Value.bool (decide_eq_false (by decide)))) rfl rfl rfl ?_
  refine J.nil ?_
  refine J.then_n (J.k hK7 ?_)
  refine J.keepE [(12, _), (13, _), (14, _), (35, _)] ⟨rfl, rfl, rfl, rfl, trivial⟩ ?_
  refine J.condF rfl rfl ?_
  refine J.skip ?_
  refine J.then_n (J.k hK6 ?_)
  refine J.keepE [(12, _), (14, _)] ⟨rfl, rfl, trivial⟩ ?_
  refine J.seq (fun K8 hK8 => ?_)
  refine J.region ?_
  refine J.y (op_move rfl rfl) rfl rfl rfl ?_
  refine J.y (op_move rfl rfl) rfl rfl rfl ?_
  refine J.y (op_buildStruct (l := [(0, .tmp 37), (1, .tmp 38)]) (vs := [Ptr g21, Ptr g31]) (places := [(0, 1), (1, 1), (2, 1)]) (r := [Ptr g21, Ptr g31, I 0]) rfl rfl rfl Tryd.underlying139 Tryd.zeroValue139 (fun _ => by kernel_rfl) rfl) rfl rfl rfl ?_
  refine J.e (op_box (l := [Ptr g21, Ptr g31, I 0]) rfl rfl rfl) rfl rfl rfl ?_
  intro g40 _
  change J _ _ _ [F, m21, blk g31 (bkC gd first (count / 2) X A31 c31 false) 130, m31, blk g40 [Ptr g21, Ptr g31, I 0] 139] _
  refine J.y (op_assign rfl rfl) rfl rfl rfl ?_
  refine J.nil ?_
  refine J.then_n (J.k hK8 ?_)
  refine J.keepE [(14, _), (15, _)] ⟨rfl, rfl, trivial⟩ ?_
  refine J.seq (fun K9 hK9 => ?_)
  refine J.seq (fun K10 hK10 => ?_)
  refine J.region ?_
  refine J.y (op_move rfl rfl) rfl rfl rfl ?_
  refine J.e (op_call rfl rfl ent83 (Ct.use (new := fun x : Option Addr × Nat × Hp => [x.2.2]) (fun F' hF => records_ct F' g31 gd ((first : Nat) : Int) (count / 2) ((X.at_ : Nat) : Int) X.t ((X.e : Nat) : Int) A31 X.R.length c31 false (Cells.blk0.mono (hF (blk g31 (bkC gd first (count / 2) X A31 c31 false) 130) (by simp))) X.R rfl (h31.sl.mono (hF m31 (by simp))) (by omega)))) rfl rfl rfl ?_
  rintro ⟨A42, c42, m42⟩ h42
  try dsimp only at h42
  change J _ ((42, .slice A42 X.R.length c42) :: _) _ [F, m21, blk g31 (bkC gd first (count / 2) X A31 c31 false) 130, m31, blk g40 [Ptr g21, Ptr g31, I 0] 139, m42] _
  refine J.y (op_assign rfl rfl) rfl rfl rfl ?_
  refine J.nil ?_
  refine J.then_n (J.k hK10 ?_)
  refine J.keepE [(15, _), (16, _)] ⟨rfl, rfl, trivial⟩ ?_
  refine J.seq (fun K11 hK11 => ?_)
  refine J.region ?_
  refine J.y (op_move rfl rfl) rfl rfl rfl ?_
  refine J.y (op_len Tryd.underlying55 rfl rfl) rfl rfl rfl ?_
  refine J.y ((op_gtr rfl rfl rfl).as (v' := .bool true) (congrArg Value.bool (decide_eq_true (by omega)))) rfl rfl rfl ?_
  refine J.nil ?_
  refine J.then_n (J.k hK11 ?_)
  refine J.keepE [(15, _), (16, _), (45, _)] ⟨rfl, rfl, rfl, trivial⟩ ?_
  refine J.condT rfl rfl ?_
  refine J.seq (fun K12 hK12 => ?_)
  have hb2 := natB2 (⟨r, 0⟩ : RS)
  have hlast : ((⟨r, 0⟩ : RS).take 2).last ≠ 0 := by
    unfold RS.take RS.last
    dsimp only
    rw [if_pos rfl]
    split
    · rename_i h1
      dsimp only
      rw [if_pos rfl, if_neg (fun h => hr2 (by have := congrArg List.length h; rw [List.length_drop, List.length_nil] at this; omega))]
      decide
    · dsimp only
      rw [if_neg (by decide)]; decide
  refine J.region ?_
  refine J.y (op_move rfl rfl) rfl rfl rfl ?_
  refine J.y (op_move rfl rfl) rfl rfl rfl ?_
  refine J.y (op_len Tryd.underlying55 rfl rfl) rfl rfl rfl ?_
  refine J.y ((op_sub rfl rfl rfl (by first | omega | (refine ⟨?_, ?_⟩ <;> omega))).as (v' := I ((X.R.length - 1 : Nat) : Int)) (congrArg I (by omega))) rfl rfl rfl ?_
  refine J.y (op_indexAddr (i := X.R.length - 1) rfl rfl rfl Tryd.underlying55 Tryd.sizeOf9 h42.sl (by first | omega | (simp only [List.length_append, List.length_cons, List.length_nil, List.length_take, List.length_drop] at *; omega))) rfl rfl rfl ?_
  refine J.y (op_load rfl rfl Tryd.isAgg9 (m := m42) (by simp) (h42.sl.elem (strsV_get (getSome [] (by first | omega | (simp only [List.length_append, List.length_cons, List.length_nil, List.length_take, List.length_drop] at *; omega)))))) rfl rfl rfl ?_
  rw [← hr]
  refine J.e (op_call rfl rfl ent84 (Ct.use (new := fun g => [RSb g (⟨r, 0⟩ : RS)]) (fun F' _ => (read_ct F' r).mono (φ2 := fun _ => True) (val2 := Ptr) (ms2 := fun g => F' :: [RSb g (⟨r, 0⟩ : RS)]) id (fun _ _ => rfl) (fun _ h => h) (fun x w0 w _ h => h.pick [1, 0] (by decide))))) rfl rfl rfl ?_
  rintro g52 _
  change J _ ((52, Ptr g52) :: _) _ [F, m21, blk g31 (bkC gd first (count / 2) X A31 c31 false) 130, m31, blk g40 [Ptr g21, Ptr g31, I 0] 139, m42, RSb g52 (⟨r, 0⟩ : RS)] _
  refine J.y (op_assign rfl rfl) rfl rfl rfl ?_
  refine J.nil ?_
  refine J.then_n (J.k hK12 ?_)
  refine J.keepE [(15, _), (17, _)] ⟨rfl, rfl, trivial⟩ ?_
  refine J.seq (fun K13 hK13 => ?_)
  refine J.region ?_
  refine J.y (op_move rfl rfl) rfl rfl rfl ?_
  refine J.y (op_move rfl rfl) rfl rfl rfl ?_
  refine J.e (op_call rfl rfl ent85 (Ct.use1 6 (m' := fun _ : Unit => RSb g52 ((⟨r, 0⟩ : RS).take 2)) (new := fun _ => []) rfl (fun F' _ => rnum_ct F' g52 (⟨r, 0⟩ : RS) 2 (by decide) (by decide)))) rfl rfl rfl ?_
  intro g55 _
  change J _ _ _ [F, m21, blk g31 (bkC gd first (count / 2) X A31 c31 false) 130, m31, blk g40 [Ptr g21, Ptr g31, I 0] 139, m42, RSb g52 ((⟨r, 0⟩ : RS).take 2)] _
  refine J.y (op_cvU_toI (a := natB ((⟨r, 0⟩ : RS).out 2)) rfl rfl Tryd.underlying108 Tryd.underlying3 (by first | omega | (simp only [List.length_append, List.length_cons, List.length_nil, List.length_take, List.length_drop] at *; omega))) rfl rfl rfl ?_
  refine J.y (op_nilCheck rfl rfl) rfl rfl rfl ?_
  refine J.y (op_fieldAddr (j := 2) rfl rfl Tryd.underlying139 rfl Tryd.sizeOf3 rfl) rfl rfl rfl ?_
  refine J.s (op_store (i := 4) (l := [Ptr g21, Ptr g31, I 0]) (vs := [I ((natB ((⟨r, 0⟩ : RS).out 2) : Nat) : Int)]) rfl rfl rfl rfl rfl Tryd.sizeOf3 rfl (by simp)) rfl rfl (fun _ _ => ?_)
  change J _ _ _ [F, m21, blk g31 (bkC gd first (count / 2) X A31 c31 false) 130, m31, blk g40 [Ptr g21, Ptr g31, I ((natB ((⟨r, 0⟩ : RS).out 2) : Nat) : Int)] 139, m42, RSb g52 ((⟨r, 0⟩ : RS).take 2)] _
  refine J.nil ?_
  refine J.then_n (J.k hK13 ?_)
  refine J.keepE [(15, _), (17, _)] ⟨rfl, rfl, trivial⟩ ?_
  refine J.seq (fun K14 hK14 => ?_)
  refine J.region ?_
  refine J.y (op_move rfl rfl) rfl rfl rfl ?_
  refine J.e (op_call rfl rfl ent86 (Ct.use1 6 (m' := fun _ : Unit => RSb g52 ((⟨r, 0⟩ : RS).take 2)) (new := fun _ => []) rfl (fun F' _ => end_ct F' g52 ((⟨r, 0⟩ : RS).take 2) ))) rfl rfl rfl ?_
  intro g60 _
  change J _ _ _ [F, m21, blk g31 (bkC gd first (count / 2) X A31 c31 false) 130, m31, blk g40 [Ptr g21, Ptr g31, I ((natB ((⟨r, 0⟩ : RS).out 2) : Nat) : Int)] 139, m42, RSb g52 ((⟨r, 0⟩ : RS).take 2)] _
  refine J.y ((op_neq rfl rfl rfl).as (v' := .bool true) (congrArg Value.bool (decide_eq_true (hlast)))) rfl rfl rfl ?_
  refine J.nil ?_
  refine J.then_n (J.k hK14 ?_)
  refine J.keepE [(15, _), (61, _)] ⟨rfl, rfl, trivial⟩ ?_
  refine J.condT rfl rfl ?_
  refine J.seq (fun K15 hK15 => ?_)
  refine J.region ?_
  refine J.y (op_assign rfl rfl) rfl rfl rfl ?_
  refine J.y (op_assign rfl rfl) rfl rfl rfl ?_
  refine J.nil ?_
  refine J.then_n (J.k hK15 ?_)
  refine J.keepE [(10, _), (11, _)] ⟨rfl, rfl, trivial⟩ ?_
  refine J.ret ?_
  refine J.then_r ?_
  exact J.done hw0 (fun _ _ h => h) (res2 rfl rfl rfl) (retOk () rfl trivial [0] rfl (by decide))

theorem sopenB_ct (F : Hp) (gd : Nat) (z1 z2 : Int) (seed : List UInt8) (h : Int) (hh : h < 0 ∨ 6 < h) : Ct Tryd.prog 35 [Ptr gd, I (z1), I (z2), Str (seed), I (h)] [F] (fun _ : Unit => .tuple #[.pointer none, I ((1 : Nat) : Int)]) (fun _ => True) (fun _ => [F]) := by
  refine Ct.walk Tryd.func35 rfl Tryd.ntmps35 rfl (fun w0 hw0 => ?_)
  change J _ [(0, _), (1, _), (2, _), (3, _), (4, _)] _ _ _
  refine J.seq (fun K1 hK1 => ?_)
  refine J.region ?_
  refine J.y (op_assign rfl rfl) rfl rfl rfl ?_
  refine J.y (op_assign rfl rfl) rfl rfl rfl ?_
  refine J.nil ?_
  refine J.then_n (J.k hK1 ?_)
  refine J.keepE [(0, _), (1, _), (2, _), (3, _), (4, _)] ⟨rfl, rfl, rfl, rfl, rfl, trivial⟩ ?_
  refine J.seq (fun K2 hK2 => ?_)
  refine J.region ?_
  refine J.y (op_move rfl rfl) rfl rfl rfl ?_
  refine J.y (op_move rfl rfl) rfl rfl rfl ?_
  refine J.e (op_call rfl rfl ent82 (Ct.use0 (fun F' hF => xnewB_ct F' seed h hh))) rfl rfl rfl ?_
  intro g21 _
  refine J.y (op_move rfl rfl) rfl rfl rfl ?_
  refine J.y (op_extract (v := .pointer none) rfl rfl rfl) rfl rfl rfl ?_
  refine J.y (op_extract (v := I ((1 : Nat) : Int)) rfl rfl rfl) rfl rfl rfl ?_
  refine J.y (op_assign rfl rfl) rfl rfl rfl ?_
  refine J.y (op_assign rfl rfl) rfl rfl rfl ?_
  refine J.nil ?_
  refine J.then_n (J.k hK2 ?_)
  refine J.keepE [(0, _), (1, _), (2, _), (12, _), (13, _)] ⟨rfl, rfl, rfl, rfl, rfl, trivial⟩ ?_
  refine J.seq (fun K3 hK3 => ?_)
  refine J.seq (fun K4 hK4 => ?_)
  refine J.region ?_
  refine J.y (op_move rfl rfl) rfl rfl rfl ?_
  refine J.y ((op_neq rfl rfl rfl).as (v' := .bool true) (congrArg Value.bool (decide_eq_true (by decide)))) rfl rfl rfl ?_
  refine J.nil ?_
  refine J.then_n (J.k hK4 ?_)
  refine J.keepE [(0, _), (1, _), (2, _), (12, _), (13, _), (25, _)] ⟨rfl, rfl, rfl, rfl, rfl, rfl, trivial⟩ ?_
  refine J.condT rfl rfl ?_
  refine J.seq (fun K5 hK5 => ?_)
  refine J.region ?_
  refine J.y (op_move rfl rfl) rfl rfl rfl ?_
  refine J.y (op_assign rfl rfl) rfl rfl rfl ?_
  refine J.y (op_assign rfl rfl) rfl rfl rfl ?_
  refine J.nil ?_
  refine J.then_n (J.k hK5 ?_)
  refine J.keepE [(10, _), (11, _)] ⟨rfl, rfl, trivial⟩ ?_
  refine J.ret ?_
  refine J.then_r ?_
  exact J.done hw0 (fun _ _ h => h) (res2 rfl rfl rfl) (retOk () rfl trivial [0] rfl (by decide))

theorem sopenC_ct (F : Hp) (hK : Cells F ⟨1, 0, none⟩ (Sha.K.map W32)) (gd : Nat) (d : Dk) (A : Option Addr) (c : Nat) (B : Option Addr) (e : Nat) (C : Option Addr) (f : Nat) (hc : Cells F ⟨gd, 0, none⟩ (d.cells A c B e C f)) (hn1 : d.last.length ≤ 1024) (first count : Nat) (hcn : count < 8) (hf1 : first ≤ 1048576) (seed : List UInt8) (hsd : seed.length ≤ 1048576) (kh : Nat) (h6 : kh ≤ 6) : Ct Tryd.prog 35 [Ptr gd, I ((first : Nat) : Int), I ((count : Nat) : Int), Str (seed), I ((kh : Nat) : Int)] [F] (fun _ : Unit => .tuple #[.pointer none, I ((1 : Nat) : Int)]) (fun _ => True) (fun _ => [F]) := by
  refine Ct.walk Tryd.func35 rfl Tryd.ntmps35 rfl (fun w0 hw0 => ?_)
  change J _ [(0, _), (1, _), (2, _), (3, _), (4, _)] _ _ _
  refine J.seq (fun K1 hK1 => ?_)
  refine J.region ?_
  refine J.y (op_assign rfl rfl) rfl rfl rfl ?_
  refine J.y (op_assign rfl rfl) rfl rfl rfl ?_
  refine J.nil ?_
  refine J.then_n (J.k hK1 ?_)
  refine J.keepE [(0, _), (1, _), (2, _), (3, _), (4, _)] ⟨rfl, rfl, rfl, rfl, rfl, trivial⟩ ?_
  refine J.seq (fun K2 hK2 => ?_)
  refine J.region ?_
  refine J.y (op_move rfl rfl) rfl rfl rfl ?_
  refine J.y (op_move rfl rfl) rfl rfl rfl ?_
  refine J.e (op_call rfl rfl ent82 (Ct.use (new := fun x : Nat × Hp => [x.2]) (fun F' hF => xnewK_ct F' (hK.mono (hF F (by simp))) seed kh hsd h6))) rfl rfl rfl ?_
  rintro ⟨g21, m21⟩ h21
  try dsimp only at h21
  change J _ ((21, .tuple #[Ptr g21, I 0]) :: _) _ [F, m21] _
  refine J.y (op_move rfl rfl) rfl rfl rfl ?_
  refine J.y (op_extract (v := Ptr g21) rfl rfl rfl) rfl rfl rfl ?_
  refine J.y (op_extract (v := I ((0 : Nat) : Int)) rfl rfl rfl) rfl rfl rfl ?_
  refine J.y (op_assign rfl rfl) rfl rfl rfl ?_
  refine J.y (op_assign rfl rfl) rfl rfl rfl ?_
  refine J.nil ?_
  refine J.then_n (J.k hK2 ?_)
  refine J.keepE [(0, _), (1, _), (2, _), (12, _), (13, _)] ⟨rfl, rfl, rfl, rfl, rfl, trivial⟩ ?_
  refine J.seq (fun K3 hK3 => ?_)
  refine J.seq (fun K4 hK4 => ?_)
  refine J.region ?_
  refine J.y (op_move rfl rfl) rfl rfl rfl ?_
  refine J.y ((op_neq rfl rfl rfl).as (v' := .bool false) (congrArg Value.bool (decide_eq_false (by decide)))) rfl rfl rfl ?_
  refine J.nil ?_
  refine J.then_n (J.k hK4 ?_)
  refine J.keepE [(0, _), (1, _), (2, _), (12, _), (13, _), (25, _)] ⟨rfl, rfl, rfl, rfl, rfl, rfl, trivial⟩ ?_
  refine J.condF rfl rfl ?_
  refine J.skip ?_
  refine J.then_n (J.k hK3 ?_)
  refine J.keepE [(0, _), (1, _), (2, _), (12, _)] ⟨rfl, rfl, rfl, rfl, trivial⟩ ?_
  refine J.seq (fun K5 hK5 => ?_)
  refine J.region ?_
  refine J.y (op_move rfl rfl) rfl rfl rfl ?_
  refine J.y (op_move rfl rfl) rfl rfl rfl ?_
  refine J.y (op_move rfl rfl) rfl rfl rfl ?_
  refine J.e (op_call rfl rfl ent33 (Ct.use0 (fun F' hF => open_no_ct F' gd d A c B e C f (hc.mono (hF F (by simp))) ((first : Nat) : Int) ((count : Nat) : Int) (by omega) (by omega) hn1 (by omega)))) rfl rfl rfl ?_
  intro g31 _
  refine J.y (op_move rfl rfl) rfl rfl rfl ?_
  refine J.y (op_extract (v := .pointer none) rfl rfl rfl) rfl rfl rfl ?_
  refine J.y (op_extract (v := I ((1 : Nat) : Int)) rfl rfl rfl) rfl rfl rfl ?_
  refine J.y (op_assign rfl rfl) rfl rfl rfl ?_
  refine J.y (op_assign rfl rfl) rfl rfl rfl ?_
  refine J.nil ?_
  refine J.then_n (J.k hK5 ?_)
  refine J.keepE [(12, _), (13, _), (14, _)] ⟨rfl, rfl, rfl, trivial⟩ ?_
  refine J.seq (fun K6 hK6 => ?_)
  refine J.seq (fun K7 hK7 => ?_)
  refine J.region ?_
  refine J.y (op_move rfl rfl) rfl rfl rfl ?_
  refine J.y ((op_neq rfl rfl rfl).as (v' := .bool true) (congrArg Value.bool (decide_eq_true (by decide)))) rfl rfl rfl ?_
  refine J.nil ?_
  refine J.then_n (J.k hK7 ?_)
  refine J.keepE [(12, _), (13, _), (14, _), (35, _)] ⟨rfl, rfl, rfl, rfl, trivial⟩ ?_
  refine J.condT rfl rfl ?_
  refine J.seq (fun K8 hK8 => ?_)
  refine J.region ?_
  refine J.y (op_move rfl rfl) rfl rfl rfl ?_
  refine J.y (op_assign rfl rfl) rfl rfl rfl ?_
  refine J.y (op_assign rfl rfl) rfl rfl rfl ?_
  refine J.nil ?_
  refine J.then_n (J.k hK8 ?_)
  refine J.keepE [(10, _), (11, _)] ⟨rfl, rfl, trivial⟩ ?_
  refine J.ret ?_
  refine J.then_r ?_
  exact J.done hw0 (fun _ _ h => h) (res2 rfl rfl rfl) (retOk () rfl trivial [0] rfl (by decide))

end Go.Proofs.YtnkfapecbmmpeaaDoor
