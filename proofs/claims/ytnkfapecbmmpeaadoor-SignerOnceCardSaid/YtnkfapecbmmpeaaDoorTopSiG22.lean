/- A part of the proof: contracts of functions of the program, each for every state of the heaps that it names. -/
import Derived.Test.YtnkfapecbmmpeaaDoorTopSiG19
import Derived.Test.YtnkfapecbmmpeaaDoorTopSiG21
set_option linter.unusedSimpArgs false
set_option linter.unusedVariables false
namespace Go.Proofs.YtnkfapecbmmpeaaDoor
open Go Go.Fw
set_option maxRecDepth 100000
set_option maxHeartbeats 1000000
theorem ent33 : Enters Tryd.prog 33 := Enters.of Tryd.func33 rfl (by kernel_rfl)
theorem ent82 : Enters Tryd.prog 82 := Enters.of Tryd.func82 rfl (by kernel_rfl)
theorem ent83 : Enters Tryd.prog 83 := Enters.of Tryd.func83 rfl (by kernel_rfl)
theorem ent86 : Enters Tryd.prog 86 := Enters.of Tryd.func86 rfl (by kernel_rfl)

/-- an index' note -/
def note (nx : Nat) : List UInt8 := Sha.numB (UInt64.ofNat (nx + 1)) 2
theorem note_len (nx : Nat) : (note nx).length = 2 := Sha.numB_length _ _

theorem sopen_e (F : Hp) (hK : Cells F ⟨1, 0, none⟩ (Sha.K.map W32)) (gd : Nat) (d : Dk) (hok : d.ok) (A : Option Addr) (c : Nat) (B : Option Addr) (e : Nat) (C : Option Addr) (f : Nat) (hc : Cells F ⟨gd, 0, none⟩ (d.cells A c B e C f)) (hL : Sl F 1 A d.last.length c (strsV d.last)) (hW : Sl F 2 B d.wait.length e (writV d.wait)) (hn2 : d.wait.length ≤ 1073741824) (first count : Nat) (h8 : 8 ≤ count) (hfc : first + count ≤ d.last.length) (hoff : d.off = false) (seed : List UInt8) (hsd : seed.length ≤ 1048576) (kh : Nat) (h6 : kh ≤ 6) (X : Hlf) (hX : hst d first (count / 2) 2 = X) (hXn : X.R.length ≤ 1048576) (hR : X.R = []) : Ct Tryd.prog 35 [Ptr gd, I ((first : Nat) : Int), I ((count : Nat) : Int), Str seed, I ((kh : Nat) : Int)] [F] (fun x : (Nat × Hp) × (Nat × Option Addr × Nat × Hp) × Nat => .tuple #[Ptr x.2.2, I ((0 : Nat) : Int)]) (fun x => KeyA x.1.2 x.1.1 seed kh ∧ Row x.2.1.2.2.2 9 1 x.2.1.2.1 X.R.length x.2.1.2.2.1 (strsV X.R)) (fun x => [F, x.1.2, blk x.2.1.1 (bkC gd first (count / 2) X x.2.1.2.1 x.2.1.2.2.1 false) 130, x.2.1.2.2.2, blk x.2.2 [Ptr x.1.1, Ptr x.2.1.1, I ((0 : Nat) : Int)] 139]) := by
  refine Ct.walk Tryd.func35 rfl Tryd.ntmps35 rfl (fun w0 hw0 => ?_)
  change J _ [(0, _), (1, _), (2, _), (3, _), (4, _)] _ _ _
  refine J.seq (fun K1 hK1 => ?_)
  refine J.region ?_
  refine J.y (op_assign rfl rfl) rfl rfl rfl ?_
  refine J.y (op_assign rfl rfl) rfl rfl rfl ?_
  refine J.nil ?_
  refine J.then_n (J.k hK1 ?_)
  refine J.keepE [(0, _), (1, _), (2, _), (3, _), (4, _)] ⟨rfl, rfl, rfl, rfl, rfl, trivial⟩ ?_
  refine J.seq (fun K2 hK2 => ?_)
  refine J.region ?_
  refine J.y (op_move rfl rfl) rfl rfl rfl ?_
  refine J.y (op_move rfl rfl) rfl rfl rfl ?_
  refine J.e (op_call rfl rfl ent82 (Ct.use (new := fun x : Nat × Hp => [x.2]) (fun F' hF => xnewK_ct F' (hK.mono (hF F (by simp))) seed kh hsd h6))) rfl rfl rfl ?_
  rintro ⟨g21, m21⟩ h21
  try dsimp only at h21
  change J _ ((21, .tuple #[Ptr g21, I 0]) :: _) _ [F, m21] _
  refine J.y (op_move rfl rfl) rfl rfl rfl ?_
  refine J.y (op_extract (v := Ptr g21) rfl rfl rfl) rfl rfl rfl ?_
  refine J.y (op_extract (v := I ((0 : Nat) : Int)) rfl rfl rfl) rfl rfl rfl ?_
  refine J.y (op_assign rfl rfl) rfl rfl rfl ?_
  refine J.y (op_assign rfl rfl) rfl rfl rfl ?_
  refine J.nil ?_
  refine J.then_n (J.k hK2 ?_)
  refine J.keepE [(0, _), (1, _), (2, _), (12, _), (13, _)] ⟨rfl, rfl, rfl, rfl, rfl, trivial⟩ ?_
  refine J.seq (fun K3 hK3 => ?_)
  refine J.seq (fun K4 hK4 => ?_)
  refine J.region ?_
  refine J.y (op_move rfl rfl) rfl rfl rfl ?_
  refine J.y ((op_neq rfl rfl rfl).as (v' := .bool false) (congrArg Value.bool (decide_eq_false (by decide)))) rfl rfl rfl ?_
  refine J.nil ?_
  refine J.then_n (J.k hK4 ?_)
  refine J.keepE [(0, _), (1, _), (2, _), (12, _), (13, _), (25, _)] ⟨rfl, rfl, rfl, rfl, rfl, rfl, trivial⟩ ?_
  refine J.condF rfl rfl ?_
  refine J.skip ?_
  refine J.then_n (J.k hK3 ?_)
  refine J.keepE [(0, _), (1, _), (2, _), (12, _)] ⟨rfl, rfl, rfl, rfl, trivial⟩ ?_
  refine J.seq (fun K5 hK5 => ?_)
  refine J.region ?_
  refine J.y (op_move rfl rfl) rfl rfl rfl ?_
  refine J.y (op_move rfl rfl) rfl rfl rfl ?_
  refine J.y (op_move rfl rfl) rfl rfl rfl ?_
  refine J.e (op_call rfl rfl ent33 (Ct.use (new := fun x : Nat × Option Addr × Nat × Hp => [blk x.1 (bkC gd first (count / 2) X x.2.1 x.2.2.1 false) 130, x.2.2.2]) (fun F' hF => by have := bopen_ct F' (hK.mono (hF F (by simp))) gd d hok A c B e C f (hc.mono (hF F (by simp))) (hL.mono (hF F (by simp))) (hW.mono (hF F (by simp))) hn2 first count h8 hfc hoff; rw [hX] at this; exact this))) rfl rfl rfl ?_
  rintro ⟨g31, A31, c31, m31⟩ h31
  try dsimp only at h31
  change J _ ((31, .tuple #[Ptr g31, I ((0 : Nat) : Int)]) :: _) _ [F, m21, blk g31 (bkC gd first (count / 2) X A31 c31 false) 130, m31] _
  refine J.y (op_move rfl rfl) rfl rfl rfl ?_
  refine J.y (op_extract (v := Ptr g31) rfl rfl rfl) rfl rfl rfl ?_
  refine J.y (op_extract (v := I ((0 : Nat) : Int)) rfl rfl rfl) rfl rfl rfl ?_
  refine J.y (op_assign rfl rfl) rfl rfl rfl ?_
  refine J.y (op_assign rfl rfl) rfl rfl rfl ?_
  refine J.nil ?_
  refine J.then_n (J.k hK5 ?_)
  refine J.keepE [(12, _), (13, _), (14, _)] ⟨rfl, rfl, rfl, trivial⟩ ?_
  refine J.seq (fun K6 hK6 => ?_)
  refine J.seq (fun K7 hK7 => ?_)
  refine J.region ?_
  refine J.y (op_move rfl rfl) rfl rfl rfl ?_
  refine J.y ((op_neq rfl rfl rfl).as (v' := .bool false) (congrArg Value.bool (decide_eq_false (by decide)))) rfl rfl rfl ?_
  refine J.nil ?_
  refine J.then_n (J.k hK7 ?_)
  refine J.keepE [(12, _), (13, _), (14, _), (35, _)] ⟨rfl, rfl, rfl, rfl, trivial⟩ ?_
  refine J.condF rfl rfl ?_
  refine J.skip ?_
  refine J.then_n (J.k hK6 ?_)
  refine J.keepE [(12, _), (14, _)] ⟨rfl, rfl, trivial⟩ ?_
  refine J.seq (fun K8 hK8 => ?_)
  refine J.region ?_
  refine J.y (op_move rfl rfl) rfl rfl rfl ?_
  refine J.y (op_move rfl rfl) rfl rfl rfl ?_
  refine J.y (op_buildStruct (l := [(0, .tmp 37), (1, .tmp 38)]) (vs := [Ptr g21, Ptr g31]) (places := [(0, 1), (1, 1), (2, 1)]) (r := [Ptr g21, Ptr g31, I 0]) rfl rfl rfl Tryd.underlying139 Tryd.zeroValue139 (fun _ => by kernel_rfl) rfl) rfl rfl rfl ?_
  refine J.e (op_box (l := [Ptr g21, Ptr g31, I 0]) rfl rfl rfl) rfl rfl rfl ?_
  intro g40 _
  change J _ _ _ [F, m21, blk g31 (bkC gd first (count / 2) X A31 c31 false) 130, m31, blk g40 [Ptr g21, Ptr g31, I 0] 139] _
  refine J.y (op_assign rfl rfl) rfl rfl rfl ?_
  refine J.nil ?_
  refine J.then_n (J.k hK8 ?_)
  refine J.keepE [(14, _), (15, _)] ⟨rfl, rfl, trivial⟩ ?_
  refine J.seq (fun K9 hK9 => ?_)
  refine J.seq (fun K10 hK10 => ?_)
  refine J.region ?_
  refine J.y (op_move rfl rfl) rfl rfl rfl ?_
  refine J.e (op_call rfl rfl ent83 (Ct.use (new := fun x : Option Addr × Nat × Hp => [x.2.2]) (fun F' hF => records_ct F' g31 gd ((first : Nat) : Int) (count / 2) ((X.at_ : Nat) : Int) X.t ((X.e : Nat) : Int) A31 X.R.length c31 false (Cells.blk0.mono (hF (blk g31 (bkC gd first (count / 2) X A31 c31 false) 130) (by simp))) X.R rfl (h31.sl.mono (hF m31 (by simp))) (by omega)))) rfl rfl rfl ?_
  rintro ⟨A42, c42, m42⟩ h42
  try dsimp only at h42
  change J _ ((42, .slice A42 X.R.length c42) :: _) _ [F, m21, blk g31 (bkC gd first (count / 2) X A31 c31 false) 130, m31, blk g40 [Ptr g21, Ptr g31, I 0] 139, m42] _
  refine J.y (op_assign rfl rfl) rfl rfl rfl ?_
  refine J.nil ?_
  refine J.then_n (J.k hK10 ?_)
  refine J.keepE [(15, _), (16, _)] ⟨rfl, rfl, trivial⟩ ?_
  refine J.seq (fun K11 hK11 => ?_)
  refine J.region ?_
  refine J.y (op_move rfl rfl) rfl rfl rfl ?_
  refine J.y (op_len Tryd.underlying55 rfl rfl) rfl rfl rfl ?_
  refine J.y ((op_gtr rfl rfl rfl).as (v' := .bool false) (congrArg Value.bool (decide_eq_false (by rw [hR]; decide)))) rfl rfl rfl ?_
  refine J.nil ?_
  refine J.then_n (J.k hK11 ?_)
  refine J.keepE [(15, _), (16, _), (45, _)] ⟨rfl, rfl, rfl, trivial⟩ ?_
  refine J.condF rfl rfl ?_
  refine J.skip ?_
  refine J.then_n (J.k hK9 ?_)
  refine J.keepE [(15, _)] ⟨rfl, trivial⟩ ?_
  refine J.seq (fun K12 hK12 => ?_)
  refine J.region ?_
  refine J.y (op_move rfl rfl) rfl rfl rfl ?_
  refine J.y (op_assign rfl rfl) rfl rfl rfl ?_
  refine J.y (op_assign rfl rfl) rfl rfl rfl ?_
  refine J.nil ?_
  refine J.then_n (J.k hK12 ?_)
  refine J.keepE [(10, _), (11, _)] ⟨rfl, rfl, trivial⟩ ?_
  refine J.ret ?_
  exact J.done hw0 (fun _ _ h => h) (res2 rfl rfl rfl) (retOk ((g21, m21), (g31, A31, c31, m31), g40) rfl ⟨h21, h31⟩ [0, 1, 2, 3, 4] rfl (by decide))

theorem sopen_y (F : Hp) (hK : Cells F ⟨1, 0, none⟩ (Sha.K.map W32)) (gd : Nat) (d : Dk) (hok : d.ok) (A : Option Addr) (c : Nat) (B : Option Addr) (e : Nat) (C : Option Addr) (f : Nat) (hc : Cells F ⟨gd, 0, none⟩ (d.cells A c B e C f)) (hL : Sl F 1 A d.last.length c (strsV d.last)) (hW : Sl F 2 B d.wait.length e (writV d.wait)) (hn2 : d.wait.length ≤ 1073741824) (first count : Nat) (h8 : 8 ≤ count) (hfc : first + count ≤ d.last.length) (hoff : d.off = false) (seed : List UInt8) (hsd : seed.length ≤ 1048576) (kh : Nat) (h6 : kh ≤ 6) (X : Hlf) (hX : hst d first (count / 2) 2 = X) (hXn : X.R.length ≤ 1048576) (hR : 0 < X.R.length) (r : List UInt8) (hr : r = (X.R.getD (X.R.length - 1) [])) (hr2 : r.length = 2) : Ct Tryd.prog 35 [Ptr gd, I ((first : Nat) : Int), I ((count : Nat) : Int), Str seed, I ((kh : Nat) : Int)] [F] (fun x : (Nat × Hp) × (Nat × Option Addr × Nat × Hp) × Nat => .tuple #[Ptr x.2.2, I ((0 : Nat) : Int)]) (fun x => KeyA x.1.2 x.1.1 seed kh ∧ Row x.2.1.2.2.2 9 1 x.2.1.2.1 X.R.length x.2.1.2.2.1 (strsV X.R)) (fun x => [F, x.1.2, blk x.2.1.1 (bkC gd first (count / 2) X x.2.1.2.1 x.2.1.2.2.1 false) 130, x.2.1.2.2.2, blk x.2.2 [Ptr x.1.1, Ptr x.2.1.1, I ((natB r : Nat) : Int)] 139]) := by
  refine Ct.walk Tryd.func35 rfl Tryd.ntmps35 rfl (fun w0 hw0 => ?_)
  change J _ [(0, _), (1, _), (2, _), (3, _), (4, _)] _ _ _
  refine J.seq (fun K1 hK1 => ?_)
  refine J.region ?_
  refine J.y (op_assign rfl rfl) rfl rfl rfl ?_
  refine J.y (op_assign rfl rfl) rfl rfl rfl ?_
  refine J.nil ?_
  refine J.then_n (J.k hK1 ?_)
  refine J.keepE [(0, _), (1, _), (2, _), (3, _), (4, _)] ⟨rfl, rfl, rfl, rfl, rfl, trivial⟩ ?_
  refine J.seq (fun K2 hK2 => ?_)
  refine J.region ?_
  refine J.y (op_move rfl rfl) rfl rfl rfl ?_
  refine J.y (op_move rfl rfl) rfl rfl rfl ?_
  refine J.e (op_call rfl rfl ent82 (Ct.use (new := fun x : Nat × Hp => [x.2]) (fun F' hF => xnewK_ct F' (hK.mono (hF F (by simp))) seed kh hsd h6))) rfl rfl rfl ?_
  rintro ⟨g21, m21⟩ h21
  try dsimp only at h21
  change J _ ((21, .tuple #[Ptr g21, I 0]) :: _) _ [F, m21] _
  refine J.y (op_move rfl rfl) rfl rfl rfl ?_
  refine J.y (op_extract (v := Ptr g21) rfl rfl rfl) rfl rfl rfl ?_
  refine J.y (op_extract (v := I ((0 : Nat) : Int)) rfl rfl rfl) rfl rfl rfl ?_
  refine J.y (op_assign rfl rfl) rfl rfl rfl ?_
  refine J.y (op_assign rfl rfl) rfl rfl rfl ?_
  refine J.nil ?_
  refine J.then_n (J.k hK2 ?_)
  refine J.keepE [(0, _), (1, _), (2, _), (12, _), (13, _)] ⟨rfl, rfl, rfl, rfl, rfl, trivial⟩ ?_
  refine J.seq (fun K3 hK3 => ?_)
  refine J.seq (fun K4 hK4 => ?_)
  refine J.region ?_
  refine J.y (op_move rfl rfl) rfl rfl rfl ?_
  refine J.y ((op_neq rfl rfl rfl).as (v' := .bool false) (congrArg Value.bool (decide_eq_false (by decide)))) rfl rfl rfl ?_
  refine J.nil ?_
  refine J.then_n (J.k hK4 ?_)
  refine J.keepE [(0, _), (1, _), (2, _), (12, _), (13, _), (25, _)] ⟨rfl, rfl, rfl, rfl, rfl, rfl, trivial⟩ ?_
  refine J.condF rfl rfl ?_
  refine J.skip ?_
  refine J.then_n (J.k hK3 ?_)
  refine J.keepE [(0, _), (1, _), (2, _), (12, _)] ⟨rfl, rfl, rfl, rfl, trivial⟩ ?_
  refine J.seq (fun K5 hK5 => ?_)
  refine J.region ?_
  refine J.y (op_move rfl rfl) rfl rfl rfl ?_
  refine J.y (op_move rfl rfl) rfl rfl rfl ?_
  refine J.y (op_move rfl rfl) rfl rfl rfl ?_
  refine J.e (op_call rfl rfl ent33 (Ct.use (new := fun x : Nat × Option Addr × Nat × Hp => [blk x.1 (bkC gd first (count / 2) X x.2.1 x.2.2.1 false) 130, x.2.2.2]) (fun F' hF => by have := bopen_ct F' (hK.mono (hF F (by simp))) gd d hok A c B e C f (hc.mono (hF F (by simp))) (hL.mono (hF F (by simp))) (hW.mono (hF F (by simp))) hn2 first count h8 hfc hoff; rw [hX] at this; exact this))) rfl rfl rfl ?_
  rintro ⟨g31, A31, c31, m31⟩ h31
  try dsimp only at h31
  change J _ ((31, .tuple #[Ptr g31, I ((0 : Nat) : Int)]) :: _) _ [F, m21, blk g31 (bkC gd first (count / 2) X A31 c31 false) 130, m31] _
  refine J.y (op_move rfl rfl) rfl rfl rfl ?_
  refine J.y (op_extract (v := Ptr g31) rfl rfl rfl) rfl rfl rfl ?_
  refine J.y (op_extract (v := I ((0 : Nat) : Int)) rfl rfl rfl) rfl rfl rfl ?_
  refine J.y (op_assign rfl rfl) rfl rfl rfl ?_
  refine J.y (op_assign rfl rfl) rfl rfl rfl ?_
  refine J.nil ?_
  refine J.then_n (J.k hK5 ?_)
  refine J.keepE [(12, _), (13, _), (14, _)] ⟨rfl, rfl, rfl, trivial⟩ ?_
  refine J.seq (fun K6 hK6 => ?_)
  refine J.seq (fun K7 hK7 => ?_)
  refine J.region ?_
  refine J.y (op_move rfl rfl) rfl rfl rfl ?_
  refine J.y ((op_neq rfl rfl rfl).as (v' := .bool false) (congrArg Value.bool (decide_eq_false (by decide)))) rfl rfl rfl ?_
  refine J.nil ?_
  refine J.then_n (J.k hK7 ?_)
  refine J.keepE [(12, _), (13, _), (14, _), (35, _)] ⟨rfl, rfl, rfl, rfl, trivial⟩ ?_
  refine J.condF rfl rfl ?_
  refine J.skip ?_
  refine J.then_n (J.k hK6 ?_)
  refine J.keepE [(12, _), (14, _)] ⟨rfl, rfl, trivial⟩ ?_
  refine J.seq (fun K8 hK8 => ?_)
  refine J.region ?_
  refine J.y (op_move rfl rfl) rfl rfl rfl ?_
  refine J.y (op_move rfl rfl) rfl rfl rfl ?_
  refine J.y (op_buildStruct (l := [(0, .tmp 37), (1, .tmp 38)]) (vs := [Ptr g21, Ptr g31]) (places := [(0, 1), (1, 1), (2, 1)]) (r := [Ptr g21, Ptr g31, I 0]) rfl rfl rfl Tryd.underlying139 Tryd.zeroValue139 (fun _ => by kernel_rfl) rfl) rfl rfl rfl ?_
  refine J.e (op_box (l := [Ptr g21, Ptr g31, I 0]) rfl rfl rfl) rfl rfl rfl ?_
  intro g40 _
  change J _ _ _ [F, m21, blk g31 (bkC gd first (count / 2) X A31 c31 false) 130, m31, blk g40 [Ptr g21, Ptr g31, I 0] 139] _
  refine J.y (op_assign rfl rfl) rfl rfl rfl ?_
  refine J.nil ?_
  refine J.then_n (J.k hK8 ?_)
  refine J.keepE [(14, _), (15, _)] ⟨rfl, rfl, trivial⟩ ?_
  refine J.seq (fun K9 hK9 => ?_)
  refine J.seq (fun K10 hK10 => ?_)
  refine J.region ?_
  refine J.y (op_move rfl rfl) rfl rfl rfl ?_
  refine J.e (op_call rfl rfl ent83 (Ct.use (new := fun x : Option Addr × Nat × Hp => [x.2.2]) (fun F' hF => records_ct F' g31 gd ((first : Nat) : Int) (count / 2) ((X.at_ : Nat) : Int) X.t ((X.e : Nat) : Int) A31 X.R.length c31 false (Cells.blk0.mono (hF (blk g31 (bkC gd first (count / 2) X A31 c31 false) 130) (by simp))) X.R rfl (h31.sl.mono (hF m31 (by simp))) (by omega)))) rfl rfl rfl ?_
  rintro ⟨A42, c42, m42⟩ h42
  try dsimp only at h42
  change J _ ((42, .slice A42 X.R.length c42) :: _) _ [F, m21, blk g31 (bkC gd first (count / 2) X A31 c31 false) 130, m31, blk g40 [Ptr g21, Ptr g31, I 0] 139, m42] _
  refine J.y (op_assign rfl rfl) rfl rfl rfl ?_
  refine J.nil ?_
  refine J.then_n (J.k hK10 ?_)
  refine J.keepE [(15, _), (16, _)] ⟨rfl, rfl, trivial⟩ ?_
  refine J.seq (fun K11 hK11 => ?_)
  refine J.region ?_
  refine J.y (op_move rfl rfl) rfl rfl rfl ?_
  refine J.y (op_len Tryd.underlying55 rfl rfl) rfl rfl rfl ?_
  refine J.y ((op_gtr rfl rfl rfl).as (v' := .bool true) (congrArg Value.bool (decide_eq_true (by omega)))) rfl rfl rfl ?_
  refine J.nil ?_
  refine J.then_n (J.k hK11 ?_)
  refine J.keepE [(15, _), (16, _), (45, _)] ⟨rfl, rfl, rfl, trivial⟩ ?_
  refine J.condT rfl rfl ?_
  refine J.seq (fun K12 hK12 => ?_)
  have hb2 := natB2 (⟨r, 0⟩ : RS)
  have ht : (⟨r, 0⟩ : RS).take 2 = ⟨[], 0⟩ := by rw [take_ok (by rw [hr2]; exact Nat.le_refl 2), List.drop_of_length_le (by rw [hr2]; exact Nat.le_refl 2)]
  have ho2 : (⟨r, 0⟩ : RS).out 2 = r := by rw [out_ok (by rw [hr2]; exact Nat.le_refl 2), List.take_of_length_le (by rw [hr2]; exact Nat.le_refl 2)]
  rw [ho2] at hb2
  refine J.region ?_
  refine J.y (op_move rfl rfl) rfl rfl rfl ?_
  refine J.y (op_move rfl rfl) rfl rfl rfl ?_
  refine J.y (op_len Tryd.underlying55 rfl rfl) rfl rfl rfl ?_
  refine J.y ((op_sub rfl rfl rfl (by first | omega | (refine ⟨?_, ?_⟩ <;> omega))).as (v' := I ((X.R.length - 1 : Nat) : Int)) (congrArg I (by omega))) rfl rfl rfl ?_
  refine J.y (op_indexAddr (i := X.R.length - 1) rfl rfl rfl Tryd.underlying55 Tryd.sizeOf9 h42.sl (by first | omega | (simp only [List.length_append, List.length_cons, List.length_nil, List.length_take, List.length_drop] at *; omega))) rfl rfl rfl ?_
  refine J.y (op_load rfl rfl Tryd.isAgg9 (m := m42) (by simp) (h42.sl.elem (strsV_get (getSome [] (by first | omega | (simp only [List.length_append, List.length_cons, List.length_nil, List.length_take, List.length_drop] at *; omega)))))) rfl rfl rfl ?_
  rw [← hr]
  refine J.e (op_call rfl rfl ent84 (Ct.use (new := fun g => [RSb g (⟨r, 0⟩ : RS)]) (fun F' _ => (read_ct F' r).mono (φ2 := fun _ => True) (val2 := Ptr) (ms2 := fun g => F' :: [RSb g (⟨r, 0⟩ : RS)]) id (fun _ _ => rfl) (fun _ h => h) (fun x w0 w _ h => h.pick [1, 0] (by decide))))) rfl rfl rfl ?_
  rintro g52 _
  change J _ ((52, Ptr g52) :: _) _ [F, m21, blk g31 (bkC gd first (count / 2) X A31 c31 false) 130, m31, blk g40 [Ptr g21, Ptr g31, I 0] 139, m42, RSb g52 (⟨r, 0⟩ : RS)] _
  refine J.y (op_assign rfl rfl) rfl rfl rfl ?_
  refine J.nil ?_
  refine J.then_n (J.k hK12 ?_)
  refine J.keepE [(15, _), (17, _)] ⟨rfl, rfl, trivial⟩ ?_
  refine J.seq (fun K13 hK13 => ?_)
  refine J.region ?_
  refine J.y (op_move rfl rfl) rfl rfl rfl ?_
  refine J.y (op_move rfl rfl) rfl rfl rfl ?_
  refine J.e (op_call rfl rfl ent85 (Ct.use1 6 (m' := fun _ : Unit => RSb g52 ((⟨r, 0⟩ : RS).take 2)) (new := fun _ => []) rfl (fun F' _ => rnum_ct F' g52 (⟨r, 0⟩ : RS) 2 (by decide) (by decide)))) rfl rfl rfl ?_
  intro g55 _
  change J _ _ _ [F, m21, blk g31 (bkC gd first (count / 2) X A31 c31 false) 130, m31, blk g40 [Ptr g21, Ptr g31, I 0] 139, m42, RSb g52 ((⟨r, 0⟩ : RS).take 2)] _
  rw [ho2]
  refine J.y (op_cvU_toI (a := natB r) rfl rfl Tryd.underlying108 Tryd.underlying3 (by first | omega | (simp only [List.length_append, List.length_cons, List.length_nil, List.length_take, List.length_drop] at *; omega))) rfl rfl rfl ?_
  refine J.y (op_nilCheck rfl rfl) rfl rfl rfl ?_
  refine J.y (op_fieldAddr (j := 2) rfl rfl Tryd.underlying139 rfl Tryd.sizeOf3 rfl) rfl rfl rfl ?_
  refine J.s (op_store (i := 4) (l := [Ptr g21, Ptr g31, I 0]) (vs := [I ((natB r : Nat) : Int)]) rfl rfl rfl rfl rfl Tryd.sizeOf3 rfl (by simp)) rfl rfl (fun _ _ => ?_)
  change J _ _ _ [F, m21, blk g31 (bkC gd first (count / 2) X A31 c31 false) 130, m31, blk g40 [Ptr g21, Ptr g31, I ((natB r : Nat) : Int)] 139, m42, RSb g52 ((⟨r, 0⟩ : RS).take 2)] _
  refine J.nil ?_
  refine J.then_n (J.k hK13 ?_)
  refine J.keepE [(15, _), (17, _)] ⟨rfl, rfl, trivial⟩ ?_
  refine J.seq (fun K14 hK14 => ?_)
  refine J.region ?_
  refine J.y (op_move rfl rfl) rfl rfl rfl ?_
  refine J.e (op_call rfl rfl ent86 (Ct.use1 6 (m' := fun _ : Unit => RSb g52 ((⟨r, 0⟩ : RS).take 2)) (new := fun _ => []) rfl (fun F' _ => end_ct F' g52 ((⟨r, 0⟩ : RS).take 2) ))) rfl rfl rfl ?_
  intro g60 _
  change J _ _ _ [F, m21, blk g31 (bkC gd first (count / 2) X A31 c31 false) 130, m31, blk g40 [Ptr g21, Ptr g31, I ((natB r : Nat) : Int)] 139, m42, RSb g52 ((⟨r, 0⟩ : RS).take 2)] _
  refine J.y ((op_neq rfl rfl rfl).as (v' := .bool false) (congrArg Value.bool (decide_eq_false (by rw [ht]; exact fun h => h rfl)))) rfl rfl rfl ?_
  refine J.nil ?_
  refine J.then_n (J.k hK14 ?_)
  refine J.keepE [(15, _), (61, _)] ⟨rfl, rfl, trivial⟩ ?_
  refine J.condF rfl rfl ?_
  refine J.skip ?_
  refine J.then_n (J.k hK9 ?_)
  refine J.keepE [(15, _)] ⟨rfl, trivial⟩ ?_
  refine J.seq (fun K15 hK15 => ?_)
  refine J.region ?_
  refine J.y (op_move rfl rfl) rfl rfl rfl ?_
  refine J.y (op_assign rfl rfl) rfl rfl rfl ?_
  refine J.y (op_assign rfl rfl) rfl rfl rfl ?_
  refine J.nil ?_
  refine J.then_n (J.k hK15 ?_)
  refine J.keepE [(10, _), (11, _)] ⟨rfl, rfl, trivial⟩ ?_
  refine J.ret ?_
  exact J.done hw0 (fun _ _ h => h) (res2 rfl rfl rfl) (retOk ((g21, m21), (g31, A31, c31, m31), g40) rfl ⟨h21, h31⟩ [0, 1, 2, 3, 4] rfl (by decide))

end Go.Proofs.YtnkfapecbmmpeaaDoor

namespace Go.Proofs.YtnkfapecbmmpeaaDoor
open Go Go.Fw
set_option maxRecDepth 100000
set_option maxHeartbeats 1000000
theorem ent34 : Enters Tryd.prog 34 := Enters.of Tryd.func34 rfl (by kernel_rfl)
theorem ent88 : Enters Tryd.prog 88 := Enters.of Tryd.func88 rfl (by kernel_rfl)
theorem ent89 : Enters Tryd.prog 89 := Enters.of Tryd.func89 rfl (by kernel_rfl)
theorem ent90 : Enters Tryd.prog 90 := Enters.of Tryd.func90 rfl (by kernel_rfl)
attribute [local irreducible] Sha.tagged Wo.pub Wo.publicOf Wo.signs Wo.ends Wo.digs Wo.walk Wo.opn Mk.root Mk.path Mk.climb Xm.root sgC sgP

def maxT (t : UInt64) : UInt64 := if t.toNat = 0 then 1 else t
theorem maxT_eq (t : UInt64) : ((maxT t).toNat : Int) = max ((t.toNat : Nat) : Int) 1 := by
  unfold maxT
  split
  · rename_i h; rw [h]; rfl
  · omega
theorem maxT_lt {t : UInt64} (h : t.toNat < 2 ^ (8 * 4)) : (maxT t).toNat < 2 ^ (8 * 4) := by
  unfold maxT
  split
  · decide
  · exact h
def putX (X : Hlf) (s : List UInt8) : Hlf := ⟨X.at_, maxT X.t, X.R ++ [s], X.e + partsN s.length⟩
def wendH (d : Dk) (X : Hlf) (s : List UInt8) : Dk × Int := wend d (X.at_ + X.e) (fun i => (prt (maxT X.t) (UInt64.ofNat X.R.length) s (partsN s.length) i).text) (partsN s.length)
theorem putH_good (F md : Hp) (hK : Cells F ⟨1, 0, none⟩ (Sha.K.map W32)) (gb gd first size : Nat) (X : Hlf) (A : Option Addr) (c : Nat) (hRs : Sl F 1 A X.R.length c (strsV X.R)) (d : Dk) (C : Option Addr) (f : Nat) (hb : Dsk md gd d C f) (hok : d.ok) (hn2 : d.wait.length ≤ 1048576) (hKp : Sl F 1 C d.keep.length f (bytesV d.keep)) (hn3 : d.keep.length ≤ 9223372036854775807) (s : List UInt8) (hs : s.length ≤ 900)
    (ht : X.t.toNat < 2 ^ (8 * 4)) (hnr : X.R.length < 65536) (hp : X.at_ + size ≤ 1048576) (hfit : X.e + partsN s.length ≤ size) (he : (wendH d X s).2 = 0) :
    Ct Tryd.prog 34 [Ptr gb, Str s] [blk gb (bkC gd first size X A c false) 130, md, F] (fun _ : Hp × Option Addr × Nat × Hp => I 0) (fun x => Dsk x.1 gd (wendH d X s).1 C f ∧ Row x.2.2.2 9 1 x.2.1 (putX X s).R.length x.2.2.1 (strsV (putX X s).R)) (fun x => [blk gb (bkC gd first size (putX X s) x.2.1 x.2.2.1 false) 130, x.1, F, x.2.2.2]) := by
  have h := bput_good_ct F md hK gb gd ((first : Nat) : Int) size X.at_ X.t X.e A X.R.length c d C f hb hok hn2 hKp hn3 X.R rfl hRs s hs _ rfl (maxT X.t) (maxT_eq _) (maxT_lt ht) hnr hp hfit he
  have e : X.R.length + 1 = (putX X s).R.length := by unfold putX; rw [List.length_append]; rfl
  rw [e] at h
  exact h
theorem putH_bad (F md : Hp) (hK : Cells F ⟨1, 0, none⟩ (Sha.K.map W32)) (gb gd first size : Nat) (X : Hlf) (A : Option Addr) (c : Nat) (hRs : Sl F 1 A X.R.length c (strsV X.R)) (d : Dk) (C : Option Addr) (f : Nat) (hb : Dsk md gd d C f) (hok : d.ok) (hn2 : d.wait.length ≤ 1048576) (hKp : Sl F 1 C d.keep.length f (bytesV d.keep)) (hn3 : d.keep.length ≤ 9223372036854775807) (s : List UInt8) (hs : s.length ≤ 900)
    (ht : X.t.toNat < 2 ^ (8 * 4)) (hnr : X.R.length < 65536) (hp : X.at_ + size ≤ 1048576) (hfit : X.e + partsN s.length ≤ size) (he : ¬ (wendH d X s).2 = 0) :
    Ct Tryd.prog 34 [Ptr gb, Str s] [blk gb (bkC gd first size X A c false) 130, md, F] (fun _ : Hp => I (wendH d X s).2) (fun x => Dsk x gd (wendH d X s).1 C f) (fun x => [blk gb (bkC gd first size X A c true) 130, x, F]) :=
  bput_bad_ct F md hK gb gd ((first : Nat) : Int) size X.at_ X.t X.e A X.R.length c d C f hb hok hn2 hKp hn3 X.R rfl hRs s hs _ rfl (maxT X.t) (maxT_eq _) (maxT_lt ht) hnr hp hfit he

theorem reserve_ct {X : Type} (F B md : Hp) (gs gk gb nx : Nat) (hS : Cells F ⟨gs, 0, none⟩ [Ptr gk, Ptr gb, I ((nx : Nat) : Int)]) (hnx : nx ≤ 65534) (e1 : Int) (h9 : e1 ≠ 9) (φ : X → Prop) (B1 M1 N1 : X → Hp) (hP : ∀ F' : Hp, Le F F' → Ct Tryd.prog 34 [Ptr gb, Str (note nx)] [B, md, F'] (fun _ : X => I (e1)) φ (fun x => [B1 x, M1 x, F', N1 x])) : Ct Tryd.prog 88 [Ptr gs] [B, md, F] (fun _ : X => I e1) φ (fun x => [B1 x, M1 x, F, N1 x]) := by
  refine Ct.walk Tryd.func88 rfl Tryd.ntmps88 rfl (fun w0 hw0 => ?_)
  change J _ [(0, _)] _ _ _
  refine J.seq (fun K1 hK1 => ?_)
  refine J.region ?_
  refine J.y (op_assign rfl rfl) rfl rfl rfl ?_
  refine J.nil ?_
  refine J.then_n (J.k hK1 ?_)
  refine J.keepE [(0, _)] ⟨rfl, trivial⟩ ?_
  refine J.seq (fun K2 hK2 => ?_)
  refine J.region ?_
  refine J.e (op_alloc (l := [.pointer none, .slice none 0 0, I 0]) rfl Tryd.zeroValue104 rfl) rfl rfl rfl ?_
  intro g3 _
  change J _ _ _ [B, md, F, blk g3 [.pointer none, .slice none 0 0, I 0] 104] _
  refine J.nil ?_
  refine J.then_n (J.k hK2 ?_)
  refine J.keepE [(0, _), (3, _)] ⟨rfl, rfl, trivial⟩ ?_
  refine J.seq (fun K3 hK3 => ?_)
  refine J.region ?_
  refine J.y (op_move rfl rfl) rfl rfl rfl ?_
  refine J.y (op_nilCheck rfl rfl) rfl rfl rfl ?_
  refine J.y (op_fieldAddr (j := 2) rfl rfl Tryd.underlying139 rfl Tryd.sizeOf3 rfl) rfl rfl rfl ?_
  refine J.y (op_load (v := I ((nx : Nat) : Int)) rfl rfl Tryd.isAgg3 (m := F) (by simp) (hS.at (i := 2) rfl)) rfl rfl rfl ?_
  refine J.y (op_cvU_i64 (m := nx) rfl rfl Tryd.underlying3 Tryd.underlying108 (by first | omega | (simp only [List.length_append, List.length_cons, List.length_nil, List.length_take, List.length_drop] at *; omega))) rfl rfl rfl ?_
  refine J.y (op_addU (a := nx) (b := 1) rfl rfl rfl (by first | omega | (simp only [List.length_append, List.length_cons, List.length_nil, List.length_take, List.length_drop] at *; omega))) rfl rfl rfl ?_
  refine J.e (op_call rfl rfl ent55 (Ct.use1 3 (m' := fun x : Hp => x) (new := fun _ => []) rfl (fun F' hF => numG_ct F' (blk g3 [.pointer none, .slice none 0 0, I 0] 104) g3 ([]) (wtrN g3) (by first | decide | omega | (simp only [List.length_append, List.length_cons, List.length_nil, List.length_singleton, Sha.numB_length, tb_len] <;> omega)) (nx + 1) 2 (by decide) (by decide) (by first | decide | omega | assumption)))) rfl rfl rfl ?_
  rintro m13 hw13
  change J _ ((13, Ptr g3) :: _) _ [B, md, F, m13] _
  rw [List.nil_append] at hw13
  replace hw13 : Wtr m13 g3 (note nx) 0 := hw13
  have hnl := note_len nx
  refine J.e (op_call rfl rfl ent56 (Ct.use1 3 (m' := fun x : Hp => x) (new := fun _ => []) rfl (fun F' hF => bytesG_ct F' m13 g3 (note nx) hw13 (by first | decide | omega | (simp only [List.length_append, List.length_cons, List.length_nil, List.length_singleton, Sha.numB_length, tb_len] <;> omega)) ))) rfl rfl rfl ?_
  rintro m14 hw14
  change J _ ((14, .tuple #[Str (note nx), I ((0 : Nat) : Int)]) :: _) _ [B, md, F, m14] _
  refine J.y (op_move rfl rfl) rfl rfl rfl ?_
  refine J.y (op_extract (v := Str (note nx)) rfl rfl rfl) rfl rfl rfl ?_
  refine J.y (op_extract (v := I ((0 : Nat) : Int)) rfl rfl rfl) rfl rfl rfl ?_
  refine J.y (op_assign rfl rfl) rfl rfl rfl ?_
  refine J.y (op_assign rfl rfl) rfl rfl rfl ?_
  refine J.nil ?_
  refine J.then_n (J.k hK3 ?_)
  refine J.keepE [(0, _), (4, _), (5, _)] ⟨rfl, rfl, rfl, trivial⟩ ?_
  refine J.seq (fun K4 hK4 => ?_)
  refine J.seq (fun K5 hK5 => ?_)
  refine J.region ?_
  refine J.y (op_move rfl rfl) rfl rfl rfl ?_
  refine J.y ((op_neq rfl rfl rfl).as (v' := .bool false) (congrArg Value.bool (decide_eq_false (by decide)))) rfl rfl rfl ?_
  refine J.nil ?_
  refine J.then_n (J.k hK5 ?_)
  refine J.keepE [(0, _), (4, _), (5, _), (18, _)] ⟨rfl, rfl, rfl, rfl, trivial⟩ ?_
  refine J.condF rfl rfl ?_
  refine J.skip ?_
  refine J.then_n (J.k hK4 ?_)
  refine J.keepE [(0, _), (4, _)] ⟨rfl, rfl, trivial⟩ ?_
  refine J.seq (fun K6 hK6 => ?_)
  refine J.region ?_
  refine J.y (op_move rfl rfl) rfl rfl rfl ?_
  refine J.y (op_nilCheck rfl rfl) rfl rfl rfl ?_
  refine J.y (op_fieldAddr (j := 1) rfl rfl Tryd.underlying139 rfl Tryd.sizeOf67 rfl) rfl rfl rfl ?_
  refine J.y (op_load (v := Ptr gb) rfl rfl Tryd.isAgg67 (m := F) (by simp) (hS.at (i := 1) rfl)) rfl rfl rfl ?_
  refine J.y (op_move rfl rfl) rfl rfl rfl ?_
  refine J.e (op_call rfl rfl ent34 (Ct.useA [B, md] [F, m14] (A' := fun x : X => [B1 x, M1 x]) (new := fun x => [N1 x]) (fun F' hF => hP F' (hF F (by simp))))) rfl rfl rfl ?_
  rintro x25 h25
  change J _ _ _ [B1 x25, M1 x25, F, m14, N1 x25] _
  refine J.y (op_assign rfl rfl) rfl rfl rfl ?_
  refine J.nil ?_
  refine J.then_n (J.k hK6 ?_)
  refine J.keepE [(0, _), (4, _), (5, _)] ⟨rfl, rfl, rfl, trivial⟩ ?_
  refine J.seq (fun K7 hK7 => ?_)
  refine J.seq (fun K8 hK8 => ?_)
  refine J.region ?_
  refine J.y (op_move rfl rfl) rfl rfl rfl ?_
  refine J.y ((op_eql rfl rfl rfl).as (v' := .bool false) (congrArg Value.bool (decide_eq_false (h9)))) rfl rfl rfl ?_
  refine J.nil ?_
  refine J.then_n (J.k hK8 ?_)
  refine J.keepE [(0, _), (4, _), (5, _), (27, _)] ⟨rfl, rfl, rfl, rfl, trivial⟩ ?_
  refine J.condF rfl rfl ?_
  refine J.skip ?_
  refine J.then_n (J.k hK7 ?_)
  refine J.keepE [(5, _)] ⟨rfl, trivial⟩ ?_
  refine J.seq (fun K9 hK9 => ?_)
  refine J.region ?_
  refine J.y (op_move rfl rfl) rfl rfl rfl ?_
  refine J.y (op_assign rfl rfl) rfl rfl rfl ?_
  refine J.nil ?_
  refine J.then_n (J.k hK9 ?_)
  refine J.keepE [(2, _)] ⟨rfl, trivial⟩ ?_
  refine J.ret ?_
  exact J.done hw0 (fun _ _ h => h) (res1 rfl rfl) (retOk x25 rfl h25 [0, 1, 2, 4] rfl (by decide))

theorem ssign_ok {X : Type} (F B md : Hp) (gs gk gb nx : Nat) (hK : Cells F ⟨1, 0, none⟩ (Sha.K.map W32)) (seed : List UInt8) (kh : Nat) (hk : KeyA F gk seed kh) (hsd : seed.length ≤ 1048576) (h6 : kh ≤ 6) (hnx : nx < 2 ^ kh) (mg : List UInt8) (hm : mg.length ≤ 1048576) (φ : X → Prop) (B1 M1 N1 : X → Hp) (hP : ∀ F' : Hp, Le F F' → Ct Tryd.prog 34 [Ptr gb, Str (note nx)] [B, md, F'] (fun _ : X => I (0)) φ (fun x => [B1 x, M1 x, F', N1 x])) : Ct Tryd.prog 36 [Ptr gs, Str mg] [blk gs [Ptr gk, Ptr gb, I ((nx : Nat) : Int)] 139, B, md, F] (fun x : X × ((Option Addr × Nat × Hp) × (Option Addr × Nat × Hp)) => .tuple #[.agg #[I ((nx : Nat) : Int), .slice x.2.1.1 (sgC seed nx mg).length x.2.1.2.1, .slice x.2.2.1 (sgP seed kh nx).length x.2.2.2.1], I ((0 : Nat) : Int)]) (fun x => φ x.1 ∧ Row x.2.1.2.2 9 1 x.2.1.1 (sgC seed nx mg).length x.2.1.2.1 (strsV (sgC seed nx mg)) ∧ Row x.2.2.2.2 9 1 x.2.2.1 (sgP seed kh nx).length x.2.2.2.1 (strsV (sgP seed kh nx))) (fun x => [blk gs [Ptr gk, Ptr gb, I ((nx + 1 : Nat) : Int)] 139, B1 x.1, M1 x.1, F, N1 x.1, x.2.1.2.2, x.2.2.2.2]) := by
  have hp64 := Xm.pow_le kh h6
  obtain ⟨pk, hpk⟩ : ∃ pk, pk = 2 ^ kh := ⟨_, rfl⟩
  rw [← hpk] at hp64 hnx
  refine Ct.walk Tryd.func36 rfl Tryd.ntmps36 rfl (fun w0 hw0 => ?_)
  change J _ [(0, _), (1, _)] _ _ _
  refine J.seq (fun K1 hK1 => ?_)
  refine J.region ?_
  refine J.e (op_alloc (l := [I 0, .slice none 0 0, .slice none 0 0]) rfl Tryd.zeroValue75 rfl) rfl rfl rfl ?_
  intro g4 _
  change J _ _ _ [blk gs [Ptr gk, Ptr gb, I ((nx : Nat) : Int)] 139, B, md, F, blk g4 [I 0, .slice none 0 0, .slice none 0 0] 75] _
  refine J.y (op_assign rfl rfl) rfl rfl rfl ?_
  refine J.nil ?_
  refine J.then_n (J.k hK1 ?_)
  refine J.keepE [(0, _), (1, _), (4, _)] ⟨rfl, rfl, rfl, trivial⟩ ?_
  refine J.seq (fun K2 hK2 => ?_)
  refine J.block ?_
  refine J.seq (fun K3 hK3 => ?_)
  refine J.region ?_
  refine J.y (op_move rfl rfl) rfl rfl rfl ?_
  refine J.y (op_peq Tryd.underlying71 rfl rfl rfl) rfl rfl rfl ?_
  refine J.y (op_assign rfl rfl) rfl rfl rfl ?_
  refine J.nil ?_
  refine J.then_n (J.k hK3 ?_)
  refine J.keepE [(0, _), (1, _), (4, _), (7, _)] ⟨rfl, rfl, rfl, rfl, trivial⟩ ?_
  refine J.condF rfl rfl ?_
  refine J.seq (fun K4 hK4 => ?_)
  refine J.draw [blk gs [Ptr gk, Ptr gb, I ((nx : Nat) : Int)] 139, F] [] (.y 0 (.y 1 (.y 2 (.y 3 (.y 4 (.y 5 (.y 6 (.y 7 (.e 8 (.y 9 (.y 10 .nil))))))))))) Tryd.wide (by decide +kernel) (by simp) ?_
  refine J.dy rfl (op_move rfl rfl) rfl rfl rfl rfl ?_
  refine J.dy rfl (op_nilCheck rfl rfl) rfl rfl rfl rfl ?_
  refine J.dy rfl (op_fieldAddr (j := 2) rfl rfl Tryd.underlying139 rfl Tryd.sizeOf3 rfl) rfl rfl rfl rfl ?_
  refine J.dy rfl (op_loadB 0 (v := I ((nx : Nat) : Int)) rfl rfl rfl Tryd.isAgg3 rfl) rfl rfl rfl rfl ?_
  refine J.dy rfl (op_move rfl rfl) rfl rfl rfl rfl ?_
  refine J.dy rfl (op_nilCheck rfl rfl) rfl rfl rfl rfl ?_
  refine J.dy rfl (op_fieldAddr (j := 0) rfl rfl Tryd.underlying139 rfl Tryd.sizeOf135 rfl) rfl rfl rfl rfl ?_
  refine J.dy rfl (op_loadB 0 (v := Ptr gk) rfl rfl rfl Tryd.isAgg135 rfl) rfl rfl rfl rfl ?_
  refine J.de rfl (op_call rfl rfl ent87 (Ct.use0 (fun F' hF => by have := xcountK_ct F' gk seed kh (hk.mono (hF F (by simp))); rw [← hpk] at this; exact this))) rfl rfl rfl (by simp) ?_
  intro g20 _
  refine J.dy rfl ((op_geq rfl rfl rfl).as (v' := .bool false) (congrArg Value.bool (decide_eq_false (by omega)))) rfl rfl rfl rfl ?_
  refine J.dy rfl (op_assign rfl rfl) rfl rfl rfl rfl ?_
  refine J.dnil ?_
  refine J.then_n (J.k hK4 ?_)
  refine J.keepE [(0, _), (1, _), (4, _), (11, _)] ⟨rfl, rfl, rfl, rfl, trivial⟩ ?_
  refine J.condF rfl rfl ?_
  refine J.skip ?_
  refine J.blk_n ?_
  refine J.then_n (J.k hK2 ?_)
  refine J.keepE [(0, _), (1, _), (4, _)] ⟨rfl, rfl, rfl, trivial⟩ ?_
  refine J.seq (fun K5 hK5 => ?_)
  refine J.seq (fun K6 hK6 => ?_)
  refine J.perm [1, 2, 0, 3, 4] [B, md, blk gs [Ptr gk, Ptr gb, I ((nx : Nat) : Int)] 139, F, blk g4 [I 0, .slice none 0 0, .slice none 0 0] 75] rfl (by decide) ?_
  refine J.region ?_
  refine J.y (op_move rfl rfl) rfl rfl rfl ?_
  refine J.e (op_call rfl rfl ent88 (Ct.useA [B, md] [blk gs [Ptr gk, Ptr gb, I ((nx : Nat) : Int)] 139, F, blk g4 [I 0, .slice none 0 0, .slice none 0 0] 75] (A' := fun x : X => [B1 x, M1 x]) (new := fun x => [N1 x]) (fun F' hF => reserve_ct F' B md gs gk gb nx (Cells.blk0.mono (hF (blk gs [Ptr gk, Ptr gb, I ((nx : Nat) : Int)] 139) (by simp))) (by omega) 0 (by decide) φ B1 M1 N1 (fun F2 h2 => hP F2 ((hF F (by simp)).trans h2))))) rfl rfl rfl ?_
  rintro x24 h24
  change J _ _ _ [B1 x24, M1 x24, blk gs [Ptr gk, Ptr gb, I ((nx : Nat) : Int)] 139, F, blk g4 [I 0, .slice none 0 0, .slice none 0 0] 75, N1 x24] _
  refine J.y (op_assign rfl rfl) rfl rfl rfl ?_
  refine J.nil ?_
  refine J.then_n (J.k hK6 ?_)
  refine J.keepE [(0, _), (1, _), (4, _), (6, _)] ⟨rfl, rfl, rfl, rfl, trivial⟩ ?_
  refine J.seq (fun K7 hK7 => ?_)
  refine J.region ?_
  refine J.y (op_move rfl rfl) rfl rfl rfl ?_
  refine J.y ((op_neq rfl rfl rfl).as (v' := .bool false) (congrArg Value.bool (decide_eq_false (by decide)))) rfl rfl rfl ?_
  refine J.nil ?_
  refine J.then_n (J.k hK7 ?_)
  refine J.keepE [(0, _), (1, _), (4, _), (6, _), (26, _)] ⟨rfl, rfl, rfl, rfl, rfl, trivial⟩ ?_
  refine J.condF rfl rfl ?_
  refine J.skip ?_
  refine J.then_n (J.k hK5 ?_)
  refine J.keepE [(0, _), (1, _), (4, _)] ⟨rfl, rfl, rfl, trivial⟩ ?_
  refine J.seq (fun K8 hK8 => ?_)
  refine J.region ?_
  refine J.y (op_move rfl rfl) rfl rfl rfl ?_
  refine J.y (op_nilCheck rfl rfl) rfl rfl rfl ?_
  refine J.y (op_fieldAddr (j := 2) rfl rfl Tryd.underlying139 rfl Tryd.sizeOf3 rfl) rfl rfl rfl ?_
  refine J.y (op_loadB 2 (v := I ((nx : Nat) : Int)) rfl rfl rfl Tryd.isAgg3 rfl) rfl rfl rfl ?_
  refine J.y ((op_add rfl rfl rfl (by first | omega | (simp only [List.length_append, List.length_cons, List.length_nil, List.length_take, List.length_drop] at *; omega))).as (v' := I ((nx + 1 : Nat) : Int)) (congrArg I (by omega))) rfl rfl rfl ?_
  refine J.y (op_nilCheck rfl rfl) rfl rfl rfl ?_
  refine J.y (op_fieldAddr (j := 2) rfl rfl Tryd.underlying139 rfl Tryd.sizeOf3 rfl) rfl rfl rfl ?_
  refine J.s (op_store (i := 2) (l := [Ptr gk, Ptr gb, I ((nx : Nat) : Int)]) (vs := [I ((nx + 1 : Nat) : Int)]) rfl rfl rfl rfl rfl Tryd.sizeOf3 rfl (by simp)) rfl rfl (fun _ _ => ?_)
  change J _ _ _ [B1 x24, M1 x24, blk gs [Ptr gk, Ptr gb, I ((nx + 1 : Nat) : Int)] 139, F, blk g4 [I 0, .slice none 0 0, .slice none 0 0] 75, N1 x24] _
  refine J.nil ?_
  refine J.then_n (J.k hK8 ?_)
  refine J.keepE [(0, _), (1, _), (4, _)] ⟨rfl, rfl, rfl, trivial⟩ ?_
  refine J.seq (fun K9 hK9 => ?_)
  refine J.draw [blk gs [Ptr gk, Ptr gb, I ((nx + 1 : Nat) : Int)] 139] [13, 14] (.y 0 (.y 1 (.y 2 (.y 3 (.y 4 (.y 5 (.y 6 (.y 7 (.y 8 (.y 9 (.e 10 (.y 11 (.y 12 (.e 13 (.e 14 .nil))))))))))))))) Tryd.wide (by decide +kernel) (by simp) ?_
  refine J.dy rfl (op_move rfl rfl) rfl rfl rfl rfl ?_
  refine J.dy rfl (op_nilCheck rfl rfl) rfl rfl rfl rfl ?_
  refine J.dy rfl (op_fieldAddr (j := 0) rfl rfl Tryd.underlying139 rfl Tryd.sizeOf135 rfl) rfl rfl rfl rfl ?_
  refine J.dy rfl (op_loadB 0 (v := Ptr gk) rfl rfl rfl Tryd.isAgg135 rfl) rfl rfl rfl rfl ?_
  refine J.dy rfl (op_move rfl rfl) rfl rfl rfl rfl ?_
  refine J.dy rfl (op_nilCheck rfl rfl) rfl rfl rfl rfl ?_
  refine J.dy rfl (op_fieldAddr (j := 2) rfl rfl Tryd.underlying139 rfl Tryd.sizeOf3 rfl) rfl rfl rfl rfl ?_
  refine J.dy rfl (op_loadB 0 (v := I ((nx + 1 : Nat) : Int)) rfl rfl rfl Tryd.isAgg3 rfl) rfl rfl rfl rfl ?_
  refine J.dy rfl ((op_sub rfl rfl rfl (by first | omega | (refine ⟨?_, ?_⟩ <;> omega))).as (v' := I ((nx : Nat) : Int)) (congrArg I (by omega))) rfl rfl rfl rfl ?_
  refine J.dy rfl (op_move rfl rfl) rfl rfl rfl rfl ?_
  refine J.de rfl (op_call rfl rfl ent89 (Ct.use (new := fun x : (Option Addr × Nat × Hp) × (Option Addr × Nat × Hp) => [x.1.2.2, x.2.2.2]) (fun F' hF => xsignK_ct F' (hK.mono (hF F (by simp))) gk seed kh (hk.mono (hF F (by simp))) (by first | assumption | decide) (by first | assumption | decide) nx (by rw [← hpk]; exact hnx) mg (by omega)))) rfl rfl rfl (by simp) ?_
  rintro ⟨⟨A46, c46, m46⟩, ⟨B46, d46, n46⟩⟩ ⟨h46, k46⟩
  change J _ ((46, .tuple #[.agg #[I ((nx : Nat) : Int), .slice A46 (sgC seed nx mg).length c46, .slice B46 (sgP seed kh nx).length d46], I 0]) :: _) _ [B1 x24, M1 x24, blk gs [Ptr gk, Ptr gb, I ((nx + 1 : Nat) : Int)] 139, F, blk g4 [I 0, .slice none 0 0, .slice none 0 0] 75, N1 x24, m46, n46] _
  refine J.dy rfl (op_extract (v := .agg #[I ((nx : Nat) : Int), .slice A46 ((sgC seed nx mg).length) c46, .slice B46 ((sgP seed kh nx).length) d46]) rfl rfl rfl) rfl rfl rfl rfl ?_
  refine J.dy rfl (op_extract (v := I ((0 : Nat) : Int)) rfl rfl rfl) rfl rfl rfl rfl ?_
  refine J.ds rfl (op_storeAll (i := 4) (l := [I 0, .slice none 0 0, .slice none 0 0]) (vs := [I ((nx : Nat) : Int), .slice A46 ((sgC seed nx mg).length) c46, .slice B46 ((sgP seed kh nx).length) d46]) rfl rfl rfl rfl rfl Tryd.sizeOf75 rfl rfl) rfl rfl rfl (fun _ _ => ?_)
  change J _ _ _ [B1 x24, M1 x24, blk gs [Ptr gk, Ptr gb, I ((nx + 1 : Nat) : Int)] 139, F, blk g4 [I ((nx : Nat) : Int), .slice A46 ((sgC seed nx mg).length) c46, .slice B46 ((sgP seed kh nx).length) d46] 75, N1 x24, m46, n46] _
  refine J.dt rfl (YOp.eop (op_assign rfl rfl)) rfl rfl rfl rfl ?_
  intro _ _
  refine J.dnil ?_
  refine J.then_n (J.k hK9 ?_)
  refine J.keepE [(4, _), (5, _)] ⟨rfl, rfl, trivial⟩ ?_
  refine J.ret ?_
  exact J.done hw0 (fun _ _ h => h) (rv2 rfl (RV.blkA 4 rfl rfl Tryd.isAgg75 Tryd.sizeOf75) rfl) (retOk (x24, ((A46, c46, m46), (B46, d46, n46))) rfl ⟨h24, h46, k46⟩ [2, 0, 1, 3, 5, 6, 7] rfl (by decide))

theorem ssign_spent (F : Hp) (gs gk gb nx : Nat) (hS : Cells F ⟨gs, 0, none⟩ [Ptr gk, Ptr gb, I ((nx : Nat) : Int)]) (seed : List UInt8) (kh : Nat) (hk : KeyA F gk seed kh) (hsd : seed.length ≤ 1048576) (h6 : kh ≤ 6) (hnx : 2 ^ kh ≤ nx) (mg : List UInt8) : Ct Tryd.prog 36 [Ptr gs, Str (mg)] [F] (fun _ : Unit => .tuple #[.agg #[I ((0 : Nat) : Int), .slice none 0 0, .slice none 0 0], I ((11 : Nat) : Int)]) (fun _ => True) (fun _ => [F]) := by
  obtain ⟨pk, hpk⟩ : ∃ pk, pk = 2 ^ kh := ⟨_, rfl⟩
  rw [← hpk] at hnx
  refine Ct.walk Tryd.func36 rfl Tryd.ntmps36 rfl (fun w0 hw0 => ?_)
  change J _ [(0, _), (1, _)] _ _ _
  refine J.seq (fun K1 hK1 => ?_)
  refine J.region ?_
  refine J.e (op_alloc (l := [I 0, .slice none 0 0, .slice none 0 0]) rfl Tryd.zeroValue75 rfl) rfl rfl rfl ?_
  intro g4 _
  change J _ _ _ [F, blk g4 [I 0, .slice none 0 0, .slice none 0 0] 75] _
  refine J.y (op_assign rfl rfl) rfl rfl rfl ?_
  refine J.nil ?_
  refine J.then_n (J.k hK1 ?_)
  refine J.keepE [(0, _), (1, _), (4, _)] ⟨rfl, rfl, rfl, trivial⟩ ?_
  refine J.seq (fun K2 hK2 => ?_)
  refine J.block ?_
  refine J.seq (fun K3 hK3 => ?_)
  refine J.region ?_
  refine J.y (op_move rfl rfl) rfl rfl rfl ?_
  refine J.y ((op_peq Tryd.underlying71 rfl rfl rfl).as (v' := .bool false) rfl) rfl rfl rfl ?_
  refine J.y (op_assign rfl rfl) rfl rfl rfl ?_
  refine J.nil ?_
  refine J.then_n (J.k hK3 ?_)
  refine J.keepE [(0, _), (1, _), (4, _), (7, _)] ⟨rfl, rfl, rfl, rfl, trivial⟩ ?_
  refine J.condF rfl rfl ?_
  refine J.seq (fun K4 hK4 => ?_)
  refine J.draw [F] [] (.y 0 (.y 1 (.y 2 (.y 3 (.y 4 (.y 5 (.y 6 (.y 7 (.e 8 (.y 9 (.y 10 .nil))))))))))) Tryd.wide (by decide +kernel) (by simp) ?_
  refine J.dy rfl (op_move rfl rfl) rfl rfl rfl rfl ?_
  refine J.dy rfl (op_nilCheck rfl rfl) rfl rfl rfl rfl ?_
  refine J.dy rfl (op_fieldAddr (j := 2) rfl rfl Tryd.underlying139 rfl Tryd.sizeOf3 rfl) rfl rfl rfl rfl ?_
  refine J.dy rfl (op_load (v := I ((nx : Nat) : Int)) rfl rfl Tryd.isAgg3 (m := F) (by simp) (hS.at (i := 2) rfl)) rfl rfl rfl rfl ?_
  refine J.dy rfl (op_move rfl rfl) rfl rfl rfl rfl ?_
  refine J.dy rfl (op_nilCheck rfl rfl) rfl rfl rfl rfl ?_
  refine J.dy rfl (op_fieldAddr (j := 0) rfl rfl Tryd.underlying139 rfl Tryd.sizeOf135 rfl) rfl rfl rfl rfl ?_
  refine J.dy rfl (op_load (v := Ptr gk) rfl rfl Tryd.isAgg135 (m := F) (by simp) (hS.at (i := 0) rfl)) rfl rfl rfl rfl ?_
  refine J.de rfl (op_call rfl rfl ent87 (Ct.use0 (fun F' hF => by have := xcountK_ct F' gk seed kh (hk.mono (hF F (by simp))); rw [← hpk] at this; exact this))) rfl rfl rfl (by simp) ?_
  intro g20 _
  refine J.dy rfl ((op_geq rfl rfl rfl).as (v' := .bool true) (congrArg Value.bool (decide_eq_true (by omega)))) rfl rfl rfl rfl ?_
  refine J.dy rfl (op_assign rfl rfl) rfl rfl rfl rfl ?_
  refine J.dnil ?_
  refine J.then_n (J.k hK4 ?_)
  refine J.keepE [(0, _), (1, _), (4, _), (11, _)] ⟨rfl, rfl, rfl, rfl, trivial⟩ ?_
  refine J.condT rfl rfl ?_
  refine J.seq (fun K5 hK5 => ?_)
  refine J.region ?_
  refine J.y (op_buildStruct (l := []) (vs := []) (places := [(0, 1), (1, 1), (2, 1)]) (r := [I 0, .slice none 0 0, .slice none 0 0]) rfl rfl rfl Tryd.underlying75 Tryd.zeroValue75 (fun _ => by kernel_rfl) rfl) rfl rfl rfl ?_
  refine J.s (op_storeAll (i := 1) (l := [I 0, .slice none 0 0, .slice none 0 0]) (vs := [I 0, .slice none 0 0, .slice none 0 0]) rfl rfl rfl rfl rfl Tryd.sizeOf75 rfl rfl) rfl rfl (fun _ _ => ?_)
  change J _ _ _ [F, blk g4 [I 0, .slice none 0 0, .slice none 0 0] 75] _
  refine J.y (op_assign rfl rfl) rfl rfl rfl ?_
  refine J.nil ?_
  refine J.then_n (J.k hK5 ?_)
  refine J.keepE [(4, _), (5, _)] ⟨rfl, rfl, trivial⟩ ?_
  refine J.ret ?_
  refine J.blk_r ?_
  refine J.then_r ?_
  exact J.done hw0 (fun _ _ h => h) (rv2 rfl (RV.blkA 1 rfl rfl Tryd.isAgg75 Tryd.sizeOf75) rfl) (retOk () rfl trivial [0] rfl (by decide))

theorem snext_ct (F : Hp) (gs gk gb nx : Nat) (hS : Cells F ⟨gs, 0, none⟩ [Ptr gk, Ptr gb, I ((nx : Nat) : Int)]) : Ct Tryd.prog 37 [Ptr gs] [F] (fun _ : Unit => I ((nx : Nat) : Int)) (fun _ => True) (fun _ => [F]) := by
  refine Ct.walk Tryd.func37 rfl Tryd.ntmps37 rfl (fun w0 hw0 => ?_)
  change J _ [(0, _)] _ _ _
  refine J.seq (fun K1 hK1 => ?_)
  refine J.region ?_
  refine J.y (op_assign rfl rfl) rfl rfl rfl ?_
  refine J.nil ?_
  refine J.then_n (J.k hK1 ?_)
  refine J.keepE [(0, _)] ⟨rfl, trivial⟩ ?_
  refine J.seq (fun K2 hK2 => ?_)
  refine J.seq (fun K3 hK3 => ?_)
  refine J.region ?_
  refine J.y (op_move rfl rfl) rfl rfl rfl ?_
  refine J.y ((op_peq Tryd.underlying71 rfl rfl rfl).as (v' := .bool false) rfl) rfl rfl rfl ?_
  refine J.nil ?_
  refine J.then_n (J.k hK3 ?_)
  refine J.keepE [(0, _), (4, _)] ⟨rfl, rfl, trivial⟩ ?_
  refine J.condF rfl rfl ?_
  refine J.skip ?_
  refine J.then_n (J.k hK2 ?_)
  refine J.keepE [(0, _)] ⟨rfl, trivial⟩ ?_
  refine J.seq (fun K4 hK4 => ?_)
  refine J.region ?_
  refine J.y (op_move rfl rfl) rfl rfl rfl ?_
  refine J.y (op_nilCheck rfl rfl) rfl rfl rfl ?_
  refine J.y (op_fieldAddr (j := 2) rfl rfl Tryd.underlying139 rfl Tryd.sizeOf3 rfl) rfl rfl rfl ?_
  refine J.y (op_load (v := I ((nx : Nat) : Int)) rfl rfl Tryd.isAgg3 (m := F) (by simp) (hS.at (i := 2) rfl)) rfl rfl rfl ?_
  refine J.y (op_assign rfl rfl) rfl rfl rfl ?_
  refine J.nil ?_
  refine J.then_n (J.k hK4 ?_)
  refine J.keepE [(2, _)] ⟨rfl, trivial⟩ ?_
  refine J.ret ?_
  exact J.done hw0 (fun _ _ h => h) (res1 rfl rfl) (retOk () rfl trivial [0] rfl (by decide))

theorem spub_ct (F : Hp) (gs gk gb nx : Nat) (hS : Cells F ⟨gs, 0, none⟩ [Ptr gk, Ptr gb, I ((nx : Nat) : Int)]) (seed : List UInt8) (kh : Nat) (hk : KeyA F gk seed kh) (hsd : seed.length ≤ 1048576) (h6 : kh ≤ 6) : Ct Tryd.prog 38 [Ptr gs] [F] (fun _ : Unit => .agg #[Str (Wo.opn (seed)), Str (Xm.root (seed) (kh)), I ((kh : Nat) : Int)]) (fun _ => True) (fun _ => [F]) := by
  refine Ct.walk Tryd.func38 rfl Tryd.ntmps38 rfl (fun w0 hw0 => ?_)
  change J _ [(0, _)] _ _ _
  refine J.seq (fun K1 hK1 => ?_)
  refine J.region ?_
  refine J.e (op_alloc (l := [Str [], Str [], I 0]) rfl Tryd.zeroValue32 rfl) rfl rfl rfl ?_
  intro g2 _
  change J _ _ _ [F, blk g2 [Str [], Str [], I 0] 32] _
  refine J.nil ?_
  refine J.then_n (J.k hK1 ?_)
  refine J.keepE [(0, _), (2, _)] ⟨rfl, rfl, trivial⟩ ?_
  refine J.seq (fun K2 hK2 => ?_)
  refine J.seq (fun K3 hK3 => ?_)
  refine J.region ?_
  refine J.y (op_move rfl rfl) rfl rfl rfl ?_
  refine J.y ((op_peq Tryd.underlying71 rfl rfl rfl).as (v' := .bool false) rfl) rfl rfl rfl ?_
  refine J.nil ?_
  refine J.then_n (J.k hK3 ?_)
  refine J.keepE [(0, _), (2, _), (4, _)] ⟨rfl, rfl, rfl, trivial⟩ ?_
  refine J.condF rfl rfl ?_
  refine J.skip ?_
  refine J.then_n (J.k hK2 ?_)
  refine J.keepE [(0, _), (2, _)] ⟨rfl, rfl, trivial⟩ ?_
  refine J.seq (fun K4 hK4 => ?_)
  refine J.region ?_
  refine J.y (op_move rfl rfl) rfl rfl rfl ?_
  refine J.y (op_nilCheck rfl rfl) rfl rfl rfl ?_
  refine J.y (op_fieldAddr (j := 0) rfl rfl Tryd.underlying139 rfl Tryd.sizeOf135 rfl) rfl rfl rfl ?_
  refine J.y (op_load (v := Ptr gk) rfl rfl Tryd.isAgg135 (m := F) (by simp) (hS.at (i := 0) rfl)) rfl rfl rfl ?_
  refine J.e (op_call rfl rfl ent90 (Ct.use0 (fun F' hF => xpubK_ct F' gk seed kh (hk.mono (hF F (by simp)))))) rfl rfl rfl ?_
  intro g10 _
  refine J.s (op_storeAll (i := 1) (l := [Str [], Str [], I 0]) (vs := [Str (Wo.opn (seed)), Str (Xm.root (seed) (kh)), I ((kh : Nat) : Int)]) rfl rfl rfl rfl rfl Tryd.sizeOf32 rfl rfl) rfl rfl (fun _ _ => ?_)
  change J _ _ _ [F, blk g2 [Str (Wo.opn (seed)), Str (Xm.root (seed) (kh)), I ((kh : Nat) : Int)] 32] _
  refine J.nil ?_
  refine J.then_n (J.k hK4 ?_)
  refine J.keepE [(2, _)] ⟨rfl, trivial⟩ ?_
  refine J.ret ?_
  exact J.done hw0 (fun _ _ h => h) (rv1 rfl (RV.blkA 1 rfl rfl Tryd.isAgg32 Tryd.sizeOf32)) (retOk () rfl trivial [0] rfl (by decide))

end Go.Proofs.YtnkfapecbmmpeaaDoor

namespace Go.Proofs.YtnkfapecbmmpeaaDoor
open Go Go.Fw
set_option maxRecDepth 100000
set_option maxHeartbeats 1000000

attribute [local irreducible] Prt.text bname bsum Sha.tagged
theorem wend1_congr {d : Dk} {p : Nat} {t t' : Nat → List UInt8} (h : t 0 = t' 0) : wend d p t 1 = wend d p t' 1 := by
  have e : ∀ t : Nat → List UInt8, wrun d p t 1 = (d.write ((p + 0 : Nat) : Int) (t 0), d.wErr ((p + 0 : Nat) : Int) (t 0)) := fun t => wrun_succ rfl
  unfold wend
  rw [e t, e t', h]
def sX0 (first : Nat) : Hlf := ⟨first, 0, [], 0⟩
theorem hlf_new {n at_ size : Nat} (hs : 0 < size) (h : at_ + size ≤ n) : hlf (Dk.new n) at_ size = ⟨at_, 0, [], 0⟩ :=
  hlf_eq (rdl_none fun t' => recR_none (by rw [secs_get hs, now_calm rfl, new_last n _ (by omega)]; exact zS_no))
theorem hst_new {n first size : Nat} (hs : 0 < size) (h : first + 2 * size ≤ n) : hst (Dk.new n) first size 2 = sX0 first := by
  show (if _ then _ else _) = _
  rw [hlf_new hs (by omega), hlf_new hs (by omega), if_neg (by simp)]; rfl
theorem wendH_one {d : Dk} (hok : d.ok) (ho : d.off = false) (ha : d.armed = false) (hw : d.wait = []) {X : Hlf} {s : List UInt8} (hs : s.length ≤ 39) (ht : X.t.toNat < 2 ^ (8 * 4)) (hn : X.R.length < 65536) (hp : X.at_ + X.e < d.last.length) :
    wendH d X s = ({ d with last := d.last.set (X.at_ + X.e) (T1 (maxT X.t) X.R.length s), wait := [] }, 0) := by
  unfold wendH
  rw [partsN_one hs, wend1_congr (t' := fun _ => T1 (maxT X.t) X.R.length s) rfl]
  exact calm_put1 (T := T1 (maxT X.t) X.R.length s) ho ha hw (T1_len s (maxT_lt ht) hn) hp hok.l64
theorem setD_ok {d : Dk} (h : d.ok) {p : Nat} {T : List UInt8} (hT : T.length = 64) : ({ d with last := d.last.set p T, wait := [] } : Dk).ok := by
  refine ⟨⟨fun s hs => ?_, (fun w hw => nomatch hw), ?_, ?_⟩, h.fz, h.fb⟩
  · rcases List.mem_or_eq_of_mem_set hs with hs | rfl
    · exact h.l64 s hs
    · exact hT
  · show 0 < (d.last.set p T).length; rw [List.length_set]; exact h.n0
  · show (d.last.set p T).length ≤ 1024; rw [List.length_set]; exact h.n1
/-- what is so behind a record that lasts -/
theorem calm_one {d : Dk} (hok : d.ok) (ho : d.off = false) (ha : d.armed = false) (hw : d.wait = []) {X : Hlf} {s : List UInt8} (hs : s.length ≤ 39) (ht : X.t.toNat < 2 ^ (8 * 4)) (hn : X.R.length < 65536) (hp : X.at_ + X.e < d.last.length) :
    (wendH d X s).2 = 0 ∧ (wendH d X s).1.ok ∧ (wendH d X s).1.off = false ∧ (wendH d X s).1.armed = false ∧ (wendH d X s).1.wait = [] ∧ (wendH d X s).1.last.length = d.last.length ∧ (wendH d X s).1.keep = d.keep := by
  rw [wendH_one hok ho ha hw hs ht hn hp]
  exact ⟨rfl, setD_ok hok (T1_len s (maxT_lt ht) hn), ho, ha, rfl, List.length_set .., rfl⟩
theorem putX_e {X : Hlf} {s : List UInt8} (h : s.length ≤ 39) : (putX X s).e = X.e + 1 := by unfold putX; rw [partsN_one h]
theorem note39 (nx : Nat) : (note nx).length ≤ 39 := by rw [note_len]; decide
end Go.Proofs.YtnkfapecbmmpeaaDoor
