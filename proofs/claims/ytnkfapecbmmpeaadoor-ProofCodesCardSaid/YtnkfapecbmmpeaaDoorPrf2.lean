/- A part of the proof: contracts of functions of the program, each for every state of the heaps that it names. -/
import Derived.Test.YtnkfapecbmmpeaaDoorPrf1
set_option linter.unusedSimpArgs false
set_option linter.unusedVariables false
namespace Go.Proofs.YtnkfapecbmmpeaaDoor
open Go Go.Fw
set_option maxRecDepth 100000
set_option maxHeartbeats 1000000
theorem ent18 : Enters Tryd.prog 18 := Enters.of Tryd.func18 rfl (by kernel_rfl)
theorem ent47 : Enters Tryd.prog 47 := Enters.of Tryd.func47 rfl (by kernel_rfl)
theorem ent49 : Enters Tryd.prog 49 := Enters.of Tryd.func49 rfl (by kernel_rfl)
theorem ent64 : Enters Tryd.prog 64 := Enters.of Tryd.func64 rfl (by kernel_rfl)
theorem ent66 : Enters Tryd.prog 66 := Enters.of Tryd.func66 rfl (by kernel_rfl)
theorem ent67 : Enters Tryd.prog 67 := Enters.of Tryd.func67 rfl (by kernel_rfl)
theorem ent69 : Enters Tryd.prog 69 := Enters.of Tryd.func69 rfl (by kernel_rfl)
theorem ent72 : Enters Tryd.prog 72 := Enters.of Tryd.func72 rfl (by kernel_rfl)

def pNodeV (bs : List (List UInt8)) (th : Bool) (pk pv k : List UInt8) (d : Nat) : List UInt8 := clm k d bs (if th = true then Sb.leafN pk pv else [0]) bs.length
def hasB (bs : List (List UInt8)) (th : Bool) (pk pv nd k v : List UInt8) (d : Nat) : Bool := th && (decide (pk = k) && (decide (pv = v) && decide (pNodeV bs th pk pv k d = nd)))
def lacksB (bs : List (List UInt8)) (th : Bool) (pk pv nd k : List UInt8) (d : Nat) : Bool := (!th || decide (pk ≠ k)) && decide (pNodeV bs th pk pv k d = nd)
theorem leafN_17 (k v : List UInt8) : (Sb.leafN k v).length ≤ 17 := by unfold Sb.leafN; rw [List.length_cons, Sha.tagged_length]; exact Nat.le_refl _

theorem pNode_ct (F : Hp) (hK : Cells F ⟨1, 0, none⟩ (Sha.K.map W32)) (A : Option Addr) (c : Nat) (bs : List (List UInt8)) (hs : Sl F 1 A bs.length c (strsV bs)) (th : Bool) (pk pv k : List UInt8) (d : Nat) (hg : GoodP bs th pk pv k d) (hpv : pv.length ≤ 1000000) : Ct Tryd.prog 47 [.agg #[.slice A bs.length c, .bool (th), Str (pk), Str (pv)], Str (k), I ((d : Nat) : Int)] [F] (fun _ : Unit => Str (pNodeV bs th pk pv k d)) (fun _ => True) (fun _ => [F]) := by
  have hle := hg.le
  have hk16 := hg.k16
  have hsm := hg.small
  refine Ct.walk Tryd.func47 rfl Tryd.ntmps47 rfl (fun w0 hw0 => ?_)
  change J _ [(0, _), (1, _), (2, _)] _ _ _
  refine J.seq (fun K1 hK1 => ?_)
  refine J.region ?_
  refine J.e (op_box (l := [.slice A bs.length c, .bool (th), Str (pk), Str (pv)]) rfl rfl rfl) rfl rfl rfl ?_
  intro g3 _
  change J _ _ _ [F, blk g3 [.slice A bs.length c, .bool (th), Str (pk), Str (pv)] 57] _
  refine J.y (op_assign rfl rfl) rfl rfl rfl ?_
  refine J.nil ?_
  refine J.then_n (J.k hK1 ?_)
  refine J.keepE [(1, _), (2, _), (3, _)] ⟨rfl, rfl, rfl, trivial⟩ ?_
  refine J.seq (fun K2 hK2 => ?_)
  refine J.seq (fun K3 hK3 => ?_)
  refine J.region ?_
  refine J.y (op_loadBA 1 rfl rfl rfl Tryd.isAgg57 Tryd.sizeOf57 rfl) rfl rfl rfl ?_
  refine J.y (op_move rfl rfl) rfl rfl rfl ?_
  refine J.y (op_move rfl rfl) rfl rfl rfl ?_
  refine J.e (op_call rfl rfl ent49 (Ct.use0 (fun F' hF => good_ct F' A c bs (hs.mono (hF F (by simp))) th pk pv k d (by assumption)))) rfl rfl rfl ?_
  intro g11 _
  refine J.y (op_not rfl rfl) rfl rfl rfl ?_
  refine J.nil ?_
  refine J.then_n (J.k hK3 ?_)
  refine J.keepE [(1, _), (2, _), (3, _), (12, _)] ⟨rfl, rfl, rfl, rfl, trivial⟩ ?_
  refine J.condF rfl rfl ?_
  refine J.skip ?_
  refine J.then_n (J.k hK2 ?_)
  refine J.keepE [(1, _), (2, _), (3, _)] ⟨rfl, rfl, rfl, trivial⟩ ?_
  refine J.seq (fun K4 hK4 => ?_)
  refine J.region ?_
  refine J.y (op_assign rfl rfl) rfl rfl rfl ?_
  refine J.nil ?_
  refine J.then_n (J.k hK4 ?_)
  refine J.keepE [(1, _), (2, _), (3, _), (7, _)] ⟨rfl, rfl, rfl, rfl, trivial⟩ ?_
  refine J.seq (fun K5 hK5 => ?_)
  refine J.seq (fun K6 hK6 => ?_)
  refine J.region ?_
  refine J.y (op_fieldAddr (j := 1) rfl rfl Tryd.underlying57 rfl Tryd.sizeOf4 rfl) rfl rfl rfl ?_
  refine J.y (op_loadB 1 (v := .bool (th)) rfl rfl rfl Tryd.isAgg4 rfl) rfl rfl rfl ?_
  refine J.nil ?_
  refine J.then_n (J.k hK6 ?_)
  refine J.keepE [(1, _), (2, _), (3, _), (7, _), (14, _)] ⟨rfl, rfl, rfl, rfl, rfl, trivial⟩ ?_
  refine J.cond rfl (fun h14 => ?_) (fun h14 => ?_)
  ·
    have hpl := (hg.yes h14).1
    refine J.region ?_
    refine J.y (op_fieldAddr (j := 2) rfl rfl Tryd.underlying57 rfl Tryd.sizeOf9 rfl) rfl rfl rfl ?_
    refine J.y (op_loadB 1 (v := Str (pk)) rfl rfl rfl Tryd.isAgg9 rfl) rfl rfl rfl ?_
    refine J.y (op_fieldAddr (j := 3) rfl rfl Tryd.underlying57 rfl Tryd.sizeOf9 rfl) rfl rfl rfl ?_
    refine J.y (op_loadB 1 (v := Str (pv)) rfl rfl rfl Tryd.isAgg9 rfl) rfl rfl rfl ?_
    refine J.e (op_call rfl rfl ent70 (Ct.use0 (fun F' hF => sLeaf_ct F' (hK.mono (hF F (by simp))) pk pv (by first | omega | exact Nat.le_of_ble_eq_true rfl) (by first | omega | exact Nat.le_of_ble_eq_true rfl)))) rfl rfl rfl ?_
    intro g19 _
    refine J.y (op_assign rfl rfl) rfl rfl rfl ?_
    refine J.nil ?_
    refine J.then_n (J.k hK5 ?_)
    refine J.keepE [(1, _), (2, _), (3, _), (7, _)] ⟨rfl, rfl, rfl, rfl, trivial⟩ ?_
    refine J.seq (fun K7 hK7 => ?_)
    refine J.region ?_
    refine J.y (op_loadBA 1 rfl rfl rfl Tryd.isAgg57 Tryd.sizeOf57 rfl) rfl rfl rfl ?_
    refine J.y (op_move rfl rfl) rfl rfl rfl ?_
    refine J.y (op_move rfl rfl) rfl rfl rfl ?_
    refine J.y (op_move rfl rfl) rfl rfl rfl ?_
    refine J.e (op_call rfl rfl ent72 (Ct.use0 (fun F' hF => climb_ct F' (hK.mono (hF F (by simp))) A c bs (hs.mono (hF F (by simp))) th pk pv (Sb.leafN pk pv) k d (by assumption) (by assumption) (by assumption) (by first | assumption | exact leafN_17 _ _ | exact Nat.le_of_ble_eq_true rfl)))) rfl rfl rfl ?_
    intro g24 _
    refine J.y (op_assign rfl rfl) rfl rfl rfl ?_
    refine J.nil ?_
    refine J.then_n (J.k hK7 ?_)
    refine J.keepE [(6, _)] ⟨rfl, trivial⟩ ?_
    refine J.ret ?_
    exact J.done hw0 (fun _ _ h => h) (res1 rfl rfl) (retOk () (by unfold pNodeV; first | rw [if_pos (by assumption)] | rw [if_neg (by simp [*])]) trivial [0] rfl (by decide))
  ·
    refine J.skip ?_
    refine J.then_n (J.k hK5 ?_)
    refine J.keepE [(1, _), (2, _), (3, _), (7, _)] ⟨rfl, rfl, rfl, rfl, trivial⟩ ?_
    refine J.seq (fun K8 hK8 => ?_)
    refine J.region ?_
    refine J.y (op_loadBA 1 rfl rfl rfl Tryd.isAgg57 Tryd.sizeOf57 rfl) rfl rfl rfl ?_
    refine J.y (op_move rfl rfl) rfl rfl rfl ?_
    refine J.y (op_move rfl rfl) rfl rfl rfl ?_
    refine J.y (op_move rfl rfl) rfl rfl rfl ?_
    refine J.e (op_call rfl rfl ent72 (Ct.use0 (fun F' hF => climb_ct F' (hK.mono (hF F (by simp))) A c bs (hs.mono (hF F (by simp))) th pk pv ([0]) k d (by assumption) (by assumption) (by assumption) (by first | assumption | exact leafN_17 _ _ | exact Nat.le_of_ble_eq_true rfl)))) rfl rfl rfl ?_
    intro g24 _
    refine J.y (op_assign rfl rfl) rfl rfl rfl ?_
    refine J.nil ?_
    refine J.then_n (J.k hK8 ?_)
    refine J.keepE [(6, _)] ⟨rfl, trivial⟩ ?_
    refine J.ret ?_
    exact J.done hw0 (fun _ _ h => h) (res1 rfl rfl) (retOk () (by unfold pNodeV; first | rw [if_pos (by assumption)] | rw [if_neg (by simp [*])]) trivial [0] rfl (by decide))

theorem has14_ct (F : Hp) (hK : Cells F ⟨1, 0, none⟩ (Sha.K.map W32)) (A : Option Addr) (c : Nat) (bs : List (List UInt8)) (hs : Sl F 1 A bs.length c (strsV bs)) (th : Bool) (pk pv k : List UInt8) (d : Nat) (hg : GoodP bs th pk pv k d) (nd v : List UInt8) (hpv : pv.length ≤ 1000000) : Ct Tryd.prog 59 [.agg #[.slice A bs.length c, .bool (th), Str (pk), Str (pv)], Str (nd), Str (k), Str (v), I ((d : Nat) : Int)] [F] (fun _ : Unit => .bool (hasB bs th pk pv nd k v d)) (fun _ => True) (fun _ => [F]) := by
  have hle := hg.le
  have hk16 := hg.k16
  have hsm := hg.small
  refine Ct.walk Tryd.func59 rfl Tryd.ntmps59 rfl (fun w0 hw0 => ?_)
  change J _ [(0, _), (1, _), (2, _), (3, _), (4, _)] _ _ _
  refine J.seq (fun K1 hK1 => ?_)
  refine J.region ?_
  refine J.e (op_box (l := [.slice A bs.length c, .bool (th), Str (pk), Str (pv)]) rfl rfl rfl) rfl rfl rfl ?_
  intro g5 _
  change J _ _ _ [F, blk g5 [.slice A bs.length c, .bool (th), Str (pk), Str (pv)] 57] _
  refine J.y (op_assign rfl rfl) rfl rfl rfl ?_
  refine J.nil ?_
  refine J.then_n (J.k hK1 ?_)
  refine J.keepE [(1, _), (2, _), (3, _), (4, _), (5, _)] ⟨rfl, rfl, rfl, rfl, rfl, trivial⟩ ?_
  refine J.seq (fun K2 hK2 => ?_)
  refine J.region ?_
  refine J.y (op_loadBA 1 rfl rfl rfl Tryd.isAgg57 Tryd.sizeOf57 rfl) rfl rfl rfl ?_
  refine J.y (op_move rfl rfl) rfl rfl rfl ?_
  refine J.y (op_move rfl rfl) rfl rfl rfl ?_
  refine J.e (op_call rfl rfl ent49 (Ct.use0 (fun F' hF => good_ct F' A c bs (hs.mono (hF F (by simp))) th pk pv k d (by assumption)))) rfl rfl rfl ?_
  intro g14 _
  refine J.y (op_move rfl rfl) rfl rfl rfl ?_
  refine J.yg (Wan.is rfl rfl rfl rfl rfl) (op_fieldAddr (j := 1) rfl rfl Tryd.underlying57 rfl Tryd.sizeOf4 rfl) rfl rfl ?_
  refine J.yg (Wan.is rfl rfl rfl rfl rfl) (op_loadB 1 (v := .bool (th)) rfl rfl rfl Tryd.isAgg4 rfl) rfl rfl ?_
  refine J.y (op_pickT rfl rfl rfl) rfl rfl rfl ?_
  refine J.y (op_move rfl rfl) rfl rfl rfl ?_
  refine J.splitB (d := 19) rfl (fun h19 => ?_) (fun h19 => ?_)
  ·
    refine J.yg (Wan.is rfl rfl rfl rfl rfl) (op_fieldAddr (j := 2) rfl rfl Tryd.underlying57 rfl Tryd.sizeOf9 rfl) rfl rfl ?_
    refine J.yg (Wan.is rfl rfl rfl rfl rfl) (op_loadB 1 (v := Str (pk)) rfl rfl rfl Tryd.isAgg9 rfl) rfl rfl ?_
    refine J.yg (Wan.is rfl rfl rfl rfl rfl) (op_move rfl rfl) rfl rfl ?_
    refine J.yg (Wan.is rfl rfl rfl rfl rfl) (op_seq rfl rfl rfl) rfl rfl ?_
    refine J.y (op_pickT rfl rfl rfl) rfl rfl rfl ?_
    refine J.y (op_move rfl rfl) rfl rfl rfl ?_
    refine J.split (d := 25) rfl (fun h25 => ?_) (fun h25 => ?_)
    ·
      refine J.yg (Wan.is rfl rfl rfl rfl rfl) (op_fieldAddr (j := 3) rfl rfl Tryd.underlying57 rfl Tryd.sizeOf9 rfl) rfl rfl ?_
      refine J.yg (Wan.is rfl rfl rfl rfl rfl) (op_loadB 1 (v := Str (pv)) rfl rfl rfl Tryd.isAgg9 rfl) rfl rfl ?_
      refine J.yg (Wan.is rfl rfl rfl rfl rfl) (op_move rfl rfl) rfl rfl ?_
      refine J.yg (Wan.is rfl rfl rfl rfl rfl) (op_seq rfl rfl rfl) rfl rfl ?_
      refine J.y (op_pickT rfl rfl rfl) rfl rfl rfl ?_
      refine J.y (op_move rfl rfl) rfl rfl rfl ?_
      refine J.split (d := 31) rfl (fun h31 => ?_) (fun h31 => ?_)
      ·
        refine J.yg (Wan.is rfl rfl rfl rfl rfl) (op_loadBA 1 rfl rfl rfl Tryd.isAgg57 Tryd.sizeOf57 rfl) rfl rfl ?_
        refine J.yg (Wan.is rfl rfl rfl rfl rfl) (op_move rfl rfl) rfl rfl ?_
        refine J.yg (Wan.is rfl rfl rfl rfl rfl) (op_move rfl rfl) rfl rfl ?_
        refine J.eg (Wan.is rfl rfl rfl rfl rfl) (op_call rfl rfl ent47 (Ct.use0 (fun F' hF => pNode_ct F' (hK.mono (hF F (by simp))) A c bs (hs.mono (hF F (by simp))) th pk pv k d (by assumption) (by assumption)))) rfl rfl ?_
        intro g35 _
        refine J.yg (Wan.is rfl rfl rfl rfl rfl) (op_move rfl rfl) rfl rfl ?_
        refine J.yg (Wan.is rfl rfl rfl rfl rfl) (op_seq rfl rfl rfl) rfl rfl ?_
        refine J.y (op_pickT rfl rfl rfl) rfl rfl rfl ?_
        refine J.y (op_assign rfl rfl) rfl rfl rfl ?_
        refine J.nil ?_
        refine J.then_n (J.k hK2 ?_)
        refine J.keepE [(10, _)] ⟨rfl, trivial⟩ ?_
        refine J.ret ?_
        exact J.done hw0 (fun _ _ h => h) (res1 rfl rfl) (retOk () (by unfold hasB; simp [*]) trivial [0] rfl (by decide))
      ·
        refine J.no (Wan.is rfl rfl rfl rfl rfl) rfl rfl ?_
        refine J.no (Wan.is rfl rfl rfl rfl rfl) rfl rfl ?_
        refine J.no (Wan.is rfl rfl rfl rfl rfl) rfl rfl ?_
        refine J.no (Wan.is rfl rfl rfl rfl rfl) rfl rfl ?_
        refine J.no (Wan.is rfl rfl rfl rfl rfl) rfl rfl ?_
        refine J.no (Wan.is rfl rfl rfl rfl rfl) rfl rfl ?_
        refine J.y (op_pickF rfl rfl rfl) rfl rfl rfl ?_
        refine J.y (op_assign rfl rfl) rfl rfl rfl ?_
        refine J.nil ?_
        refine J.then_n (J.k hK2 ?_)
        refine J.keepE [(10, _)] ⟨rfl, trivial⟩ ?_
        refine J.ret ?_
        exact J.done hw0 (fun _ _ h => h) (res1 rfl rfl) (retOk () (by unfold hasB; simp [*]) trivial [0] rfl (by decide))
    ·
      refine J.no (Wan.is rfl rfl rfl rfl rfl) rfl rfl ?_
      refine J.no (Wan.is rfl rfl rfl rfl rfl) rfl rfl ?_
      refine J.no (Wan.is rfl rfl rfl rfl rfl) rfl rfl ?_
      refine J.no (Wan.is rfl rfl rfl rfl rfl) rfl rfl ?_
      refine J.y (op_pickF rfl rfl rfl) rfl rfl rfl ?_
      refine J.y (op_move rfl rfl) rfl rfl rfl ?_
      refine J.no (Wan.is rfl rfl rfl rfl rfl) rfl rfl ?_
      refine J.no (Wan.is rfl rfl rfl rfl rfl) rfl rfl ?_
      refine J.no (Wan.is rfl rfl rfl rfl rfl) rfl rfl ?_
      refine J.no (Wan.is rfl rfl rfl rfl rfl) rfl rfl ?_
      refine J.no (Wan.is rfl rfl rfl rfl rfl) rfl rfl ?_
      refine J.no (Wan.is rfl rfl rfl rfl rfl) rfl rfl ?_
      refine J.y (op_pickF rfl rfl rfl) rfl rfl rfl ?_
      refine J.y (op_assign rfl rfl) rfl rfl rfl ?_
      refine J.nil ?_
      refine J.then_n (J.k hK2 ?_)
      refine J.keepE [(10, _)] ⟨rfl, trivial⟩ ?_
      refine J.ret ?_
      exact J.done hw0 (fun _ _ h => h) (res1 rfl rfl) (retOk () (by unfold hasB; simp [*]) trivial [0] rfl (by decide))
  ·
    refine J.no (Wan.is rfl rfl rfl rfl rfl) rfl rfl ?_
    refine J.no (Wan.is rfl rfl rfl rfl rfl) rfl rfl ?_
    refine J.no (Wan.is rfl rfl rfl rfl rfl) rfl rfl ?_
    refine J.no (Wan.is rfl rfl rfl rfl rfl) rfl rfl ?_
    refine J.y (op_pickF rfl rfl rfl) rfl rfl rfl ?_
    refine J.y (op_move rfl rfl) rfl rfl rfl ?_
    refine J.no (Wan.is rfl rfl rfl rfl rfl) rfl rfl ?_
    refine J.no (Wan.is rfl rfl rfl rfl rfl) rfl rfl ?_
    refine J.no (Wan.is rfl rfl rfl rfl rfl) rfl rfl ?_
    refine J.no (Wan.is rfl rfl rfl rfl rfl) rfl rfl ?_
    refine J.y (op_pickF rfl rfl rfl) rfl rfl rfl ?_
    refine J.y (op_move rfl rfl) rfl rfl rfl ?_
    refine J.no (Wan.is rfl rfl rfl rfl rfl) rfl rfl ?_
    refine J.no (Wan.is rfl rfl rfl rfl rfl) rfl rfl ?_
    refine J.no (Wan.is rfl rfl rfl rfl rfl) rfl rfl ?_
    refine J.no (Wan.is rfl rfl rfl rfl rfl) rfl rfl ?_
    refine J.no (Wan.is rfl rfl rfl rfl rfl) rfl rfl ?_
    refine J.no (Wan.is rfl rfl rfl rfl rfl) rfl rfl ?_
    refine J.y (op_pickF rfl rfl rfl) rfl rfl rfl ?_
    refine J.y (op_assign rfl rfl) rfl rfl rfl ?_
    refine J.nil ?_
    refine J.then_n (J.k hK2 ?_)
    refine J.keepE [(10, _)] ⟨rfl, trivial⟩ ?_
    refine J.ret ?_
    exact J.done hw0 (fun _ _ h => h) (res1 rfl rfl) (retOk () (by unfold hasB; simp [*]) trivial [0] rfl (by decide))

theorem lacks14_ct (F : Hp) (hK : Cells F ⟨1, 0, none⟩ (Sha.K.map W32)) (A : Option Addr) (c : Nat) (bs : List (List UInt8)) (hs : Sl F 1 A bs.length c (strsV bs)) (th : Bool) (pk pv k : List UInt8) (d : Nat) (hg : GoodP bs th pk pv k d) (nd : List UInt8) (hpv : pv.length ≤ 1000000) : Ct Tryd.prog 60 [.agg #[.slice A bs.length c, .bool (th), Str (pk), Str (pv)], Str (nd), Str (k), I ((d : Nat) : Int)] [F] (fun _ : Unit => .bool (lacksB bs th pk pv nd k d)) (fun _ => True) (fun _ => [F]) := by
  have hle := hg.le
  have hk16 := hg.k16
  have hsm := hg.small
  refine Ct.walk Tryd.func60 rfl Tryd.ntmps60 rfl (fun w0 hw0 => ?_)
  change J _ [(0, _), (1, _), (2, _), (3, _)] _ _ _
  refine J.seq (fun K1 hK1 => ?_)
  refine J.region ?_
  refine J.e (op_box (l := [.slice A bs.length c, .bool (th), Str (pk), Str (pv)]) rfl rfl rfl) rfl rfl rfl ?_
  intro g4 _
  change J _ _ _ [F, blk g4 [.slice A bs.length c, .bool (th), Str (pk), Str (pv)] 57] _
  refine J.y (op_assign rfl rfl) rfl rfl rfl ?_
  refine J.nil ?_
  refine J.then_n (J.k hK1 ?_)
  refine J.keepE [(1, _), (2, _), (3, _), (4, _)] ⟨rfl, rfl, rfl, rfl, trivial⟩ ?_
  refine J.seq (fun K2 hK2 => ?_)
  refine J.region ?_
  refine J.y (op_loadBA 1 rfl rfl rfl Tryd.isAgg57 Tryd.sizeOf57 rfl) rfl rfl rfl ?_
  refine J.y (op_move rfl rfl) rfl rfl rfl ?_
  refine J.y (op_move rfl rfl) rfl rfl rfl ?_
  refine J.e (op_call rfl rfl ent49 (Ct.use0 (fun F' hF => good_ct F' A c bs (hs.mono (hF F (by simp))) th pk pv k d (by assumption)))) rfl rfl rfl ?_
  intro g12 _
  refine J.y (op_move rfl rfl) rfl rfl rfl ?_
  refine J.yg (Wan.is rfl rfl rfl rfl rfl) (op_fieldAddr (j := 1) rfl rfl Tryd.underlying57 rfl Tryd.sizeOf4 rfl) rfl rfl ?_
  refine J.yg (Wan.is rfl rfl rfl rfl rfl) (op_loadB 1 (v := .bool (th)) rfl rfl rfl Tryd.isAgg4 rfl) rfl rfl ?_
  refine J.yg (Wan.is rfl rfl rfl rfl rfl) (op_not rfl rfl) rfl rfl ?_
  refine J.yg (Wan.is rfl rfl rfl rfl rfl) (op_move rfl rfl) rfl rfl ?_
  refine J.splitB (d := 17) rfl (fun h17 => ?_) (fun h17 => ?_)
  ·
    refine J.no (Wan.is rfl rfl rfl rfl rfl) rfl rfl ?_
    refine J.no (Wan.is rfl rfl rfl rfl rfl) rfl rfl ?_
    refine J.no (Wan.is rfl rfl rfl rfl rfl) rfl rfl ?_
    refine J.no (Wan.is rfl rfl rfl rfl rfl) rfl rfl ?_
    refine J.yg (Wan.is rfl rfl rfl rfl rfl) (op_pickT rfl rfl rfl) rfl rfl ?_
    refine J.y (op_pickT rfl rfl rfl) rfl rfl rfl ?_
    refine J.y (op_move rfl rfl) rfl rfl rfl ?_
    refine J.yg (Wan.is rfl rfl rfl rfl rfl) (op_loadBA 1 rfl rfl rfl Tryd.isAgg57 Tryd.sizeOf57 rfl) rfl rfl ?_
    refine J.yg (Wan.is rfl rfl rfl rfl rfl) (op_move rfl rfl) rfl rfl ?_
    refine J.yg (Wan.is rfl rfl rfl rfl rfl) (op_move rfl rfl) rfl rfl ?_
    refine J.eg (Wan.is rfl rfl rfl rfl rfl) (op_call rfl rfl ent47 (Ct.use0 (fun F' hF => pNode_ct F' (hK.mono (hF F (by simp))) A c bs (hs.mono (hF F (by simp))) th pk pv k d (by assumption) (by assumption)))) rfl rfl ?_
    intro g28 _
    refine J.yg (Wan.is rfl rfl rfl rfl rfl) (op_move rfl rfl) rfl rfl ?_
    refine J.yg (Wan.is rfl rfl rfl rfl rfl) (op_seq rfl rfl rfl) rfl rfl ?_
    refine J.y (op_pickT rfl rfl rfl) rfl rfl rfl ?_
    refine J.y (op_assign rfl rfl) rfl rfl rfl ?_
    refine J.nil ?_
    refine J.then_n (J.k hK2 ?_)
    refine J.keepE [(8, _)] ⟨rfl, trivial⟩ ?_
    refine J.ret ?_
    exact J.done hw0 (fun _ _ h => h) (res1 rfl rfl) (retOk () (by unfold lacksB; simp [*]) trivial [0] rfl (by decide))
  ·
    refine J.yg (Wan.is rfl rfl rfl rfl rfl) (op_fieldAddr (j := 2) rfl rfl Tryd.underlying57 rfl Tryd.sizeOf9 rfl) rfl rfl ?_
    refine J.yg (Wan.is rfl rfl rfl rfl rfl) (op_loadB 1 (v := Str (pk)) rfl rfl rfl Tryd.isAgg9 rfl) rfl rfl ?_
    refine J.yg (Wan.is rfl rfl rfl rfl rfl) (op_move rfl rfl) rfl rfl ?_
    refine J.yg (Wan.is rfl rfl rfl rfl rfl) (op_sne rfl rfl rfl) rfl rfl ?_
    refine J.yg (Wan.is rfl rfl rfl rfl rfl) (op_pickF rfl rfl rfl) rfl rfl ?_
    refine J.y (op_pickT rfl rfl rfl) rfl rfl rfl ?_
    refine J.y (op_move rfl rfl) rfl rfl rfl ?_
    refine J.split (d := 24) rfl (fun h24 => ?_) (fun h24 => ?_)
    ·
      refine J.yg (Wan.is rfl rfl rfl rfl rfl) (op_loadBA 1 rfl rfl rfl Tryd.isAgg57 Tryd.sizeOf57 rfl) rfl rfl ?_
      refine J.yg (Wan.is rfl rfl rfl rfl rfl) (op_move rfl rfl) rfl rfl ?_
      refine J.yg (Wan.is rfl rfl rfl rfl rfl) (op_move rfl rfl) rfl rfl ?_
      refine J.eg (Wan.is rfl rfl rfl rfl rfl) (op_call rfl rfl ent47 (Ct.use0 (fun F' hF => pNode_ct F' (hK.mono (hF F (by simp))) A c bs (hs.mono (hF F (by simp))) th pk pv k d (by assumption) (by assumption)))) rfl rfl ?_
      intro g28 _
      refine J.yg (Wan.is rfl rfl rfl rfl rfl) (op_move rfl rfl) rfl rfl ?_
      refine J.yg (Wan.is rfl rfl rfl rfl rfl) (op_seq rfl rfl rfl) rfl rfl ?_
      refine J.y (op_pickT rfl rfl rfl) rfl rfl rfl ?_
      refine J.y (op_assign rfl rfl) rfl rfl rfl ?_
      refine J.nil ?_
      refine J.then_n (J.k hK2 ?_)
      refine J.keepE [(8, _)] ⟨rfl, trivial⟩ ?_
      refine J.ret ?_
      exact J.done hw0 (fun _ _ h => h) (res1 rfl rfl) (retOk () (by unfold lacksB; simp [*]) trivial [0] rfl (by decide))
    ·
      refine J.no (Wan.is rfl rfl rfl rfl rfl) rfl rfl ?_
      refine J.no (Wan.is rfl rfl rfl rfl rfl) rfl rfl ?_
      refine J.no (Wan.is rfl rfl rfl rfl rfl) rfl rfl ?_
      refine J.no (Wan.is rfl rfl rfl rfl rfl) rfl rfl ?_
      refine J.no (Wan.is rfl rfl rfl rfl rfl) rfl rfl ?_
      refine J.no (Wan.is rfl rfl rfl rfl rfl) rfl rfl ?_
      refine J.y (op_pickF rfl rfl rfl) rfl rfl rfl ?_
      refine J.y (op_assign rfl rfl) rfl rfl rfl ?_
      refine J.nil ?_
      refine J.then_n (J.k hK2 ?_)
      refine J.keepE [(8, _)] ⟨rfl, trivial⟩ ?_
      refine J.ret ?_
      exact J.done hw0 (fun _ _ h => h) (res1 rfl rfl) (retOk () (by unfold lacksB; simp [*]) trivial [0] rfl (by decide))

theorem node1C_ct (F : Hp) (k : List UInt8) (hk : k.length ≤ 1000000) (pb pd : Nat) (b : List UInt8) (d : Int) (hpb : Cells F ⟨pb, 0, none⟩ [Str b]) (hpd : Cells F ⟨pd, 0, none⟩ [I d]) (hb : b.length ≤ 1000000) : Ct Tryd.prog 67 [Str (k), Ptr pb, Ptr pd] [F] (fun _ : Unit => .bool (nbl b d k)) (fun _ => True) (fun _ => [F]) := by
  refine Ct.walk Tryd.func67 rfl Tryd.ntmps67 rfl (fun w0 hw0 => ?_)
  change J _ [(0, _), (1, _), (2, _)] _ _ _
  refine J.seq (fun K1 hK1 => ?_)
  refine J.region ?_
  refine J.y (op_assign rfl rfl) rfl rfl rfl ?_
  refine J.nil ?_
  refine J.then_n (J.k hK1 ?_)
  refine J.keepE [(0, _), (1, _), (2, _)] ⟨rfl, rfl, rfl, trivial⟩ ?_
  refine J.seq (fun K2 hK2 => ?_)
  refine J.region ?_
  refine J.y (op_move rfl rfl) rfl rfl rfl ?_
  refine J.y (op_load (v := Str (b)) rfl rfl Tryd.isAgg9 (m := F) (by simp) (hpb)) rfl rfl rfl ?_
  refine J.y (op_load (v := I (d)) rfl rfl Tryd.isAgg3 (m := F) (by simp) (hpd)) rfl rfl rfl ?_
  refine J.e (op_call rfl rfl ent68 (Ct.use0 (fun F' hF => below_ct F' k (by omega) b (by omega) d))) rfl rfl rfl ?_
  intro g8 _
  refine J.y (op_not rfl rfl) rfl rfl rfl ?_
  refine J.y (op_assign rfl rfl) rfl rfl rfl ?_
  refine J.nil ?_
  refine J.then_n (J.k hK2 ?_)
  refine J.keepE [(4, _)] ⟨rfl, trivial⟩ ?_
  refine J.ret ?_
  exact J.done hw0 (fun _ _ h => h) (res1 rfl rfl) (retOk () (by unfold nbl; rfl) trivial [0] rfl (by decide))

theorem sidx_ctC (F : Hp) (A : Option Addr) (n c : Nat) (ks : List (List UInt8)) (hs : Sl F 1 A n c (strsV ks)) (hn : n ≤ 1000000) (hsm : ∀ k : Nat, (ks.getD k []).length ≤ 1000000) (pb pd : Nat) (b : List UInt8) (d : Int) (hpb : Cells F ⟨pb, 0, none⟩ [Str b]) (hpd : Cells F ⟨pd, 0, none⟩ [I d]) (hb : b.length ≤ 1000000) : Ct Tryd.prog 111 [.slice A n c, .func (.func 67) #[] #[Ptr pb, Ptr pd]] [F] (fun _ : Unit => I (ixS (nbl b d) ks)) (fun _ => True) (fun _ => [F]) := by
  have hkn : ks.length = n := by have := hs.1; simpa [strsV] using this
  refine Ct.walk Tryd.func111 rfl Tryd.ntmps111 rfl (fun w0 hw0 => ?_)
  change J _ [(0, _), (1, _)] _ _ _
  refine J.seq (fun K1 hK1 => ?_)
  refine J.region ?_
  refine J.y (op_assign rfl rfl) rfl rfl rfl ?_
  refine J.nil ?_
  refine J.then_n (J.k hK1 ?_)
  refine J.keepE [(0, _), (1, _)] ⟨rfl, rfl, trivial⟩ ?_
  refine J.seq (fun K2 hK2 => ?_)
  refine J.seq (fun K3 hK3 => ?_)
  refine J.region ?_
  refine J.y (op_move rfl rfl) rfl rfl rfl ?_
  refine J.y (op_len Tryd.underlying55 rfl rfl) rfl rfl rfl ?_
  refine J.y (op_move rfl rfl) rfl rfl rfl ?_
  refine J.nil ?_
  refine J.then_n (J.k hK3 ?_)
  refine J.keepE [(0, _), (1, _), (7, _), (8, _)] ⟨rfl, rfl, rfl, rfl, trivial⟩ ?_
  refine J.block ?_
  refine J.loop (X := Nat) (fun ζ => [(0, .slice A n c), (1, .func (.func 67) #[] #[Ptr pb, Ptr pd]), (7, I ((n : Nat) : Int)), (8, I ((ζ : Nat) : Int))]) (fun ζ => [F]) (fun ζ => ζ ≤ n ∧ ∀ j < ζ, nbl b d (ks.getD j []) = false) (fun ζ => n - ζ) 0 (⟨Nat.zero_le _, fun j h => absurd h (Nat.not_lt_zero j)⟩) ⟨rfl, rfl, rfl, rfl, trivial⟩ (fun _ h => h) ?_
  rintro k ⟨hk, hno⟩ I0 hI0
  refine J.seq (fun K4 hK4 => ?_)
  refine J.region ?_
  refine J.y (op_lss rfl rfl rfl) rfl rfl rfl ?_
  refine J.nil ?_
  refine J.then_n (J.k hK4 ?_)
  refine J.keepE [(0, _), (1, _), (7, _), (8, _), (9, _)] ⟨rfl, rfl, rfl, rfl, rfl, trivial⟩ ?_
  refine J.seq (fun K5 hK5 => ?_)
  refine J.ite rfl (fun h9 => ?_) (fun h9 => ?_)
  ·
    refine J.skip ?_
    refine J.then_n (J.k hK5 ?_)
    refine J.keepE [(0, _), (1, _), (7, _), (8, _)] ⟨rfl, rfl, rfl, rfl, trivial⟩ ?_
    refine J.seq (fun K6 hK6 => ?_)
    refine J.block ?_
    refine J.seq (fun K7 hK7 => ?_)
    refine J.region ?_
    refine J.y (op_move rfl rfl) rfl rfl rfl ?_
    refine J.y (op_assign rfl rfl) rfl rfl rfl ?_
    refine J.nil ?_
    refine J.then_n (J.k hK7 ?_)
    refine J.keepE [(0, _), (1, _), (5, _), (7, _), (8, _)] ⟨rfl, rfl, rfl, rfl, rfl, trivial⟩ ?_
    refine J.seq (fun K8 hK8 => ?_)
    refine J.region ?_
    refine J.y (op_move rfl rfl) rfl rfl rfl ?_
    refine J.y (op_move rfl rfl) rfl rfl rfl ?_
    refine J.y (op_move rfl rfl) rfl rfl rfl ?_
    refine J.y (op_indexAddr (i := k) rfl rfl rfl Tryd.underlying55 Tryd.sizeOf9 hs (by first | omega | (simp only [List.length_append, List.length_cons, List.length_nil, List.length_take, List.length_drop] at *; omega))) rfl rfl rfl ?_
    refine J.y (op_load rfl rfl Tryd.isAgg9 (m := F) (by simp) (hs.elem (strsV_get (getSome [] (by first | omega | (simp only [List.length_append, List.length_cons, List.length_nil, List.length_take, List.length_drop] at *; omega)))))) rfl rfl rfl ?_
    refine J.e (op_callV rfl rfl rfl ent67 (Ct.use0 (fun F' hF => node1C_ct F' (ks.getD k []) (by first | omega | (exact hsm _)) pb pd b d (hpb.mono (hF F (by simp))) (hpd.mono (hF F (by simp))) (by omega)))) rfl rfl rfl ?_
    intro g16 _
    refine J.nil ?_
    refine J.then_n (J.k hK8 ?_)
    refine J.keepE [(0, _), (1, _), (5, _), (7, _), (8, _), (16, _)] ⟨rfl, rfl, rfl, rfl, rfl, rfl, trivial⟩ ?_
    refine J.cond rfl (fun h16 => ?_) (fun h16 => ?_)
    ·
      refine J.seq (fun K9 hK9 => ?_)
      refine J.region ?_
      refine J.y (op_move rfl rfl) rfl rfl rfl ?_
      refine J.y (op_assign rfl rfl) rfl rfl rfl ?_
      refine J.nil ?_
      refine J.then_n (J.k hK9 ?_)
      refine J.keepE [(4, _)] ⟨rfl, trivial⟩ ?_
      refine J.ret ?_
      refine J.blk_r ?_
      refine J.then_r ?_
      refine J.then_r ?_
      refine J.blk_r ?_
      refine J.then_r ?_
      exact J.done hw0 (fun _ _ h => h) (res1 rfl rfl) (retOk () (by rw [ixS_at (k := k) (by omega) (by simpa using h16) hno]) trivial [0] rfl (by decide))
    ·
      refine J.skip ?_
      refine J.blk_n ?_
      refine J.then_n (J.k hK6 ?_)
      refine J.keepE [(0, _), (1, _), (7, _), (8, _)] ⟨rfl, rfl, rfl, rfl, trivial⟩ ?_
      refine J.region ?_
      refine J.y ((op_add rfl rfl rfl (by first | omega | (simp only [List.length_append, List.length_cons, List.length_nil, List.length_take, List.length_drop] at *; omega))).as (v' := I ((k + 1 : Nat) : Int)) (congrArg I (by omega))) rfl rfl rfl ?_
      refine J.y (op_move rfl rfl) rfl rfl rfl ?_
      refine J.nil ?_
      refine J.then_n ?_
      exact J.kk (k + 1) (fun η (hη : _ ∧ n - η < n - k) => hI0 η hη.1 hη.2) ⟨⟨by omega, fun j hj => by rcases Nat.lt_succ_iff_lt_or_eq.1 hj with h | rfl; exact hno j h; simpa using h16⟩, by first | omega | (dsimp only; omega)⟩ ⟨rfl, rfl, rfl, rfl, trivial⟩ (fun _ h => h)
  ·
    refine J.exit ?_
    refine J.then_x ?_
    refine J.then_x ?_
    refine J.blk_eq ?_
    refine J.then_n (J.k hK2 ?_)
    refine J.keepE [] trivial ?_
    refine J.seq (fun K10 hK10 => ?_)
    refine J.region ?_
    refine J.y (op_assign rfl rfl) rfl rfl rfl ?_
    refine J.nil ?_
    refine J.then_n (J.k hK10 ?_)
    refine J.keepE [(4, _)] ⟨rfl, trivial⟩ ?_
    refine J.ret ?_
    exact J.done hw0 (fun _ _ h => h) (res1 rfl rfl) (retOk () (by rw [ixS_no (fun j hj => hno j (by omega))]) trivial [0] rfl (by decide))

theorem sdel_ctC (F m : Hp) (A : Option Addr) (n c : Nat) (ks : List (List UInt8)) (hr : Row m 9 1 A n c (strsV ks)) (hn : n ≤ 1000000) (hsm : ∀ k : Nat, (ks.getD k []).length ≤ 1000000) (pb pd : Nat) (b : List UInt8) (d : Int) (hpb : Cells F ⟨pb, 0, none⟩ [Str b]) (hpd : Cells F ⟨pd, 0, none⟩ [I d]) (hb : b.length ≤ 1000000) :
    Ct Tryd.prog 65 [.slice A n c, .func (.func 67) #[] #[Ptr pb, Ptr pd]] [m, F] (fun _ : Hp => .slice A (ks.filter fun k => !nbl b d k).length c) (fun m' => Row m' 9 1 A (ks.filter fun k => !nbl b d k).length c (strsV (ks.filter fun k => !nbl b d k))) (fun m' => [m', F]) := by
  have hkn : ks.length = n := by have := hr.len; simpa [strsV] using this
  have hnc := hr.2.2.1
  refine Ct.walk Tryd.func65 rfl Tryd.ntmps65 rfl (fun w0 hw0 => ?_)
  change J _ [(0, _), (1, _)] _ _ _
  refine J.seq (fun K1 hK1 => ?_)
  refine J.region ?_
  refine J.y (op_assign rfl rfl) rfl rfl rfl ?_
  refine J.nil ?_
  refine J.then_n (J.k hK1 ?_)
  refine J.keepE [(0, _), (1, _)] ⟨rfl, rfl, trivial⟩ ?_
  refine J.seq (fun K2 hK2 => ?_)
  refine J.region ?_
  refine J.y (op_move rfl rfl) rfl rfl rfl ?_
  refine J.y (op_move rfl rfl) rfl rfl rfl ?_
  refine J.e (op_call rfl rfl ent111 (Ct.use0 (fun F' hF => sidx_ctC F' A n c ks (hr.sl.mono (hF m (by simp))) (by omega) (hsm) pb pd b d (hpb.mono (hF F (by simp))) (hpd.mono (hF F (by simp))) (by omega)))) rfl rfl rfl ?_
  intro g10 _
  refine J.y (op_assign rfl rfl) rfl rfl rfl ?_
  refine J.nil ?_
  refine J.then_n (J.k hK2 ?_)
  refine J.keepE [(0, _), (1, _), (5, _)] ⟨rfl, rfl, rfl, trivial⟩ ?_
  refine J.seq (fun K3 hK3 => ?_)
  refine J.seq (fun K4 hK4 => ?_)
  refine J.region ?_
  refine J.y (op_move rfl rfl) rfl rfl rfl ?_
  refine J.y (op_eql rfl rfl rfl) rfl rfl rfl ?_
  refine J.nil ?_
  refine J.then_n (J.k hK4 ?_)
  refine J.keepE [(0, _), (1, _), (5, _), (12, _)] ⟨rfl, rfl, rfl, rfl, trivial⟩ ?_
  refine J.ite rfl (fun h12 => ?_) (fun h12 => ?_)
  ·
    refine J.seq (fun K5 hK5 => ?_)
    refine J.region ?_
    refine J.y (op_move rfl rfl) rfl rfl rfl ?_
    refine J.y (op_assign rfl rfl) rfl rfl rfl ?_
    refine J.nil ?_
    refine J.then_n (J.k hK5 ?_)
    refine J.keepE [(4, _)] ⟨rfl, trivial⟩ ?_
    refine J.ret ?_
    refine J.then_r ?_
    have hf : (ks.filter fun k => !nbl b d k) = ks := ixS_none h12
    exact J.done hw0 (fun _ _ h => h) (res1 rfl rfl) (retOk m (by rw [hf, hkn]) (by rw [hf, hkn]; exact hr) [0, 1] rfl (by decide))
  ·
    refine J.skip ?_
    refine J.then_n (J.k hK3 ?_)
    refine J.keepE [(0, _), (1, _), (5, _)] ⟨rfl, rfl, rfl, trivial⟩ ?_
    refine J.seq (fun K6 hK6 => ?_)
    refine J.seq (fun K7 hK7 => ?_)
    obtain ⟨i0, h5, hi0, hf0⟩ := ixS_ex h12
    obtain ⟨ga, rfl⟩ := hr.at (by omega)
    rw [h5]
    refine J.region ?_
    refine J.y (op_move rfl rfl) rfl rfl rfl ?_
    refine J.y ((op_add rfl rfl rfl (by first | omega | (simp only [List.length_append, List.length_cons, List.length_nil, List.length_take, List.length_drop] at *; omega))).as (v' := I ((i0 + 1 : Nat) : Int)) (congrArg I (by omega))) rfl rfl rfl ?_
    refine J.y (op_assign rfl rfl) rfl rfl rfl ?_
    refine J.nil ?_
    refine J.then_n (J.k hK7 ?_)
    refine J.keepE [(0, _), (1, _), (5, _), (6, _)] ⟨rfl, rfl, rfl, rfl, trivial⟩ ?_
    refine J.block ?_
    refine J.loop (X := Nat × Nat × List (List UInt8) × Hp) (fun ζ => [(0, .slice (some ⟨ga, 0, none⟩) n c), (1, .func (.func 67) #[] #[Ptr pb, Ptr pd]), (5, I ((ζ.1 : Nat) : Int)), (6, I ((ζ.2.1 : Nat) : Int))]) (fun ζ => [ζ.2.2.2, F]) (fun ζ => ζ.1 < ζ.2.1 ∧ ζ.2.1 ≤ n ∧ ζ.2.2.1.length = n ∧ ζ.2.2.1.take ζ.1 = (ks.take ζ.2.1).filter (fun k => !nbl b d k) ∧ ζ.2.2.1.drop ζ.2.1 = ks.drop ζ.2.1 ∧ Row ζ.2.2.2 9 1 (some ⟨ga, 0, none⟩) n c (strsV ζ.2.2.1)) (fun ζ => n - ζ.2.1) (i0, i0 + 1, ks, m) (⟨by dsimp only; omega, by dsimp only; omega, hkn, hf0, rfl, hr⟩) ⟨rfl, rfl, rfl, rfl, trivial⟩ (fun _ h => h) ?_
    rintro ⟨w, j, L, m⟩ ⟨hw, hj, hL, hA, hB, hr⟩ I0 hI0
    dsimp only at hw hj hL hA hB hr ⊢
    refine J.seq (fun K8 hK8 => ?_)
    refine J.seq (fun K9 hK9 => ?_)
    refine J.region ?_
    refine J.y (op_move rfl rfl) rfl rfl rfl ?_
    refine J.y (op_move rfl rfl) rfl rfl rfl ?_
    refine J.y (op_len Tryd.underlying55 rfl rfl) rfl rfl rfl ?_
    refine J.y (op_lss rfl rfl rfl) rfl rfl rfl ?_
    refine J.nil ?_
    refine J.then_n (J.k hK9 ?_)
    refine J.keepE [(0, _), (1, _), (5, _), (6, _), (19, _)] ⟨rfl, rfl, rfl, rfl, rfl, trivial⟩ ?_
    refine J.ite rfl (fun h19 => ?_) (fun h19 => ?_)
    ·
      refine J.skip ?_
      refine J.then_n (J.k hK8 ?_)
      refine J.keepE [(0, _), (1, _), (5, _), (6, _)] ⟨rfl, rfl, rfl, rfl, trivial⟩ ?_
      refine J.seq (fun K10 hK10 => ?_)
      refine J.block ?_
      refine J.seq (fun K11 hK11 => ?_)
      refine J.region ?_
      refine J.y (op_move rfl rfl) rfl rfl rfl ?_
      refine J.y (op_move rfl rfl) rfl rfl rfl ?_
      refine J.y (op_indexAddrS (i := j) (j := 0 + j * 1) rfl rfl rfl Tryd.underlying55 Tryd.sizeOf9 (by first | omega | (simp only [List.length_append, List.length_cons, List.length_nil, List.length_take, List.length_drop] at *; omega)) (by omega)) rfl rfl rfl ?_
      have hnw : w < j := hw
      refine J.y (op_load rfl rfl Tryd.isAgg9 (m := m) (by simp) (hr.sl.cells (strsV_get (getSome [] (by first | omega | (simp only [List.length_append, List.length_cons, List.length_nil, List.length_take, List.length_drop] at *; omega)))))) rfl rfl rfl ?_
      refine J.y (op_assign rfl rfl) rfl rfl rfl ?_
      refine J.nil ?_
      refine J.then_n (J.k hK11 ?_)
      refine J.keepE [(0, _), (1, _), (5, _), (6, _), (7, _)] ⟨rfl, rfl, rfl, rfl, rfl, trivial⟩ ?_
      refine J.seq (fun K12 hK12 => ?_)
      have hgj : (L.getD j []).length ≤ 1000000 := by
        have e0 := congrArg (fun z => z.getD 0 []) hB
        have e1 : L.getD j [] = ks.getD j [] := by simpa [List.getD_eq_getElem?_getD, List.getElem?_drop] using e0
        rw [e1]; exact hsm j
      refine J.region ?_
      refine J.y (op_move rfl rfl) rfl rfl rfl ?_
      refine J.y (op_move rfl rfl) rfl rfl rfl ?_
      refine J.e (op_callV rfl rfl rfl ent67 (Ct.use0 (fun F' hF => node1C_ct F' (L.getD j []) (by first | omega | (exact hsm _)) pb pd b d (hpb.mono (hF F (by simp))) (hpd.mono (hF F (by simp))) (by omega)))) rfl rfl rfl ?_
      intro g28 _
      refine J.y (op_not rfl rfl) rfl rfl rfl ?_
      refine J.nil ?_
      refine J.then_n (J.k hK12 ?_)
      refine J.keepE [(0, _), (1, _), (5, _), (6, _), (7, _), (29, _)] ⟨rfl, rfl, rfl, rfl, rfl, rfl, trivial⟩ ?_
      refine J.cond rfl (fun h29 => ?_) (fun h29 => ?_)
      ·
        refine J.seq (fun K13 hK13 => ?_)
        refine J.region ?_
        refine J.y (op_move rfl rfl) rfl rfl rfl ?_
        refine J.y (op_move rfl rfl) rfl rfl rfl ?_
        refine J.y (op_move rfl rfl) rfl rfl rfl ?_
        refine J.y (op_indexAddrS (i := w) (j := 0 + w * 1) rfl rfl rfl Tryd.underlying55 Tryd.sizeOf9 (by first | omega | (simp only [List.length_append, List.length_cons, List.length_nil, List.length_take, List.length_drop] at *; omega)) (by omega)) rfl rfl rfl ?_
        refine J.s (op_storeRow (i := 0) (k := w) (off := 0) (b := [Str (L.getD j [])]) rfl rfl rfl rfl hr (vs := [Str (L.getD j [])]) rfl Tryd.sizeOf9 rfl (by omega) (strsV_get (getSome [] (by first | omega | (simp only [List.length_append, List.length_cons, List.length_nil, List.length_take, List.length_drop] at *; omega)))) rfl (Nat.le_refl _)) rfl rfl ?_
        rintro m9_1 hm9_1
        change J _ _ _ [m9_1, F] _
        rw [strsV_set] at hm9_1
        refine J.nil ?_
        refine J.then_n (J.k hK13 ?_)
        refine J.keepE [(0, _), (1, _), (5, _), (6, _)] ⟨rfl, rfl, rfl, rfl, trivial⟩ ?_
        refine J.region ?_
        refine J.y (op_move rfl rfl) rfl rfl rfl ?_
        refine J.y ((op_add rfl rfl rfl (by first | omega | (simp only [List.length_append, List.length_cons, List.length_nil, List.length_take, List.length_drop] at *; omega))).as (v' := I ((w + 1 : Nat) : Int)) (congrArg I (by omega))) rfl rfl rfl ?_
        refine J.y (op_assign rfl rfl) rfl rfl rfl ?_
        refine J.nil ?_
        refine J.blk_n ?_
        refine J.then_n (J.k hK10 ?_)
        refine J.keepE [(0, _), (1, _), (5, _), (6, _)] ⟨rfl, rfl, rfl, rfl, trivial⟩ ?_
        refine J.region ?_
        refine J.y (op_move rfl rfl) rfl rfl rfl ?_
        refine J.y ((op_add rfl rfl rfl (by first | omega | (simp only [List.length_append, List.length_cons, List.length_nil, List.length_take, List.length_drop] at *; omega))).as (v' := I ((j + 1 : Nat) : Int)) (congrArg I (by omega))) rfl rfl rfl ?_
        refine J.y (op_assign rfl rfl) rfl rfl rfl ?_
        refine J.nil ?_
        refine J.then_n ?_
        exact J.kk (w + 1, j + 1, L.set w (L.getD j []), m9_1) (fun η (hη : _ ∧ n - η.2.1 < n - j) => hI0 η hη.1 hη.2) ⟨⟨by dsimp only; omega, by dsimp only; omega, by dsimp only; rw [List.length_set]; exact hL, (del_keep hw (by omega) (by omega) hA hB (by simpa using h29)).1, (del_keep hw (by omega) (by omega) hA hB (by simpa using h29)).2, by assumption⟩, by first | omega | (dsimp only; omega)⟩ ⟨rfl, rfl, rfl, rfl, trivial⟩ (fun _ h => h)
      ·
        refine J.skip ?_
        refine J.blk_n ?_
        refine J.then_n (J.k hK10 ?_)
        refine J.keepE [(0, _), (1, _), (5, _), (6, _)] ⟨rfl, rfl, rfl, rfl, trivial⟩ ?_
        refine J.region ?_
        refine J.y (op_move rfl rfl) rfl rfl rfl ?_
        refine J.y ((op_add rfl rfl rfl (by first | omega | (simp only [List.length_append, List.length_cons, List.length_nil, List.length_take, List.length_drop] at *; omega))).as (v' := I ((j + 1 : Nat) : Int)) (congrArg I (by omega))) rfl rfl rfl ?_
        refine J.y (op_assign rfl rfl) rfl rfl rfl ?_
        refine J.nil ?_
        refine J.then_n ?_
        exact J.kk (w, j + 1, L, m) (fun η (hη : _ ∧ n - η.2.1 < n - j) => hI0 η hη.1 hη.2) ⟨⟨by dsimp only; omega, by dsimp only; omega, hL, (del_drop (by omega) hA hB (by simpa using h29)).1, (del_drop (by omega) hA hB (by simpa using h29)).2, hr⟩, by first | omega | (dsimp only; omega)⟩ ⟨rfl, rfl, rfl, rfl, trivial⟩ (fun _ h => h)
    ·
      refine J.exit ?_
      refine J.then_x ?_
      refine J.then_x ?_
      refine J.blk_eq ?_
      refine J.then_n (J.k hK6 ?_)
      refine J.keepE [(0, _), (5, _)] ⟨rfl, rfl, trivial⟩ ?_
      refine J.seq (fun K14 hK14 => ?_)
      refine J.region ?_
      refine J.y (op_move rfl rfl) rfl rfl rfl ?_
      refine J.y (op_move rfl rfl) rfl rfl rfl ?_
      refine J.y (op_slice (l := w) (h := n) rfl rfl Tryd.underlying55 Tryd.sizeOf9 rfl rfl (by omega)) rfl rfl rfl ?_
      refine J.s (op_clearSpare (i := 0) (l := w) (h := n) rfl rfl (by split <;> simp [Addr.add_lit]) Tryd.underlying55 el9 rfl rfl rfl (hr.shrink (by omega)) rfl (by omega) (by omega)) rfl rfl ?_
      rintro mc hmc
      change J _ _ _ [mc, F] _
      refine J.nil ?_
      refine J.then_n (J.k hK14 ?_)
      refine J.keepE [(0, _), (5, _)] ⟨rfl, rfl, trivial⟩ ?_
      refine J.seq (fun K15 hK15 => ?_)
      refine J.region ?_
      refine J.y (op_move rfl rfl) rfl rfl rfl ?_
      refine J.y (op_move rfl rfl) rfl rfl rfl ?_
      refine J.y (op_sliceTo (h := w) rfl rfl Tryd.underlying55 Tryd.sizeOf9 rfl (by omega)) rfl rfl rfl ?_
      refine J.y (op_assign rfl rfl) rfl rfl rfl ?_
      refine J.nil ?_
      refine J.then_n (J.k hK15 ?_)
      refine J.keepE [(4, _)] ⟨rfl, trivial⟩ ?_
      refine J.ret ?_
      have hfl : (ks.filter fun k => !nbl b d k) = L.take w := by rw [hA, List.take_of_length_le (by omega)]
      have hfw : (ks.filter fun k => !nbl b d k).length = w := by rw [hfl, List.length_take]; omega
      rw [strsV_take, ← hfl] at hmc
      exact J.done hw0 (fun _ _ h => h) (res1 rfl rfl) (retOk mc (by rw [hfw]) (by rw [hfw]; exact hmc) [0, 1] rfl (by decide))

theorem clone_ct (F : Hp) (A : Option Addr) (n c : Nat) (ks : List (List UInt8)) (hs : Sl F 1 A n c (strsV ks)) (hn : n ≤ 1000000) : Ct Tryd.prog 66 [.slice A n c] [F] (fun x : Option Addr × Nat × Hp => .slice x.1 (ks).length x.2.1) (fun x => Row x.2.2 9 1 x.1 (ks).length x.2.1 (strsV ks)) (fun x => [F, x.2.2]) := by
  have hkn : ks.length = n := by have := hs.1; simpa [strsV] using this
  refine Ct.walk Tryd.func66 rfl Tryd.ntmps66 rfl (fun w0 hw0 => ?_)
  change J _ [(0, _)] _ _ _
  refine J.seq (fun K1 hK1 => ?_)
  refine J.region ?_
  refine J.y (op_assign rfl rfl) rfl rfl rfl ?_
  refine J.nil ?_
  refine J.then_n (J.k hK1 ?_)
  refine J.keepE [(0, _)] ⟨rfl, trivial⟩ ?_
  refine J.seq (fun K2 hK2 => ?_)
  refine J.seq (fun K3 hK3 => ?_)
  refine J.region ?_
  refine J.y (op_move rfl rfl) rfl rfl rfl ?_
  refine J.y ((op_slNil Tryd.underlying55 rfl rfl rfl).as (v' := .bool (decide (A.isNone = true))) (congrArg Value.bool (by cases A <;> rfl))) rfl rfl rfl ?_
  refine J.nil ?_
  refine J.then_n (J.k hK3 ?_)
  refine J.keepE [(0, _), (4, _)] ⟨rfl, rfl, trivial⟩ ?_
  refine J.ite rfl (fun h4 => ?_) (fun h4 => ?_)
  ·
    refine J.seq (fun K4 hK4 => ?_)
    refine J.region ?_
    refine J.y (op_assign rfl rfl) rfl rfl rfl ?_
    refine J.nil ?_
    refine J.then_n (J.k hK4 ?_)
    refine J.keepE [(2, _)] ⟨rfl, trivial⟩ ?_
    refine J.ret ?_
    refine J.then_r ?_
    have hk0 : ks = [] := by
      refine List.eq_nil_of_length_eq_zero ?_
      rcases Nat.eq_zero_or_pos n with h | h
      · omega
      · obtain ⟨g, o, rfl⟩ := hs.at h; cases h4
    refine J.addEmpty [0, 1] [F, (fun _ => none)] rfl (by decide) ?_
    exact J.done hw0 (fun _ _ h => h) (res1 rfl rfl) (retOk (none, 0, (fun _ => none)) (by rw [hk0]; rfl) (by rw [hk0]; exact RowQ.nil) [0, 1] rfl (by decide))
  ·
    refine J.skip ?_
    refine J.then_n (J.k hK2 ?_)
    refine J.keepE [(0, _)] ⟨rfl, trivial⟩ ?_
    refine J.seq (fun K5 hK5 => ?_)
    refine J.region ?_
    refine J.e (op_buildSlice0 rfl Tryd.underlying55 el9) rfl rfl rfl ?_
    intro g5 _
    change J _ _ _ [F, blk g5 [] 9] _
    refine J.y (op_move rfl rfl) rfl rfl rfl ?_
    refine J.e (op_append (i := 1) (xs := strsV ([])) (m2 := F) (ys := strsV ks) rfl rfl rfl Tryd.underlying55 Tryd.underlying55 el9 rfl (row_blk (q := True) (xs := strsV ([])) rfl (by intro x hx; first | exact absurd hx (List.not_mem_nil) | (rw [List.mem_singleton.1 hx]; rfl))) (by simp) (hs) (one_strs _) (by first | omega | (simp only [List.length_append, List.length_cons, List.length_nil, List.length_take, List.length_drop] at *; omega)) (by first | omega | (simp only [List.length_append, List.length_cons, List.length_nil, List.length_take, List.length_drop] at *; omega))) rfl rfl rfl ?_
    rintro ⟨A7, c7, m7⟩ h7
    try dsimp only at h7
    change J _ ((7, .slice A7 (0 + n) c7) :: _) _ [F, m7] _
    replace h7 : Row m7 9 1 A7 (0 + n) c7 (strsV (ks)) := h7
    refine J.y (op_assign rfl rfl) rfl rfl rfl ?_
    refine J.nil ?_
    refine J.then_n (J.k hK5 ?_)
    refine J.keepE [(2, _)] ⟨rfl, trivial⟩ ?_
    refine J.ret ?_
    rw [show 0 + n = ks.length by omega] at h7
    exact J.done hw0 (fun _ _ h => h) (res1 rfl rfl) (retOk (A7, c7, m7) (by rw [← hkn, Nat.zero_add]) h7 [0, 1] rfl (by decide))

theorem prove1_ct (F : Hp) (d : Int) (p9 p4 : Nat) (A : Option Addr) (n c : Nat) (ks : List (List UInt8)) (hs : Sl F 1 A n c (strsV ks)) (h9 : Cells F ⟨p9, 0, none⟩ [.slice A n c]) (b : List UInt8) (h4 : Cells F ⟨p4, 0, none⟩ [Str b]) (hn : n ≤ 1000000) (hb : b.length ≤ 1000000) (hsm : ∀ k : Nat, (ks.getD k []).length ≤ 1000000) : Ct Tryd.prog 64 [I (d), Ptr p9, Ptr p4] [F] (fun x : Option Addr × Nat × Hp => .slice x.1 (ks.filter (fun q => !nbl b d q)).length x.2.1) (fun x => Row x.2.2 9 1 x.1 (ks.filter (fun q => !nbl b d q)).length x.2.1 (strsV (ks.filter (fun q => !nbl b d q)))) (fun x => [F, x.2.2]) := by
  have hkn : ks.length = n := by have := hs.1; simpa [strsV] using this
  refine Ct.walk Tryd.func64 rfl Tryd.ntmps64 rfl (fun w0 hw0 => ?_)
  change J _ [(0, _), (1, _), (2, _)] _ _ _
  refine J.seq (fun K1 hK1 => ?_)
  refine J.region ?_
  refine J.e (op_box (l := [I (d)]) rfl rfl rfl) rfl rfl rfl ?_
  intro g3 _
  change J _ _ _ [F, blk g3 [I (d)] 3] _
  refine J.y (op_assign rfl rfl) rfl rfl rfl ?_
  refine J.nil ?_
  refine J.then_n (J.k hK1 ?_)
  refine J.keepE [(1, _), (2, _), (3, _)] ⟨rfl, rfl, rfl, trivial⟩ ?_
  refine J.seq (fun K2 hK2 => ?_)
  refine J.region ?_
  refine J.y (op_load (v := .slice A n c) rfl rfl Tryd.isAgg55 (m := F) (by simp) (h9)) rfl rfl rfl ?_
  refine J.e (op_call rfl rfl ent66 (Ct.use (new := fun x : Option Addr × Nat × Hp => [x.2.2]) (fun F' hF => clone_ct F' A n c ks (hs.mono (hF F (by simp))) (by omega)))) rfl rfl rfl ?_
  rintro ⟨A6, c6, m6⟩ h6
  try dsimp only at h6
  change J _ ((6, .slice A6 (ks).length c6) :: _) _ [F, blk g3 [I (d)] 3, m6] _
  refine J.y (op_makeFunc rfl rfl) rfl rfl rfl ?_
  refine J.e (op_call rfl rfl ent65 (Ct.use1 2 (m' := fun x : Hp => x) (new := fun _ => []) rfl (fun F' hF => sdel_ctC F' m6 A6 ks.length c6 ks h6 (by omega) hsm p4 g3 b d (h4.mono (hF F (by simp))) (Cells.blk0.mono (hF (blk g3 [I (d)] 3) (by simp))) hb))) rfl rfl rfl ?_
  rintro m8 h8
  change J _ ((8, .slice A6 (ks.filter fun q => !nbl b d q).length c6) :: _) _ [F, blk g3 [I (d)] 3, m8] _
  refine J.y (op_assign rfl rfl) rfl rfl rfl ?_
  refine J.nil ?_
  refine J.then_n (J.k hK2 ?_)
  refine J.keepE [(4, _)] ⟨rfl, trivial⟩ ?_
  refine J.ret ?_
  exact J.done hw0 (fun _ _ h => h) (res1 rfl rfl) (retOk (A6, c6, m8) rfl h8 [0, 2] rfl (by decide))

theorem flt_kd (l : List Sm.PR) (k : List UInt8) {d : Nat} (hd : d ≤ 128) : (Sm.keysS l).filter (fun q => !nbl k ((d : Nat) : Int) q) = kd l k d := by
  unfold kd nbl
  refine List.filter_congr fun q _ => ?_
  rw [Bool.not_not, Int.toNat_natCast, Nat.min_eq_left hd]
theorem flt_kd2 (l : List Sm.PR) (k : List UInt8) {d : Nat} (hd : d + 1 ≤ 128) : (kd l k d).filter (fun q => !nbl k ((d + 1 : Nat) : Int) q) = kd l k (d + 1) := by
  rw [← kd_succ]
  refine List.filter_congr fun q _ => ?_
  unfold nbl
  rw [Bool.not_not, Int.toNat_natCast, Nat.min_eq_left hd]
theorem kd_small {l : List Sm.PR} (hf : Fine l) (k : List UInt8) (d j : Nat) : ((kd l k d).getD j []).length ≤ 1000000 := by
  by_cases hj : j < (kd l k d).length
  · rw [List.getD_eq_getElem?_getD, List.getElem?_eq_getElem hj]
    obtain ⟨⟨v, hv⟩, _⟩ := kd_mem (List.getElem_mem hj)
    show ((kd l k d)[j]).length ≤ 1000000
    rw [show (kd l k d)[j].length = 16 from hf.k16 _ hv]; decide
  · rw [List.getD_eq_getElem?_getD, List.getElem?_eq_none (by omega)]; decide
theorem kd_le (l : List Sm.PR) (k : List UInt8) (d : Nat) : (kd l k d).length ≤ l.length := by
  have := List.length_filter_le (fun q => Sm.belowB q k d) (Sm.keysS l)
  rw [Sm.keysS_len] at this; exact this

theorem prove_ct (F : Hp) (hK : Cells F ⟨1, 0, none⟩ (Sha.K.map W32)) (g : Nat) (l : List Sm.PR) (hT : TreeA F g l) (hf : Fine l) (k : List UInt8) (hk : k.length = 16) (d : Nat) (hd : d ≤ 128) :
    Ct Tryd.prog 27 [Ptr g, Str k, I ((d : Nat) : Int)] [F] (fun x : Nat × Option Addr × Nat × Hp => .tuple #[.agg #[.slice x.2.1 (bsd l k d (x.1 - d)).length x.2.2.1, .bool (pThere l k x.1), Str (pKey l k x.1), Str (pVal l k x.1)], I 0]) (fun x => Stop l k d x.1 ∧ Row x.2.2.2 9 1 x.2.1 (bsd l k d (x.1 - d)).length x.2.2.1 (strsV (bsd l k d (x.1 - d)))) (fun x => [F, x.2.2.2]) := by
  have hln := hf.few
  have hkl := Sm.keysS_len l
  have hsm := keysS_small hf.k16
  have hk0 := flt_kd l k hd
  have hkd0 := kd_le l k d
  refine Ct.walk Tryd.func27 rfl Tryd.ntmps27 rfl (fun w0 hw0 => ?_)
  change J _ [(0, _), (1, _), (2, _)] _ _ _
  refine J.seq (fun K1 hK1 => ?_)
  refine J.region ?_
  refine J.e (op_box (l := [Str (k)]) rfl rfl rfl) rfl rfl rfl ?_
  intro g4 _
  change J _ _ _ [F, blk g4 [Str (k)] 9] _
  refine J.e (op_alloc (l := [.slice none 0 0, .bool false, Str [], Str []]) rfl Tryd.zeroValue57 rfl) rfl rfl rfl ?_
  intro g6 _
  change J _ _ _ [F, blk g4 [Str (k)] 9, blk g6 [.slice none 0 0, .bool false, Str [], Str []] 57] _
  refine J.y (op_assign rfl rfl) rfl rfl rfl ?_
  refine J.nil ?_
  refine J.then_n (J.k hK1 ?_)
  refine J.keepE [(0, _), (2, _), (4, _), (6, _)] ⟨rfl, rfl, rfl, rfl, trivial⟩ ?_
  refine J.seq (fun K2 hK2 => ?_)
  refine J.seq (fun K3 hK3 => ?_)
  refine J.region ?_
  refine J.y (op_loadB 1 (v := Str (k)) rfl rfl rfl Tryd.isAgg9 rfl) rfl rfl rfl ?_
  refine J.y (op_move rfl rfl) rfl rfl rfl ?_
  refine J.e (op_call rfl rfl ent62 (Ct.use0 (fun F' hF => pright_ct F' k ((d : Nat) : Int)))) rfl rfl rfl ?_
  intro g14 _
  refine J.y ((op_not rfl rfl).as (v' := .bool false) (by rw [decide_eq_true (show k.length = 16 ∧ (0 : Int) ≤ ((d : Nat) : Int) ∧ ((d : Nat) : Int) ≤ 128 from ⟨hk, by omega, by omega⟩)]; rfl)) rfl rfl rfl ?_
  refine J.nil ?_
  refine J.then_n (J.k hK3 ?_)
  refine J.keepE [(0, _), (2, _), (4, _), (6, _), (15, _)] ⟨rfl, rfl, rfl, rfl, rfl, trivial⟩ ?_
  refine J.condF rfl rfl ?_
  refine J.skip ?_
  refine J.then_n (J.k hK2 ?_)
  refine J.keepE [(0, _), (2, _), (4, _), (6, _)] ⟨rfl, rfl, rfl, rfl, trivial⟩ ?_
  refine J.seq (fun K4 hK4 => ?_)
  refine J.region ?_
  refine J.e (op_alloc (l := [.slice none 0 0, .bool false, Str [], Str []]) rfl Tryd.zeroValue57 rfl) rfl rfl rfl ?_
  intro g8 _
  change J _ _ _ [F, blk g4 [Str (k)] 9, blk g6 [.slice none 0 0, .bool false, Str [], Str []] 57, blk g8 [.slice none 0 0, .bool false, Str [], Str []] 57] _
  refine J.nil ?_
  refine J.then_n (J.k hK4 ?_)
  refine J.keepE [(0, _), (2, _), (4, _), (6, _), (8, _)] ⟨rfl, rfl, rfl, rfl, rfl, trivial⟩ ?_
  refine J.seq (fun K5 hK5 => ?_)
  refine J.region ?_
  refine J.y (op_move rfl rfl) rfl rfl rfl ?_
  refine J.e (op_call rfl rfl ent63 (Ct.use (new := fun x : Option Addr × Nat × Hp => [x.2.2]) (fun F' hF => tkeys_ct F' g l (hT.mono (hF F (by simp))) (by omega)))) rfl rfl rfl ?_
  rintro ⟨A18, c18, m18⟩ h18
  try dsimp only at h18
  change J _ ((18, .slice A18 (Sm.keysS l).length c18) :: _) _ [F, blk g4 [Str (k)] 9, blk g6 [.slice none 0 0, .bool false, Str [], Str []] 57, blk g8 [.slice none 0 0, .bool false, Str [], Str []] 57, m18] _
  refine J.e (op_alloc (l := [.slice none 0 0]) rfl Tryd.zeroValue55 rfl) rfl rfl rfl ?_
  intro g9 _
  change J _ _ _ [F, blk g4 [Str (k)] 9, blk g6 [.slice none 0 0, .bool false, Str [], Str []] 57, blk g8 [.slice none 0 0, .bool false, Str [], Str []] 57, m18, blk g9 [.slice none 0 0] 55] _
  refine J.s (op_storeAll (i := 5) (l := [.slice none 0 0]) (vs := [.slice A18 ((Sm.keysS l).length) c18]) rfl rfl rfl rfl rfl Tryd.sizeOf55 rfl rfl) rfl rfl (fun _ _ => ?_)
  change J _ _ _ [F, blk g4 [Str (k)] 9, blk g6 [.slice none 0 0, .bool false, Str [], Str []] 57, blk g8 [.slice none 0 0, .bool false, Str [], Str []] 57, m18, blk g9 [.slice A18 ((Sm.keysS l).length) c18] 55] _
  refine J.nil ?_
  refine J.then_n (J.k hK5 ?_)
  refine J.keepE [(0, _), (2, _), (4, _), (6, _), (8, _), (9, _)] ⟨rfl, rfl, rfl, rfl, rfl, rfl, trivial⟩ ?_
  refine J.seq (fun K6 hK6 => ?_)
  refine J.region ?_
  refine J.y (op_makeFunc rfl rfl) rfl rfl rfl ?_
  refine J.y (op_assign rfl rfl) rfl rfl rfl ?_
  refine J.nil ?_
  refine J.then_n (J.k hK6 ?_)
  refine J.keepE [(0, _), (2, _), (4, _), (6, _), (8, _), (9, _), (10, _)] ⟨rfl, rfl, rfl, rfl, rfl, rfl, rfl, trivial⟩ ?_
  refine J.seq (fun K7 hK7 => ?_)
  refine J.region ?_
  refine J.y (op_move rfl rfl) rfl rfl rfl ?_
  refine J.y (op_move rfl rfl) rfl rfl rfl ?_
  refine J.e (op_callV rfl rfl rfl ent64 (Ct.use (new := fun x : Option Addr × Nat × Hp => [x.2.2]) (fun F' hF => prove1_ct F' ((d : Nat) : Int) g9 g4 A18 ((Sm.keysS l).length) c18 (Sm.keysS l) (h18.sl.mono (hF m18 (by simp))) (Cells.blk0.mono (hF (blk g9 [.slice A18 ((Sm.keysS l).length) c18] 55) (by simp))) k (Cells.blk0.mono (hF (blk g4 [Str (k)] 9) (by simp))) (by omega) (by omega) (by assumption)))) rfl rfl rfl ?_
  rintro ⟨A22, c22, m22⟩ h22
  try dsimp only at h22
  change J _ ((22, .slice A22 ((Sm.keysS l).filter (fun q => !nbl k ((d : Nat) : Int) q)).length c22) :: _) _ [F, blk g4 [Str (k)] 9, blk g6 [.slice none 0 0, .bool false, Str [], Str []] 57, blk g8 [.slice none 0 0, .bool false, Str [], Str []] 57, m18, blk g9 [.slice A18 ((Sm.keysS l).length) c18] 55, m22] _
  rw [hk0] at h22 ⊢
  refine J.s (op_storeAll (i := 5) (l := [.slice A18 ((Sm.keysS l).length) c18]) (vs := [.slice A22 ((kd l k (d)).length) c22]) rfl rfl rfl rfl rfl Tryd.sizeOf55 rfl rfl) rfl rfl (fun _ _ => ?_)
  change J _ _ _ [F, blk g4 [Str (k)] 9, blk g6 [.slice none 0 0, .bool false, Str [], Str []] 57, blk g8 [.slice none 0 0, .bool false, Str [], Str []] 57, m18, blk g9 [.slice A22 ((kd l k (d)).length) c22] 55, m22] _
  refine J.nil ?_
  refine J.then_n (J.k hK7 ?_)
  refine J.keepE [(0, _), (2, _), (4, _), (6, _), (8, _), (9, _), (10, _)] ⟨rfl, rfl, rfl, rfl, rfl, rfl, rfl, trivial⟩ ?_
  refine J.seq (fun K8 hK8 => ?_)
  refine J.seq (fun K9 hK9 => ?_)
  refine J.region ?_
  refine J.y (op_move rfl rfl) rfl rfl rfl ?_
  refine J.y (op_assign rfl rfl) rfl rfl rfl ?_
  refine J.nil ?_
  refine J.then_n (J.k hK9 ?_)
  refine J.keepE [(0, _), (4, _), (6, _), (8, _), (9, _), (10, _), (11, _)] ⟨rfl, rfl, rfl, rfl, rfl, rfl, rfl, trivial⟩ ?_
  refine J.block ?_
  refine J.loop (X := Nat × Option Addr × Nat × Hp × Option Addr × Nat × Hp) (fun ζ => [(0, Ptr g), (4, Ptr g4), (6, Ptr g6), (8, Ptr g8), (9, Ptr g9), (10, .func (.func 64) #[] #[Ptr g9, Ptr g4]), (11, I ((d + ζ.1 : Nat) : Int))]) (fun ζ => [F, blk g4 [Str (k)] 9, blk g6 [.slice none 0 0, .bool false, Str [], Str []] 57, blk g8 [.slice ζ.2.2.2.2.1 (bsd l k d (ζ.1)).length ζ.2.2.2.2.2.1, .bool false, Str [], Str []] 57, blk g9 [.slice ζ.2.1 (kd l k (d + ζ.1)).length ζ.2.2.1] 55, ζ.2.2.2.1, ζ.2.2.2.2.2.2]) (fun ζ => d + ζ.1 ≤ 128 ∧ (∀ x, d ≤ x → x < d + ζ.1 → 2 ≤ (cur l k x).length) ∧ Row ζ.2.2.2.1 9 1 ζ.2.1 (kd l k (d + ζ.1)).length ζ.2.2.1 (strsV (kd l k (d + ζ.1))) ∧ Row ζ.2.2.2.2.2.2 9 1 ζ.2.2.2.2.1 (bsd l k d (ζ.1)).length ζ.2.2.2.2.2.1 (strsV (bsd l k d (ζ.1)))) (fun ζ => 128 - (d + ζ.1)) (0, A22, c22, m22, none, 0, (fun _ => none)) (⟨hd, fun x h1 h2 => absurd h2 (by omega), h22, RowQ.nil⟩) ⟨rfl, rfl, rfl, rfl, rfl, rfl, rfl, trivial⟩ (fun _ h => h.empty.pick [0, 1, 2, 3, 5, 6, 7] (by decide)) ?_
  rintro ⟨n, A9, c9, m9, Ab, cb, mb⟩ ⟨he, htw, hr9, hrb⟩ I0 hI0
  dsimp only at he htw hr9 hrb ⊢
  have hbl := bsd_len l k d n
  refine J.seq (fun K10 hK10 => ?_)
  refine J.seq (fun K11 hK11 => ?_)
  refine J.region ?_
  refine J.y (op_loadB 4 (v := .slice A9 (kd l k (d + n)).length c9) rfl rfl rfl Tryd.isAgg55 rfl) rfl rfl rfl ?_
  refine J.y (op_len Tryd.underlying55 rfl rfl) rfl rfl rfl ?_
  refine J.y (op_gtr rfl rfl rfl) rfl rfl rfl ?_
  refine J.nil ?_
  refine J.then_n (J.k hK11 ?_)
  refine J.keepE [(0, _), (4, _), (6, _), (8, _), (9, _), (10, _), (11, _), (26, _)] ⟨rfl, rfl, rfl, rfl, rfl, rfl, rfl, rfl, trivial⟩ ?_
  refine J.ite rfl (fun h26 => ?_) (fun h26 => ?_)
  ·
    have hcl := kd_len hf.once k (d + n)
    have hlt : d + n < 128 := by
      rcases Nat.lt_or_ge (d + n) 128 with h | h
      · exact h
      · have hct := cur_top hf hk
        rw [show d + n = 128 by omega] at h26 hcl
        omega
    have htl : (turn k (d + n)).length = 16 := (turn_len k _).trans hk
    have hmn : min (((d + n + 1 : Nat) : Int)).toNat 128 = d + n + 1 := by rw [Int.toNat_natCast]; omega
    have hsmk := kd_small hf k (d + n)
    have hkdl := kd_le l k (d + n)
    refine J.skip ?_
    refine J.then_n (J.k hK10 ?_)
    refine J.keepE [(0, _), (4, _), (6, _), (8, _), (9, _), (10, _), (11, _)] ⟨rfl, rfl, rfl, rfl, rfl, rfl, rfl, trivial⟩ ?_
    refine J.seq (fun K12 hK12 => ?_)
    refine J.block ?_
    refine J.seq (fun K13 hK13 => ?_)
    refine J.draw [blk g8 [.slice Ab (bsd l k d (n)).length cb, .bool false, Str [], Str []] 57, blk g4 [Str (k)] 9] [12] (.y 0 (.y 1 (.y 2 (.y 3 (.y 4 (.y 6 (.y 7 (.e 5 (.e 8 (.e 9 (.e 10 (.y 11 (.e 12 .nil))))))))))))) Tryd.wide (by decide +kernel) (by simp) ?_
    refine J.dy rfl (op_fieldAddr (j := 0) rfl rfl Tryd.underlying57 rfl Tryd.sizeOf55 rfl) rfl rfl rfl rfl ?_
    refine J.dy rfl (op_loadB 0 (v := .slice Ab (bsd l k d (n)).length cb) rfl rfl rfl Tryd.isAgg55 rfl) rfl rfl rfl rfl ?_
    refine J.dy rfl (op_move rfl rfl) rfl rfl rfl rfl ?_
    refine J.dy rfl (op_loadB 1 (v := Str (k)) rfl rfl rfl Tryd.isAgg9 rfl) rfl rfl rfl rfl ?_
    refine J.dy rfl (op_move rfl rfl) rfl rfl rfl rfl ?_
    refine J.dy rfl (op_move rfl rfl) rfl rfl rfl rfl ?_
    refine J.dy rfl ((op_add rfl rfl rfl (by first | omega | (simp only [List.length_append, List.length_cons, List.length_nil, List.length_take, List.length_drop] at *; omega))).as (v' := I ((d + n + 1 : Nat) : Int)) (congrArg I (by omega))) rfl rfl rfl rfl ?_
    refine J.de rfl (op_call rfl rfl ent69 (Ct.use0 (fun F' hF => turned_ct F' k (by assumption) (d + n) (by omega)))) rfl rfl rfl (by simp) ?_
    intro g34 _
    refine J.de rfl (op_call rfl rfl ent30 (Ct.use0 (fun F' hF => tNode_ct F' (hK.mono (hF F (by simp))) g l (hT.mono (hF F (by simp))) (by assumption) (turn k (d + n)) (by first | omega | decide) ((d + n + 1 : Nat) : Int) (by first | assumption | exact wf_zero (by assumption) | exact wf_bel (by assumption) (by assumption))))) rfl rfl rfl (by simp) ?_
    intro g37 _
    refine J.de rfl (op_buildSlice (l := [.tmp 37]) (xs := [[Str (Sm.ndB l (turn k (d + n)) (min ((d + n + 1 : Nat) : Int).toNat 128))]]) rfl rfl rfl rfl Tryd.underlying55 el9 rfl (by decide) (by decide) (by simp)) rfl rfl rfl (by simp) ?_
    intro g38 _
    change J _ _ _ [F, blk g4 [Str (k)] 9, blk g6 [.slice none 0 0, .bool false, Str [], Str []] 57, blk g8 [.slice Ab (bsd l k d (n)).length cb, .bool false, Str [], Str []] 57, blk g9 [.slice A9 (kd l k (d + n)).length c9] 55, m9, mb, blk g38 [Str (Sm.ndB l (turn k (d + n)) (min ((d + n + 1 : Nat) : Int).toNat 128))] 9] _
    refine J.de rfl (op_append (i := 6) (xs := strsV (bsd l k d (n))) (m2 := blk g38 [Str (Sm.ndB l (turn k (d + n)) (min ((d + n + 1 : Nat) : Int).toNat 128))] 9) (ys := [[Str (Sm.ndB l (turn k (d + n)) (min ((d + n + 1 : Nat) : Int).toNat 128))]]) rfl rfl rfl Tryd.underlying55 Tryd.underlying55 el9 rfl hrb (by simp) ((row_lit (q := True) (strsV [Sm.ndB l (turn k (d + n)) (min ((d + n + 1 : Nat) : Int).toNat 128)]) rfl (by simp [strsV]) rfl).sl) rfl (by first | omega | (simp only [List.length_append, List.length_cons, List.length_nil, List.length_take, List.length_drop] at *; omega)) (by first | omega | (simp only [List.length_append, List.length_cons, List.length_nil, List.length_take, List.length_drop] at *; omega))) rfl rfl rfl (by simp) ?_
    rintro ⟨A39, c39, m39⟩ h39
    try dsimp only at h39
    change J _ ((39, .slice A39 (((bsd l k d (n)).length) + 1) c39) :: _) _ [F, blk g4 [Str (k)] 9, blk g6 [.slice none 0 0, .bool false, Str [], Str []] 57, blk g8 [.slice Ab (bsd l k d (n)).length cb, .bool false, Str [], Str []] 57, blk g9 [.slice A9 (kd l k (d + n)).length c9] 55, m9, m39, blk g38 [Str (Sm.ndB l (turn k (d + n)) (min ((d + n + 1 : Nat) : Int).toNat 128))] 9] _
    rw [← strsV_snoc, hmn, ← bsd_succ] at h39
    rw [show (bsd l k d (n)).length + 1 = (bsd l k d (n + 1)).length by rw [bsd_len, bsd_len]] at h39 ⊢
    refine J.dy rfl (op_fieldAddr (j := 0) rfl rfl Tryd.underlying57 rfl Tryd.sizeOf55 rfl) rfl rfl rfl rfl ?_
    refine J.ds rfl (op_store (i := 3) (l := [.slice Ab (bsd l k d (n)).length cb, .bool false, Str [], Str []]) (vs := [.slice A39 ((bsd l k d (n + 1)).length) c39]) rfl rfl rfl rfl rfl Tryd.sizeOf55 rfl (by simp)) rfl rfl rfl (fun _ _ => ?_)
    change J _ _ _ [F, blk g4 [Str (k)] 9, blk g6 [.slice none 0 0, .bool false, Str [], Str []] 57, blk g8 [.slice A39 ((bsd l k d (n + 1)).length) c39, .bool false, Str [], Str []] 57, blk g9 [.slice A9 (kd l k (d + n)).length c9] 55, m9, m39, blk g38 [Str (Sm.ndB l (turn k (d + n)) (min ((d + n + 1 : Nat) : Int).toNat 128))] 9] _
    refine J.dnil ?_
    refine J.then_n (J.k hK13 ?_)
    refine J.keepE [(0, _), (4, _), (6, _), (8, _), (9, _), (10, _), (11, _)] ⟨rfl, rfl, rfl, rfl, rfl, rfl, rfl, trivial⟩ ?_
    refine J.region ?_
    refine J.y (op_move rfl rfl) rfl rfl rfl ?_
    refine J.y (op_move rfl rfl) rfl rfl rfl ?_
    refine J.y ((op_add rfl rfl rfl (by first | omega | (simp only [List.length_append, List.length_cons, List.length_nil, List.length_take, List.length_drop] at *; omega))).as (v' := I ((d + n + 1 : Nat) : Int)) (congrArg I (by omega))) rfl rfl rfl ?_
    refine J.e (op_callV rfl rfl rfl ent64 (Ct.use (new := fun x : Option Addr × Nat × Hp => [x.2.2]) (fun F' hF => prove1_ct F' ((d + n + 1 : Nat) : Int) g9 g4 A9 ((kd l k (d + n)).length) c9 (kd l k (d + n)) (hr9.sl.mono (hF m9 (by simp))) (Cells.blk0.mono (hF (blk g9 [.slice A9 (kd l k (d + n)).length c9] 55) (by simp))) k (Cells.blk0.mono (hF (blk g4 [Str (k)] 9) (by simp))) (by omega) (by omega) (by assumption)))) rfl rfl rfl ?_
    rintro ⟨A44, c44, m44⟩ h44
    try dsimp only at h44
    change J _ ((44, .slice A44 ((kd l k (d + n)).filter (fun q => !nbl k ((d + n + 1 : Nat) : Int) q)).length c44) :: _) _ [F, blk g4 [Str (k)] 9, blk g6 [.slice none 0 0, .bool false, Str [], Str []] 57, blk g8 [.slice A39 ((bsd l k d (n + 1)).length) c39, .bool false, Str [], Str []] 57, blk g9 [.slice A9 (kd l k (d + n)).length c9] 55, m9, m39, blk g38 [Str (Sm.ndB l (turn k (d + n)) (min ((d + n + 1 : Nat) : Int).toNat 128))] 9, m44] _
    rw [flt_kd2 l k (by omega)] at h44 ⊢
    refine J.s (op_storeAll (i := 4) (l := [.slice A9 (kd l k (d + n)).length c9]) (vs := [.slice A44 ((kd l k (d + n + 1)).length) c44]) rfl rfl rfl rfl rfl Tryd.sizeOf55 rfl rfl) rfl rfl (fun _ _ => ?_)
    change J _ _ _ [F, blk g4 [Str (k)] 9, blk g6 [.slice none 0 0, .bool false, Str [], Str []] 57, blk g8 [.slice A39 ((bsd l k d (n + 1)).length) c39, .bool false, Str [], Str []] 57, blk g9 [.slice A44 ((kd l k (d + n + 1)).length) c44] 55, m9, m39, blk g38 [Str (Sm.ndB l (turn k (d + n)) (min ((d + n + 1 : Nat) : Int).toNat 128))] 9, m44] _
    refine J.nil ?_
    refine J.blk_n ?_
    refine J.then_n (J.k hK12 ?_)
    refine J.keepE [(0, _), (4, _), (6, _), (8, _), (9, _), (10, _), (11, _)] ⟨rfl, rfl, rfl, rfl, rfl, rfl, rfl, trivial⟩ ?_
    refine J.region ?_
    refine J.y (op_move rfl rfl) rfl rfl rfl ?_
    refine J.y ((op_add rfl rfl rfl (by first | omega | (simp only [List.length_append, List.length_cons, List.length_nil, List.length_take, List.length_drop] at *; omega))).as (v' := I ((d + n + 1 : Nat) : Int)) (congrArg I (by omega))) rfl rfl rfl ?_
    refine J.y (op_assign rfl rfl) rfl rfl rfl ?_
    refine J.nil ?_
    refine J.then_n ?_
    exact J.kk (n + 1, A44, c44, m44, A39, c39, m39) (fun η (hη : _ ∧ 128 - (d + η.1) < 128 - (d + n)) => hI0 η hη.1 hη.2) ⟨⟨by dsimp only; omega, fun x h1 h2 => by rcases Nat.lt_or_ge x (d + n) with h | h; exact htw x h1 h; rw [show x = d + n by dsimp only at h2; omega, ← hcl]; omega, h44, h39⟩, by dsimp only; omega⟩ ⟨rfl, rfl, rfl, rfl, rfl, rfl, rfl, trivial⟩ (fun _ h => h.pick [0, 1, 2, 3, 4, 8, 6] (by decide))
  ·
    have hst : Stop l k d (d + n) := ⟨by omega, he, by rw [← kd_len hf.once]; omega, fun x h1 h2 => htw x h1 h2⟩
    have hdn : d + n - d = n := by omega
    refine J.exit ?_
    refine J.then_x ?_
    refine J.then_x ?_
    refine J.blk_eq ?_
    refine J.then_n (J.k hK8 ?_)
    refine J.keepE [(0, _), (6, _), (8, _), (9, _)] ⟨rfl, rfl, rfl, rfl, trivial⟩ ?_
    refine J.seq (fun K14 hK14 => ?_)
    refine J.seq (fun K15 hK15 => ?_)
    refine J.region ?_
    refine J.y (op_loadB 4 (v := .slice A9 (kd l k (d + n)).length c9) rfl rfl rfl Tryd.isAgg55 rfl) rfl rfl rfl ?_
    refine J.y (op_len Tryd.underlying55 rfl rfl) rfl rfl rfl ?_
    refine J.y (op_eql rfl rfl rfl) rfl rfl rfl ?_
    refine J.nil ?_
    refine J.then_n (J.k hK15 ?_)
    refine J.keepE [(0, _), (6, _), (8, _), (9, _), (47, _)] ⟨rfl, rfl, rfl, rfl, rfl, trivial⟩ ?_
    refine J.ite rfl (fun h47 => ?_) (fun h47 => ?_)
    ·
      refine J.seq (fun K16 hK16 => ?_)
      refine J.draw [blk g9 [.slice A9 (kd l k (d + n)).length c9] 55, m9] [] (.y 0 (.y 1 (.y 2 (.y 3 (.e 4 (.y 5 (.e 6 .nil))))))) Tryd.wide (by decide +kernel) (by simp) ?_
      refine J.dy rfl (op_loadB 0 (v := .slice A9 (kd l k (d + n)).length c9) rfl rfl rfl Tryd.isAgg55 rfl) rfl rfl rfl rfl ?_
      refine J.dy rfl (op_indexAddr (i := 0) rfl rfl rfl Tryd.underlying55 Tryd.sizeOf9 hr9.sl (by first | omega | (simp only [List.length_append, List.length_cons, List.length_nil, List.length_take, List.length_drop] at *; omega))) rfl rfl rfl rfl ?_
      refine J.dy rfl (op_load rfl rfl Tryd.isAgg9 (m := m9) (by simp) (hr9.sl.elem (strsV_get (getSome [] (by first | omega | (simp only [List.length_append, List.length_cons, List.length_nil, List.length_take, List.length_drop] at *; omega)))))) rfl rfl rfl rfl ?_
      refine J.dy rfl (op_fieldAddr (j := 1) rfl rfl Tryd.underlying57 rfl Tryd.sizeOf4 rfl) rfl rfl rfl rfl ?_
      refine J.dsN rfl (op_store (i := 3) (l := [.slice Ab (bsd l k d (n)).length cb, .bool false, Str [], Str []]) (vs := [.bool true]) rfl rfl rfl rfl rfl Tryd.sizeOf4 rfl (by simp)) rfl rfl (by simp) (fun _ _ => ?_)
      change J _ _ _ [F, blk g4 [Str (k)] 9, blk g6 [.slice none 0 0, .bool false, Str [], Str []] 57, blk g8 [.slice Ab (bsd l k d (n)).length cb, .bool true, Str [], Str []] 57, blk g9 [.slice A9 (kd l k (d + n)).length c9] 55, m9, mb] _
      refine J.dy rfl (op_fieldAddr (j := 2) rfl rfl Tryd.underlying57 rfl Tryd.sizeOf9 rfl) rfl rfl rfl rfl ?_
      refine J.dsN rfl (op_store (i := 3) (l := [.slice Ab (bsd l k d (n)).length cb, .bool true, Str [], Str []]) (vs := [Str ((kd l k (d + n)).getD 0 [])]) rfl rfl rfl rfl rfl Tryd.sizeOf9 rfl (by simp)) rfl rfl (by simp) (fun _ _ => ?_)
      change J _ _ _ [F, blk g4 [Str (k)] 9, blk g6 [.slice none 0 0, .bool false, Str [], Str []] 57, blk g8 [.slice Ab (bsd l k d (n)).length cb, .bool true, Str ((kd l k (d + n)).getD 0 []), Str []] 57, blk g9 [.slice A9 (kd l k (d + n)).length c9] 55, m9, mb] _
      refine J.dnil ?_
      refine J.then_n (J.k hK16 ?_)
      refine J.keepE [(0, _), (6, _), (8, _)] ⟨rfl, rfl, rfl, trivial⟩ ?_
      refine J.region ?_
      refine J.y (op_move rfl rfl) rfl rfl rfl ?_
      refine J.y (op_fieldAddr (j := 2) rfl rfl Tryd.underlying57 rfl Tryd.sizeOf9 rfl) rfl rfl rfl ?_
      refine J.y (op_loadB 3 (v := Str ((kd l k (d + n)).getD 0 [])) rfl rfl rfl Tryd.isAgg9 rfl) rfl rfl rfl ?_
      refine J.e (op_call rfl rfl ent18 (Ct.use0 (fun F' hF => tget_ct F' g l (hT.mono (hF F (by simp))) ((kd l k (d + n)).getD 0 [])))) rfl rfl rfl ?_
      intro g57 _
      refine J.y (op_move rfl rfl) rfl rfl rfl ?_
      refine J.y (op_extract (v := Str ((Sm.getP l ((kd l k (d + n)).getD 0 [])).getD [])) rfl rfl rfl) rfl rfl rfl ?_
      refine J.y (op_extract (v := .bool ((Sm.getP l ((kd l k (d + n)).getD 0 [])).isSome)) rfl rfl rfl) rfl rfl rfl ?_
      refine J.y (op_fieldAddr (j := 3) rfl rfl Tryd.underlying57 rfl Tryd.sizeOf9 rfl) rfl rfl rfl ?_
      refine J.s (op_store (i := 3) (l := [.slice Ab (bsd l k d (n)).length cb, .bool true, Str ((kd l k (d + n)).getD 0 []), Str []]) (vs := [Str ((Sm.getP l ((kd l k (d + n)).getD 0 [])).getD [])]) rfl rfl rfl rfl rfl Tryd.sizeOf9 rfl (by simp)) rfl rfl (fun _ _ => ?_)
      change J _ _ _ [F, blk g4 [Str (k)] 9, blk g6 [.slice none 0 0, .bool false, Str [], Str []] 57, blk g8 [.slice Ab (bsd l k d (n)).length cb, .bool true, Str ((kd l k (d + n)).getD 0 []), Str ((Sm.getP l ((kd l k (d + n)).getD 0 [])).getD [])] 57, blk g9 [.slice A9 (kd l k (d + n)).length c9] 55, m9, mb] _
      refine J.nil ?_
      refine J.then_n (J.k hK14 ?_)
      refine J.keepE [(6, _), (8, _)] ⟨rfl, rfl, trivial⟩ ?_
      refine J.seq (fun K17 hK17 => ?_)
      refine J.region ?_
      refine J.y (op_loadBA 3 rfl rfl rfl Tryd.isAgg57 Tryd.sizeOf57 rfl) rfl rfl rfl ?_
      refine J.s (op_storeAll (i := 2) (l := [.slice none 0 0, .bool false, Str [], Str []]) (vs := [.slice Ab (bsd l k d (n)).length cb, .bool true, Str ((kd l k (d + n)).getD 0 []), Str ((Sm.getP l ((kd l k (d + n)).getD 0 [])).getD [])]) rfl rfl rfl rfl rfl Tryd.sizeOf57 rfl rfl) rfl rfl (fun _ _ => ?_)
      change J _ _ _ [F, blk g4 [Str (k)] 9, blk g6 [.slice Ab (bsd l k d (n)).length cb, .bool true, Str ((kd l k (d + n)).getD 0 []), Str ((Sm.getP l ((kd l k (d + n)).getD 0 [])).getD [])] 57, blk g8 [.slice Ab (bsd l k d (n)).length cb, .bool true, Str ((kd l k (d + n)).getD 0 []), Str ((Sm.getP l ((kd l k (d + n)).getD 0 [])).getD [])] 57, blk g9 [.slice A9 (kd l k (d + n)).length c9] 55, m9, mb] _
      refine J.y (op_assign rfl rfl) rfl rfl rfl ?_
      refine J.nil ?_
      refine J.then_n (J.k hK17 ?_)
      refine J.keepE [(6, _), (7, _)] ⟨rfl, rfl, trivial⟩ ?_
      refine J.ret ?_
      exact J.done hw0 (fun _ _ h => h) (rv2 rfl (RV.blkA 2 rfl rfl Tryd.isAgg57 Tryd.sizeOf57) rfl) (retOk (d + n, Ab, cb, mb) (by dsimp only; rw [hdn]; unfold pThere pKey pVal; rw [if_pos (by omega), if_pos (by omega), decide_eq_true (by omega)]) ⟨hst, by dsimp only; rw [hdn]; exact hrb⟩ [0, 6] rfl (by decide))
    ·
      refine J.skip ?_
      refine J.then_n (J.k hK14 ?_)
      refine J.keepE [(6, _), (8, _)] ⟨rfl, rfl, trivial⟩ ?_
      refine J.seq (fun K18 hK18 => ?_)
      refine J.region ?_
      refine J.y (op_loadBA 3 rfl rfl rfl Tryd.isAgg57 Tryd.sizeOf57 rfl) rfl rfl rfl ?_
      refine J.s (op_storeAll (i := 2) (l := [.slice none 0 0, .bool false, Str [], Str []]) (vs := [.slice Ab (bsd l k d (n)).length cb, .bool false, Str [], Str []]) rfl rfl rfl rfl rfl Tryd.sizeOf57 rfl rfl) rfl rfl (fun _ _ => ?_)
      change J _ _ _ [F, blk g4 [Str (k)] 9, blk g6 [.slice Ab (bsd l k d (n)).length cb, .bool false, Str [], Str []] 57, blk g8 [.slice Ab (bsd l k d (n)).length cb, .bool false, Str [], Str []] 57, blk g9 [.slice A9 (kd l k (d + n)).length c9] 55, m9, mb] _
      refine J.y (op_assign rfl rfl) rfl rfl rfl ?_
      refine J.nil ?_
      refine J.then_n (J.k hK18 ?_)
      refine J.keepE [(6, _), (7, _)] ⟨rfl, rfl, trivial⟩ ?_
      refine J.ret ?_
      exact J.done hw0 (fun _ _ h => h) (rv2 rfl (RV.blkA 2 rfl rfl Tryd.isAgg57 Tryd.sizeOf57) rfl) (retOk (d + n, Ab, cb, mb) (by dsimp only; rw [hdn]; unfold pThere pKey pVal; rw [if_neg (by omega), if_neg (by omega), decide_eq_false (by omega)]) ⟨hst, by dsimp only; rw [hdn]; exact hrb⟩ [0, 6] rfl (by decide))

theorem proveB_ct (F : Hp) (g : Nat) (k : List UInt8) (z : Int) (hz : z < 0 ∨ 128 < z) : Ct Tryd.prog 27 [Ptr g, Str (k), I (z)] [F] (fun _ : Unit => .tuple #[.agg #[.slice none 0 0, .bool false, Str [], Str []], I ((10 : Nat) : Int)]) (fun _ => True) (fun _ => [F]) := by
  refine Ct.walk Tryd.func27 rfl Tryd.ntmps27 rfl (fun w0 hw0 => ?_)
  change J _ [(0, _), (1, _), (2, _)] _ _ _
  refine J.seq (fun K1 hK1 => ?_)
  refine J.region ?_
  refine J.e (op_box (l := [Str (k)]) rfl rfl rfl) rfl rfl rfl ?_
  intro g4 _
  change J _ _ _ [F, blk g4 [Str (k)] 9] _
  refine J.e (op_alloc (l := [.slice none 0 0, .bool false, Str [], Str []]) rfl Tryd.zeroValue57 rfl) rfl rfl rfl ?_
  intro g6 _
  change J _ _ _ [F, blk g4 [Str (k)] 9, blk g6 [.slice none 0 0, .bool false, Str [], Str []] 57] _
  refine J.y (op_assign rfl rfl) rfl rfl rfl ?_
  refine J.nil ?_
  refine J.then_n (J.k hK1 ?_)
  refine J.keepE [(0, _), (2, _), (4, _), (6, _)] ⟨rfl, rfl, rfl, rfl, trivial⟩ ?_
  refine J.seq (fun K2 hK2 => ?_)
  refine J.seq (fun K3 hK3 => ?_)
  refine J.region ?_
  refine J.y (op_loadB 1 (v := Str (k)) rfl rfl rfl Tryd.isAgg9 rfl) rfl rfl rfl ?_
  refine J.y (op_move rfl rfl) rfl rfl rfl ?_
  refine J.e (op_call rfl rfl ent62 (Ct.use0 (fun F' hF => pright_ct F' k z))) rfl rfl rfl ?_
  intro g14 _
  refine J.y ((op_not rfl rfl).as (v' := .bool true) (by rw [decide_eq_false (by omega)]; rfl)) rfl rfl rfl ?_
  refine J.nil ?_
  refine J.then_n (J.k hK3 ?_)
  refine J.keepE [(0, _), (2, _), (4, _), (6, _), (15, _)] ⟨rfl, rfl, rfl, rfl, rfl, trivial⟩ ?_
  refine J.condT rfl rfl ?_
  refine J.seq (fun K4 hK4 => ?_)
  refine J.region ?_
  refine J.y (op_buildStruct (l := []) (vs := []) (places := [(0, 1), (1, 1), (2, 1), (3, 1)]) (r := [.slice none 0 0, .bool false, Str [], Str []]) rfl rfl rfl Tryd.underlying57 Tryd.zeroValue57 (fun _ => by kernel_rfl) rfl) rfl rfl rfl ?_
  refine J.s (op_storeAll (i := 2) (l := [.slice none 0 0, .bool false, Str [], Str []]) (vs := [.slice none 0 0, .bool false, Str [], Str []]) rfl rfl rfl rfl rfl Tryd.sizeOf57 rfl rfl) rfl rfl (fun _ _ => ?_)
  change J _ _ _ [F, blk g4 [Str (k)] 9, blk g6 [.slice none 0 0, .bool false, Str [], Str []] 57] _
  refine J.y (op_assign rfl rfl) rfl rfl rfl ?_
  refine J.nil ?_
  refine J.then_n (J.k hK4 ?_)
  refine J.keepE [(6, _), (7, _)] ⟨rfl, rfl, trivial⟩ ?_
  refine J.ret ?_
  refine J.then_r ?_
  exact J.done hw0 (fun _ _ h => h) (rv2 rfl (RV.blkA 2 rfl rfl Tryd.isAgg57 Tryd.sizeOf57) rfl) (retOk () rfl trivial [0] rfl (by decide))

end Go.Proofs.YtnkfapecbmmpeaaDoor
