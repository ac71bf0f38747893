/- A part of the proof: contracts of functions of the program, each for every state of the heaps that it names. -/
import Derived.Test.YtlopnfgacopkbaaDoorXco
set_option linter.unusedSimpArgs false
set_option linter.unusedVariables false
namespace Go.Proofs.YtlopnfgacopkbaaDoor
open Go Go.Fw
set_option maxRecDepth 100000
set_option maxHeartbeats 1000000
theorem ent18 : Enters Tryd.prog 18 := Enters.of Tryd.func18 rfl (by kernel_rfl)
theorem ent40 : Enters Tryd.prog 40 := Enters.of Tryd.func40 rfl (by kernel_rfl)
theorem ent41 : Enters Tryd.prog 41 := Enters.of Tryd.func41 rfl (by kernel_rfl)
theorem ent55 : Enters Tryd.prog 55 := Enters.of Tryd.func55 rfl (by kernel_rfl)
theorem ent81 : Enters Tryd.prog 81 := Enters.of Tryd.func81 rfl (by kernel_rfl)
theorem ent83 : Enters Tryd.prog 83 := Enters.of Tryd.func83 rfl (by kernel_rfl)
theorem ent87 : Enters Tryd.prog 87 := Enters.of Tryd.func87 rfl (by kernel_rfl)
theorem ent88 : Enters Tryd.prog 88 := Enters.of Tryd.func88 rfl (by kernel_rfl)

theorem Mk.climb_root3 (seed : List UInt8) (h i : Nat) (hi : i < 2 ^ h) : Mk.climb (Wo.pub seed i) i (Mk.path (Xm.leaves seed (2 ^ h)) i h) = Xm.root seed h := by
  have := Mk.climb_root (Xm.leaves seed (2 ^ h)) h i (Xm.leaves_length _ _) hi
  rw [Xm.leaves_get _ _ _ hi] at this
  exact this
theorem len16_small {l : List (List UInt8)} (h : ∀ s ∈ l, s.length = 16) : ∀ s ∈ l, s.length ≤ 1048576 := fun s hs => by rw [h s hs]; decide
def mayP (ep : Nat) (bd : Int) (hd : List UInt8) (nm : Int) : Prop := ep ≤ 4294967295 ∧ 0 ≤ bd ∧ bd < 16 ∧ hd.length = 16 ∧ 0 ≤ nm ∧ nm < 64
instance (ep : Nat) (bd : Int) (hd : List UInt8) (nm : Int) : Decidable (mayP ep bd hd nm) := by unfold mayP; infer_instance
def plB (ep bd nm : Nat) : List UInt8 := Sha.numB (UInt64.ofNat ep) 4 ++ Sha.numB (UInt64.ofNat bd) 1 ++ Sha.numB (UInt64.ofNat nm) 2
theorem plB_len (ep bd nm : Nat) : (plB ep bd nm).length = 7 := by unfold plB; simp only [List.length_append, Sha.numB_length]
def atM (ep bd nm : Nat) (hd : List UInt8) : List UInt8 := Sha.tagged 18 [plB ep bd nm, hd]
theorem atM_len (ep bd nm : Nat) (hd : List UInt8) : (atM ep bd nm hd).length = 16 := Sha.tagged_length _ _
def atB (ep bd nm : Nat) (hd s : List UInt8) : List UInt8 := plB ep bd nm ++ hd ++ (Sha.numB (UInt64.ofNat s.length) 2 ++ s)
theorem may_t {ep : Nat} {bd : Int} {hd : List UInt8} {nm : Int} (h1 : (ep : Int) ≤ 4294967295) (h2 : 0 ≤ bd) (h3 : bd < 16) (h4 : (hd.length : Int) = 16) (h5 : 0 ≤ nm) : (nm < 64) = mayP ep bd hd nm := propext ⟨fun h => ⟨by omega, h2, h3, by omega, h5, h⟩, fun h => h.2.2.2.2.2⟩
theorem may_f {ep : Nat} {bd : Int} {hd : List UInt8} {nm : Int} (h : ¬ (ep : Int) ≤ 4294967295 ∨ ¬ 0 ≤ bd ∨ ¬ bd < 16 ∨ ¬ (hd.length : Int) = 16 ∨ ¬ 0 ≤ nm) : false = decide (mayP ep bd hd nm) := by
  symm
  apply decide_eq_false
  unfold mayP
  omega

theorem amay_ct (F : Hp) (ep : Nat) (bd : Int) (hd : List UInt8) (nm : Int) (i : Int) (A1 A2 : Option Addr) (n1 c1 n2 c2 : Nat) :
    Ct Tryd.prog 87 [.agg #[N64 ep, I bd, Str hd, I nm, I i, .slice A1 n1 c1, .slice A2 n2 c2]] [F] (fun _ : Unit => .bool (decide (mayP ep bd hd nm))) (fun _ => True) (fun _ => [F]) := by
  refine Ct.walk Tryd.func87 rfl Tryd.ntmps87 rfl (fun w0 => ?_)
  change J _ [(0, _)] _ _ _
  refine J.seq (fun K1 hK1 => ?_)
  refine J.region ?_
  refine J.e (op_box rfl rfl (l := [N64 ep, I bd, Str hd, I nm, I i, .slice A1 n1 c1, .slice A2 n2 c2]) rfl) rfl rfl rfl ?_
  intro g1 _
  change J _ _ _ [F, blk g1 [N64 ep, I bd, Str hd, I nm, I i, .slice A1 n1 c1, .slice A2 n2 c2] 94] _
  refine J.y (op_assign rfl rfl) rfl rfl rfl ?_
  refine J.nil ?_
  refine J.then_n (J.k hK1 ?_)
  refine J.keepE [(1, _)] ⟨rfl, trivial⟩ ?_
  refine J.seq (fun K2 hK2 => ?_)
  refine J.region ?_
  refine J.y (op_fieldAddr (j := 0) rfl rfl Tryd.underlying94 rfl Tryd.sizeOf47 rfl) rfl rfl rfl ?_
  refine J.y (op_loadB 1 rfl rfl rfl Tryd.isAgg47 rfl) rfl rfl rfl ?_
  refine J.y (op_leq rfl rfl rfl) rfl rfl rfl ?_
  refine J.y (op_move rfl rfl) rfl rfl rfl ?_
  refine J.split (d := 6) rfl (fun h6 => ?_) (fun h6 => ?_)
  ·
    refine J.yg (Wan.is rfl rfl rfl rfl rfl) (op_fieldAddr (j := 1) rfl rfl Tryd.underlying94 rfl Tryd.sizeOf3 rfl) rfl rfl ?_
    refine J.yg (Wan.is rfl rfl rfl rfl rfl) (op_loadB 1 rfl rfl rfl Tryd.isAgg3 rfl) rfl rfl ?_
    refine J.yg (Wan.is rfl rfl rfl rfl rfl) (op_geq rfl rfl rfl) rfl rfl ?_
    refine J.y (op_pickT rfl rfl rfl) rfl rfl rfl ?_
    refine J.y (op_move rfl rfl) rfl rfl rfl ?_
    refine J.split (d := 11) rfl (fun h11 => ?_) (fun h11 => ?_)
    ·
      refine J.yg (Wan.is rfl rfl rfl rfl rfl) (op_fieldAddr (j := 1) rfl rfl Tryd.underlying94 rfl Tryd.sizeOf3 rfl) rfl rfl ?_
      refine J.yg (Wan.is rfl rfl rfl rfl rfl) (op_loadB 1 rfl rfl rfl Tryd.isAgg3 rfl) rfl rfl ?_
      refine J.yg (Wan.is rfl rfl rfl rfl rfl) (op_lss rfl rfl rfl) rfl rfl ?_
      refine J.y (op_pickT rfl rfl rfl) rfl rfl rfl ?_
      refine J.y (op_move rfl rfl) rfl rfl rfl ?_
      refine J.split (d := 16) rfl (fun h16 => ?_) (fun h16 => ?_)
      ·
        refine J.yg (Wan.is rfl rfl rfl rfl rfl) (op_fieldAddr (j := 2) rfl rfl Tryd.underlying94 rfl Tryd.sizeOf9 rfl) rfl rfl ?_
        refine J.yg (Wan.is rfl rfl rfl rfl rfl) (op_loadB 1 rfl rfl rfl Tryd.isAgg9 rfl) rfl rfl ?_
        refine J.yg (Wan.is rfl rfl rfl rfl rfl) (op_slen Tryd.underlying9 rfl rfl) rfl rfl ?_
        refine J.yg (Wan.is rfl rfl rfl rfl rfl) (op_eql rfl rfl rfl) rfl rfl ?_
        refine J.y (op_pickT rfl rfl rfl) rfl rfl rfl ?_
        refine J.y (op_move rfl rfl) rfl rfl rfl ?_
        refine J.split (d := 22) rfl (fun h22 => ?_) (fun h22 => ?_)
        ·
          refine J.yg (Wan.is rfl rfl rfl rfl rfl) (op_fieldAddr (j := 3) rfl rfl Tryd.underlying94 rfl Tryd.sizeOf3 rfl) rfl rfl ?_
          refine J.yg (Wan.is rfl rfl rfl rfl rfl) (op_loadB 1 rfl rfl rfl Tryd.isAgg3 rfl) rfl rfl ?_
          refine J.yg (Wan.is rfl rfl rfl rfl rfl) (op_geq rfl rfl rfl) rfl rfl ?_
          refine J.y (op_pickT rfl rfl rfl) rfl rfl rfl ?_
          refine J.y (op_move rfl rfl) rfl rfl rfl ?_
          refine J.split (d := 27) rfl (fun h27 => ?_) (fun h27 => ?_)
          ·
            refine J.yg (Wan.is rfl rfl rfl rfl rfl) (op_fieldAddr (j := 3) rfl rfl Tryd.underlying94 rfl Tryd.sizeOf3 rfl) rfl rfl ?_
            refine J.yg (Wan.is rfl rfl rfl rfl rfl) (op_loadB 1 rfl rfl rfl Tryd.isAgg3 rfl) rfl rfl ?_
            refine J.yg (Wan.is rfl rfl rfl rfl rfl) (op_lss rfl rfl rfl) rfl rfl ?_
            refine J.y ((by first | exact (op_pickT rfl rfl rfl).as (v' := .bool (decide (mayP ep bd hd nm))) (congrArg Value.bool (decide_eq_decide.2 (iff_of_eq (may_t (by assumption) (by assumption) (by assumption) (by assumption) (by assumption))))) | exact (op_pickF rfl rfl rfl).as (v' := .bool (decide (mayP ep bd hd nm))) (congrArg Value.bool (may_f (by omega))))) rfl rfl rfl ?_
            refine J.y (op_assign rfl rfl) rfl rfl rfl ?_
            refine J.nil ?_
            refine J.then_n (J.k hK2 ?_)
            refine J.keepE [(2, _)] ⟨rfl, trivial⟩ ?_
            refine J.ret ?_
            exact J.done (fun _ _ h => h) (res1 rfl rfl) (retOk () rfl trivial [0] rfl (by decide))
          ·
            refine J.no (Wan.is rfl rfl rfl rfl rfl) rfl rfl ?_
            refine J.no (Wan.is rfl rfl rfl rfl rfl) rfl rfl ?_
            refine J.no (Wan.is rfl rfl rfl rfl rfl) rfl rfl ?_
            refine J.y ((by first | exact (op_pickT rfl rfl rfl).as (v' := .bool (decide (mayP ep bd hd nm))) (congrArg Value.bool (decide_eq_decide.2 (iff_of_eq (may_t (by assumption) (by assumption) (by assumption) (by assumption) (by assumption))))) | exact (op_pickF rfl rfl rfl).as (v' := .bool (decide (mayP ep bd hd nm))) (congrArg Value.bool (may_f (by omega))))) rfl rfl rfl ?_
            refine J.y (op_assign rfl rfl) rfl rfl rfl ?_
            refine J.nil ?_
            refine J.then_n (J.k hK2 ?_)
            refine J.keepE [(2, _)] ⟨rfl, trivial⟩ ?_
            refine J.ret ?_
            exact J.done (fun _ _ h => h) (res1 rfl rfl) (retOk () rfl trivial [0] rfl (by decide))
        ·
          refine J.no (Wan.is rfl rfl rfl rfl rfl) rfl rfl ?_
          refine J.no (Wan.is rfl rfl rfl rfl rfl) rfl rfl ?_
          refine J.no (Wan.is rfl rfl rfl rfl rfl) rfl rfl ?_
          refine J.y (op_pickF rfl rfl rfl) rfl rfl rfl ?_
          refine J.y (op_move rfl rfl) rfl rfl rfl ?_
          refine J.no (Wan.is rfl rfl rfl rfl rfl) rfl rfl ?_
          refine J.no (Wan.is rfl rfl rfl rfl rfl) rfl rfl ?_
          refine J.no (Wan.is rfl rfl rfl rfl rfl) rfl rfl ?_
          refine J.y ((by first | exact (op_pickT rfl rfl rfl).as (v' := .bool (decide (mayP ep bd hd nm))) (congrArg Value.bool (decide_eq_decide.2 (iff_of_eq (may_t (by assumption) (by assumption) (by assumption) (by assumption) (by assumption))))) | exact (op_pickF rfl rfl rfl).as (v' := .bool (decide (mayP ep bd hd nm))) (congrArg Value.bool (may_f (by omega))))) rfl rfl rfl ?_
          refine J.y (op_assign rfl rfl) rfl rfl rfl ?_
          refine J.nil ?_
          refine J.then_n (J.k hK2 ?_)
          refine J.keepE [(2, _)] ⟨rfl, trivial⟩ ?_
          refine J.ret ?_
          exact J.done (fun _ _ h => h) (res1 rfl rfl) (retOk () rfl trivial [0] rfl (by decide))
      ·
        refine J.no (Wan.is rfl rfl rfl rfl rfl) rfl rfl ?_
        refine J.no (Wan.is rfl rfl rfl rfl rfl) rfl rfl ?_
        refine J.no (Wan.is rfl rfl rfl rfl rfl) rfl rfl ?_
        refine J.no (Wan.is rfl rfl rfl rfl rfl) rfl rfl ?_
        refine J.y (op_pickF rfl rfl rfl) rfl rfl rfl ?_
        refine J.y (op_move rfl rfl) rfl rfl rfl ?_
        refine J.no (Wan.is rfl rfl rfl rfl rfl) rfl rfl ?_
        refine J.no (Wan.is rfl rfl rfl rfl rfl) rfl rfl ?_
        refine J.no (Wan.is rfl rfl rfl rfl rfl) rfl rfl ?_
        refine J.y (op_pickF rfl rfl rfl) rfl rfl rfl ?_
        refine J.y (op_move rfl rfl) rfl rfl rfl ?_
        refine J.no (Wan.is rfl rfl rfl rfl rfl) rfl rfl ?_
        refine J.no (Wan.is rfl rfl rfl rfl rfl) rfl rfl ?_
        refine J.no (Wan.is rfl rfl rfl rfl rfl) rfl rfl ?_
        refine J.y ((by first | exact (op_pickT rfl rfl rfl).as (v' := .bool (decide (mayP ep bd hd nm))) (congrArg Value.bool (decide_eq_decide.2 (iff_of_eq (may_t (by assumption) (by assumption) (by assumption) (by assumption) (by assumption))))) | exact (op_pickF rfl rfl rfl).as (v' := .bool (decide (mayP ep bd hd nm))) (congrArg Value.bool (may_f (by omega))))) rfl rfl rfl ?_
        refine J.y (op_assign rfl rfl) rfl rfl rfl ?_
        refine J.nil ?_
        refine J.then_n (J.k hK2 ?_)
        refine J.keepE [(2, _)] ⟨rfl, trivial⟩ ?_
        refine J.ret ?_
        exact J.done (fun _ _ h => h) (res1 rfl rfl) (retOk () rfl trivial [0] rfl (by decide))
    ·
      refine J.no (Wan.is rfl rfl rfl rfl rfl) rfl rfl ?_
      refine J.no (Wan.is rfl rfl rfl rfl rfl) rfl rfl ?_
      refine J.no (Wan.is rfl rfl rfl rfl rfl) rfl rfl ?_
      refine J.y (op_pickF rfl rfl rfl) rfl rfl rfl ?_
      refine J.y (op_move rfl rfl) rfl rfl rfl ?_
      refine J.no (Wan.is rfl rfl rfl rfl rfl) rfl rfl ?_
      refine J.no (Wan.is rfl rfl rfl rfl rfl) rfl rfl ?_
      refine J.no (Wan.is rfl rfl rfl rfl rfl) rfl rfl ?_
      refine J.no (Wan.is rfl rfl rfl rfl rfl) rfl rfl ?_
      refine J.y (op_pickF rfl rfl rfl) rfl rfl rfl ?_
      refine J.y (op_move rfl rfl) rfl rfl rfl ?_
      refine J.no (Wan.is rfl rfl rfl rfl rfl) rfl rfl ?_
      refine J.no (Wan.is rfl rfl rfl rfl rfl) rfl rfl ?_
      refine J.no (Wan.is rfl rfl rfl rfl rfl) rfl rfl ?_
      refine J.y (op_pickF rfl rfl rfl) rfl rfl rfl ?_
      refine J.y (op_move rfl rfl) rfl rfl rfl ?_
      refine J.no (Wan.is rfl rfl rfl rfl rfl) rfl rfl ?_
      refine J.no (Wan.is rfl rfl rfl rfl rfl) rfl rfl ?_
      refine J.no (Wan.is rfl rfl rfl rfl rfl) rfl rfl ?_
      refine J.y ((by first | exact (op_pickT rfl rfl rfl).as (v' := .bool (decide (mayP ep bd hd nm))) (congrArg Value.bool (decide_eq_decide.2 (iff_of_eq (may_t (by assumption) (by assumption) (by assumption) (by assumption) (by assumption))))) | exact (op_pickF rfl rfl rfl).as (v' := .bool (decide (mayP ep bd hd nm))) (congrArg Value.bool (may_f (by omega))))) rfl rfl rfl ?_
      refine J.y (op_assign rfl rfl) rfl rfl rfl ?_
      refine J.nil ?_
      refine J.then_n (J.k hK2 ?_)
      refine J.keepE [(2, _)] ⟨rfl, trivial⟩ ?_
      refine J.ret ?_
      exact J.done (fun _ _ h => h) (res1 rfl rfl) (retOk () rfl trivial [0] rfl (by decide))
  ·
    refine J.no (Wan.is rfl rfl rfl rfl rfl) rfl rfl ?_
    refine J.no (Wan.is rfl rfl rfl rfl rfl) rfl rfl ?_
    refine J.no (Wan.is rfl rfl rfl rfl rfl) rfl rfl ?_
    refine J.y (op_pickF rfl rfl rfl) rfl rfl rfl ?_
    refine J.y (op_move rfl rfl) rfl rfl rfl ?_
    refine J.no (Wan.is rfl rfl rfl rfl rfl) rfl rfl ?_
    refine J.no (Wan.is rfl rfl rfl rfl rfl) rfl rfl ?_
    refine J.no (Wan.is rfl rfl rfl rfl rfl) rfl rfl ?_
    refine J.y (op_pickF rfl rfl rfl) rfl rfl rfl ?_
    refine J.y (op_move rfl rfl) rfl rfl rfl ?_
    refine J.no (Wan.is rfl rfl rfl rfl rfl) rfl rfl ?_
    refine J.no (Wan.is rfl rfl rfl rfl rfl) rfl rfl ?_
    refine J.no (Wan.is rfl rfl rfl rfl rfl) rfl rfl ?_
    refine J.no (Wan.is rfl rfl rfl rfl rfl) rfl rfl ?_
    refine J.y (op_pickF rfl rfl rfl) rfl rfl rfl ?_
    refine J.y (op_move rfl rfl) rfl rfl rfl ?_
    refine J.no (Wan.is rfl rfl rfl rfl rfl) rfl rfl ?_
    refine J.no (Wan.is rfl rfl rfl rfl rfl) rfl rfl ?_
    refine J.no (Wan.is rfl rfl rfl rfl rfl) rfl rfl ?_
    refine J.y (op_pickF rfl rfl rfl) rfl rfl rfl ?_
    refine J.y (op_move rfl rfl) rfl rfl rfl ?_
    refine J.no (Wan.is rfl rfl rfl rfl rfl) rfl rfl ?_
    refine J.no (Wan.is rfl rfl rfl rfl rfl) rfl rfl ?_
    refine J.no (Wan.is rfl rfl rfl rfl rfl) rfl rfl ?_
    refine J.y ((by first | exact (op_pickT rfl rfl rfl).as (v' := .bool (decide (mayP ep bd hd nm))) (congrArg Value.bool (decide_eq_decide.2 (iff_of_eq (may_t (by assumption) (by assumption) (by assumption) (by assumption) (by assumption))))) | exact (op_pickF rfl rfl rfl).as (v' := .bool (decide (mayP ep bd hd nm))) (congrArg Value.bool (may_f (by omega))))) rfl rfl rfl ?_
    refine J.y (op_assign rfl rfl) rfl rfl rfl ?_
    refine J.nil ?_
    refine J.then_n (J.k hK2 ?_)
    refine J.keepE [(2, _)] ⟨rfl, trivial⟩ ?_
    refine J.ret ?_
    exact J.done (fun _ _ h => h) (res1 rfl rfl) (retOk () rfl trivial [0] rfl (by decide))

theorem aplace_ct (F : Hp) (ep bd nm : Nat) (hd : List UInt8) (i : Int) (A1 A2 : Option Addr) (n1 c1 n2 c2 : Nat) (h1 : ep ≤ 4294967295) (h2 : bd < 16) (h3 : nm < 64) (h4 : hd.length = 16) :
    Ct Tryd.prog 88 [.agg #[N64 ep, I (bd : Nat), Str hd, I (nm : Nat), I i, .slice A1 n1 c1, .slice A2 n2 c2]] [F] (fun _ : Unit => Str (plB ep bd nm)) (fun _ => True) (fun _ => [F]) := by
  refine Ct.walk Tryd.func88 rfl Tryd.ntmps88 rfl (fun w0 => ?_)
  change J _ [(0, _)] _ _ _
  refine J.seq (fun K1 hK1 => ?_)
  refine J.region ?_
  refine J.e (op_box rfl rfl (l := [N64 ep, I (bd : Nat), Str hd, I (nm : Nat), I i, .slice A1 n1 c1, .slice A2 n2 c2]) rfl) rfl rfl rfl ?_
  intro g1 _
  change J _ _ _ [F, blk g1 [N64 ep, I (bd : Nat), Str hd, I (nm : Nat), I i, .slice A1 n1 c1, .slice A2 n2 c2] 94] _
  refine J.y (op_assign rfl rfl) rfl rfl rfl ?_
  refine J.nil ?_
  refine J.then_n (J.k hK1 ?_)
  refine J.keepE [(1, _)] ⟨rfl, trivial⟩ ?_
  refine J.seq (fun K2 hK2 => ?_)
  refine J.region ?_
  refine J.e (op_alloc rfl Tryd.zeroValue123 rfl) rfl rfl rfl ?_
  intro g3 _
  change J _ _ _ [F, blk g1 [N64 ep, I (bd : Nat), Str hd, I (nm : Nat), I i, .slice A1 n1 c1, .slice A2 n2 c2] 94, blk g3 _ 123] _
  refine J.nil ?_
  refine J.then_n (J.k hK2 ?_)
  refine J.keepE [(1, _), (3, _)] ⟨rfl, rfl, trivial⟩ ?_
  refine J.seq (fun K3 hK3 => ?_)
  refine J.draw [blk g1 [N64 ep, I (bd : Nat), Str hd, I (nm : Nat), I i, .slice A1 n1 c1, .slice A2 n2 c2] 94] [] (.y 0 (.y 1 (.y 3 (.y 4 (.y 5 (.y 7 (.y 8 (.y 9 (.e 2 (.e 6 (.e 10 (.e 11 (.y 12 (.y 13 (.y 14 (.y 15 (.y 16 .nil))))))))))))))))) Tryd.wide (by decide +kernel) (by simp) ?_
  refine J.dy rfl (op_fieldAddr (j := 0) rfl rfl Tryd.underlying94 rfl Tryd.sizeOf47 rfl) rfl rfl rfl rfl ?_
  refine J.dy rfl (op_loadB 0 rfl rfl rfl Tryd.isAgg47 rfl) rfl rfl rfl rfl ?_
  refine J.dy rfl (op_fieldAddr (j := 1) rfl rfl Tryd.underlying94 rfl Tryd.sizeOf3 rfl) rfl rfl rfl rfl ?_
  refine J.dy rfl (op_loadB 0 rfl rfl rfl Tryd.isAgg3 rfl) rfl rfl rfl rfl ?_
  refine J.dy rfl (op_cv_i64_u64 rfl rfl Tryd.underlying3 Tryd.underlying47 (m := bd) (by omega)) rfl rfl rfl rfl ?_
  refine J.dy rfl (op_fieldAddr (j := 3) rfl rfl Tryd.underlying94 rfl Tryd.sizeOf3 rfl) rfl rfl rfl rfl ?_
  refine J.dy rfl (op_loadB 0 rfl rfl rfl Tryd.isAgg3 rfl) rfl rfl rfl rfl ?_
  refine J.dy rfl (op_cv_i64_u64 rfl rfl Tryd.underlying3 Tryd.underlying47 (m := nm) (by omega)) rfl rfl rfl rfl ?_
  refine J.de rfl (op_call rfl rfl ent73 (Ct.use1 2 (m' := fun x : Hp => x) (new := fun _ => []) rfl (fun F' _ => numN_ct F' (blk g3 [.pointer none, .slice none 0 0, I 0] 123) g3 [] 0 (wtr_new g3) (by decide) ep (by omega) 4 (by omega) (by omega)))) rfl rfl rfl (by simp) ?_
  rintro m9 hw9
  change J _ _ _ [F, blk g1 [N64 ep, I (bd : Nat), Str hd, I (nm : Nat), I i, .slice A1 n1 c1, .slice A2 n2 c2] 94, m9] _
  rw [(okN_t (size := 4) (by omega) (by omega)), fbad_t, wnum_ok (okN_t (size := 4) (by omega) (by omega)), List.nil_append] at hw9
  refine J.de rfl (op_call rfl rfl ent73 (Ct.use1 2 (m' := fun x : Hp => x) (new := fun _ => []) rfl (fun F' _ => num_ct F' m9 g3 (Sha.numB (UInt64.ofNat ep) 4) 0 hw9 (by rw [Sha.numB_length]; omega) (UInt64.ofNat bd) 1 (by omega) (by omega)))) rfl rfl rfl (by simp) ?_
  rintro m13 hw13
  change J _ _ _ [F, blk g1 [N64 ep, I (bd : Nat), Str hd, I (nm : Nat), I i, .slice A1 n1 c1, .slice A2 n2 c2] 94, m13] _
  rw [(okN_t (size := 1) (by omega) (by omega)), fbad_t, wnum_ok (okN_t (size := 1) (by omega) (by omega))] at hw13
  refine J.de rfl (op_call rfl rfl ent73 (Ct.use1 2 (m' := fun x : Hp => x) (new := fun _ => []) rfl (fun F' _ => num_ct F' m13 g3 ((Sha.numB (UInt64.ofNat ep) 4) ++ Sha.numB (UInt64.ofNat bd) 1) 0 hw13 (by rw [List.length_append, Sha.numB_length, Sha.numB_length]; omega) (UInt64.ofNat nm) 2 (by omega) (by omega)))) rfl rfl rfl (by simp) ?_
  rintro m17 hw17
  change J _ _ _ [F, blk g1 [N64 ep, I (bd : Nat), Str hd, I (nm : Nat), I i, .slice A1 n1 c1, .slice A2 n2 c2] 94, m17] _
  rw [(okN_t (size := 2) (by omega) (by omega)), fbad_t, wnum_ok (okN_t (size := 2) (by omega) (by omega))] at hw17
  refine J.de rfl (op_call rfl rfl ent75 (Ct.use1 2 (m' := fun x : Hp => x) (new := fun _ => []) rfl (fun F' _ => bytes_ct F' m17 g3 (plB ep bd nm) 0 hw17 (by rw [plB_len]; omega)))) rfl rfl rfl (by simp) ?_
  rintro m18 _
  change J _ _ _ [F, blk g1 [N64 ep, I (bd : Nat), Str hd, I (nm : Nat), I i, .slice A1 n1 c1, .slice A2 n2 c2] 94, m18] _
  refine J.dy rfl (op_move rfl rfl) rfl rfl rfl rfl ?_
  refine J.dy rfl (op_extract (v := Str (plB ep bd nm)) rfl rfl rfl) rfl rfl rfl rfl ?_
  refine J.dy rfl (op_extract (v := I 0) rfl rfl rfl) rfl rfl rfl rfl ?_
  refine J.dy rfl (op_assign rfl rfl) rfl rfl rfl rfl ?_
  refine J.dy rfl (op_assign rfl rfl) rfl rfl rfl rfl ?_
  refine J.dnil ?_
  refine J.then_n (J.k hK3 ?_)
  refine J.keepE [(4, _)] ⟨rfl, trivial⟩ ?_
  refine J.seq (fun K4 hK4 => ?_)
  refine J.region ?_
  refine J.y (op_move rfl rfl) rfl rfl rfl ?_
  refine J.y (op_assign rfl rfl) rfl rfl rfl ?_
  refine J.nil ?_
  refine J.then_n (J.k hK4 ?_)
  refine J.keepE [(2, _)] ⟨rfl, trivial⟩ ?_
  refine J.ret ?_
  exact J.done (fun _ _ h => h) (res1 rfl rfl) (retOk () rfl trivial [0] rfl (by decide))

theorem amessage_ct (F : Hp) (hK : Cells F ⟨0, 0, none⟩ (Sha.K.map W32)) (ep bd nm : Nat) (hd : List UInt8) (i : Int) (A1 A2 : Option Addr) (n1 c1 n2 c2 : Nat) (h1 : ep ≤ 4294967295) (h2 : bd < 16) (h3 : nm < 64) (h4 : hd.length = 16) :
    Ct Tryd.prog 55 [.agg #[N64 ep, I (bd : Nat), Str hd, I (nm : Nat), I i, .slice A1 n1 c1, .slice A2 n2 c2]] [F] (fun _ : Unit => Str (atM ep bd nm hd)) (fun _ => True) (fun _ => [F]) := by
  refine Ct.walk Tryd.func55 rfl Tryd.ntmps55 rfl (fun w0 => ?_)
  change J _ [(0, _)] _ _ _
  refine J.seq (fun K1 hK1 => ?_)
  refine J.region ?_
  refine J.e (op_box rfl rfl (l := [N64 ep, I (bd : Nat), Str hd, I (nm : Nat), I i, .slice A1 n1 c1, .slice A2 n2 c2]) rfl) rfl rfl rfl ?_
  intro g1 _
  change J _ _ _ [F, blk g1 [N64 ep, I (bd : Nat), Str hd, I (nm : Nat), I i, .slice A1 n1 c1, .slice A2 n2 c2] 94] _
  refine J.y (op_assign rfl rfl) rfl rfl rfl ?_
  refine J.nil ?_
  refine J.then_n (J.k hK1 ?_)
  refine J.keepE [(1, _)] ⟨rfl, trivial⟩ ?_
  refine J.seq (fun K2 hK2 => ?_)
  refine J.seq (fun K3 hK3 => ?_)
  refine J.region ?_
  refine J.y (op_loadBA 1 rfl rfl rfl Tryd.isAgg94 Tryd.sizeOf94 rfl) rfl rfl rfl ?_
  refine J.e (op_call rfl rfl ent87 (Ct.use0 (fun F' hF => amay_ct F' ep bd hd nm i A1 A2 n1 c1 n2 c2))) rfl rfl rfl ?_
  intro g4 _
  refine J.y ((op_not rfl rfl).as (v' := .bool false) (by rw [decide_eq_true (show mayP ep bd hd nm from ⟨h1, by omega, by omega, h4, by omega, by omega⟩)]; rfl)) rfl rfl rfl ?_
  refine J.nil ?_
  refine J.then_n (J.k hK3 ?_)
  refine J.keepE [(1, _), (5, _)] ⟨rfl, rfl, trivial⟩ ?_
  refine J.condF rfl rfl ?_
  refine J.skip ?_
  refine J.then_n (J.k hK2 ?_)
  refine J.keepE [(1, _)] ⟨rfl, trivial⟩ ?_
  refine J.seq (fun K4 hK4 => ?_)
  refine J.draw [blk g1 [N64 ep, I (bd : Nat), Str hd, I (nm : Nat), I i, .slice A1 n1 c1, .slice A2 n2 c2] 94] [] (.y 0 (.y 2 (.y 3 (.e 1 (.e 4 (.e 5 (.y 6 .nil))))))) Tryd.wide (by decide +kernel) (by simp) ?_
  refine J.dy rfl (op_loadBA 0 rfl rfl rfl Tryd.isAgg94 Tryd.sizeOf94 rfl) rfl rfl rfl rfl ?_
  refine J.dy rfl (op_fieldAddr (j := 2) rfl rfl Tryd.underlying94 rfl Tryd.sizeOf9 rfl) rfl rfl rfl rfl ?_
  refine J.dy rfl (op_loadB 0 rfl rfl rfl Tryd.isAgg9 rfl) rfl rfl rfl rfl ?_
  refine J.de rfl (op_call rfl rfl ent88 (Ct.use0 (fun F' hF => aplace_ct F' ep bd nm hd i A1 A2 n1 c1 n2 c2 h1 h2 h3 h4))) rfl rfl rfl (by simp) ?_
  intro g7 _
  refine J.de rfl (op_buildSlice (l := [.tmp 7, .tmp 9]) (xs := [[Str (plB ep bd nm)], [Str (hd)]]) rfl rfl rfl rfl Tryd.underlying30 el9 rfl (by decide) (by decide) (by simp)) rfl rfl rfl (by simp) ?_
  intro g10 _
  change J _ _ _ [F, blk g1 [N64 ep, I (bd : Nat), Str hd, I (nm : Nat), I i, .slice A1 n1 c1, .slice A2 n2 c2] 94, blk g10 [Str (plB ep bd nm), Str (hd)] 9] _
  refine J.de rfl (op_call rfl rfl ent60 (Ct.use0 (fun F' hF => tagged_ct F' (hK.mono (hF _ (by simp))) 18 (some ⟨g10, 0, none⟩) 2 2 [plB ep bd nm, hd] ((slS [plB ep bd nm, hd] rfl).mono (hF (blk g10 (([plB ep bd nm, hd] : List (List UInt8)).map fun s => Str s) 9) (by simp))) (by simp only [List.flatten_cons, List.flatten_nil, List.append_nil, List.length_append, plB_len, h4]; decide) (by decide)))) rfl rfl rfl (by simp) ?_
  intro g11 _
  refine J.dy rfl (op_assign rfl rfl) rfl rfl rfl rfl ?_
  refine J.dnil ?_
  refine J.then_n (J.k hK4 ?_)
  refine J.keepE [(2, _)] ⟨rfl, trivial⟩ ?_
  refine J.ret ?_
  exact J.done (fun _ _ h => h) (res1 rfl rfl) (retOk () rfl trivial [0] rfl (by decide))

theorem amessage_no (F : Hp) (ep : Nat) (bd : Int) (hd : List UInt8) (nm : Int) (i : Int) (A1 A2 : Option Addr) (n1 c1 n2 c2 : Nat) (hn : ¬ mayP ep bd hd nm) :
    Ct Tryd.prog 55 [.agg #[N64 ep, I bd, Str hd, I nm, I i, .slice A1 n1 c1, .slice A2 n2 c2]] [F] (fun _ : Unit => Str []) (fun _ => True) (fun _ => [F]) := by
  refine Ct.walk Tryd.func55 rfl Tryd.ntmps55 rfl (fun w0 => ?_)
  change J _ [(0, _)] _ _ _
  refine J.seq (fun K1 hK1 => ?_)
  refine J.region ?_
  refine J.e (op_box rfl rfl (l := [N64 ep, I bd, Str hd, I nm, I i, .slice A1 n1 c1, .slice A2 n2 c2]) rfl) rfl rfl rfl ?_
  intro g1 _
  change J _ _ _ [F, blk g1 [N64 ep, I bd, Str hd, I nm, I i, .slice A1 n1 c1, .slice A2 n2 c2] 94] _
  refine J.y (op_assign rfl rfl) rfl rfl rfl ?_
  refine J.nil ?_
  refine J.then_n (J.k hK1 ?_)
  refine J.keepE [(1, _)] ⟨rfl, trivial⟩ ?_
  refine J.seq (fun K2 hK2 => ?_)
  refine J.seq (fun K3 hK3 => ?_)
  refine J.region ?_
  refine J.y (op_loadBA 1 rfl rfl rfl Tryd.isAgg94 Tryd.sizeOf94 rfl) rfl rfl rfl ?_
  refine J.e (op_call rfl rfl ent87 (Ct.use0 (fun F' hF => amay_ct F' ep bd hd nm i A1 A2 n1 c1 n2 c2))) rfl rfl rfl ?_
  intro g4 _
  refine J.y ((op_not rfl rfl).as (v' := .bool true) (by rw [decide_eq_false hn]; rfl)) rfl rfl rfl ?_
  refine J.nil ?_
  refine J.then_n (J.k hK3 ?_)
  refine J.keepE [(1, _), (5, _)] ⟨rfl, rfl, trivial⟩ ?_
  refine J.condT rfl rfl ?_
  refine J.seq (fun K4 hK4 => ?_)
  refine J.region ?_
  refine J.y (op_assign rfl rfl) rfl rfl rfl ?_
  refine J.nil ?_
  refine J.then_n (J.k hK4 ?_)
  refine J.keepE [(2, _)] ⟨rfl, trivial⟩ ?_
  refine J.ret ?_
  refine J.then_r ?_
  exact J.done (fun _ _ h => h) (res1 rfl rfl) (retOk () rfl trivial [0] rfl (by decide))

theorem averify_ct (F : Hp) (hK : Cells F ⟨0, 0, none⟩ (Sha.K.map W32)) (ep bd nm : Nat) (hd : List UInt8) (h1 : ep ≤ 4294967295) (h2 : bd < 16) (h3 : nm < 64) (h4 : hd.length = 16) (o r : List UInt8) (i : Nat) (A1 : Option Addr) (c1 : Nat) (ch : List (List UInt8)) (hch : Sl F 1 A1 35 c1 (strsV ch)) (hc16 : ∀ s ∈ ch, s.length = 16) (A2 : Option Addr) (h c2 : Nat) (pt : List (List UInt8)) (hpt : Sl F 1 A2 h c2 (strsV pt)) (hp16 : ∀ s ∈ pt, s.length = 16) (ho : o.length ≤ 1048576) (h6 : h ≤ 6) (hi : i < 2 ^ h) :
    Ct Tryd.prog 86 [.agg #[N64 ep, I (bd : Nat), Str hd, I (nm : Nat), I (i : Nat), .slice A1 35 c1, .slice A2 h c2], .agg #[Str o, Str r, I h]] [F] (fun _ : Unit => .bool (decide (Mk.climb (Wo.publicOf o i (Wo.ends o i (Wo.digs (Xm.digest o i (atM ep bd nm hd))) ch 35)) i pt = r))) (fun _ => True) (fun _ => [F]) := by
  refine Ct.walk Tryd.func86 rfl Tryd.ntmps86 rfl (fun w0 => ?_)
  change J _ [(0, _), (1, _)] _ _ _
  refine J.seq (fun K1 hK1 => ?_)
  refine J.region ?_
  refine J.e (op_box rfl rfl (l := [N64 ep, I (bd : Nat), Str hd, I (nm : Nat), I (i : Nat), .slice A1 35 c1, .slice A2 h c2]) rfl) rfl rfl rfl ?_
  intro g2 _
  change J _ _ _ [F, blk g2 [N64 ep, I (bd : Nat), Str hd, I (nm : Nat), I (i : Nat), .slice A1 35 c1, .slice A2 h c2] 94] _
  refine J.e (op_box rfl rfl (l := [Str o, Str r, I h]) rfl) rfl rfl rfl ?_
  intro g3 _
  change J _ _ _ [F, blk g2 [N64 ep, I (bd : Nat), Str hd, I (nm : Nat), I (i : Nat), .slice A1 35 c1, .slice A2 h c2] 94, blk g3 [Str o, Str r, I h] 36] _
  refine J.y (op_assign rfl rfl) rfl rfl rfl ?_
  refine J.nil ?_
  refine J.then_n (J.k hK1 ?_)
  refine J.keepE [(2, _), (3, _)] ⟨rfl, rfl, trivial⟩ ?_
  refine J.seq (fun K2 hK2 => ?_)
  refine J.draw [blk g2 [N64 ep, I (bd : Nat), Str hd, I (nm : Nat), I (i : Nat), .slice A1 35 c1, .slice A2 h c2] 94, blk g3 [Str o, Str r, I h] 36] [] (.y 0 (.e 1 (.y 2 (.y 3 (.y 4 (.y 6 (.y 7 (.e 5 (.e 8 (.y 9 (.y 10 .nil))))))))))) Tryd.wide (by decide +kernel) (by simp) ?_
  refine J.dy rfl (op_loadBA 0 rfl rfl rfl Tryd.isAgg94 Tryd.sizeOf94 rfl) rfl rfl rfl rfl ?_
  refine J.de rfl (op_call rfl rfl ent87 (Ct.use0 (fun F' hF => (amay_ct F' ep bd hd nm (i : Nat) A1 A2 35 c1 h c2).mono (φ2 := fun _ => True) (val2 := fun _ : Unit => .bool true) id (fun _ _ => congrArg Value.bool (decide_eq_true (show mayP ep bd hd nm from ⟨h1, by omega, by omega, h4, by omega, by omega⟩))) (fun _ _ => trivial) (fun _ _ _ _ h => h)))) rfl rfl rfl (by simp) ?_
  intro g6 _
  refine J.dy rfl (op_move rfl rfl) rfl rfl rfl rfl ?_
  refine J.dyg rfl (op_loadBA 1 rfl rfl rfl Tryd.isAgg36 Tryd.sizeOf36 rfl) (Wan.is rfl rfl rfl rfl rfl) rfl rfl rfl ?_
  refine J.dyg rfl (op_loadBA 0 rfl rfl rfl Tryd.isAgg94 Tryd.sizeOf94 rfl) (Wan.is rfl rfl rfl rfl rfl) rfl rfl rfl ?_
  refine J.dyg rfl (op_fieldAddr (j := 4) rfl rfl Tryd.underlying94 rfl Tryd.sizeOf32 rfl) (Wan.is rfl rfl rfl rfl rfl) rfl rfl rfl ?_
  refine J.dyg rfl (op_loadMA 0 rfl rfl Tryd.isAgg32 Tryd.sizeOf32 (vs := [I (i : Nat), .slice A1 35 c1, .slice A2 h c2]) rfl (Cells.blk 4 (fun j u hj => by match j with | 0 => exact hj | 1 => exact hj | 2 => exact hj)) rfl) (Wan.is rfl rfl rfl rfl rfl) rfl rfl rfl ?_
  refine J.deg rfl (op_call rfl rfl ent55 (Ct.use0 (fun F' hF => amessage_ct F' (hK.mono (hF _ (by simp))) ep bd nm hd (i : Nat) A1 A2 35 c1 h c2 h1 h2 h3 h4))) (Wan.is rfl rfl rfl rfl rfl) rfl rfl (by simp) ?_
  intro g10 _
  refine J.deg rfl (op_call rfl rfl ent18 (Ct.use0 (fun F' hF => xverify_ct F' (hK.mono (hF _ (by simp))) o r h (atM ep bd nm hd) i A1 c1 ch (hch.mono (hF F (by simp))) hc16 A2 c2 pt (hpt.mono (hF F (by simp))) (len16_small hp16) ho (by rw [atM_len]; decide) h6 hi))) (Wan.is rfl rfl rfl rfl rfl) rfl rfl (by simp) ?_
  intro g13 _
  refine J.dy rfl (op_pickT rfl rfl rfl) rfl rfl rfl rfl ?_
  refine J.dy rfl (op_assign rfl rfl) rfl rfl rfl rfl ?_
  refine J.dnil ?_
  refine J.then_n (J.k hK2 ?_)
  refine J.keepE [(4, _)] ⟨rfl, trivial⟩ ?_
  refine J.ret ?_
  exact J.done (fun _ _ h => h) (res1 rfl rfl) (retOk () rfl trivial [0] rfl (by decide))

theorem wtext_ok {s bs : List UInt8} (h : s.length ≤ 4096) : wtext s bs 0 = bs ++ Sha.numB (UInt64.ofNat s.length) 2 ++ s ∧ fbad (okT s) 2 0 = 0 := by
  have h1 : okT s = true := decide_eq_true h
  unfold wtext
  rw [h1, fbad_t, if_pos rfl]
  exact ⟨rfl, rfl⟩

theorem aencode_ct (F : Hp) (ep bd nm : Nat) (hd : List UInt8) (h1 : ep ≤ 4294967295) (h2 : bd < 16) (h3 : nm < 64) (h4 : hd.length = 16) (i : Nat) (A1 : Option Addr) (c1 : Nat) (ch : List (List UInt8)) (hch : Sl F 1 A1 35 c1 (strsV ch)) (hc16 : ∀ s ∈ ch, s.length = 16) (A2 : Option Addr) (h c2 : Nat) (pt : List (List UInt8)) (hpt : Sl F 1 A2 h c2 (strsV pt)) (hp16 : ∀ s ∈ pt, s.length = 16) (hi : i ≤ 63) (h6 : h ≤ 6) :
    Ct Tryd.prog 53 [.agg #[N64 ep, I (bd : Nat), Str hd, I (nm : Nat), I (i : Nat), .slice A1 35 c1, .slice A2 h c2]] [F] (fun _ : Unit => .tuple #[Str (atB ep bd nm hd (sgB i ch pt)), I 0]) (fun _ => True) (fun _ => [F]) := by
  have hl1 : ch.length = 35 := by have := hch.1; simpa [strsV] using this
  have hl2 : pt.length = h := by have := hpt.1; simpa [strsV] using this
  have hsl := sgB_len (i := i) hc16 hp16 hl1
  have hpl := plB_len ep bd nm
  refine Ct.walk Tryd.func53 rfl Tryd.ntmps53 rfl (fun w0 => ?_)
  change J _ [(0, _)] _ _ _
  refine J.seq (fun K1 hK1 => ?_)
  refine J.region ?_
  refine J.e (op_box rfl rfl (l := [N64 ep, I (bd : Nat), Str hd, I (nm : Nat), I (i : Nat), .slice A1 35 c1, .slice A2 h c2]) rfl) rfl rfl rfl ?_
  intro g1 _
  change J _ _ _ [F, blk g1 [N64 ep, I (bd : Nat), Str hd, I (nm : Nat), I (i : Nat), .slice A1 35 c1, .slice A2 h c2] 94] _
  refine J.y (op_assign rfl rfl) rfl rfl rfl ?_
  refine J.y (op_assign rfl rfl) rfl rfl rfl ?_
  refine J.nil ?_
  refine J.then_n (J.k hK1 ?_)
  refine J.keepE [(1, _)] ⟨rfl, trivial⟩ ?_
  refine J.seq (fun K2 hK2 => ?_)
  refine J.seq (fun K3 hK3 => ?_)
  refine J.region ?_
  refine J.y (op_loadBA 1 rfl rfl rfl Tryd.isAgg94 Tryd.sizeOf94 rfl) rfl rfl rfl ?_
  refine J.e (op_call rfl rfl ent87 (Ct.use0 (fun F' hF => (amay_ct F' ep bd hd nm (i : Nat) A1 A2 35 c1 h c2).mono (φ2 := fun _ => True) (val2 := fun _ : Unit => .bool true) id (fun _ _ => congrArg Value.bool (decide_eq_true (show mayP ep bd hd nm from ⟨h1, by omega, by omega, h4, by omega, by omega⟩))) (fun _ _ => trivial) (fun _ _ _ _ h => h)))) rfl rfl rfl ?_
  intro g9 _
  refine J.y ((op_not rfl rfl).as (v' := .bool false) rfl) rfl rfl rfl ?_
  refine J.nil ?_
  refine J.then_n (J.k hK3 ?_)
  refine J.keepE [(1, _), (10, _)] ⟨rfl, rfl, trivial⟩ ?_
  refine J.condF rfl rfl ?_
  refine J.skip ?_
  refine J.then_n (J.k hK2 ?_)
  refine J.keepE [(1, _)] ⟨rfl, trivial⟩ ?_
  refine J.seq (fun K4 hK4 => ?_)
  refine J.region ?_
  refine J.y (op_fieldAddr (j := 4) rfl rfl Tryd.underlying94 rfl Tryd.sizeOf32 rfl) rfl rfl rfl ?_
  refine J.y (op_loadMA 1 rfl rfl Tryd.isAgg32 Tryd.sizeOf32 (vs := [I (i : Nat), .slice A1 35 c1, .slice A2 h c2]) rfl (Cells.blk 4 (fun j u hj => by match j with | 0 => exact hj | 1 => exact hj | 2 => exact hj)) rfl) rfl rfl rfl ?_
  refine J.e (op_call rfl rfl ent40 (Ct.use0 (fun F' hF => sencode_ct F' i A1 c1 ch (hch.mono (hF F (by simp))) A2 h c2 pt (hpt.mono (hF F (by simp))) hi h6 hc16 hp16))) rfl rfl rfl ?_
  intro g14 _
  refine J.y (op_move rfl rfl) rfl rfl rfl ?_
  refine J.y (op_extract (v := Str (sgB i ch pt)) rfl rfl rfl) rfl rfl rfl ?_
  refine J.y (op_extract (v := I 0) rfl rfl rfl) rfl rfl rfl ?_
  refine J.y (op_assign rfl rfl) rfl rfl rfl ?_
  refine J.y (op_assign rfl rfl) rfl rfl rfl ?_
  refine J.nil ?_
  refine J.then_n (J.k hK4 ?_)
  refine J.keepE [(1, _), (4, _), (5, _)] ⟨rfl, rfl, rfl, trivial⟩ ?_
  refine J.seq (fun K5 hK5 => ?_)
  refine J.seq (fun K6 hK6 => ?_)
  refine J.region ?_
  refine J.y (op_move rfl rfl) rfl rfl rfl ?_
  refine J.y ((op_neq rfl rfl rfl).as (v' := .bool false) (congrArg Value.bool (decide_eq_false (by decide)))) rfl rfl rfl ?_
  refine J.nil ?_
  refine J.then_n (J.k hK6 ?_)
  refine J.keepE [(1, _), (4, _), (5, _), (18, _)] ⟨rfl, rfl, rfl, rfl, trivial⟩ ?_
  refine J.condF rfl rfl ?_
  refine J.skip ?_
  refine J.then_n (J.k hK5 ?_)
  refine J.keepE [(1, _), (4, _)] ⟨rfl, rfl, trivial⟩ ?_
  refine J.seq (fun K7 hK7 => ?_)
  refine J.region ?_
  refine J.y (op_loadBA 1 rfl rfl rfl Tryd.isAgg94 Tryd.sizeOf94 rfl) rfl rfl rfl ?_
  refine J.e (op_call rfl rfl ent88 (Ct.use0 (fun F' hF => aplace_ct F' ep bd nm hd (i : Nat) A1 A2 35 c1 h c2 h1 h2 h3 h4))) rfl rfl rfl ?_
  intro g21 _
  refine J.y (op_assign rfl rfl) rfl rfl rfl ?_
  refine J.nil ?_
  refine J.then_n (J.k hK7 ?_)
  refine J.keepE [(1, _), (4, _), (6, _)] ⟨rfl, rfl, rfl, trivial⟩ ?_
  refine J.seq (fun K8 hK8 => ?_)
  refine J.region ?_
  refine J.e (op_alloc rfl Tryd.zeroValue123 rfl) rfl rfl rfl ?_
  intro g7 _
  change J _ _ _ [F, blk g1 [N64 ep, I (bd : Nat), Str hd, I (nm : Nat), I (i : Nat), .slice A1 35 c1, .slice A2 h c2] 94, blk g7 _ 123] _
  refine J.nil ?_
  refine J.then_n (J.k hK8 ?_)
  refine J.keepE [(1, _), (4, _), (6, _), (7, _)] ⟨rfl, rfl, rfl, rfl, trivial⟩ ?_
  refine J.seq (fun K9 hK9 => ?_)
  refine J.draw [blk g1 [N64 ep, I (bd : Nat), Str hd, I (nm : Nat), I (i : Nat), .slice A1 35 c1, .slice A2 h c2] 94] [] (.y 0 (.y 1 (.y 2 (.y 4 (.y 5 (.y 7 (.e 3 (.e 6 (.e 8 (.e 9 (.y 10 (.y 11 (.y 12 (.y 13 .nil)))))))))))))) Tryd.wide (by decide +kernel) (by simp) ?_
  refine J.dy rfl (op_move rfl rfl) rfl rfl rfl rfl ?_
  refine J.dy rfl (op_move rfl rfl) rfl rfl rfl rfl ?_
  refine J.dy rfl (op_slen Tryd.underlying9 rfl rfl) rfl rfl rfl rfl ?_
  refine J.dy rfl (op_fieldAddr (j := 2) rfl rfl Tryd.underlying94 rfl Tryd.sizeOf9 rfl) rfl rfl rfl rfl ?_
  refine J.dy rfl (op_loadB 0 rfl rfl rfl Tryd.isAgg9 rfl) rfl rfl rfl rfl ?_
  refine J.dy rfl (op_move rfl rfl) rfl rfl rfl rfl ?_
  refine J.de rfl (op_call rfl rfl ent74 (Ct.use1 2 (m' := fun x : Hp => x) (new := fun _ => []) rfl (fun F' _ => fixed_ct F' (blk g7 [.pointer none, .slice none 0 0, I 0] 123) g7 [] 0 (wtr_new g7) (by decide) (plB ep bd nm) (by omega) (plB ep bd nm).length))) rfl rfl rfl (by simp) ?_
  rintro m25 hw25
  change J _ _ _ [F, blk g1 [N64 ep, I (bd : Nat), Str hd, I (nm : Nat), I (i : Nat), .slice A1 35 c1, .slice A2 h c2] 94, m25] _
  rw [wfix_t rfl, okF_t rfl, fbad_t, List.nil_append] at hw25
  refine J.de rfl (op_call rfl rfl ent74 (Ct.use1 2 (m' := fun x : Hp => x) (new := fun _ => []) rfl (fun F' _ => fixed_ct F' m25 g7 (plB ep bd nm) 0 hw25 (by omega) hd (by omega) 16))) rfl rfl rfl (by simp) ?_
  rintro m28 hw28
  change J _ _ _ [F, blk g1 [N64 ep, I (bd : Nat), Str hd, I (nm : Nat), I (i : Nat), .slice A1 35 c1, .slice A2 h c2] 94, m28] _
  rw [wfix_t h4, okF_t h4, fbad_t] at hw28
  refine J.de rfl (op_call rfl rfl ent81 (Ct.use1 2 (m' := fun x : Hp => x) (new := fun _ => []) rfl (fun F' _ => text_ct F' m28 g7 ((plB ep bd nm) ++ hd) 0 hw28 (by rw [List.length_append]; omega) (sgB i ch pt) (by omega)))) rfl rfl rfl (by simp) ?_
  rintro m30 hw30
  change J _ _ _ [F, blk g1 [N64 ep, I (bd : Nat), Str hd, I (nm : Nat), I (i : Nat), .slice A1 35 c1, .slice A2 h c2] 94, m30] _
  rw [(wtext_ok (by omega)).1, (wtext_ok (s := (sgB i ch pt)) (bs := []) (by omega)).2] at hw30
  rw [List.append_assoc] at hw30
  refine J.de rfl (op_call rfl rfl ent75 (Ct.use1 2 (m' := fun x : Hp => x) (new := fun _ => []) rfl (fun F' _ => bytes_ct F' m30 g7 (atB ep bd nm hd (sgB i ch pt)) 0 hw30 (by unfold atB; simp only [List.length_append, Sha.numB_length]; omega)))) rfl rfl rfl (by simp) ?_
  rintro m31 _
  change J _ _ _ [F, blk g1 [N64 ep, I (bd : Nat), Str hd, I (nm : Nat), I (i : Nat), .slice A1 35 c1, .slice A2 h c2] 94, m31] _
  refine J.dy rfl (op_extract (v := Str (atB ep bd nm hd (sgB i ch pt))) rfl rfl rfl) rfl rfl rfl rfl ?_
  refine J.dy rfl (op_extract (v := I 0) rfl rfl rfl) rfl rfl rfl rfl ?_
  refine J.dy rfl (op_assign rfl rfl) rfl rfl rfl rfl ?_
  refine J.dy rfl (op_assign rfl rfl) rfl rfl rfl rfl ?_
  refine J.dnil ?_
  refine J.then_n (J.k hK9 ?_)
  refine J.keepE [(2, _), (3, _)] ⟨rfl, rfl, trivial⟩ ?_
  refine J.ret ?_
  exact J.done (fun _ _ h => h) (res2 rfl rfl rfl) (retOk () rfl trivial [0] rfl (by decide))

def a4 (s : List UInt8) : RS := ((((⟨s, 0⟩ : RS).take 4).take 1).take 2).take 16
def atMay (s : List UInt8) : Prop := mayP (natB ((⟨s, 0⟩ : RS).out 4)) (natB (((⟨s, 0⟩ : RS).take 4).out 1) : Nat) (((((⟨s, 0⟩ : RS).take 4).take 1).take 2).out 16) (natB ((((⟨s, 0⟩ : RS).take 4).take 1).out 2) : Nat)
def atE (s : List UInt8) : Int := if (a4 s).textR.last ≠ 0 then (a4 s).textR.last else if whyE (a4 s).textS ≠ 0 then whyE (a4 s).textS else @ite _ (atMay s) (by unfold atMay; infer_instance) 0 10

theorem adecode_e (F : Hp) (s : List UInt8) (he : ¬ (a4 s).textR.last = 0) :
    Ct Tryd.prog 54 [Str s] [F] (fun _ : Unit => .tuple #[.agg #[N64 0, I 0, Str [], I 0, I 0, .slice none 0 0, .slice none 0 0], I (a4 s).textR.last]) (fun _ => True) (fun _ => [F]) := by
  refine Ct.walk Tryd.func54 rfl Tryd.ntmps54 rfl (fun w0 => ?_)
  change J _ [(0, _)] _ _ _
  refine J.seq (fun K1 hK1 => ?_)
  refine J.region ?_
  refine J.e (op_alloc rfl Tryd.zeroValue94 rfl) rfl rfl rfl ?_
  intro g2 _
  change J _ _ _ [F, blk g2 _ 94] _
  refine J.y (op_assign rfl rfl) rfl rfl rfl ?_
  refine J.nil ?_
  refine J.then_n (J.k hK1 ?_)
  refine J.keepE [(0, _), (2, _)] ⟨rfl, rfl, trivial⟩ ?_
  refine J.seq (fun K2 hK2 => ?_)
  refine J.region ?_
  refine J.y (op_move rfl rfl) rfl rfl rfl ?_
  refine J.e (op_call rfl rfl ent77 (Ct.use (new := fun g => [RSb g ⟨s, 0⟩]) (fun F' _ => (read_ct F' s).mono (φ2 := fun _ => True) (val2 := Ptr) (ms2 := fun g => F' :: [RSb g ⟨s, 0⟩]) id (fun _ _ => rfl) (fun _ h => h) (fun x w0 w _ h => h.pick [1, 0] (by decide))))) rfl rfl rfl ?_
  rintro g11 _
  change J _ _ _ [F, blk g2 _ 94, RSb g11 (⟨s, 0⟩ : RS)] _
  refine J.y (op_assign rfl rfl) rfl rfl rfl ?_
  refine J.nil ?_
  refine J.then_n (J.k hK2 ?_)
  refine J.keepE [(2, _), (4, _)] ⟨rfl, rfl, trivial⟩ ?_
  refine J.seq (fun K3 hK3 => ?_)
  refine J.region ?_
  refine J.y (op_move rfl rfl) rfl rfl rfl ?_
  refine J.e (op_call rfl rfl ent78 (Ct.use1 2 (m' := fun _ : Unit => RSb g11 ((⟨s, 0⟩ : RS).take 4)) (new := fun _ => []) rfl (fun F' _ => rnum_ct F' g11 (⟨s, 0⟩ : RS) 4 (by omega) (by omega)))) rfl rfl rfl ?_
  intro g13 _
  change J _ _ _ [F, blk g2 _ 94, RSb g11 ((⟨s, 0⟩ : RS).take 4)] _
  refine J.y (op_move rfl rfl) rfl rfl rfl ?_
  refine J.e (op_call rfl rfl ent78 (Ct.use1 2 (m' := fun _ : Unit => RSb g11 (((⟨s, 0⟩ : RS).take 4).take 1)) (new := fun _ => []) rfl (fun F' _ => rnum_ct F' g11 ((⟨s, 0⟩ : RS).take 4) 1 (by omega) (by omega)))) rfl rfl rfl ?_
  intro g15 _
  change J _ _ _ [F, blk g2 _ 94, RSb g11 (((⟨s, 0⟩ : RS).take 4).take 1)] _
  refine J.y (op_cvU_toI rfl rfl Tryd.underlying47 Tryd.underlying3 (by have := natB_lt (((⟨s, 0⟩ : RS).take 4).out 1); have h2 := ((⟨s, 0⟩ : RS).take 4).out_len 1; have h3 := Nat.pow_le_pow_right (n := 256) (by omega) h2; omega)) rfl rfl rfl ?_
  refine J.y (op_move rfl rfl) rfl rfl rfl ?_
  refine J.e (op_call rfl rfl ent78 (Ct.use1 2 (m' := fun _ : Unit => RSb g11 ((((⟨s, 0⟩ : RS).take 4).take 1).take 2)) (new := fun _ => []) rfl (fun F' _ => rnum_ct F' g11 (((⟨s, 0⟩ : RS).take 4).take 1) 2 (by omega) (by omega)))) rfl rfl rfl ?_
  intro g18 _
  change J _ _ _ [F, blk g2 _ 94, RSb g11 ((((⟨s, 0⟩ : RS).take 4).take 1).take 2)] _
  refine J.y (op_cvU_toI rfl rfl Tryd.underlying47 Tryd.underlying3 (by have := natB_lt ((((⟨s, 0⟩ : RS).take 4).take 1).out 2); have h2 := (((⟨s, 0⟩ : RS).take 4).take 1).out_len 2; have h3 := Nat.pow_le_pow_right (n := 256) (by omega) h2; omega)) rfl rfl rfl ?_
  refine J.y (op_move rfl rfl) rfl rfl rfl ?_
  refine J.e (op_call rfl rfl ent79 (Ct.use1 2 (m' := fun _ : Unit => RSb g11 (a4 s)) (new := fun _ => []) rfl (fun F' _ => rfixed_ct F' g11 ((((⟨s, 0⟩ : RS).take 4).take 1).take 2) 16))) rfl rfl rfl ?_
  intro g21 _
  change J _ _ _ [F, blk g2 _ 94, RSb g11 (a4 s)] _
  refine J.y (op_buildStruct (l := [(0, .tmp 13), (1, .tmp 16), (3, .tmp 19), (2, .tmp 21)]) (vs := [N64 (natB ((⟨s, 0⟩ : RS).out 4)), I (natB (((⟨s, 0⟩ : RS).take 4).out 1) : Nat), I (natB ((((⟨s, 0⟩ : RS).take 4).take 1).out 2) : Nat), Str (((((⟨s, 0⟩ : RS).take 4).take 1).take 2).out 16)]) (places := [(0, 1), (1, 1), (2, 1), (3, 1), (4, 3)]) (r := [N64 (natB ((⟨s, 0⟩ : RS).out 4)), I (natB (((⟨s, 0⟩ : RS).take 4).out 1) : Nat), Str (((((⟨s, 0⟩ : RS).take 4).take 1).take 2).out 16), I (natB ((((⟨s, 0⟩ : RS).take 4).take 1).out 2) : Nat), I 0, .slice none 0 0, .slice none 0 0]) rfl rfl rfl Tryd.underlying94 Tryd.zeroValue94 (fun _ => by kernel_rfl) rfl) rfl rfl rfl ?_
  refine J.e (op_alloc rfl Tryd.zeroValue94 rfl) rfl rfl rfl ?_
  intro g5 _
  change J _ _ _ [F, blk g2 _ 94, RSb g11 (a4 s), blk g5 _ 94] _
  refine J.s (op_storeAll (l := [N64 0, I 0, Str [], I 0, I 0, .slice none 0 0, .slice none 0 0]) (i := 3) (vs := [N64 (natB ((⟨s, 0⟩ : RS).out 4)), I (natB (((⟨s, 0⟩ : RS).take 4).out 1) : Nat), Str (((((⟨s, 0⟩ : RS).take 4).take 1).take 2).out 16), I (natB ((((⟨s, 0⟩ : RS).take 4).take 1).out 2) : Nat), I 0, .slice none 0 0, .slice none 0 0]) rfl rfl rfl rfl rfl Tryd.sizeOf94 rfl rfl) rfl rfl (fun _ _ => ?_)
  change J _ _ _ [F, blk g2 _ 94, RSb g11 (a4 s), blk g5 [N64 (natB ((⟨s, 0⟩ : RS).out 4)), I (natB (((⟨s, 0⟩ : RS).take 4).out 1) : Nat), Str (((((⟨s, 0⟩ : RS).take 4).take 1).take 2).out 16), I (natB ((((⟨s, 0⟩ : RS).take 4).take 1).out 2) : Nat), I 0, .slice none 0 0, .slice none 0 0] 94] _
  refine J.nil ?_
  refine J.then_n (J.k hK3 ?_)
  refine J.keepE [(2, _), (4, _), (5, _)] ⟨rfl, rfl, rfl, trivial⟩ ?_
  refine J.seq (fun K4 hK4 => ?_)
  refine J.region ?_
  refine J.y (op_move rfl rfl) rfl rfl rfl ?_
  refine J.e (op_call rfl rfl ent83 (Ct.use1 2 (m' := fun _ : Unit => RSb g11 (a4 s).textR) (new := fun _ => []) rfl (fun F' _ => rtext_ct F' g11 (a4 s)))) rfl rfl rfl ?_
  intro g24 _
  change J _ _ _ [F, blk g2 _ 94, RSb g11 (a4 s).textR, blk g5 [N64 (natB ((⟨s, 0⟩ : RS).out 4)), I (natB (((⟨s, 0⟩ : RS).take 4).out 1) : Nat), Str (((((⟨s, 0⟩ : RS).take 4).take 1).take 2).out 16), I (natB ((((⟨s, 0⟩ : RS).take 4).take 1).out 2) : Nat), I 0, .slice none 0 0, .slice none 0 0] 94] _
  refine J.y (op_assign rfl rfl) rfl rfl rfl ?_
  refine J.nil ?_
  refine J.then_n (J.k hK4 ?_)
  refine J.keepE [(2, _), (4, _), (5, _), (6, _)] ⟨rfl, rfl, rfl, rfl, trivial⟩ ?_
  refine J.seq (fun K5 hK5 => ?_)
  refine J.seq (fun K6 hK6 => ?_)
  refine J.region ?_
  refine J.y (op_move rfl rfl) rfl rfl rfl ?_
  refine J.e (op_call rfl rfl ent80 (Ct.use1 2 (m' := fun _ : Unit => RSb g11 (a4 s).textR) (new := fun _ => []) rfl (fun F' _ => end_ct F' g11 (a4 s).textR))) rfl rfl rfl ?_
  intro g26 _
  change J _ _ _ [F, blk g2 _ 94, RSb g11 (a4 s).textR, blk g5 [N64 (natB ((⟨s, 0⟩ : RS).out 4)), I (natB (((⟨s, 0⟩ : RS).take 4).out 1) : Nat), Str (((((⟨s, 0⟩ : RS).take 4).take 1).take 2).out 16), I (natB ((((⟨s, 0⟩ : RS).take 4).take 1).out 2) : Nat), I 0, .slice none 0 0, .slice none 0 0] 94] _
  refine J.y (op_assign rfl rfl) rfl rfl rfl ?_
  refine J.nil ?_
  refine J.then_n (J.k hK6 ?_)
  refine J.keepE [(2, _), (5, _), (6, _), (7, _)] ⟨rfl, rfl, rfl, rfl, trivial⟩ ?_
  refine J.seq (fun K7 hK7 => ?_)
  refine J.region ?_
  refine J.y (op_move rfl rfl) rfl rfl rfl ?_
  refine J.y ((op_neq rfl rfl rfl).as (v' := .bool true) (congrArg Value.bool (decide_eq_true (he)))) rfl rfl rfl ?_
  refine J.nil ?_
  refine J.then_n (J.k hK7 ?_)
  refine J.keepE [(2, _), (5, _), (6, _), (7, _), (28, _)] ⟨rfl, rfl, rfl, rfl, rfl, trivial⟩ ?_
  refine J.condT rfl rfl ?_
  refine J.seq (fun K8 hK8 => ?_)
  refine J.region ?_
  refine J.y (op_buildStruct (l := []) (vs := []) (places := [(0, 1), (1, 1), (2, 1), (3, 1), (4, 3)]) (r := [N64 0, I 0, Str [], I 0, I 0, .slice none 0 0, .slice none 0 0]) rfl rfl rfl Tryd.underlying94 Tryd.zeroValue94 (fun _ => by kernel_rfl) rfl) rfl rfl rfl ?_
  refine J.y (op_move rfl rfl) rfl rfl rfl ?_
  refine J.s (op_storeAll (l := [N64 0, I 0, Str [], I 0, I 0, .slice none 0 0, .slice none 0 0]) (i := 1) (vs := [N64 0, I 0, Str [], I 0, I 0, .slice none 0 0, .slice none 0 0]) rfl rfl rfl rfl rfl Tryd.sizeOf94 rfl rfl) rfl rfl (fun _ _ => ?_)
  change J _ _ _ [F, blk g2 [N64 0, I 0, Str [], I 0, I 0, .slice none 0 0, .slice none 0 0] 94, RSb g11 (a4 s).textR, blk g5 [N64 (natB ((⟨s, 0⟩ : RS).out 4)), I (natB (((⟨s, 0⟩ : RS).take 4).out 1) : Nat), Str (((((⟨s, 0⟩ : RS).take 4).take 1).take 2).out 16), I (natB ((((⟨s, 0⟩ : RS).take 4).take 1).out 2) : Nat), I 0, .slice none 0 0, .slice none 0 0] 94] _
  refine J.y (op_assign rfl rfl) rfl rfl rfl ?_
  refine J.nil ?_
  refine J.then_n (J.k hK8 ?_)
  refine J.keepE [(2, _), (3, _)] ⟨rfl, rfl, trivial⟩ ?_
  refine J.ret ?_
  refine J.then_r ?_
  exact J.done (fun _ _ h => h) (rv2 rfl (RV.blkA 1 rfl rfl Tryd.isAgg94 Tryd.sizeOf94) rfl) (retOk () rfl trivial [0] rfl (by decide))

theorem adecode_w (F : Hp) (s : List UInt8) (he : (a4 s).textR.last = 0) (hT : ¬ whyE (a4 s).textS = 0) :
    Ct Tryd.prog 54 [Str s] [F] (fun _ : Unit => .tuple #[.agg #[N64 0, I 0, Str [], I 0, I 0, .slice none 0 0, .slice none 0 0], I (whyE (a4 s).textS)]) (fun _ => True) (fun _ => [F]) := by
  refine Ct.walk Tryd.func54 rfl Tryd.ntmps54 rfl (fun w0 => ?_)
  change J _ [(0, _)] _ _ _
  refine J.seq (fun K1 hK1 => ?_)
  refine J.region ?_
  refine J.e (op_alloc rfl Tryd.zeroValue94 rfl) rfl rfl rfl ?_
  intro g2 _
  change J _ _ _ [F, blk g2 _ 94] _
  refine J.y (op_assign rfl rfl) rfl rfl rfl ?_
  refine J.nil ?_
  refine J.then_n (J.k hK1 ?_)
  refine J.keepE [(0, _), (2, _)] ⟨rfl, rfl, trivial⟩ ?_
  refine J.seq (fun K2 hK2 => ?_)
  refine J.region ?_
  refine J.y (op_move rfl rfl) rfl rfl rfl ?_
  refine J.e (op_call rfl rfl ent77 (Ct.use (new := fun g => [RSb g ⟨s, 0⟩]) (fun F' _ => (read_ct F' s).mono (φ2 := fun _ => True) (val2 := Ptr) (ms2 := fun g => F' :: [RSb g ⟨s, 0⟩]) id (fun _ _ => rfl) (fun _ h => h) (fun x w0 w _ h => h.pick [1, 0] (by decide))))) rfl rfl rfl ?_
  rintro g11 _
  change J _ _ _ [F, blk g2 _ 94, RSb g11 (⟨s, 0⟩ : RS)] _
  refine J.y (op_assign rfl rfl) rfl rfl rfl ?_
  refine J.nil ?_
  refine J.then_n (J.k hK2 ?_)
  refine J.keepE [(2, _), (4, _)] ⟨rfl, rfl, trivial⟩ ?_
  refine J.seq (fun K3 hK3 => ?_)
  refine J.region ?_
  refine J.y (op_move rfl rfl) rfl rfl rfl ?_
  refine J.e (op_call rfl rfl ent78 (Ct.use1 2 (m' := fun _ : Unit => RSb g11 ((⟨s, 0⟩ : RS).take 4)) (new := fun _ => []) rfl (fun F' _ => rnum_ct F' g11 (⟨s, 0⟩ : RS) 4 (by omega) (by omega)))) rfl rfl rfl ?_
  intro g13 _
  change J _ _ _ [F, blk g2 _ 94, RSb g11 ((⟨s, 0⟩ : RS).take 4)] _
  refine J.y (op_move rfl rfl) rfl rfl rfl ?_
  refine J.e (op_call rfl rfl ent78 (Ct.use1 2 (m' := fun _ : Unit => RSb g11 (((⟨s, 0⟩ : RS).take 4).take 1)) (new := fun _ => []) rfl (fun F' _ => rnum_ct F' g11 ((⟨s, 0⟩ : RS).take 4) 1 (by omega) (by omega)))) rfl rfl rfl ?_
  intro g15 _
  change J _ _ _ [F, blk g2 _ 94, RSb g11 (((⟨s, 0⟩ : RS).take 4).take 1)] _
  refine J.y (op_cvU_toI rfl rfl Tryd.underlying47 Tryd.underlying3 (by have := natB_lt (((⟨s, 0⟩ : RS).take 4).out 1); have h2 := ((⟨s, 0⟩ : RS).take 4).out_len 1; have h3 := Nat.pow_le_pow_right (n := 256) (by omega) h2; omega)) rfl rfl rfl ?_
  refine J.y (op_move rfl rfl) rfl rfl rfl ?_
  refine J.e (op_call rfl rfl ent78 (Ct.use1 2 (m' := fun _ : Unit => RSb g11 ((((⟨s, 0⟩ : RS).take 4).take 1).take 2)) (new := fun _ => []) rfl (fun F' _ => rnum_ct F' g11 (((⟨s, 0⟩ : RS).take 4).take 1) 2 (by omega) (by omega)))) rfl rfl rfl ?_
  intro g18 _
  change J _ _ _ [F, blk g2 _ 94, RSb g11 ((((⟨s, 0⟩ : RS).take 4).take 1).take 2)] _
  refine J.y (op_cvU_toI rfl rfl Tryd.underlying47 Tryd.underlying3 (by have := natB_lt ((((⟨s, 0⟩ : RS).take 4).take 1).out 2); have h2 := (((⟨s, 0⟩ : RS).take 4).take 1).out_len 2; have h3 := Nat.pow_le_pow_right (n := 256) (by omega) h2; omega)) rfl rfl rfl ?_
  refine J.y (op_move rfl rfl) rfl rfl rfl ?_
  refine J.e (op_call rfl rfl ent79 (Ct.use1 2 (m' := fun _ : Unit => RSb g11 (a4 s)) (new := fun _ => []) rfl (fun F' _ => rfixed_ct F' g11 ((((⟨s, 0⟩ : RS).take 4).take 1).take 2) 16))) rfl rfl rfl ?_
  intro g21 _
  change J _ _ _ [F, blk g2 _ 94, RSb g11 (a4 s)] _
  refine J.y (op_buildStruct (l := [(0, .tmp 13), (1, .tmp 16), (3, .tmp 19), (2, .tmp 21)]) (vs := [N64 (natB ((⟨s, 0⟩ : RS).out 4)), I (natB (((⟨s, 0⟩ : RS).take 4).out 1) : Nat), I (natB ((((⟨s, 0⟩ : RS).take 4).take 1).out 2) : Nat), Str (((((⟨s, 0⟩ : RS).take 4).take 1).take 2).out 16)]) (places := [(0, 1), (1, 1), (2, 1), (3, 1), (4, 3)]) (r := [N64 (natB ((⟨s, 0⟩ : RS).out 4)), I (natB (((⟨s, 0⟩ : RS).take 4).out 1) : Nat), Str (((((⟨s, 0⟩ : RS).take 4).take 1).take 2).out 16), I (natB ((((⟨s, 0⟩ : RS).take 4).take 1).out 2) : Nat), I 0, .slice none 0 0, .slice none 0 0]) rfl rfl rfl Tryd.underlying94 Tryd.zeroValue94 (fun _ => by kernel_rfl) rfl) rfl rfl rfl ?_
  refine J.e (op_alloc rfl Tryd.zeroValue94 rfl) rfl rfl rfl ?_
  intro g5 _
  change J _ _ _ [F, blk g2 _ 94, RSb g11 (a4 s), blk g5 _ 94] _
  refine J.s (op_storeAll (l := [N64 0, I 0, Str [], I 0, I 0, .slice none 0 0, .slice none 0 0]) (i := 3) (vs := [N64 (natB ((⟨s, 0⟩ : RS).out 4)), I (natB (((⟨s, 0⟩ : RS).take 4).out 1) : Nat), Str (((((⟨s, 0⟩ : RS).take 4).take 1).take 2).out 16), I (natB ((((⟨s, 0⟩ : RS).take 4).take 1).out 2) : Nat), I 0, .slice none 0 0, .slice none 0 0]) rfl rfl rfl rfl rfl Tryd.sizeOf94 rfl rfl) rfl rfl (fun _ _ => ?_)
  change J _ _ _ [F, blk g2 _ 94, RSb g11 (a4 s), blk g5 [N64 (natB ((⟨s, 0⟩ : RS).out 4)), I (natB (((⟨s, 0⟩ : RS).take 4).out 1) : Nat), Str (((((⟨s, 0⟩ : RS).take 4).take 1).take 2).out 16), I (natB ((((⟨s, 0⟩ : RS).take 4).take 1).out 2) : Nat), I 0, .slice none 0 0, .slice none 0 0] 94] _
  refine J.nil ?_
  refine J.then_n (J.k hK3 ?_)
  refine J.keepE [(2, _), (4, _), (5, _)] ⟨rfl, rfl, rfl, trivial⟩ ?_
  refine J.seq (fun K4 hK4 => ?_)
  refine J.region ?_
  refine J.y (op_move rfl rfl) rfl rfl rfl ?_
  refine J.e (op_call rfl rfl ent83 (Ct.use1 2 (m' := fun _ : Unit => RSb g11 (a4 s).textR) (new := fun _ => []) rfl (fun F' _ => rtext_ct F' g11 (a4 s)))) rfl rfl rfl ?_
  intro g24 _
  change J _ _ _ [F, blk g2 _ 94, RSb g11 (a4 s).textR, blk g5 [N64 (natB ((⟨s, 0⟩ : RS).out 4)), I (natB (((⟨s, 0⟩ : RS).take 4).out 1) : Nat), Str (((((⟨s, 0⟩ : RS).take 4).take 1).take 2).out 16), I (natB ((((⟨s, 0⟩ : RS).take 4).take 1).out 2) : Nat), I 0, .slice none 0 0, .slice none 0 0] 94] _
  refine J.y (op_assign rfl rfl) rfl rfl rfl ?_
  refine J.nil ?_
  refine J.then_n (J.k hK4 ?_)
  refine J.keepE [(2, _), (4, _), (5, _), (6, _)] ⟨rfl, rfl, rfl, rfl, trivial⟩ ?_
  refine J.seq (fun K5 hK5 => ?_)
  refine J.seq (fun K6 hK6 => ?_)
  refine J.region ?_
  refine J.y (op_move rfl rfl) rfl rfl rfl ?_
  refine J.e (op_call rfl rfl ent80 (Ct.use1 2 (m' := fun _ : Unit => RSb g11 (a4 s).textR) (new := fun _ => []) rfl (fun F' _ => end_ct F' g11 (a4 s).textR))) rfl rfl rfl ?_
  intro g26 _
  change J _ _ _ [F, blk g2 _ 94, RSb g11 (a4 s).textR, blk g5 [N64 (natB ((⟨s, 0⟩ : RS).out 4)), I (natB (((⟨s, 0⟩ : RS).take 4).out 1) : Nat), Str (((((⟨s, 0⟩ : RS).take 4).take 1).take 2).out 16), I (natB ((((⟨s, 0⟩ : RS).take 4).take 1).out 2) : Nat), I 0, .slice none 0 0, .slice none 0 0] 94] _
  refine J.y (op_assign rfl rfl) rfl rfl rfl ?_
  refine J.nil ?_
  refine J.then_n (J.k hK6 ?_)
  refine J.keepE [(2, _), (5, _), (6, _), (7, _)] ⟨rfl, rfl, rfl, rfl, trivial⟩ ?_
  refine J.seq (fun K7 hK7 => ?_)
  refine J.region ?_
  refine J.y (op_move rfl rfl) rfl rfl rfl ?_
  refine J.y ((op_neq rfl rfl rfl).as (v' := .bool false) (congrArg Value.bool (decide_eq_false (fun h => h he)))) rfl rfl rfl ?_
  refine J.nil ?_
  refine J.then_n (J.k hK7 ?_)
  refine J.keepE [(2, _), (5, _), (6, _), (7, _), (28, _)] ⟨rfl, rfl, rfl, rfl, rfl, trivial⟩ ?_
  refine J.condF rfl rfl ?_
  refine J.skip ?_
  refine J.then_n (J.k hK5 ?_)
  refine J.keepE [(2, _), (5, _), (6, _)] ⟨rfl, rfl, rfl, trivial⟩ ?_
  refine J.seq (fun K8 hK8 => ?_)
  refine J.region ?_
  refine J.y (op_move rfl rfl) rfl rfl rfl ?_
  refine J.e (op_call rfl rfl ent41 (Ct.use (fun F' hF => sdecode_ct F' (a4 s).textS))) rfl rfl rfl ?_
  rintro ⟨⟨A1, c1, m1⟩, ⟨A2, c2, m2⟩⟩ ⟨h1r, h2r⟩
  change J _ ((33, .tuple #[if whyE (a4 s).textS = 0 then .agg #[I (natB ((⟨(a4 s).textS, 0⟩ : RS).out 1) : Nat), .slice A1 35 c1, .slice A2 (dN (a4 s).textS) c2] else .agg #[I 0, .slice none 0 0, .slice none 0 0], I (whyE (a4 s).textS)]) :: _) _ [F, blk g2 _ 94, RSb g11 (a4 s).textR, blk g5 [N64 (natB ((⟨s, 0⟩ : RS).out 4)), I (natB (((⟨s, 0⟩ : RS).take 4).out 1) : Nat), Str (((((⟨s, 0⟩ : RS).take 4).take 1).take 2).out 16), I (natB ((((⟨s, 0⟩ : RS).take 4).take 1).out 2) : Nat), I 0, .slice none 0 0, .slice none 0 0] 94, m1, m2] _
  dsimp only at h1r h2r
  rw [if_neg hT]
  refine J.y (op_move rfl rfl) rfl rfl rfl ?_
  refine J.y (op_extract (v := .agg #[I 0, .slice none 0 0, .slice none 0 0]) rfl rfl rfl) rfl rfl rfl ?_
  refine J.y (op_extract (v := I (whyE (a4 s).textS)) rfl rfl rfl) rfl rfl rfl ?_
  refine J.e (op_alloc rfl Tryd.zeroValue32 rfl) rfl rfl rfl ?_
  intro g8 _
  change J _ _ _ [F, blk g2 _ 94, RSb g11 (a4 s).textR, blk g5 [N64 (natB ((⟨s, 0⟩ : RS).out 4)), I (natB (((⟨s, 0⟩ : RS).take 4).out 1) : Nat), Str (((((⟨s, 0⟩ : RS).take 4).take 1).take 2).out 16), I (natB ((((⟨s, 0⟩ : RS).take 4).take 1).out 2) : Nat), I 0, .slice none 0 0, .slice none 0 0] 94, m1, m2, blk g8 _ 32] _
  refine J.s (op_storeAll (l := [I 0, .slice none 0 0, .slice none 0 0]) (i := 6) (vs := [I 0, .slice none 0 0, .slice none 0 0]) rfl rfl rfl rfl rfl Tryd.sizeOf32 rfl rfl) rfl rfl (fun _ _ => ?_)
  change J _ _ _ [F, blk g2 _ 94, RSb g11 (a4 s).textR, blk g5 [N64 (natB ((⟨s, 0⟩ : RS).out 4)), I (natB (((⟨s, 0⟩ : RS).take 4).out 1) : Nat), Str (((((⟨s, 0⟩ : RS).take 4).take 1).take 2).out 16), I (natB ((((⟨s, 0⟩ : RS).take 4).take 1).out 2) : Nat), I 0, .slice none 0 0, .slice none 0 0] 94, m1, m2, blk g8 [I 0, .slice none 0 0, .slice none 0 0] 32] _
  refine J.y (op_assign rfl rfl) rfl rfl rfl ?_
  refine J.nil ?_
  refine J.then_n (J.k hK8 ?_)
  refine J.keepE [(2, _), (5, _), (8, _), (9, _)] ⟨rfl, rfl, rfl, rfl, trivial⟩ ?_
  refine J.seq (fun K9 hK9 => ?_)
  refine J.block ?_
  refine J.seq (fun K10 hK10 => ?_)
  refine J.region ?_
  refine J.y (op_move rfl rfl) rfl rfl rfl ?_
  refine J.y ((op_neq rfl rfl rfl).as (v' := .bool true) (congrArg Value.bool (decide_eq_true (hT)))) rfl rfl rfl ?_
  refine J.y (op_assign rfl rfl) rfl rfl rfl ?_
  refine J.nil ?_
  refine J.then_n (J.k hK10 ?_)
  refine J.keepE [(2, _), (5, _), (8, _), (9, _), (36, _)] ⟨rfl, rfl, rfl, rfl, rfl, trivial⟩ ?_
  refine J.condT rfl rfl ?_
  refine J.seq (fun K11 hK11 => ?_)
  refine J.region ?_
  refine J.y (op_buildStruct (l := []) (vs := []) (places := [(0, 1), (1, 1), (2, 1), (3, 1), (4, 3)]) (r := [N64 0, I 0, Str [], I 0, I 0, .slice none 0 0, .slice none 0 0]) rfl rfl rfl Tryd.underlying94 Tryd.zeroValue94 (fun _ => by kernel_rfl) rfl) rfl rfl rfl ?_
  refine J.y (op_move rfl rfl) rfl rfl rfl ?_
  refine J.s (op_storeAll (l := [N64 0, I 0, Str [], I 0, I 0, .slice none 0 0, .slice none 0 0]) (i := 1) (vs := [N64 0, I 0, Str [], I 0, I 0, .slice none 0 0, .slice none 0 0]) rfl rfl rfl rfl rfl Tryd.sizeOf94 rfl rfl) rfl rfl (fun _ _ => ?_)
  change J _ _ _ [F, blk g2 [N64 0, I 0, Str [], I 0, I 0, .slice none 0 0, .slice none 0 0] 94, RSb g11 (a4 s).textR, blk g5 [N64 (natB ((⟨s, 0⟩ : RS).out 4)), I (natB (((⟨s, 0⟩ : RS).take 4).out 1) : Nat), Str (((((⟨s, 0⟩ : RS).take 4).take 1).take 2).out 16), I (natB ((((⟨s, 0⟩ : RS).take 4).take 1).out 2) : Nat), I 0, .slice none 0 0, .slice none 0 0] 94, m1, m2, blk g8 [I 0, .slice none 0 0, .slice none 0 0] 32] _
  refine J.y (op_assign rfl rfl) rfl rfl rfl ?_
  refine J.nil ?_
  refine J.then_n (J.k hK11 ?_)
  refine J.keepE [(2, _), (3, _)] ⟨rfl, rfl, trivial⟩ ?_
  refine J.ret ?_
  refine J.blk_r ?_
  refine J.then_r ?_
  exact J.done (fun _ _ h => h) (rv2 rfl (RV.blkA 1 rfl rfl Tryd.isAgg94 Tryd.sizeOf94) rfl) (retOk () rfl trivial [0] rfl (by decide))

theorem adecode_m (F : Hp) (s : List UInt8) (he : (a4 s).textR.last = 0) (hT : whyE (a4 s).textS = 0) (hm : ¬ atMay s) :
    Ct Tryd.prog 54 [Str s] [F] (fun _ : Unit => .tuple #[.agg #[N64 0, I 0, Str [], I 0, I 0, .slice none 0 0, .slice none 0 0], I 10]) (fun _ => True) (fun _ => [F]) := by
  refine Ct.walk Tryd.func54 rfl Tryd.ntmps54 rfl (fun w0 => ?_)
  change J _ [(0, _)] _ _ _
  refine J.seq (fun K1 hK1 => ?_)
  refine J.region ?_
  refine J.e (op_alloc rfl Tryd.zeroValue94 rfl) rfl rfl rfl ?_
  intro g2 _
  change J _ _ _ [F, blk g2 _ 94] _
  refine J.y (op_assign rfl rfl) rfl rfl rfl ?_
  refine J.nil ?_
  refine J.then_n (J.k hK1 ?_)
  refine J.keepE [(0, _), (2, _)] ⟨rfl, rfl, trivial⟩ ?_
  refine J.seq (fun K2 hK2 => ?_)
  refine J.region ?_
  refine J.y (op_move rfl rfl) rfl rfl rfl ?_
  refine J.e (op_call rfl rfl ent77 (Ct.use (new := fun g => [RSb g ⟨s, 0⟩]) (fun F' _ => (read_ct F' s).mono (φ2 := fun _ => True) (val2 := Ptr) (ms2 := fun g => F' :: [RSb g ⟨s, 0⟩]) id (fun _ _ => rfl) (fun _ h => h) (fun x w0 w _ h => h.pick [1, 0] (by decide))))) rfl rfl rfl ?_
  rintro g11 _
  change J _ _ _ [F, blk g2 _ 94, RSb g11 (⟨s, 0⟩ : RS)] _
  refine J.y (op_assign rfl rfl) rfl rfl rfl ?_
  refine J.nil ?_
  refine J.then_n (J.k hK2 ?_)
  refine J.keepE [(2, _), (4, _)] ⟨rfl, rfl, trivial⟩ ?_
  refine J.seq (fun K3 hK3 => ?_)
  refine J.region ?_
  refine J.y (op_move rfl rfl) rfl rfl rfl ?_
  refine J.e (op_call rfl rfl ent78 (Ct.use1 2 (m' := fun _ : Unit => RSb g11 ((⟨s, 0⟩ : RS).take 4)) (new := fun _ => []) rfl (fun F' _ => rnum_ct F' g11 (⟨s, 0⟩ : RS) 4 (by omega) (by omega)))) rfl rfl rfl ?_
  intro g13 _
  change J _ _ _ [F, blk g2 _ 94, RSb g11 ((⟨s, 0⟩ : RS).take 4)] _
  refine J.y (op_move rfl rfl) rfl rfl rfl ?_
  refine J.e (op_call rfl rfl ent78 (Ct.use1 2 (m' := fun _ : Unit => RSb g11 (((⟨s, 0⟩ : RS).take 4).take 1)) (new := fun _ => []) rfl (fun F' _ => rnum_ct F' g11 ((⟨s, 0⟩ : RS).take 4) 1 (by omega) (by omega)))) rfl rfl rfl ?_
  intro g15 _
  change J _ _ _ [F, blk g2 _ 94, RSb g11 (((⟨s, 0⟩ : RS).take 4).take 1)] _
  refine J.y (op_cvU_toI rfl rfl Tryd.underlying47 Tryd.underlying3 (by have := natB_lt (((⟨s, 0⟩ : RS).take 4).out 1); have h2 := ((⟨s, 0⟩ : RS).take 4).out_len 1; have h3 := Nat.pow_le_pow_right (n := 256) (by omega) h2; omega)) rfl rfl rfl ?_
  refine J.y (op_move rfl rfl) rfl rfl rfl ?_
  refine J.e (op_call rfl rfl ent78 (Ct.use1 2 (m' := fun _ : Unit => RSb g11 ((((⟨s, 0⟩ : RS).take 4).take 1).take 2)) (new := fun _ => []) rfl (fun F' _ => rnum_ct F' g11 (((⟨s, 0⟩ : RS).take 4).take 1) 2 (by omega) (by omega)))) rfl rfl rfl ?_
  intro g18 _
  change J _ _ _ [F, blk g2 _ 94, RSb g11 ((((⟨s, 0⟩ : RS).take 4).take 1).take 2)] _
  refine J.y (op_cvU_toI rfl rfl Tryd.underlying47 Tryd.underlying3 (by have := natB_lt ((((⟨s, 0⟩ : RS).take 4).take 1).out 2); have h2 := (((⟨s, 0⟩ : RS).take 4).take 1).out_len 2; have h3 := Nat.pow_le_pow_right (n := 256) (by omega) h2; omega)) rfl rfl rfl ?_
  refine J.y (op_move rfl rfl) rfl rfl rfl ?_
  refine J.e (op_call rfl rfl ent79 (Ct.use1 2 (m' := fun _ : Unit => RSb g11 (a4 s)) (new := fun _ => []) rfl (fun F' _ => rfixed_ct F' g11 ((((⟨s, 0⟩ : RS).take 4).take 1).take 2) 16))) rfl rfl rfl ?_
  intro g21 _
  change J _ _ _ [F, blk g2 _ 94, RSb g11 (a4 s)] _
  refine J.y (op_buildStruct (l := [(0, .tmp 13), (1, .tmp 16), (3, .tmp 19), (2, .tmp 21)]) (vs := [N64 (natB ((⟨s, 0⟩ : RS).out 4)), I (natB (((⟨s, 0⟩ : RS).take 4).out 1) : Nat), I (natB ((((⟨s, 0⟩ : RS).take 4).take 1).out 2) : Nat), Str (((((⟨s, 0⟩ : RS).take 4).take 1).take 2).out 16)]) (places := [(0, 1), (1, 1), (2, 1), (3, 1), (4, 3)]) (r := [N64 (natB ((⟨s, 0⟩ : RS).out 4)), I (natB (((⟨s, 0⟩ : RS).take 4).out 1) : Nat), Str (((((⟨s, 0⟩ : RS).take 4).take 1).take 2).out 16), I (natB ((((⟨s, 0⟩ : RS).take 4).take 1).out 2) : Nat), I 0, .slice none 0 0, .slice none 0 0]) rfl rfl rfl Tryd.underlying94 Tryd.zeroValue94 (fun _ => by kernel_rfl) rfl) rfl rfl rfl ?_
  refine J.e (op_alloc rfl Tryd.zeroValue94 rfl) rfl rfl rfl ?_
  intro g5 _
  change J _ _ _ [F, blk g2 _ 94, RSb g11 (a4 s), blk g5 _ 94] _
  refine J.s (op_storeAll (l := [N64 0, I 0, Str [], I 0, I 0, .slice none 0 0, .slice none 0 0]) (i := 3) (vs := [N64 (natB ((⟨s, 0⟩ : RS).out 4)), I (natB (((⟨s, 0⟩ : RS).take 4).out 1) : Nat), Str (((((⟨s, 0⟩ : RS).take 4).take 1).take 2).out 16), I (natB ((((⟨s, 0⟩ : RS).take 4).take 1).out 2) : Nat), I 0, .slice none 0 0, .slice none 0 0]) rfl rfl rfl rfl rfl Tryd.sizeOf94 rfl rfl) rfl rfl (fun _ _ => ?_)
  change J _ _ _ [F, blk g2 _ 94, RSb g11 (a4 s), blk g5 [N64 (natB ((⟨s, 0⟩ : RS).out 4)), I (natB (((⟨s, 0⟩ : RS).take 4).out 1) : Nat), Str (((((⟨s, 0⟩ : RS).take 4).take 1).take 2).out 16), I (natB ((((⟨s, 0⟩ : RS).take 4).take 1).out 2) : Nat), I 0, .slice none 0 0, .slice none 0 0] 94] _
  refine J.nil ?_
  refine J.then_n (J.k hK3 ?_)
  refine J.keepE [(2, _), (4, _), (5, _)] ⟨rfl, rfl, rfl, trivial⟩ ?_
  refine J.seq (fun K4 hK4 => ?_)
  refine J.region ?_
  refine J.y (op_move rfl rfl) rfl rfl rfl ?_
  refine J.e (op_call rfl rfl ent83 (Ct.use1 2 (m' := fun _ : Unit => RSb g11 (a4 s).textR) (new := fun _ => []) rfl (fun F' _ => rtext_ct F' g11 (a4 s)))) rfl rfl rfl ?_
  intro g24 _
  change J _ _ _ [F, blk g2 _ 94, RSb g11 (a4 s).textR, blk g5 [N64 (natB ((⟨s, 0⟩ : RS).out 4)), I (natB (((⟨s, 0⟩ : RS).take 4).out 1) : Nat), Str (((((⟨s, 0⟩ : RS).take 4).take 1).take 2).out 16), I (natB ((((⟨s, 0⟩ : RS).take 4).take 1).out 2) : Nat), I 0, .slice none 0 0, .slice none 0 0] 94] _
  refine J.y (op_assign rfl rfl) rfl rfl rfl ?_
  refine J.nil ?_
  refine J.then_n (J.k hK4 ?_)
  refine J.keepE [(2, _), (4, _), (5, _), (6, _)] ⟨rfl, rfl, rfl, rfl, trivial⟩ ?_
  refine J.seq (fun K5 hK5 => ?_)
  refine J.seq (fun K6 hK6 => ?_)
  refine J.region ?_
  refine J.y (op_move rfl rfl) rfl rfl rfl ?_
  refine J.e (op_call rfl rfl ent80 (Ct.use1 2 (m' := fun _ : Unit => RSb g11 (a4 s).textR) (new := fun _ => []) rfl (fun F' _ => end_ct F' g11 (a4 s).textR))) rfl rfl rfl ?_
  intro g26 _
  change J _ _ _ [F, blk g2 _ 94, RSb g11 (a4 s).textR, blk g5 [N64 (natB ((⟨s, 0⟩ : RS).out 4)), I (natB (((⟨s, 0⟩ : RS).take 4).out 1) : Nat), Str (((((⟨s, 0⟩ : RS).take 4).take 1).take 2).out 16), I (natB ((((⟨s, 0⟩ : RS).take 4).take 1).out 2) : Nat), I 0, .slice none 0 0, .slice none 0 0] 94] _
  refine J.y (op_assign rfl rfl) rfl rfl rfl ?_
  refine J.nil ?_
  refine J.then_n (J.k hK6 ?_)
  refine J.keepE [(2, _), (5, _), (6, _), (7, _)] ⟨rfl, rfl, rfl, rfl, trivial⟩ ?_
  refine J.seq (fun K7 hK7 => ?_)
  refine J.region ?_
  refine J.y (op_move rfl rfl) rfl rfl rfl ?_
  refine J.y ((op_neq rfl rfl rfl).as (v' := .bool false) (congrArg Value.bool (decide_eq_false (fun h => h he)))) rfl rfl rfl ?_
  refine J.nil ?_
  refine J.then_n (J.k hK7 ?_)
  refine J.keepE [(2, _), (5, _), (6, _), (7, _), (28, _)] ⟨rfl, rfl, rfl, rfl, rfl, trivial⟩ ?_
  refine J.condF rfl rfl ?_
  refine J.skip ?_
  refine J.then_n (J.k hK5 ?_)
  refine J.keepE [(2, _), (5, _), (6, _)] ⟨rfl, rfl, rfl, trivial⟩ ?_
  refine J.seq (fun K8 hK8 => ?_)
  refine J.region ?_
  refine J.y (op_move rfl rfl) rfl rfl rfl ?_
  refine J.e (op_call rfl rfl ent41 (Ct.use (fun F' hF => sdecode_ct F' (a4 s).textS))) rfl rfl rfl ?_
  rintro ⟨⟨A1, c1, m1⟩, ⟨A2, c2, m2⟩⟩ ⟨h1r, h2r⟩
  change J _ ((33, .tuple #[if whyE (a4 s).textS = 0 then .agg #[I (natB ((⟨(a4 s).textS, 0⟩ : RS).out 1) : Nat), .slice A1 35 c1, .slice A2 (dN (a4 s).textS) c2] else .agg #[I 0, .slice none 0 0, .slice none 0 0], I (whyE (a4 s).textS)]) :: _) _ [F, blk g2 _ 94, RSb g11 (a4 s).textR, blk g5 [N64 (natB ((⟨s, 0⟩ : RS).out 4)), I (natB (((⟨s, 0⟩ : RS).take 4).out 1) : Nat), Str (((((⟨s, 0⟩ : RS).take 4).take 1).take 2).out 16), I (natB ((((⟨s, 0⟩ : RS).take 4).take 1).out 2) : Nat), I 0, .slice none 0 0, .slice none 0 0] 94, m1, m2] _
  dsimp only at h1r h2r
  rw [hT, if_pos rfl]
  refine J.y (op_move rfl rfl) rfl rfl rfl ?_
  refine J.y (op_extract (v := .agg #[I (natB ((⟨(a4 s).textS, 0⟩ : RS).out 1) : Nat), .slice A1 35 c1, .slice A2 (dN (a4 s).textS) c2]) rfl rfl rfl) rfl rfl rfl ?_
  refine J.y (op_extract (v := I 0) rfl rfl rfl) rfl rfl rfl ?_
  refine J.e (op_alloc rfl Tryd.zeroValue32 rfl) rfl rfl rfl ?_
  intro g8 _
  change J _ _ _ [F, blk g2 _ 94, RSb g11 (a4 s).textR, blk g5 [N64 (natB ((⟨s, 0⟩ : RS).out 4)), I (natB (((⟨s, 0⟩ : RS).take 4).out 1) : Nat), Str (((((⟨s, 0⟩ : RS).take 4).take 1).take 2).out 16), I (natB ((((⟨s, 0⟩ : RS).take 4).take 1).out 2) : Nat), I 0, .slice none 0 0, .slice none 0 0] 94, m1, m2, blk g8 _ 32] _
  refine J.s (op_storeAll (l := [I 0, .slice none 0 0, .slice none 0 0]) (i := 6) (vs := [I (natB ((⟨(a4 s).textS, 0⟩ : RS).out 1) : Nat), .slice A1 35 c1, .slice A2 (dN (a4 s).textS) c2]) rfl rfl rfl rfl rfl Tryd.sizeOf32 rfl rfl) rfl rfl (fun _ _ => ?_)
  change J _ _ _ [F, blk g2 _ 94, RSb g11 (a4 s).textR, blk g5 [N64 (natB ((⟨s, 0⟩ : RS).out 4)), I (natB (((⟨s, 0⟩ : RS).take 4).out 1) : Nat), Str (((((⟨s, 0⟩ : RS).take 4).take 1).take 2).out 16), I (natB ((((⟨s, 0⟩ : RS).take 4).take 1).out 2) : Nat), I 0, .slice none 0 0, .slice none 0 0] 94, m1, m2, blk g8 [I (natB ((⟨(a4 s).textS, 0⟩ : RS).out 1) : Nat), .slice A1 35 c1, .slice A2 (dN (a4 s).textS) c2] 32] _
  refine J.y (op_assign rfl rfl) rfl rfl rfl ?_
  refine J.nil ?_
  refine J.then_n (J.k hK8 ?_)
  refine J.keepE [(2, _), (5, _), (8, _), (9, _)] ⟨rfl, rfl, rfl, rfl, trivial⟩ ?_
  refine J.seq (fun K9 hK9 => ?_)
  refine J.block ?_
  refine J.seq (fun K10 hK10 => ?_)
  refine J.region ?_
  refine J.y (op_move rfl rfl) rfl rfl rfl ?_
  refine J.y ((op_neq rfl rfl rfl).as (v' := .bool false) (congrArg Value.bool (decide_eq_false (by decide)))) rfl rfl rfl ?_
  refine J.y (op_assign rfl rfl) rfl rfl rfl ?_
  refine J.nil ?_
  refine J.then_n (J.k hK10 ?_)
  refine J.keepE [(2, _), (5, _), (8, _), (9, _), (36, _)] ⟨rfl, rfl, rfl, rfl, rfl, trivial⟩ ?_
  refine J.condF rfl rfl ?_
  refine J.seq (fun K11 hK11 => ?_)
  refine J.region ?_
  refine J.y (op_loadBA 3 rfl rfl rfl Tryd.isAgg94 Tryd.sizeOf94 rfl) rfl rfl rfl ?_
  refine J.e (op_call rfl rfl ent87 (Ct.use0 (fun F' hF => (amay_ct F' (natB ((⟨s, 0⟩ : RS).out 4)) (natB (((⟨s, 0⟩ : RS).take 4).out 1) : Nat) (((((⟨s, 0⟩ : RS).take 4).take 1).take 2).out 16) (natB ((((⟨s, 0⟩ : RS).take 4).take 1).out 2) : Nat) 0 none none 0 0 0 0).mono (φ2 := fun _ => True) (val2 := fun _ : Unit => .bool false) id (fun _ _ => congrArg Value.bool (decide_eq_false hm)) (fun _ _ => trivial) (fun _ _ _ _ h => h)))) rfl rfl rfl ?_
  intro g43 _
  refine J.y ((op_not rfl rfl).as (v' := .bool true) rfl) rfl rfl rfl ?_
  refine J.y (op_assign rfl rfl) rfl rfl rfl ?_
  refine J.nil ?_
  refine J.then_n (J.k hK11 ?_)
  refine J.keepE [(2, _), (5, _), (8, _), (41, _)] ⟨rfl, rfl, rfl, rfl, trivial⟩ ?_
  refine J.condT rfl rfl ?_
  refine J.seq (fun K12 hK12 => ?_)
  refine J.region ?_
  refine J.y (op_buildStruct (l := []) (vs := []) (places := [(0, 1), (1, 1), (2, 1), (3, 1), (4, 3)]) (r := [N64 0, I 0, Str [], I 0, I 0, .slice none 0 0, .slice none 0 0]) rfl rfl rfl Tryd.underlying94 Tryd.zeroValue94 (fun _ => by kernel_rfl) rfl) rfl rfl rfl ?_
  refine J.s (op_storeAll (l := [N64 0, I 0, Str [], I 0, I 0, .slice none 0 0, .slice none 0 0]) (i := 1) (vs := [N64 0, I 0, Str [], I 0, I 0, .slice none 0 0, .slice none 0 0]) rfl rfl rfl rfl rfl Tryd.sizeOf94 rfl rfl) rfl rfl (fun _ _ => ?_)
  change J _ _ _ [F, blk g2 [N64 0, I 0, Str [], I 0, I 0, .slice none 0 0, .slice none 0 0] 94, RSb g11 (a4 s).textR, blk g5 [N64 (natB ((⟨s, 0⟩ : RS).out 4)), I (natB (((⟨s, 0⟩ : RS).take 4).out 1) : Nat), Str (((((⟨s, 0⟩ : RS).take 4).take 1).take 2).out 16), I (natB ((((⟨s, 0⟩ : RS).take 4).take 1).out 2) : Nat), I 0, .slice none 0 0, .slice none 0 0] 94, m1, m2, blk g8 [I (natB ((⟨(a4 s).textS, 0⟩ : RS).out 1) : Nat), .slice A1 35 c1, .slice A2 (dN (a4 s).textS) c2] 32] _
  refine J.y (op_assign rfl rfl) rfl rfl rfl ?_
  refine J.nil ?_
  refine J.then_n (J.k hK12 ?_)
  refine J.keepE [(2, _), (3, _)] ⟨rfl, rfl, trivial⟩ ?_
  refine J.ret ?_
  refine J.blk_r ?_
  refine J.then_r ?_
  exact J.done (fun _ _ h => h) (rv2 rfl (RV.blkA 1 rfl rfl Tryd.isAgg94 Tryd.sizeOf94) rfl) (retOk () rfl trivial [0] rfl (by decide))

theorem adecode_ok (F : Hp) (s : List UInt8) (he : (a4 s).textR.last = 0) (hT : whyE (a4 s).textS = 0) (hm : atMay s) :
    Ct Tryd.prog 54 [Str s] [F] (fun x : (Option Addr × Nat × Hp) × (Option Addr × Nat × Hp) => .tuple #[.agg #[N64 (natB ((⟨s, 0⟩ : RS).out 4)), I (natB (((⟨s, 0⟩ : RS).take 4).out 1) : Nat), Str (((((⟨s, 0⟩ : RS).take 4).take 1).take 2).out 16), I (natB ((((⟨s, 0⟩ : RS).take 4).take 1).out 2) : Nat), I (natB ((⟨(a4 s).textS, 0⟩ : RS).out 1) : Nat), .slice x.1.1 35 x.1.2.1, .slice x.2.1 (dN (a4 s).textS) x.2.2.1], I 0]) (fun x => Row x.1.2.2 9 1 x.1.1 35 x.1.2.1 (strsV (((⟨(a4 s).textS, 0⟩ : RS).take 1).os 16 35)) ∧ Row x.2.2.2 9 1 x.2.1 (min (dN (a4 s).textS) 6) x.2.2.1 (strsV (((dA (a4 s).textS).take 1).os 16 (min (dN (a4 s).textS) 6)))) (fun x => [F, x.1.2.2, x.2.2.2]) := by
  refine Ct.walk Tryd.func54 rfl Tryd.ntmps54 rfl (fun w0 => ?_)
  change J _ [(0, _)] _ _ _
  refine J.seq (fun K1 hK1 => ?_)
  refine J.region ?_
  refine J.e (op_alloc rfl Tryd.zeroValue94 rfl) rfl rfl rfl ?_
  intro g2 _
  change J _ _ _ [F, blk g2 _ 94] _
  refine J.y (op_assign rfl rfl) rfl rfl rfl ?_
  refine J.nil ?_
  refine J.then_n (J.k hK1 ?_)
  refine J.keepE [(0, _), (2, _)] ⟨rfl, rfl, trivial⟩ ?_
  refine J.seq (fun K2 hK2 => ?_)
  refine J.region ?_
  refine J.y (op_move rfl rfl) rfl rfl rfl ?_
  refine J.e (op_call rfl rfl ent77 (Ct.use (new := fun g => [RSb g ⟨s, 0⟩]) (fun F' _ => (read_ct F' s).mono (φ2 := fun _ => True) (val2 := Ptr) (ms2 := fun g => F' :: [RSb g ⟨s, 0⟩]) id (fun _ _ => rfl) (fun _ h => h) (fun x w0 w _ h => h.pick [1, 0] (by decide))))) rfl rfl rfl ?_
  rintro g11 _
  change J _ _ _ [F, blk g2 _ 94, RSb g11 (⟨s, 0⟩ : RS)] _
  refine J.y (op_assign rfl rfl) rfl rfl rfl ?_
  refine J.nil ?_
  refine J.then_n (J.k hK2 ?_)
  refine J.keepE [(2, _), (4, _)] ⟨rfl, rfl, trivial⟩ ?_
  refine J.seq (fun K3 hK3 => ?_)
  refine J.region ?_
  refine J.y (op_move rfl rfl) rfl rfl rfl ?_
  refine J.e (op_call rfl rfl ent78 (Ct.use1 2 (m' := fun _ : Unit => RSb g11 ((⟨s, 0⟩ : RS).take 4)) (new := fun _ => []) rfl (fun F' _ => rnum_ct F' g11 (⟨s, 0⟩ : RS) 4 (by omega) (by omega)))) rfl rfl rfl ?_
  intro g13 _
  change J _ _ _ [F, blk g2 _ 94, RSb g11 ((⟨s, 0⟩ : RS).take 4)] _
  refine J.y (op_move rfl rfl) rfl rfl rfl ?_
  refine J.e (op_call rfl rfl ent78 (Ct.use1 2 (m' := fun _ : Unit => RSb g11 (((⟨s, 0⟩ : RS).take 4).take 1)) (new := fun _ => []) rfl (fun F' _ => rnum_ct F' g11 ((⟨s, 0⟩ : RS).take 4) 1 (by omega) (by omega)))) rfl rfl rfl ?_
  intro g15 _
  change J _ _ _ [F, blk g2 _ 94, RSb g11 (((⟨s, 0⟩ : RS).take 4).take 1)] _
  refine J.y (op_cvU_toI rfl rfl Tryd.underlying47 Tryd.underlying3 (by have := natB_lt (((⟨s, 0⟩ : RS).take 4).out 1); have h2 := ((⟨s, 0⟩ : RS).take 4).out_len 1; have h3 := Nat.pow_le_pow_right (n := 256) (by omega) h2; omega)) rfl rfl rfl ?_
  refine J.y (op_move rfl rfl) rfl rfl rfl ?_
  refine J.e (op_call rfl rfl ent78 (Ct.use1 2 (m' := fun _ : Unit => RSb g11 ((((⟨s, 0⟩ : RS).take 4).take 1).take 2)) (new := fun _ => []) rfl (fun F' _ => rnum_ct F' g11 (((⟨s, 0⟩ : RS).take 4).take 1) 2 (by omega) (by omega)))) rfl rfl rfl ?_
  intro g18 _
  change J _ _ _ [F, blk g2 _ 94, RSb g11 ((((⟨s, 0⟩ : RS).take 4).take 1).take 2)] _
  refine J.y (op_cvU_toI rfl rfl Tryd.underlying47 Tryd.underlying3 (by have := natB_lt ((((⟨s, 0⟩ : RS).take 4).take 1).out 2); have h2 := (((⟨s, 0⟩ : RS).take 4).take 1).out_len 2; have h3 := Nat.pow_le_pow_right (n := 256) (by omega) h2; omega)) rfl rfl rfl ?_
  refine J.y (op_move rfl rfl) rfl rfl rfl ?_
  refine J.e (op_call rfl rfl ent79 (Ct.use1 2 (m' := fun _ : Unit => RSb g11 (a4 s)) (new := fun _ => []) rfl (fun F' _ => rfixed_ct F' g11 ((((⟨s, 0⟩ : RS).take 4).take 1).take 2) 16))) rfl rfl rfl ?_
  intro g21 _
  change J _ _ _ [F, blk g2 _ 94, RSb g11 (a4 s)] _
  refine J.y (op_buildStruct (l := [(0, .tmp 13), (1, .tmp 16), (3, .tmp 19), (2, .tmp 21)]) (vs := [N64 (natB ((⟨s, 0⟩ : RS).out 4)), I (natB (((⟨s, 0⟩ : RS).take 4).out 1) : Nat), I (natB ((((⟨s, 0⟩ : RS).take 4).take 1).out 2) : Nat), Str (((((⟨s, 0⟩ : RS).take 4).take 1).take 2).out 16)]) (places := [(0, 1), (1, 1), (2, 1), (3, 1), (4, 3)]) (r := [N64 (natB ((⟨s, 0⟩ : RS).out 4)), I (natB (((⟨s, 0⟩ : RS).take 4).out 1) : Nat), Str (((((⟨s, 0⟩ : RS).take 4).take 1).take 2).out 16), I (natB ((((⟨s, 0⟩ : RS).take 4).take 1).out 2) : Nat), I 0, .slice none 0 0, .slice none 0 0]) rfl rfl rfl Tryd.underlying94 Tryd.zeroValue94 (fun _ => by kernel_rfl) rfl) rfl rfl rfl ?_
  refine J.e (op_alloc rfl Tryd.zeroValue94 rfl) rfl rfl rfl ?_
  intro g5 _
  change J _ _ _ [F, blk g2 _ 94, RSb g11 (a4 s), blk g5 _ 94] _
  refine J.s (op_storeAll (l := [N64 0, I 0, Str [], I 0, I 0, .slice none 0 0, .slice none 0 0]) (i := 3) (vs := [N64 (natB ((⟨s, 0⟩ : RS).out 4)), I (natB (((⟨s, 0⟩ : RS).take 4).out 1) : Nat), Str (((((⟨s, 0⟩ : RS).take 4).take 1).take 2).out 16), I (natB ((((⟨s, 0⟩ : RS).take 4).take 1).out 2) : Nat), I 0, .slice none 0 0, .slice none 0 0]) rfl rfl rfl rfl rfl Tryd.sizeOf94 rfl rfl) rfl rfl (fun _ _ => ?_)
  change J _ _ _ [F, blk g2 _ 94, RSb g11 (a4 s), blk g5 [N64 (natB ((⟨s, 0⟩ : RS).out 4)), I (natB (((⟨s, 0⟩ : RS).take 4).out 1) : Nat), Str (((((⟨s, 0⟩ : RS).take 4).take 1).take 2).out 16), I (natB ((((⟨s, 0⟩ : RS).take 4).take 1).out 2) : Nat), I 0, .slice none 0 0, .slice none 0 0] 94] _
  refine J.nil ?_
  refine J.then_n (J.k hK3 ?_)
  refine J.keepE [(2, _), (4, _), (5, _)] ⟨rfl, rfl, rfl, trivial⟩ ?_
  refine J.seq (fun K4 hK4 => ?_)
  refine J.region ?_
  refine J.y (op_move rfl rfl) rfl rfl rfl ?_
  refine J.e (op_call rfl rfl ent83 (Ct.use1 2 (m' := fun _ : Unit => RSb g11 (a4 s).textR) (new := fun _ => []) rfl (fun F' _ => rtext_ct F' g11 (a4 s)))) rfl rfl rfl ?_
  intro g24 _
  change J _ _ _ [F, blk g2 _ 94, RSb g11 (a4 s).textR, blk g5 [N64 (natB ((⟨s, 0⟩ : RS).out 4)), I (natB (((⟨s, 0⟩ : RS).take 4).out 1) : Nat), Str (((((⟨s, 0⟩ : RS).take 4).take 1).take 2).out 16), I (natB ((((⟨s, 0⟩ : RS).take 4).take 1).out 2) : Nat), I 0, .slice none 0 0, .slice none 0 0] 94] _
  refine J.y (op_assign rfl rfl) rfl rfl rfl ?_
  refine J.nil ?_
  refine J.then_n (J.k hK4 ?_)
  refine J.keepE [(2, _), (4, _), (5, _), (6, _)] ⟨rfl, rfl, rfl, rfl, trivial⟩ ?_
  refine J.seq (fun K5 hK5 => ?_)
  refine J.seq (fun K6 hK6 => ?_)
  refine J.region ?_
  refine J.y (op_move rfl rfl) rfl rfl rfl ?_
  refine J.e (op_call rfl rfl ent80 (Ct.use1 2 (m' := fun _ : Unit => RSb g11 (a4 s).textR) (new := fun _ => []) rfl (fun F' _ => end_ct F' g11 (a4 s).textR))) rfl rfl rfl ?_
  intro g26 _
  change J _ _ _ [F, blk g2 _ 94, RSb g11 (a4 s).textR, blk g5 [N64 (natB ((⟨s, 0⟩ : RS).out 4)), I (natB (((⟨s, 0⟩ : RS).take 4).out 1) : Nat), Str (((((⟨s, 0⟩ : RS).take 4).take 1).take 2).out 16), I (natB ((((⟨s, 0⟩ : RS).take 4).take 1).out 2) : Nat), I 0, .slice none 0 0, .slice none 0 0] 94] _
  refine J.y (op_assign rfl rfl) rfl rfl rfl ?_
  refine J.nil ?_
  refine J.then_n (J.k hK6 ?_)
  refine J.keepE [(2, _), (5, _), (6, _), (7, _)] ⟨rfl, rfl, rfl, rfl, trivial⟩ ?_
  refine J.seq (fun K7 hK7 => ?_)
  refine J.region ?_
  refine J.y (op_move rfl rfl) rfl rfl rfl ?_
  refine J.y ((op_neq rfl rfl rfl).as (v' := .bool false) (congrArg Value.bool (decide_eq_false (fun h => h he)))) rfl rfl rfl ?_
  refine J.nil ?_
  refine J.then_n (J.k hK7 ?_)
  refine J.keepE [(2, _), (5, _), (6, _), (7, _), (28, _)] ⟨rfl, rfl, rfl, rfl, rfl, trivial⟩ ?_
  refine J.condF rfl rfl ?_
  refine J.skip ?_
  refine J.then_n (J.k hK5 ?_)
  refine J.keepE [(2, _), (5, _), (6, _)] ⟨rfl, rfl, rfl, trivial⟩ ?_
  refine J.seq (fun K8 hK8 => ?_)
  refine J.region ?_
  refine J.y (op_move rfl rfl) rfl rfl rfl ?_
  refine J.e (op_call rfl rfl ent41 (Ct.use (fun F' hF => sdecode_ct F' (a4 s).textS))) rfl rfl rfl ?_
  rintro ⟨⟨A1, c1, m1⟩, ⟨A2, c2, m2⟩⟩ ⟨h1r, h2r⟩
  change J _ ((33, .tuple #[if whyE (a4 s).textS = 0 then .agg #[I (natB ((⟨(a4 s).textS, 0⟩ : RS).out 1) : Nat), .slice A1 35 c1, .slice A2 (dN (a4 s).textS) c2] else .agg #[I 0, .slice none 0 0, .slice none 0 0], I (whyE (a4 s).textS)]) :: _) _ [F, blk g2 _ 94, RSb g11 (a4 s).textR, blk g5 [N64 (natB ((⟨s, 0⟩ : RS).out 4)), I (natB (((⟨s, 0⟩ : RS).take 4).out 1) : Nat), Str (((((⟨s, 0⟩ : RS).take 4).take 1).take 2).out 16), I (natB ((((⟨s, 0⟩ : RS).take 4).take 1).out 2) : Nat), I 0, .slice none 0 0, .slice none 0 0] 94, m1, m2] _
  dsimp only at h1r h2r
  rw [hT, if_pos rfl]
  refine J.y (op_move rfl rfl) rfl rfl rfl ?_
  refine J.y (op_extract (v := .agg #[I (natB ((⟨(a4 s).textS, 0⟩ : RS).out 1) : Nat), .slice A1 35 c1, .slice A2 (dN (a4 s).textS) c2]) rfl rfl rfl) rfl rfl rfl ?_
  refine J.y (op_extract (v := I 0) rfl rfl rfl) rfl rfl rfl ?_
  refine J.e (op_alloc rfl Tryd.zeroValue32 rfl) rfl rfl rfl ?_
  intro g8 _
  change J _ _ _ [F, blk g2 _ 94, RSb g11 (a4 s).textR, blk g5 [N64 (natB ((⟨s, 0⟩ : RS).out 4)), I (natB (((⟨s, 0⟩ : RS).take 4).out 1) : Nat), Str (((((⟨s, 0⟩ : RS).take 4).take 1).take 2).out 16), I (natB ((((⟨s, 0⟩ : RS).take 4).take 1).out 2) : Nat), I 0, .slice none 0 0, .slice none 0 0] 94, m1, m2, blk g8 _ 32] _
  refine J.s (op_storeAll (l := [I 0, .slice none 0 0, .slice none 0 0]) (i := 6) (vs := [I (natB ((⟨(a4 s).textS, 0⟩ : RS).out 1) : Nat), .slice A1 35 c1, .slice A2 (dN (a4 s).textS) c2]) rfl rfl rfl rfl rfl Tryd.sizeOf32 rfl rfl) rfl rfl (fun _ _ => ?_)
  change J _ _ _ [F, blk g2 _ 94, RSb g11 (a4 s).textR, blk g5 [N64 (natB ((⟨s, 0⟩ : RS).out 4)), I (natB (((⟨s, 0⟩ : RS).take 4).out 1) : Nat), Str (((((⟨s, 0⟩ : RS).take 4).take 1).take 2).out 16), I (natB ((((⟨s, 0⟩ : RS).take 4).take 1).out 2) : Nat), I 0, .slice none 0 0, .slice none 0 0] 94, m1, m2, blk g8 [I (natB ((⟨(a4 s).textS, 0⟩ : RS).out 1) : Nat), .slice A1 35 c1, .slice A2 (dN (a4 s).textS) c2] 32] _
  refine J.y (op_assign rfl rfl) rfl rfl rfl ?_
  refine J.nil ?_
  refine J.then_n (J.k hK8 ?_)
  refine J.keepE [(2, _), (5, _), (8, _), (9, _)] ⟨rfl, rfl, rfl, rfl, trivial⟩ ?_
  refine J.seq (fun K9 hK9 => ?_)
  refine J.block ?_
  refine J.seq (fun K10 hK10 => ?_)
  refine J.region ?_
  refine J.y (op_move rfl rfl) rfl rfl rfl ?_
  refine J.y ((op_neq rfl rfl rfl).as (v' := .bool false) (congrArg Value.bool (decide_eq_false (by decide)))) rfl rfl rfl ?_
  refine J.y (op_assign rfl rfl) rfl rfl rfl ?_
  refine J.nil ?_
  refine J.then_n (J.k hK10 ?_)
  refine J.keepE [(2, _), (5, _), (8, _), (9, _), (36, _)] ⟨rfl, rfl, rfl, rfl, rfl, trivial⟩ ?_
  refine J.condF rfl rfl ?_
  refine J.seq (fun K11 hK11 => ?_)
  refine J.region ?_
  refine J.y (op_loadBA 3 rfl rfl rfl Tryd.isAgg94 Tryd.sizeOf94 rfl) rfl rfl rfl ?_
  refine J.e (op_call rfl rfl ent87 (Ct.use0 (fun F' hF => (amay_ct F' (natB ((⟨s, 0⟩ : RS).out 4)) (natB (((⟨s, 0⟩ : RS).take 4).out 1) : Nat) (((((⟨s, 0⟩ : RS).take 4).take 1).take 2).out 16) (natB ((((⟨s, 0⟩ : RS).take 4).take 1).out 2) : Nat) 0 none none 0 0 0 0).mono (φ2 := fun _ => True) (val2 := fun _ : Unit => .bool true) id (fun _ _ => congrArg Value.bool (decide_eq_true hm)) (fun _ _ => trivial) (fun _ _ _ _ h => h)))) rfl rfl rfl ?_
  intro g43 _
  refine J.y ((op_not rfl rfl).as (v' := .bool false) rfl) rfl rfl rfl ?_
  refine J.y (op_assign rfl rfl) rfl rfl rfl ?_
  refine J.nil ?_
  refine J.then_n (J.k hK11 ?_)
  refine J.keepE [(2, _), (5, _), (8, _), (41, _)] ⟨rfl, rfl, rfl, rfl, trivial⟩ ?_
  refine J.condF rfl rfl ?_
  refine J.skip ?_
  refine J.blk_n ?_
  refine J.then_n (J.k hK9 ?_)
  refine J.keepE [(2, _), (5, _), (8, _)] ⟨rfl, rfl, rfl, trivial⟩ ?_
  refine J.seq (fun K12 hK12 => ?_)
  refine J.region ?_
  refine J.y (op_loadBA 6 rfl rfl rfl Tryd.isAgg32 Tryd.sizeOf32 rfl) rfl rfl rfl ?_
  refine J.y (op_fieldAddr (j := 4) rfl rfl Tryd.underlying94 rfl Tryd.sizeOf32 rfl) rfl rfl rfl ?_
  refine J.s (op_store (i := 3) (vs := [I (natB ((⟨(a4 s).textS, 0⟩ : RS).out 1) : Nat), .slice A1 35 c1, .slice A2 (dN (a4 s).textS) c2]) rfl rfl rfl rfl rfl Tryd.sizeOf32 rfl (by simp)) rfl rfl (fun _ _ => ?_)
  change J _ _ _ [F, blk g2 _ 94, RSb g11 (a4 s).textR, blk g5 [N64 (natB ((⟨s, 0⟩ : RS).out 4)), I (natB (((⟨s, 0⟩ : RS).take 4).out 1) : Nat), Str (((((⟨s, 0⟩ : RS).take 4).take 1).take 2).out 16), I (natB ((((⟨s, 0⟩ : RS).take 4).take 1).out 2) : Nat), I (natB ((⟨(a4 s).textS, 0⟩ : RS).out 1) : Nat), .slice A1 35 c1, .slice A2 (dN (a4 s).textS) c2] 94, m1, m2, blk g8 [I (natB ((⟨(a4 s).textS, 0⟩ : RS).out 1) : Nat), .slice A1 35 c1, .slice A2 (dN (a4 s).textS) c2] 32] _
  refine J.nil ?_
  refine J.then_n (J.k hK12 ?_)
  refine J.keepE [(2, _), (5, _)] ⟨rfl, rfl, trivial⟩ ?_
  refine J.seq (fun K13 hK13 => ?_)
  refine J.region ?_
  refine J.y (op_loadBA 3 rfl rfl rfl Tryd.isAgg94 Tryd.sizeOf94 rfl) rfl rfl rfl ?_
  refine J.s (op_storeAll (l := [N64 0, I 0, Str [], I 0, I 0, .slice none 0 0, .slice none 0 0]) (i := 1) (vs := [N64 (natB ((⟨s, 0⟩ : RS).out 4)), I (natB (((⟨s, 0⟩ : RS).take 4).out 1) : Nat), Str (((((⟨s, 0⟩ : RS).take 4).take 1).take 2).out 16), I (natB ((((⟨s, 0⟩ : RS).take 4).take 1).out 2) : Nat), I (natB ((⟨(a4 s).textS, 0⟩ : RS).out 1) : Nat), .slice A1 35 c1, .slice A2 (dN (a4 s).textS) c2]) rfl rfl rfl rfl rfl Tryd.sizeOf94 rfl rfl) rfl rfl (fun _ _ => ?_)
  change J _ _ _ [F, blk g2 [N64 (natB ((⟨s, 0⟩ : RS).out 4)), I (natB (((⟨s, 0⟩ : RS).take 4).out 1) : Nat), Str (((((⟨s, 0⟩ : RS).take 4).take 1).take 2).out 16), I (natB ((((⟨s, 0⟩ : RS).take 4).take 1).out 2) : Nat), I (natB ((⟨(a4 s).textS, 0⟩ : RS).out 1) : Nat), .slice A1 35 c1, .slice A2 (dN (a4 s).textS) c2] 94, RSb g11 (a4 s).textR, blk g5 [N64 (natB ((⟨s, 0⟩ : RS).out 4)), I (natB (((⟨s, 0⟩ : RS).take 4).out 1) : Nat), Str (((((⟨s, 0⟩ : RS).take 4).take 1).take 2).out 16), I (natB ((((⟨s, 0⟩ : RS).take 4).take 1).out 2) : Nat), I (natB ((⟨(a4 s).textS, 0⟩ : RS).out 1) : Nat), .slice A1 35 c1, .slice A2 (dN (a4 s).textS) c2] 94, m1, m2, blk g8 [I (natB ((⟨(a4 s).textS, 0⟩ : RS).out 1) : Nat), .slice A1 35 c1, .slice A2 (dN (a4 s).textS) c2] 32] _
  refine J.y (op_assign rfl rfl) rfl rfl rfl ?_
  refine J.nil ?_
  refine J.then_n (J.k hK13 ?_)
  refine J.keepE [(2, _), (3, _)] ⟨rfl, rfl, trivial⟩ ?_
  refine J.ret ?_
  exact J.done (fun _ _ h => h) (rv2 rfl (RV.blkA 1 rfl rfl Tryd.isAgg94 Tryd.sizeOf94) rfl) (retOk ((A1, c1, m1), (A2, c2, m2)) rfl ⟨h1r, h2r⟩ [0, 4, 5] rfl (by decide))

instance (s : List UInt8) : Decidable (atMay s) := by unfold atMay; infer_instance
theorem adecode_no (F : Hp) (s : List UInt8) (h : ¬ atE s = 0) : Ct Tryd.prog 54 [Str s] [F] (fun _ : Unit => .tuple #[.agg #[N64 0, I 0, Str [], I 0, I 0, .slice none 0 0, .slice none 0 0], I (atE s)]) (fun _ => True) (fun _ => [F]) := by
  by_cases he : (a4 s).textR.last = 0
  · by_cases hT : whyE (a4 s).textS = 0
    · by_cases hm : atMay s
      · exact absurd (by unfold atE; rw [if_neg (fun q => q he), if_neg (fun q => q hT), if_pos hm]) h
      · rw [show atE s = 10 by unfold atE; rw [if_neg (fun q => q he), if_neg (fun q => q hT), if_neg hm]]
        exact adecode_m F s he hT hm
    · rw [show atE s = whyE (a4 s).textS by unfold atE; rw [if_neg (fun q => q he), if_pos hT]]
      exact adecode_w F s he hT
  · rw [show atE s = (a4 s).textR.last by unfold atE; rw [if_pos he]]
    exact adecode_e F s he

theorem takes_ok (l : List Nat) : ∀ s : List UInt8, l.sum ≤ s.length → l.foldl RS.take ⟨s, 0⟩ = ⟨s.drop l.sum, 0⟩ := by
  induction l with
  | nil => intro s _; rfl
  | cons n l ih =>
    intro s h
    rw [List.sum_cons] at h
    rw [List.foldl_cons, take_ok (by omega), ih _ (by rw [List.length_drop]; omega), List.drop_drop, List.sum_cons]
theorem takes_no (l : List Nat) : ∀ s : List UInt8, s.length < l.sum → (l.foldl RS.take ⟨s, 0⟩).bad = 3 := by
  induction l with
  | nil => intro s h; simp at h
  | cons n l ih =>
    intro s h
    rw [List.sum_cons] at h
    rw [List.foldl_cons]
    by_cases h1 : n ≤ s.length
    · rw [take_ok h1]; exact ih _ (by rw [List.length_drop]; omega)
    · rw [take_no h1, takes3]
theorem a4_ok {s : List UInt8} (h : 23 ≤ s.length) : a4 s = ⟨s.drop 23, 0⟩ := takes_ok [4, 1, 2, 16] s h
theorem a4_no {s : List UInt8} (h : s.length < 23) : (a4 s).bad = 3 := takes_no [4, 1, 2, 16] s h
theorem a4_outs {s : List UInt8} (h : 23 ≤ s.length) : (⟨s, 0⟩ : RS).out 4 = s.take 4 ∧ ((⟨s, 0⟩ : RS).take 4).out 1 = (s.drop 4).take 1 ∧ (((⟨s, 0⟩ : RS).take 4).take 1).out 2 = (s.drop 5).take 2 ∧ ((((⟨s, 0⟩ : RS).take 4).take 1).take 2).out 16 = (s.drop 7).take 16 := by
  have e1 := takes_ok [4] s (by simp; omega)
  have e2 := takes_ok [4, 1] s (by simp; omega)
  have e3 := takes_ok [4, 1, 2] s (by simp; omega)
  simp only [List.foldl_cons, List.foldl_nil] at e1 e2 e3
  refine ⟨out_ok (by omega), ?_, ?_, ?_⟩
  · rw [e1, out_ok (by simp; omega)]; rfl
  · rw [e2, out_ok (by simp; omega)]; rfl
  · rw [e3, out_ok (by simp; omega)]; rfl
theorem text3 {st : RS} (h : st.bad = 3) : st.textR.last = 3 := by
  unfold RS.textR
  rw [outb _ _ h, if_neg (by decide)]
  exact lastb _ (takeb _ _ (takeb _ _ h))
/-- the text behind the head: short, too long, right -/
theorem text_rs {r : List UInt8} {L : Nat} (h2 : 2 ≤ r.length) (hL : natB (r.take 2) = L) (h4 : L ≤ 4096) : (⟨r, 0⟩ : RS).textS = (⟨r.drop 2, 0⟩ : RS).out L ∧ (⟨r, 0⟩ : RS).textR = (⟨r.drop 2, 0⟩ : RS).take L := by
  unfold RS.textS RS.textR
  rw [out_ok h2, hL, if_neg (by omega), if_neg (by omega), take_ok h2]
  exact ⟨rfl, rfl⟩
theorem atB_len {ep bd nm : Nat} {hd s : List UInt8} (hh : hd.length = 16) : (atB ep bd nm hd s).length = 25 + s.length := by
  unfold atB
  simp only [List.length_append, plB_len, Sha.numB_length, hh]; omega
theorem atB_23 {ep bd nm : Nat} {hd s : List UInt8} (hh : hd.length = 16) : (atB ep bd nm hd s).drop 23 = Sha.numB (UInt64.ofNat s.length) 2 ++ s := by
  unfold atB
  rw [List.drop_left' (by simp only [List.length_append, plB_len, hh])]
theorem natB_2 {L : Nat} (h : L ≤ 4096) : natB (Sha.numB (UInt64.ofNat L) 2) = L := by
  rw [natB_numB L (by omega) 2 (by omega)]; exact Nat.mod_eq_of_lt (by omega)
theorem at_cut {ep bd nm : Nat} {hd s : List UInt8} (hh : hd.length = 16) (hs : s.length ≤ 4096) {c : Nat} (hc : c < 25 + s.length) : atE ((atB ep bd nm hd s).take c) = 3 := by
  have hl := atB_len (ep := ep) (bd := bd) (nm := nm) (s := s) hh
  have hcl : ((atB ep bd nm hd s).take c).length = c := by rw [List.length_take]; omega
  have key : (a4 ((atB ep bd nm hd s).take c)).textR.last = 3 := by
    by_cases h1 : c < 23
    · exact text3 (a4_no (by omega))
    · rw [a4_ok (by omega)]
      by_cases h2 : c < 25
      · unfold RS.textR
        have e : (⟨((atB ep bd nm hd s).take c).drop 23, 0⟩ : RS).out 2 = [] := by unfold RS.out; rw [if_neg]; rw [List.length_drop]; omega
        rw [e, if_neg (by decide), take_no (by rw [List.length_drop]; omega)]
        exact lastb _ (takeb _ _ rfl)
      · have e : ((atB ep bd nm hd s).take c).drop 23 = Sha.numB (UInt64.ofNat s.length) 2 ++ s.take (c - 25) := by
          rw [List.drop_take, atB_23 hh, List.take_append, Sha.numB_length, List.take_of_length_le (by rw [Sha.numB_length]; omega), Nat.sub_sub]
        have t := text_rs (r := Sha.numB (UInt64.ofNat s.length) 2 ++ s.take (c - 25)) (L := s.length) (by rw [List.length_append, Sha.numB_length]; omega) (by rw [List.take_left' (Sha.numB_length _ _), natB_2 hs]) hs
        rw [e, t.2, List.drop_left' (Sha.numB_length _ _), take_no (by rw [List.length_take]; omega)]
        rfl
  unfold atE
  rw [key, if_pos (by decide)]
theorem at_long {ep bd nm : Nat} {hd s : List UInt8} (hh : hd.length = 16) (hs : s.length ≤ 4096) : atE (atB ep bd nm hd s ++ [120]) = 2 := by
  have hl := atB_len (ep := ep) (bd := bd) (nm := nm) (s := s) hh
  have key : (a4 (atB ep bd nm hd s ++ [120])).textR.last = 2 := by
    rw [a4_ok (by rw [List.length_append]; omega), List.drop_append_of_le_length (by omega), atB_23 hh, List.append_assoc]
    have t := text_rs (r := Sha.numB (UInt64.ofNat s.length) 2 ++ (s ++ [120])) (L := s.length) (by rw [List.length_append, Sha.numB_length]; omega) (by rw [List.take_left' (Sha.numB_length _ _), natB_2 hs]) hs
    rw [t.2, List.drop_left' (Sha.numB_length _ _), take_ok (by rw [List.length_append]; omega), List.drop_left]
    rfl
  unfold atE
  rw [key, if_pos (by decide)]
/-- an attestation's bytes are read as they were written -/
theorem at_read {ep bd nm : Nat} {hd s : List UInt8} (h1 : ep ≤ 4294967295) (h2 : bd < 16) (h3 : nm < 64) (hh : hd.length = 16) (hs : s.length ≤ 4096) (hw : whyE s = 0) :
    ((a4 (atB ep bd nm hd s)).textR.last = 0 ∧ whyE (a4 (atB ep bd nm hd s)).textS = 0 ∧ atMay (atB ep bd nm hd s)) ∧ natB ((⟨atB ep bd nm hd s, 0⟩ : RS).out 4) = ep ∧ natB (((⟨atB ep bd nm hd s, 0⟩ : RS).take 4).out 1) = bd ∧ natB ((((⟨atB ep bd nm hd s, 0⟩ : RS).take 4).take 1).out 2) = nm ∧ (((((⟨atB ep bd nm hd s, 0⟩ : RS).take 4).take 1).take 2).out 16) = hd ∧ (a4 (atB ep bd nm hd s)).textS = s := by
  have hl := atB_len (ep := ep) (bd := bd) (nm := nm) (s := s) hh
  obtain ⟨o1, o2, o3, o4⟩ := a4_outs (s := atB ep bd nm hd s) (by omega)
  have t := text_rs (r := Sha.numB (UInt64.ofNat s.length) 2 ++ s) (L := s.length) (by rw [List.length_append, Sha.numB_length]; omega) (by rw [List.take_left' (Sha.numB_length _ _), natB_2 hs]) hs
  rw [List.drop_left' (Sha.numB_length _ _), out_ok (Nat.le_refl _), take_ok (Nat.le_refl _), List.take_length, List.drop_length] at t
  have ha : a4 (atB ep bd nm hd s) = ⟨Sha.numB (UInt64.ofNat s.length) 2 ++ s, 0⟩ := by rw [a4_ok (by omega), atB_23 hh]
  have e : atB ep bd nm hd s = Sha.numB (UInt64.ofNat ep) 4 ++ (Sha.numB (UInt64.ofNat bd) 1 ++ (Sha.numB (UInt64.ofNat nm) 2 ++ (hd ++ (Sha.numB (UInt64.ofNat s.length) 2 ++ s)))) := by unfold atB plB; simp only [List.append_assoc]
  have f1 : natB ((⟨atB ep bd nm hd s, 0⟩ : RS).out 4) = ep := by
    rw [o1, e, List.take_left' (Sha.numB_length _ _), natB_numB ep (by omega) 4 (by omega)]; exact Nat.mod_eq_of_lt (by omega)
  have f2 : natB (((⟨atB ep bd nm hd s, 0⟩ : RS).take 4).out 1) = bd := by
    rw [o2, e, List.drop_left' (Sha.numB_length _ _), List.take_left' (Sha.numB_length _ _), natB_numB bd (by omega) 1 (by omega)]; exact Nat.mod_eq_of_lt (by omega)
  have f3 : natB ((((⟨atB ep bd nm hd s, 0⟩ : RS).take 4).take 1).out 2) = nm := by
    rw [o3, e, ← List.append_assoc, List.drop_left' (by rw [List.length_append, Sha.numB_length, Sha.numB_length]), List.take_left' (Sha.numB_length _ _), natB_numB nm (by omega) 2 (by omega)]; exact Nat.mod_eq_of_lt (by omega)
  have f4 : (((((⟨atB ep bd nm hd s, 0⟩ : RS).take 4).take 1).take 2).out 16) = hd := by
    rw [o4, e, ← List.append_assoc, ← List.append_assoc, List.drop_left' (by simp only [List.length_append, Sha.numB_length]), List.take_left' hh]
  refine ⟨⟨?_, ?_, ?_⟩, f1, f2, f3, f4, ?_⟩
  · rw [ha, t.2]; rfl
  · rw [ha, t.1]; exact hw
  · unfold atMay
    rw [f1, f2, f3, f4]
    exact ⟨h1, by omega, by omega, hh, by omega, by omega⟩
  · rw [ha, t.1]
theorem at_facts {s : List UInt8} (h : atE s = 0) : (a4 s).textR.last = 0 ∧ whyE (a4 s).textS = 0 ∧ atMay s := by
  unfold atE at h
  split at h
  · rename_i h1; exact absurd h h1
  · rename_i h1
    split at h
    · rename_i h2; exact absurd h h2
    · rename_i h2
      split at h
      · rename_i h3; exact ⟨Decidable.not_not.1 h1, Decidable.not_not.1 h2, h3⟩
      · omega
theorem byte_1 {s : List UInt8} {k : Nat} (h : k < s.length) : Sha.numB (UInt64.ofNat (natB ((s.drop k).take 1))) 1 = (s.drop k).take 1 := by
  have := numB_natB ((s.drop k).take 1) (by rw [List.length_take]; omega)
  rwa [show ((s.drop k).take 1).length = 1 by rw [List.length_take, List.length_drop]; omega] at this
theorem bytes_n {s : List UInt8} {k n : Nat} (hn : n ≤ 8) (h : k + n ≤ s.length) : Sha.numB (UInt64.ofNat (natB ((s.drop k).take n))) n = (s.drop k).take n := by
  have := numB_natB ((s.drop k).take n) (by rw [List.length_take]; omega)
  rwa [show ((s.drop k).take n).length = n by rw [List.length_take, List.length_drop]; omega] at this
/-- what is read is written as it was -/
theorem at_write {s : List UInt8} (h : atE s = 0) : (((((⟨s, 0⟩ : RS).take 4).take 1).take 2).out 16).length = 16 ∧ natB ((⟨s, 0⟩ : RS).out 4) ≤ 4294967295 ∧ natB (((⟨s, 0⟩ : RS).take 4).out 1) < 16 ∧ natB ((((⟨s, 0⟩ : RS).take 4).take 1).out 2) < 64 ∧ atB (natB ((⟨s, 0⟩ : RS).out 4)) (natB (((⟨s, 0⟩ : RS).take 4).out 1)) (natB ((((⟨s, 0⟩ : RS).take 4).take 1).out 2)) (((((⟨s, 0⟩ : RS).take 4).take 1).take 2).out 16) (a4 s).textS = s := by
  obtain ⟨he, hT, hm⟩ := at_facts h
  have hl : 23 ≤ s.length := by
    apply Classical.byContradiction
    intro hc
    rw [text3 (a4_no (by omega))] at he
    omega
  obtain ⟨o1, o2, o3, o4⟩ := a4_outs hl
  have hm2 := hm
  unfold atMay mayP at hm2
  refine ⟨by omega, by omega, by omega, by omega, ?_⟩
  rw [a4_ok hl] at he ⊢
  have hl2 : 25 ≤ s.length := by
    apply Classical.byContradiction
    intro hc
    unfold RS.textR at he
    have e : (⟨s.drop 23, 0⟩ : RS).out 2 = [] := by unfold RS.out; rw [if_neg]; rw [List.length_drop]; omega
    rw [e, if_neg (by decide), take_no (by rw [List.length_drop]; omega)] at he
    rw [lastb _ (takeb _ _ rfl)] at he
    omega
  have hL : natB ((s.drop 23).take 2) ≤ 4096 := by
    apply Classical.byContradiction
    intro hc
    unfold RS.textR at he
    rw [out_ok (by rw [List.length_drop]; omega), if_pos (by omega), take_ok (by rw [List.length_drop]; omega)] at he
    unfold RS.form RS.last at he
    rw [if_pos rfl] at he
    dsimp only at he
    rw [if_neg (by omega)] at he
    omega
  have t := text_rs (r := s.drop 23) (L := natB ((s.drop 23).take 2)) (by rw [List.length_drop]; omega) rfl hL
  rw [List.drop_drop] at t
  rw [t.2] at he
  have hL2 : natB ((s.drop 23).take 2) = s.length - 25 := by
    by_cases h1 : natB ((s.drop 23).take 2) ≤ (s.drop 25).length
    · rw [take_ok h1] at he
      unfold RS.last at he
      rw [if_pos rfl] at he
      dsimp only at he
      split at he
      · rename_i h2
        have := congrArg List.length h2
        rw [List.length_drop, List.length_drop, List.length_nil] at this
        rw [List.length_drop] at h1
        omega
      · omega
    · rw [take_no h1] at he
      rw [lastb _ rfl] at he
      omega
  rw [show 23 + 2 = 25 from rfl] at t
  rw [t.1, hL2, out_ok (s := s.drop 25) (n := s.length - 25) (by rw [List.length_drop]; omega), List.take_of_length_le (l := s.drop 25) (by rw [List.length_drop]; omega)]
  unfold atB plB
  have n2 := bytes_n (s := s) (k := 23) (n := 2) (by omega) (by omega)
  rw [hL2] at n2
  rw [o1, o2, o3, o4, show (s.drop 25).length = s.length - 25 by rw [List.length_drop], n2]
  have b1 := bytes_n (s := s) (k := 0) (n := 4) (by omega) (by omega)
  rw [List.drop_zero] at b1
  rw [b1, bytes_n (k := 4) (n := 1) (by omega) (by omega), bytes_n (k := 5) (n := 2) (by omega) (by omega)]
  rw [← List.take_add, ← List.take_add, ← List.take_add, show (s.drop 23).take 2 ++ s.drop 25 = s.drop 23 by rw [show s.drop 25 = (s.drop 23).drop 2 by rw [List.drop_drop], List.take_append_drop], show 4 + 1 + 2 + 16 = 23 from rfl, List.take_append_drop]

end Go.Proofs.YtlopnfgacopkbaaDoor
