/- A part of the proof: contracts of functions of the program, each for every state of the heaps that it names. -/
import Derived.Test.YtlopnfgacopkbaaDoorSb
import Derived.Test.YtlopnfgacopkbaaDoorPub
set_option linter.unusedSimpArgs false
set_option linter.unusedVariables false
namespace Go.Proofs.YtlopnfgacopkbaaDoor
open Go Go.Fw
set_option maxRecDepth 100000
set_option maxHeartbeats 1000000
theorem ent45 : Enters Tryd.prog 45 := Enters.of Tryd.func45 rfl (by kernel_rfl)
theorem ent47 : Enters Tryd.prog 47 := Enters.of Tryd.func47 rfl (by kernel_rfl)
theorem ent49 : Enters Tryd.prog 49 := Enters.of Tryd.func49 rfl (by kernel_rfl)
theorem ent69 : Enters Tryd.prog 69 := Enters.of Tryd.func69 rfl (by kernel_rfl)
theorem ent72 : Enters Tryd.prog 72 := Enters.of Tryd.func72 rfl (by kernel_rfl)
theorem ent81 : Enters Tryd.prog 81 := Enters.of Tryd.func81 rfl (by kernel_rfl)
theorem ent83 : Enters Tryd.prog 83 := Enters.of Tryd.func83 rfl (by kernel_rfl)
theorem ent101 : Enters Tryd.prog 101 := Enters.of Tryd.func101 rfl (by kernel_rfl)

theorem wtext_ok {s bs : List UInt8} (h : s.length ≤ 4096) : wtext s bs 0 = bs ++ Sha.numB (UInt64.ofNat s.length) 2 ++ s ∧ fbad (okT s) 2 0 = 0 := by
  have h1 : okT s = true := decide_eq_true h
  unfold wtext
  rw [h1, fbad_t, if_pos rfl]
  exact ⟨rfl, rfl⟩
/-- a header -/
structure Hd where
  ep : Nat
  par : List UInt8
  dep : Int
  aud : Int
  nodes : List (List UInt8)
def nodeP (s : List UInt8) : Prop := s = [0] ∨ (s.length = 17 ∧ (s.getD 0 0 = 1 ∨ s.getD 0 0 = 2))
instance (s : List UInt8) : Decidable (nodeP s) := by unfold nodeP; infer_instance
def Hd.cells (x : Hd) (A : Option Addr) (c : Nat) : List Value := [N64 x.ep, Str x.par, I x.dep, I x.aud, .slice A x.nodes.length c]
def Hd.out (x : Hd) : Prop := 4294967295 < x.ep ∨ x.par.length ≠ 16 ∨ cnt x.dep = 0 ∨ x.aud < 0 ∨ 64 < x.aud
instance (x : Hd) : Decidable x.out := by unfold Hd.out; infer_instance
def Hd.err (x : Hd) : Int := if x.out then 10 else if x.nodes.length ≠ cnt x.dep then 22 else if ∀ s ∈ x.nodes, nodeP s then 0 else 4
def ndB (s : List UInt8) : List UInt8 := Sha.numB (UInt64.ofNat s.length) 2 ++ s
def Hd.bytes (x : Hd) : List UInt8 := Sha.numB (UInt64.ofNat x.ep) 4 ++ x.par ++ [UInt8.ofNat x.dep.toNat] ++ [UInt8.ofNat x.aud.toNat] ++ (x.nodes.map ndB).flatten
def Hd.enc (x : Hd) : List UInt8 := if x.err = 0 then x.bytes else []
def Hd.dig (x : Hd) : List UInt8 := if x.err = 0 then Sha.tagged 14 [x.bytes] else []
def Hd.good (x : Hd) : Prop := x.ep < 18446744073709551616 ∧ x.par.length ≤ 1048576 ∧ x.nodes.length ≤ 1073741824
theorem err_10 {x : Hd} (h : x.out) : x.err = 10 := if_pos h
theorem err_22 {x : Hd} (h : ¬ x.out) (h2 : x.nodes.length ≠ cnt x.dep) : x.err = 22 := by unfold Hd.err; rw [if_neg h, if_pos h2]
theorem err_4 {x : Hd} (h : ¬ x.out) (h2 : ¬ x.nodes.length ≠ cnt x.dep) {s : List UInt8} (hs : s ∈ x.nodes) (hn : ¬ nodeP s) : x.err = 4 := by unfold Hd.err; rw [if_neg h, if_neg h2, if_neg (fun e => hn (e s hs))]
theorem err_0 {x : Hd} (h : ¬ x.out) (h2 : ¬ x.nodes.length ≠ cnt x.dep) (hs : ∀ s ∈ x.nodes, nodeP s) : x.err = 0 := by unfold Hd.err; rw [if_neg h, if_neg h2, if_pos hs]
theorem err_inv {x : Hd} (h : x.err = 0) : ¬ x.out ∧ x.nodes.length = cnt x.dep ∧ ∀ s ∈ x.nodes, nodeP s := by
  unfold Hd.err at h
  split at h
  · omega
  · rename_i h1
    split at h
    · omega
    · rename_i h2
      split at h
      · rename_i h3; exact ⟨h1, Decidable.not_not.1 h2, h3⟩
      · omega
theorem node_len {s : List UInt8} (h : nodeP s) : s.length ≤ 17 := by
  rcases h with rfl | ⟨h, _⟩
  · decide
  · omega
theorem allTake {l : List (List UInt8)} {p : List UInt8 → Prop} {k : Nat} (h : k < l.length) (h1 : ∀ s ∈ l.take k, p s) (h2 : p (l.getD k [])) : ∀ s ∈ l.take (k + 1), p s := fun s hs => by
  rw [List.take_succ_eq_append_getElem h] at hs
  rcases List.mem_append.1 hs with h3 | h3
  · exact h1 s h3
  · rw [List.mem_singleton] at h3
    rw [h3]
    rw [List.getD_eq_getElem?_getD, List.getElem?_eq_getElem h] at h2
    exact h2
theorem getD_in {l : List (List UInt8)} {k : Nat} (h : k < l.length) : l.getD k [] ∈ l := by
  rw [List.getD_eq_getElem?_getD, List.getElem?_eq_getElem h]
  exact List.getElem_mem h

theorem u8eq {c : UInt8} (k : UInt8) : ((c.toNat : Int) = (k.toNat : Int)) ↔ c = k := ⟨fun h => UInt8.toNat_inj.1 (by omega), fun h => by rw [h]⟩

theorem hnode_ct (F : Hp) (s : List UInt8) : Ct Tryd.prog 101 [Str s] [F] (fun _ : Unit => .bool (decide (nodeP s))) (fun _ => True) (fun _ => [F]) := by
  refine Ct.walk Tryd.func101 rfl Tryd.ntmps101 rfl (fun w0 hw0 => ?_)
  change J _ [(0, _)] _ _ _
  refine J.seq (fun K1 hK1 => ?_)
  refine J.region ?_
  refine J.y (op_assign rfl rfl) rfl rfl rfl ?_
  refine J.nil ?_
  refine J.then_n (J.k hK1 ?_)
  refine J.keepE [(0, _)] ⟨rfl, trivial⟩ ?_
  refine J.seq (fun K2 hK2 => ?_)
  refine J.region ?_
  refine J.y (op_move rfl rfl) rfl rfl rfl ?_
  refine J.y (op_seq rfl rfl rfl) rfl rfl rfl ?_
  refine J.y (op_move rfl rfl) rfl rfl rfl ?_
  refine J.split (d := 5) rfl (fun h5 => ?_) (fun h5 => ?_)
  ·
    refine J.no (Wan.is rfl rfl rfl rfl rfl) rfl rfl ?_
    refine J.no (Wan.is rfl rfl rfl rfl rfl) rfl rfl ?_
    refine J.no (Wan.is rfl rfl rfl rfl rfl) rfl rfl ?_
    refine J.no (Wan.is rfl rfl rfl rfl rfl) rfl rfl ?_
    refine J.no (Wan.un rfl rfl rfl rfl) rfl rfl ?_
    refine J.no (Wan.un rfl rfl rfl rfl) rfl rfl ?_
    refine J.no (Wan.un rfl rfl rfl rfl) rfl rfl ?_
    refine J.no (Wan.un rfl rfl rfl rfl) rfl rfl ?_
    refine J.no (Wan.un rfl rfl rfl rfl) rfl rfl ?_
    refine J.no (Wan.un rfl rfl rfl rfl) rfl rfl ?_
    refine J.no (Wan.un rfl rfl rfl rfl) rfl rfl ?_
    refine J.no (Wan.un rfl rfl rfl rfl) rfl rfl ?_
    refine J.no (Wan.is rfl rfl rfl rfl rfl) rfl rfl ?_
    refine J.y (op_pickT rfl rfl rfl) rfl rfl rfl ?_
    refine J.y (op_assign rfl rfl) rfl rfl rfl ?_
    refine J.nil ?_
    refine J.then_n (J.k hK2 ?_)
    refine J.keepE [(2, _)] ⟨rfl, trivial⟩ ?_
    refine J.ret ?_
    exact J.done hw0 (fun _ _ h => h) (res1 rfl rfl) (retOk () (congrArg Value.bool (decide_eq_true (show nodeP s from .inl h5)).symm) trivial [0] rfl (by decide))
  ·
    refine J.yg (Wan.is rfl rfl rfl rfl rfl) (op_move rfl rfl) rfl rfl ?_
    refine J.yg (Wan.is rfl rfl rfl rfl rfl) (op_slen Tryd.underlying9 rfl rfl) rfl rfl ?_
    refine J.yg (Wan.is rfl rfl rfl rfl rfl) (op_eql rfl rfl rfl) rfl rfl ?_
    refine J.yg (Wan.is rfl rfl rfl rfl rfl) (op_move rfl rfl) rfl rfl ?_
    refine J.split (d := 9) rfl (fun h9 => ?_) (fun h9 => ?_)
    ·
      refine J.yg (Wan.is rfl rfl rfl rfl rfl) (op_move rfl rfl) rfl rfl ?_
      refine J.yg (Wan.is rfl rfl rfl rfl rfl) (op_sindex (i := 0) (c := s.getD 0 0) Tryd.underlying9 rfl rfl rfl (by rw [List.getD_eq_getElem?_getD, List.getElem?_eq_getElem (show 0 < s.length by omega)]; rfl)) rfl rfl ?_
      refine J.yg (Wan.is rfl rfl rfl rfl rfl) (op_eql rfl rfl rfl) rfl rfl ?_
      refine J.yg (Wan.is rfl rfl rfl rfl rfl) (op_move rfl rfl) rfl rfl ?_
      refine J.split (d := 13) rfl (fun h13 => ?_) (fun h13 => ?_)
      ·
        refine J.no (Wan.is rfl rfl rfl rfl rfl) rfl rfl ?_
        refine J.no (Wan.is rfl rfl rfl rfl rfl) rfl rfl ?_
        refine J.no (Wan.is rfl rfl rfl rfl rfl) rfl rfl ?_
        refine J.yg (Wan.is rfl rfl rfl rfl rfl) (op_pickT rfl rfl rfl) rfl rfl ?_
        refine J.yg (Wan.is rfl rfl rfl rfl rfl) (op_pickT rfl rfl rfl) rfl rfl ?_
        refine J.y (op_pickF rfl rfl rfl) rfl rfl rfl ?_
        refine J.y (op_assign rfl rfl) rfl rfl rfl ?_
        refine J.nil ?_
        refine J.then_n (J.k hK2 ?_)
        refine J.keepE [(2, _)] ⟨rfl, trivial⟩ ?_
        refine J.ret ?_
        exact J.done hw0 (fun _ _ h => h) (res1 rfl rfl) (retOk () (congrArg Value.bool (decide_eq_true (show nodeP s from .inr ⟨by omega, .inl ((u8eq 1).1 h13)⟩)).symm) trivial [0] rfl (by decide))
      ·
        refine J.yg (Wan.is rfl rfl rfl rfl rfl) (op_move rfl rfl) rfl rfl ?_
        refine J.yg (Wan.is rfl rfl rfl rfl rfl) (op_sindex (i := 0) (c := s.getD 0 0) Tryd.underlying9 rfl rfl rfl (by rw [List.getD_eq_getElem?_getD, List.getElem?_eq_getElem (show 0 < s.length by omega)]; rfl)) rfl rfl ?_
        refine J.yg (Wan.is rfl rfl rfl rfl rfl) (op_eql rfl rfl rfl) rfl rfl ?_
        refine J.yg (Wan.is rfl rfl rfl rfl rfl) (op_pickF rfl rfl rfl) rfl rfl ?_
        refine J.yg (Wan.is rfl rfl rfl rfl rfl) (op_pickT rfl rfl rfl) rfl rfl ?_
        refine J.y (op_pickF rfl rfl rfl) rfl rfl rfl ?_
        refine J.y (op_assign rfl rfl) rfl rfl rfl ?_
        refine J.nil ?_
        refine J.then_n (J.k hK2 ?_)
        refine J.keepE [(2, _)] ⟨rfl, trivial⟩ ?_
        refine J.ret ?_
        exact J.done hw0 (fun _ _ h => h) (res1 rfl rfl) (retOk () (congrArg Value.bool (decide_eq_decide.2 ⟨fun h => (show nodeP s from .inr ⟨by omega, .inr ((u8eq 2).1 h)⟩), fun h => by rcases h with h | ⟨_, h | h⟩; exact absurd h h5; exact absurd ((u8eq 1).2 h) h13; exact (u8eq 2).2 h⟩)) trivial [0] rfl (by decide))
    ·
      refine J.no (Wan.is rfl rfl rfl rfl rfl) rfl rfl ?_
      refine J.no (Wan.is rfl rfl rfl rfl rfl) rfl rfl ?_
      refine J.no (Wan.is rfl rfl rfl rfl rfl) rfl rfl ?_
      refine J.no (Wan.is rfl rfl rfl rfl rfl) rfl rfl ?_
      refine J.no (Wan.un rfl rfl rfl rfl) rfl rfl ?_
      refine J.no (Wan.un rfl rfl rfl rfl) rfl rfl ?_
      refine J.no (Wan.un rfl rfl rfl rfl) rfl rfl ?_
      refine J.no (Wan.is rfl rfl rfl rfl rfl) rfl rfl ?_
      refine J.yg (Wan.is rfl rfl rfl rfl rfl) (op_pickF rfl rfl rfl) rfl rfl ?_
      refine J.y (op_pickF rfl rfl rfl) rfl rfl rfl ?_
      refine J.y (op_assign rfl rfl) rfl rfl rfl ?_
      refine J.nil ?_
      refine J.then_n (J.k hK2 ?_)
      refine J.keepE [(2, _)] ⟨rfl, trivial⟩ ?_
      refine J.ret ?_
      exact J.done hw0 (fun _ _ h => h) (res1 rfl rfl) (retOk () (congrArg Value.bool (decide_eq_false (show ¬ nodeP s from fun h => by rcases h with h | ⟨h, _⟩; exact h5 h; omega)).symm) trivial [0] rfl (by decide))

theorem hcheck_ct (F : Hp) (x : Hd) (A : Option Addr) (c : Nat) (hg : x.good) (hsl : Sl F 1 A x.nodes.length c (strsV x.nodes)) :
    Ct Tryd.prog 72 [.agg #[N64 x.ep, Str x.par, I x.dep, I x.aud, .slice A x.nodes.length c]] [F] (fun _ : Unit => I x.err) (fun _ => True) (fun _ => [F]) := by
  obtain ⟨hg1, hg2, hg3⟩ := hg
  refine Ct.walk Tryd.func72 rfl Tryd.ntmps72 rfl (fun w0 hw0 => ?_)
  change J _ [(0, _)] _ _ _
  refine J.seq (fun K1 hK1 => ?_)
  refine J.region ?_
  refine J.e (op_box rfl rfl (l := [N64 x.ep, Str x.par, I x.dep, I x.aud, .slice A x.nodes.length c]) rfl) rfl rfl rfl ?_
  intro g1 _
  change J _ _ _ [F, blk g1 [N64 x.ep, Str x.par, I x.dep, I x.aud, .slice A x.nodes.length c] 57] _
  refine J.y (op_assign rfl rfl) rfl rfl rfl ?_
  refine J.nil ?_
  refine J.then_n (J.k hK1 ?_)
  refine J.keepE [(1, _)] ⟨rfl, trivial⟩ ?_
  refine J.seq (fun K2 hK2 => ?_)
  refine J.region ?_
  refine J.y (op_fieldAddr (j := 2) rfl rfl Tryd.underlying57 rfl Tryd.sizeOf3 rfl) rfl rfl rfl ?_
  refine J.y (op_loadB 1 rfl rfl rfl Tryd.isAgg3 rfl) rfl rfl rfl ?_
  refine J.e (op_call rfl rfl ent82 (Ct.use0 (fun F' hF => bcount_ct F' x.dep))) rfl rfl rfl ?_
  intro g8 _
  refine J.y (op_assign rfl rfl) rfl rfl rfl ?_
  refine J.nil ?_
  refine J.then_n (J.k hK2 ?_)
  refine J.keepE [(1, _), (3, _)] ⟨rfl, rfl, trivial⟩ ?_
  refine J.seq (fun K3 hK3 => ?_)
  refine J.block ?_
  refine J.seq (fun K4 hK4 => ?_)
  refine J.region ?_
  refine J.y (op_fieldAddr (j := 0) rfl rfl Tryd.underlying57 rfl Tryd.sizeOf47 rfl) rfl rfl rfl ?_
  refine J.y (op_loadB 1 rfl rfl rfl Tryd.isAgg47 rfl) rfl rfl rfl ?_
  refine J.y (op_gtr rfl rfl rfl) rfl rfl rfl ?_
  refine J.y (op_move rfl rfl) rfl rfl rfl ?_
  refine J.split (d := 13) rfl (fun h13 => ?_) (fun h13 => ?_)
  ·
    refine J.no (Wan.is rfl rfl rfl rfl rfl) rfl rfl ?_
    refine J.no (Wan.is rfl rfl rfl rfl rfl) rfl rfl ?_
    refine J.no (Wan.is rfl rfl rfl rfl rfl) rfl rfl ?_
    refine J.no (Wan.is rfl rfl rfl rfl rfl) rfl rfl ?_
    refine J.y (op_pickT rfl rfl rfl) rfl rfl rfl ?_
    refine J.y (op_move rfl rfl) rfl rfl rfl ?_
    refine J.no (Wan.is rfl rfl rfl rfl rfl) rfl rfl ?_
    refine J.no (Wan.is rfl rfl rfl rfl rfl) rfl rfl ?_
    refine J.y (op_pickT rfl rfl rfl) rfl rfl rfl ?_
    refine J.y (op_move rfl rfl) rfl rfl rfl ?_
    refine J.no (Wan.is rfl rfl rfl rfl rfl) rfl rfl ?_
    refine J.no (Wan.is rfl rfl rfl rfl rfl) rfl rfl ?_
    refine J.no (Wan.is rfl rfl rfl rfl rfl) rfl rfl ?_
    refine J.y (op_pickT rfl rfl rfl) rfl rfl rfl ?_
    refine J.y (op_move rfl rfl) rfl rfl rfl ?_
    refine J.no (Wan.is rfl rfl rfl rfl rfl) rfl rfl ?_
    refine J.no (Wan.is rfl rfl rfl rfl rfl) rfl rfl ?_
    refine J.no (Wan.is rfl rfl rfl rfl rfl) rfl rfl ?_
    refine J.y (op_pickT rfl rfl rfl) rfl rfl rfl ?_
    refine J.y (op_assign rfl rfl) rfl rfl rfl ?_
    refine J.nil ?_
    refine J.then_n (J.k hK4 ?_)
    refine J.keepE [(1, _), (3, _), (9, _)] ⟨rfl, rfl, rfl, trivial⟩ ?_
    refine J.condT rfl rfl ?_
    refine J.seq (fun K5 hK5 => ?_)
    refine J.region ?_
    refine J.y (op_assign rfl rfl) rfl rfl rfl ?_
    refine J.nil ?_
    refine J.then_n (J.k hK5 ?_)
    refine J.keepE [(2, _)] ⟨rfl, trivial⟩ ?_
    refine J.ret ?_
    refine J.blk_r ?_
    refine J.then_r ?_
    exact J.done hw0 (fun _ _ h => h) (res1 rfl rfl) (retOk () (congrArg I (err_10 (show x.out by unfold Hd.out; omega)).symm) trivial [0] rfl (by decide))
  ·
    refine J.yg (Wan.is rfl rfl rfl rfl rfl) (op_fieldAddr (j := 1) rfl rfl Tryd.underlying57 rfl Tryd.sizeOf9 rfl) rfl rfl ?_
    refine J.yg (Wan.is rfl rfl rfl rfl rfl) (op_loadB 1 rfl rfl rfl Tryd.isAgg9 rfl) rfl rfl ?_
    refine J.yg (Wan.is rfl rfl rfl rfl rfl) (op_slen Tryd.underlying9 rfl rfl) rfl rfl ?_
    refine J.yg (Wan.is rfl rfl rfl rfl rfl) (op_neq rfl rfl rfl) rfl rfl ?_
    refine J.y (op_pickF rfl rfl rfl) rfl rfl rfl ?_
    refine J.y (op_move rfl rfl) rfl rfl rfl ?_
    refine J.split (d := 19) rfl (fun h19 => ?_) (fun h19 => ?_)
    ·
      refine J.no (Wan.is rfl rfl rfl rfl rfl) rfl rfl ?_
      refine J.no (Wan.is rfl rfl rfl rfl rfl) rfl rfl ?_
      refine J.y (op_pickT rfl rfl rfl) rfl rfl rfl ?_
      refine J.y (op_move rfl rfl) rfl rfl rfl ?_
      refine J.no (Wan.is rfl rfl rfl rfl rfl) rfl rfl ?_
      refine J.no (Wan.is rfl rfl rfl rfl rfl) rfl rfl ?_
      refine J.no (Wan.is rfl rfl rfl rfl rfl) rfl rfl ?_
      refine J.y (op_pickT rfl rfl rfl) rfl rfl rfl ?_
      refine J.y (op_move rfl rfl) rfl rfl rfl ?_
      refine J.no (Wan.is rfl rfl rfl rfl rfl) rfl rfl ?_
      refine J.no (Wan.is rfl rfl rfl rfl rfl) rfl rfl ?_
      refine J.no (Wan.is rfl rfl rfl rfl rfl) rfl rfl ?_
      refine J.y (op_pickT rfl rfl rfl) rfl rfl rfl ?_
      refine J.y (op_assign rfl rfl) rfl rfl rfl ?_
      refine J.nil ?_
      refine J.then_n (J.k hK4 ?_)
      refine J.keepE [(1, _), (3, _), (9, _)] ⟨rfl, rfl, rfl, trivial⟩ ?_
      refine J.condT rfl rfl ?_
      refine J.seq (fun K6 hK6 => ?_)
      refine J.region ?_
      refine J.y (op_assign rfl rfl) rfl rfl rfl ?_
      refine J.nil ?_
      refine J.then_n (J.k hK6 ?_)
      refine J.keepE [(2, _)] ⟨rfl, trivial⟩ ?_
      refine J.ret ?_
      refine J.blk_r ?_
      refine J.then_r ?_
      exact J.done hw0 (fun _ _ h => h) (res1 rfl rfl) (retOk () (congrArg I (err_10 (show x.out by unfold Hd.out; omega)).symm) trivial [0] rfl (by decide))
    ·
      refine J.yg (Wan.is rfl rfl rfl rfl rfl) (op_move rfl rfl) rfl rfl ?_
      refine J.yg (Wan.is rfl rfl rfl rfl rfl) (op_eql rfl rfl rfl) rfl rfl ?_
      refine J.y (op_pickF rfl rfl rfl) rfl rfl rfl ?_
      refine J.y (op_move rfl rfl) rfl rfl rfl ?_
      refine J.split (d := 23) rfl (fun h23 => ?_) (fun h23 => ?_)
      ·
        refine J.no (Wan.is rfl rfl rfl rfl rfl) rfl rfl ?_
        refine J.no (Wan.is rfl rfl rfl rfl rfl) rfl rfl ?_
        refine J.no (Wan.is rfl rfl rfl rfl rfl) rfl rfl ?_
        refine J.y (op_pickT rfl rfl rfl) rfl rfl rfl ?_
        refine J.y (op_move rfl rfl) rfl rfl rfl ?_
        refine J.no (Wan.is rfl rfl rfl rfl rfl) rfl rfl ?_
        refine J.no (Wan.is rfl rfl rfl rfl rfl) rfl rfl ?_
        refine J.no (Wan.is rfl rfl rfl rfl rfl) rfl rfl ?_
        refine J.y (op_pickT rfl rfl rfl) rfl rfl rfl ?_
        refine J.y (op_assign rfl rfl) rfl rfl rfl ?_
        refine J.nil ?_
        refine J.then_n (J.k hK4 ?_)
        refine J.keepE [(1, _), (3, _), (9, _)] ⟨rfl, rfl, rfl, trivial⟩ ?_
        refine J.condT rfl rfl ?_
        refine J.seq (fun K7 hK7 => ?_)
        refine J.region ?_
        refine J.y (op_assign rfl rfl) rfl rfl rfl ?_
        refine J.nil ?_
        refine J.then_n (J.k hK7 ?_)
        refine J.keepE [(2, _)] ⟨rfl, trivial⟩ ?_
        refine J.ret ?_
        refine J.blk_r ?_
        refine J.then_r ?_
        exact J.done hw0 (fun _ _ h => h) (res1 rfl rfl) (retOk () (congrArg I (err_10 (show x.out by unfold Hd.out; omega)).symm) trivial [0] rfl (by decide))
      ·
        refine J.yg (Wan.is rfl rfl rfl rfl rfl) (op_fieldAddr (j := 3) rfl rfl Tryd.underlying57 rfl Tryd.sizeOf3 rfl) rfl rfl ?_
        refine J.yg (Wan.is rfl rfl rfl rfl rfl) (op_loadB 1 rfl rfl rfl Tryd.isAgg3 rfl) rfl rfl ?_
        refine J.yg (Wan.is rfl rfl rfl rfl rfl) (op_lss rfl rfl rfl) rfl rfl ?_
        refine J.y (op_pickF rfl rfl rfl) rfl rfl rfl ?_
        refine J.y (op_move rfl rfl) rfl rfl rfl ?_
        refine J.split (d := 28) rfl (fun h28 => ?_) (fun h28 => ?_)
        ·
          refine J.no (Wan.is rfl rfl rfl rfl rfl) rfl rfl ?_
          refine J.no (Wan.is rfl rfl rfl rfl rfl) rfl rfl ?_
          refine J.no (Wan.is rfl rfl rfl rfl rfl) rfl rfl ?_
          refine J.y (op_pickT rfl rfl rfl) rfl rfl rfl ?_
          refine J.y (op_assign rfl rfl) rfl rfl rfl ?_
          refine J.nil ?_
          refine J.then_n (J.k hK4 ?_)
          refine J.keepE [(1, _), (3, _), (9, _)] ⟨rfl, rfl, rfl, trivial⟩ ?_
          refine J.condT rfl rfl ?_
          refine J.seq (fun K8 hK8 => ?_)
          refine J.region ?_
          refine J.y (op_assign rfl rfl) rfl rfl rfl ?_
          refine J.nil ?_
          refine J.then_n (J.k hK8 ?_)
          refine J.keepE [(2, _)] ⟨rfl, trivial⟩ ?_
          refine J.ret ?_
          refine J.blk_r ?_
          refine J.then_r ?_
          exact J.done hw0 (fun _ _ h => h) (res1 rfl rfl) (retOk () (congrArg I (err_10 (show x.out by unfold Hd.out; omega)).symm) trivial [0] rfl (by decide))
        ·
          refine J.yg (Wan.is rfl rfl rfl rfl rfl) (op_fieldAddr (j := 3) rfl rfl Tryd.underlying57 rfl Tryd.sizeOf3 rfl) rfl rfl ?_
          refine J.yg (Wan.is rfl rfl rfl rfl rfl) (op_loadB 1 rfl rfl rfl Tryd.isAgg3 rfl) rfl rfl ?_
          refine J.yg (Wan.is rfl rfl rfl rfl rfl) (op_gtr rfl rfl rfl) rfl rfl ?_
          refine J.y (op_pickF rfl rfl rfl) rfl rfl rfl ?_
          refine J.y (op_assign rfl rfl) rfl rfl rfl ?_
          refine J.nil ?_
          refine J.then_n (J.k hK4 ?_)
          refine J.keepE [(1, _), (3, _), (9, _)] ⟨rfl, rfl, rfl, trivial⟩ ?_
          refine J.ite rfl (fun h9 => ?_) (fun h9 => ?_)
          ·
            refine J.seq (fun K9 hK9 => ?_)
            refine J.region ?_
            refine J.y (op_assign rfl rfl) rfl rfl rfl ?_
            refine J.nil ?_
            refine J.then_n (J.k hK9 ?_)
            refine J.keepE [(2, _)] ⟨rfl, trivial⟩ ?_
            refine J.ret ?_
            refine J.blk_r ?_
            refine J.then_r ?_
            exact J.done hw0 (fun _ _ h => h) (res1 rfl rfl) (retOk () (congrArg I (err_10 (show x.out by unfold Hd.out; omega)).symm) trivial [0] rfl (by decide))
          ·
            refine J.seq (fun K10 hK10 => ?_)
            refine J.region ?_
            refine J.y (op_fieldAddr (j := 4) rfl rfl Tryd.underlying57 rfl Tryd.sizeOf30 rfl) rfl rfl rfl ?_
            refine J.y (op_loadB 1 rfl rfl rfl Tryd.isAgg30 rfl) rfl rfl rfl ?_
            refine J.y (op_len Tryd.underlying30 rfl rfl) rfl rfl rfl ?_
            refine J.y (op_move rfl rfl) rfl rfl rfl ?_
            refine J.y (op_neq rfl rfl rfl) rfl rfl rfl ?_
            refine J.y (op_assign rfl rfl) rfl rfl rfl ?_
            refine J.nil ?_
            refine J.then_n (J.k hK10 ?_)
            refine J.keepE [(1, _), (33, _)] ⟨rfl, rfl, trivial⟩ ?_
            refine J.ite rfl (fun h33 => ?_) (fun h33 => ?_)
            ·
              refine J.seq (fun K11 hK11 => ?_)
              refine J.region ?_
              refine J.y (op_assign rfl rfl) rfl rfl rfl ?_
              refine J.nil ?_
              refine J.then_n (J.k hK11 ?_)
              refine J.keepE [(2, _)] ⟨rfl, trivial⟩ ?_
              refine J.ret ?_
              refine J.blk_r ?_
              refine J.then_r ?_
              exact J.done hw0 (fun _ _ h => h) (res1 rfl rfl) (retOk () (congrArg I (err_22 (by unfold Hd.out; omega) (by omega)).symm) trivial [0] rfl (by decide))
            ·
              refine J.skip ?_
              refine J.blk_n ?_
              refine J.then_n (J.k hK3 ?_)
              refine J.keepE [(1, _)] ⟨rfl, trivial⟩ ?_
              refine J.seq (fun K12 hK12 => ?_)
              refine J.seq (fun K13 hK13 => ?_)
              have hno : ¬ x.out := by unfold Hd.out; omega
              have hcn : ¬ x.nodes.length ≠ cnt x.dep := by omega
              refine J.region ?_
              refine J.y (op_fieldAddr (j := 4) rfl rfl Tryd.underlying57 rfl Tryd.sizeOf30 rfl) rfl rfl rfl ?_
              refine J.y (op_loadB 1 rfl rfl rfl Tryd.isAgg30 rfl) rfl rfl rfl ?_
              refine J.y (op_len Tryd.underlying30 rfl rfl) rfl rfl rfl ?_
              refine J.y (op_move rfl rfl) rfl rfl rfl ?_
              refine J.nil ?_
              refine J.then_n (J.k hK13 ?_)
              refine J.keepE [(40, _), (41, _), (42, _)] ⟨rfl, rfl, rfl, trivial⟩ ?_
              refine J.block ?_
              refine J.loop (X := Nat) (fun k => [(40, .slice A x.nodes.length c), (41, I x.nodes.length), (42, I k)]) (fun _ => [F, blk g1 [N64 x.ep, Str x.par, I x.dep, I x.aud, .slice A x.nodes.length c] 57]) (fun k => k ≤ x.nodes.length ∧ ∀ s ∈ x.nodes.take k, nodeP s) (fun k => x.nodes.length - k) 0 (⟨Nat.zero_le _, fun s hs => by simp at hs⟩) ⟨rfl, rfl, rfl, trivial⟩ (fun _ h => h) ?_
              intro k ⟨hk, hall⟩ I0 hI0
              refine J.seq (fun K14 hK14 => ?_)
              refine J.region ?_
              refine J.y (op_lss rfl rfl rfl) rfl rfl rfl ?_
              refine J.nil ?_
              refine J.then_n (J.k hK14 ?_)
              refine J.keepE [(40, _), (41, _), (42, _), (43, _)] ⟨rfl, rfl, rfl, rfl, trivial⟩ ?_
              refine J.seq (fun K15 hK15 => ?_)
              refine J.ite rfl (fun h43 => ?_) (fun h43 => ?_)
              ·
                refine J.skip ?_
                refine J.then_n (J.k hK15 ?_)
                refine J.keepE [(40, _), (41, _), (42, _)] ⟨rfl, rfl, rfl, trivial⟩ ?_
                refine J.seq (fun K16 hK16 => ?_)
                refine J.block ?_
                refine J.seq (fun K17 hK17 => ?_)
                refine J.region ?_
                refine J.y (op_indexAddr (i := k) rfl rfl rfl Tryd.underlying30 Tryd.sizeOf9 hsl (by omega)) rfl rfl rfl ?_
                refine J.y (op_load rfl rfl Tryd.isAgg9 (m := F) (by simp) (hsl.elem (strsV_get (getSome [] (show k < x.nodes.length by omega))))) rfl rfl rfl ?_
                refine J.y (op_assign rfl rfl) rfl rfl rfl ?_
                refine J.nil ?_
                refine J.then_n (J.k hK17 ?_)
                refine J.keepE [(5, _), (40, _), (41, _), (42, _)] ⟨rfl, rfl, rfl, rfl, trivial⟩ ?_
                refine J.seq (fun K18 hK18 => ?_)
                refine J.region ?_
                refine J.y (op_move rfl rfl) rfl rfl rfl ?_
                refine J.e (op_call rfl rfl ent101 (Ct.use0 (fun F' hF => hnode_ct F' (x.nodes.getD k [])))) rfl rfl rfl ?_
                intro g47 _
                refine J.y (op_notD rfl rfl) rfl rfl rfl ?_
                refine J.nil ?_
                refine J.then_n (J.k hK18 ?_)
                refine J.keepE [(40, _), (41, _), (42, _), (48, _)] ⟨rfl, rfl, rfl, rfl, trivial⟩ ?_
                refine J.ite rfl (fun h48 => ?_) (fun h48 => ?_)
                ·
                  refine J.seq (fun K19 hK19 => ?_)
                  refine J.region ?_
                  refine J.y (op_assign rfl rfl) rfl rfl rfl ?_
                  refine J.nil ?_
                  refine J.then_n (J.k hK19 ?_)
                  refine J.keepE [(2, _)] ⟨rfl, trivial⟩ ?_
                  refine J.ret ?_
                  refine J.blk_r ?_
                  refine J.then_r ?_
                  refine J.then_r ?_
                  refine J.blk_r ?_
                  refine J.then_r ?_
                  exact J.done hw0 (fun _ _ h => h) (res1 rfl rfl) (retOk () (congrArg I (err_4 hno hcn (getD_in (show k < x.nodes.length by omega)) h48).symm) trivial [0] rfl (by decide))
                ·
                  refine J.skip ?_
                  refine J.blk_n ?_
                  refine J.then_n (J.k hK16 ?_)
                  refine J.keepE [(40, _), (41, _), (42, _)] ⟨rfl, rfl, rfl, trivial⟩ ?_
                  refine J.region ?_
                  refine J.y ((op_add rfl rfl rfl (by first | omega | (refine ⟨?_, ?_⟩ <;> omega))).as (v' := I ((k + 1 : Nat) : Int)) (congrArg I (by omega))) rfl rfl rfl ?_
                  refine J.y (op_move rfl rfl) rfl rfl rfl ?_
                  refine J.nil ?_
                  refine J.then_n ?_
                  exact J.kk (k + 1) (fun x2 (hx : _ ∧ x.nodes.length - x2 < x.nodes.length - k) => hI0 x2 hx.1 hx.2) ⟨⟨by omega, allTake (by omega) hall (Decidable.not_not.1 h48)⟩, by omega⟩ ⟨rfl, rfl, rfl, trivial⟩ (fun _ h => h)
              ·
                refine J.exit ?_
                refine J.then_x ?_
                refine J.then_x ?_
                refine J.blk_eq ?_
                refine J.then_n (J.k hK12 ?_)
                refine J.keepE [] trivial ?_
                refine J.seq (fun K20 hK20 => ?_)
                rw [List.take_of_length_le (by omega)] at hall
                refine J.region ?_
                refine J.y (op_assign rfl rfl) rfl rfl rfl ?_
                refine J.nil ?_
                refine J.then_n (J.k hK20 ?_)
                refine J.keepE [(2, _)] ⟨rfl, trivial⟩ ?_
                refine J.ret ?_
                exact J.done hw0 (fun _ _ h => h) (res1 rfl rfl) (retOk () (congrArg I (err_0 hno hcn hall).symm) trivial [0] rfl (by decide))

def Hd.base (x : Hd) : List UInt8 := Sha.numB (UInt64.ofNat x.ep) 4 ++ x.par ++ [UInt8.ofNat x.dep.toNat] ++ [UInt8.ofNat x.aud.toNat]
theorem numB1h : ∀ k, k < 65 → Sha.numB (UInt64.ofNat k) 1 = [UInt8.ofNat k] := by decide +kernel
theorem okN1h : ∀ k, k < 65 → okN (UInt64.ofNat k) 1 = true := by decide +kernel
theorem out_inv {x : Hd} (h : ¬ x.out) : x.ep ≤ 4294967295 ∧ x.par.length = 16 ∧ (0 ≤ x.dep ∧ x.dep ≤ 4) ∧ 0 ≤ x.aud ∧ x.aud ≤ 64 := by
  have h1 : ¬ cnt x.dep = 0 := fun e => h (.inr (.inr (.inl e)))
  rw [cnt_zero] at h1
  unfold Hd.out at h
  omega
theorem nd_take {l : List (List UInt8)} {k : Nat} (h : k < l.length) : ((l.take (k + 1)).map ndB).flatten = ((l.take k).map ndB).flatten ++ ndB (l.getD k []) := by
  rw [List.take_succ_eq_append_getElem h, List.map_append, List.flatten_append, List.map_cons, List.map_nil, List.flatten_cons, List.flatten_nil, List.append_nil, List.getD_eq_getElem?_getD, List.getElem?_eq_getElem h]; rfl
theorem nd_small {l : List (List UInt8)} (h : ∀ s ∈ l, nodeP s) : (l.map ndB).flatten.length ≤ 19 * l.length := by
  induction l with
  | nil => exact Nat.zero_le _
  | cons a l ih =>
    have h1 := ih (fun s hs => h s (.tail _ hs))
    have h2 := node_len (h a (.head _))
    rw [List.map_cons, List.flatten_cons, List.length_append, List.length_cons]
    unfold ndB at h1 ⊢
    rw [List.length_append, Sha.numB_length]; omega
theorem base_len {x : Hd} (h : ¬ x.out) : x.base.length = 22 := by
  have := out_inv h
  unfold Hd.base
  simp only [List.length_append, Sha.numB_length, List.length_singleton]; omega

theorem hencode_ct (F : Hp) (x : Hd) (A : Option Addr) (c : Nat) (hg : x.good) (hsl : Sl F 1 A x.nodes.length c (strsV x.nodes)) :
    Ct Tryd.prog 45 [.agg #[N64 x.ep, Str x.par, I x.dep, I x.aud, .slice A x.nodes.length c]] [F] (fun _ : Unit => .tuple #[Str x.enc, I x.err]) (fun _ => True) (fun _ => [F]) := by
  refine Ct.walk Tryd.func45 rfl Tryd.ntmps45 rfl (fun w0 hw0 => ?_)
  change J _ [(0, _)] _ _ _
  refine J.seq (fun K1 hK1 => ?_)
  refine J.region ?_
  refine J.e (op_box rfl rfl (l := [N64 x.ep, Str x.par, I x.dep, I x.aud, .slice A x.nodes.length c]) rfl) rfl rfl rfl ?_
  intro g1 _
  change J _ _ _ [F, blk g1 [N64 x.ep, Str x.par, I x.dep, I x.aud, .slice A x.nodes.length c] 57] _
  refine J.y (op_assign rfl rfl) rfl rfl rfl ?_
  refine J.y (op_assign rfl rfl) rfl rfl rfl ?_
  refine J.nil ?_
  refine J.then_n (J.k hK1 ?_)
  refine J.keepE [(1, _)] ⟨rfl, trivial⟩ ?_
  refine J.seq (fun K2 hK2 => ?_)
  refine J.seq (fun K3 hK3 => ?_)
  refine J.region ?_
  refine J.y (op_loadBA 1 rfl rfl rfl Tryd.isAgg57 Tryd.sizeOf57 rfl) rfl rfl rfl ?_
  refine J.e (op_call rfl rfl ent72 (Ct.use0 (fun F' hF => hcheck_ct F' x A c hg (hsl.mono (hF F (by simp)))))) rfl rfl rfl ?_
  intro g9 _
  refine J.y (op_assign rfl rfl) rfl rfl rfl ?_
  refine J.nil ?_
  refine J.then_n (J.k hK3 ?_)
  refine J.keepE [(1, _), (4, _)] ⟨rfl, rfl, trivial⟩ ?_
  refine J.seq (fun K4 hK4 => ?_)
  refine J.region ?_
  refine J.y (op_move rfl rfl) rfl rfl rfl ?_
  refine J.y (op_neq rfl rfl rfl) rfl rfl rfl ?_
  refine J.nil ?_
  refine J.then_n (J.k hK4 ?_)
  refine J.keepE [(1, _), (4, _), (11, _)] ⟨rfl, rfl, rfl, trivial⟩ ?_
  refine J.ite rfl (fun h11 => ?_) (fun h11 => ?_)
  ·
    refine J.seq (fun K5 hK5 => ?_)
    refine J.region ?_
    refine J.y (op_move rfl rfl) rfl rfl rfl ?_
    refine J.y (op_assign rfl rfl) rfl rfl rfl ?_
    refine J.y (op_assign rfl rfl) rfl rfl rfl ?_
    refine J.nil ?_
    refine J.then_n (J.k hK5 ?_)
    refine J.keepE [(2, _), (3, _)] ⟨rfl, rfl, trivial⟩ ?_
    refine J.ret ?_
    refine J.then_r ?_
    exact J.done hw0 (fun _ _ h => h) (res2 rfl rfl rfl) (retOk () (by unfold Hd.enc; rw [if_neg (by omega)]) trivial [0] rfl (by decide))
  ·
    refine J.skip ?_
    refine J.then_n (J.k hK2 ?_)
    refine J.keepE [(1, _)] ⟨rfl, trivial⟩ ?_
    refine J.seq (fun K6 hK6 => ?_)
    have e0 : x.err = 0 := by omega
    obtain ⟨e1, e2, e3⟩ := err_inv e0
    obtain ⟨e4, e5, e6, e7, e8⟩ := out_inv e1
    have hbl := base_len e1
    have hc16 := cnt_le x.dep
    refine J.region ?_
    refine J.e (op_alloc rfl Tryd.zeroValue123 rfl) rfl rfl rfl ?_
    intro g5 _
    change J _ _ _ [F, blk g1 [N64 x.ep, Str x.par, I x.dep, I x.aud, .slice A x.nodes.length c] 57, blk g5 _ 123] _
    refine J.nil ?_
    refine J.then_n (J.k hK6 ?_)
    refine J.keepE [(1, _), (5, _)] ⟨rfl, rfl, trivial⟩ ?_
    refine J.seq (fun K7 hK7 => ?_)
    refine J.draw [blk g1 [N64 x.ep, Str x.par, I x.dep, I x.aud, .slice A x.nodes.length c] 57] [] (.y 0 (.y 1 (.y 3 (.y 4 (.y 6 (.y 7 (.y 8 (.y 10 (.y 11 (.y 12 (.e 2 (.e 5 (.e 9 (.e 13 .nil)))))))))))))) Tryd.wide (by decide +kernel) (by simp) ?_
    refine J.dy rfl (op_fieldAddr (j := 0) rfl rfl Tryd.underlying57 rfl Tryd.sizeOf47 rfl) rfl rfl rfl rfl ?_
    refine J.dy rfl (op_loadB 0 rfl rfl rfl Tryd.isAgg47 rfl) rfl rfl rfl rfl ?_
    refine J.dy rfl (op_fieldAddr (j := 1) rfl rfl Tryd.underlying57 rfl Tryd.sizeOf9 rfl) rfl rfl rfl rfl ?_
    refine J.dy rfl (op_loadB 0 rfl rfl rfl Tryd.isAgg9 rfl) rfl rfl rfl rfl ?_
    refine J.dy rfl (op_fieldAddr (j := 2) rfl rfl Tryd.underlying57 rfl Tryd.sizeOf3 rfl) rfl rfl rfl rfl ?_
    refine J.dy rfl (op_loadB 0 rfl rfl rfl Tryd.isAgg3 rfl) rfl rfl rfl rfl ?_
    refine J.dy rfl ((op_cvZ_i64_u64 rfl rfl Tryd.underlying3 Tryd.underlying47).as (v' := W64 (UInt64.ofNat x.dep.toNat)) (by rw [show (x.dep % 18446744073709551616).toNat = x.dep.toNat by omega])) rfl rfl rfl rfl ?_
    refine J.dy rfl (op_fieldAddr (j := 3) rfl rfl Tryd.underlying57 rfl Tryd.sizeOf3 rfl) rfl rfl rfl rfl ?_
    refine J.dy rfl (op_loadB 0 rfl rfl rfl Tryd.isAgg3 rfl) rfl rfl rfl rfl ?_
    refine J.dy rfl ((op_cvZ_i64_u64 rfl rfl Tryd.underlying3 Tryd.underlying47).as (v' := W64 (UInt64.ofNat x.aud.toNat)) (by rw [show (x.aud % 18446744073709551616).toNat = x.aud.toNat by omega])) rfl rfl rfl rfl ?_
    refine J.de rfl (op_call rfl rfl ent73 (Ct.use1 2 (m' := fun x : Hp => x) (new := fun _ => []) rfl (fun F' _ => numN_ct F' (blk g5 [.pointer none, .slice none 0 0, I 0] 123) g5 [] 0 (wtr_new g5) (by decide) x.ep (by omega) 4 (by omega) (by omega)))) rfl rfl rfl (by simp) ?_
    rintro m15 hw15
    change J _ _ _ [F, blk g1 [N64 x.ep, Str x.par, I x.dep, I x.aud, .slice A x.nodes.length c] 57, m15] _
    rw [okN_t (size := 4) (by omega) (by omega), fbad_t, wnum_ok (okN_t (size := 4) (by omega) (by omega)), List.nil_append] at hw15
    refine J.de rfl (op_call rfl rfl ent74 (Ct.use1 2 (m' := fun x : Hp => x) (new := fun _ => []) rfl (fun F' _ => fixed_ct F' m15 g5 (Sha.numB (UInt64.ofNat x.ep) 4) 0 hw15 (by rw [Sha.numB_length]; omega) x.par (by omega) 16))) rfl rfl rfl (by simp) ?_
    rintro m18 hw18
    change J _ _ _ [F, blk g1 [N64 x.ep, Str x.par, I x.dep, I x.aud, .slice A x.nodes.length c] 57, m18] _
    rw [wfix_t e5, okF_t e5, fbad_t] at hw18
    refine J.de rfl (op_call rfl rfl ent73 (Ct.use1 2 (m' := fun x : Hp => x) (new := fun _ => []) rfl (fun F' _ => num_ct F' m18 g5 ((Sha.numB (UInt64.ofNat x.ep) 4) ++ x.par) 0 hw18 (by simp only [List.length_append, Sha.numB_length]; omega) (UInt64.ofNat x.dep.toNat) 1 (by omega) (by omega)))) rfl rfl rfl (by simp) ?_
    rintro m22 hw22
    change J _ _ _ [F, blk g1 [N64 x.ep, Str x.par, I x.dep, I x.aud, .slice A x.nodes.length c] 57, m22] _
    rw [okN1h _ (by omega), fbad_t, wnum_ok (okN1h _ (by omega)), numB1h _ (by omega)] at hw22
    refine J.de rfl (op_call rfl rfl ent73 (Ct.use1 2 (m' := fun x : Hp => x) (new := fun _ => []) rfl (fun F' _ => num_ct F' m22 g5 (((Sha.numB (UInt64.ofNat x.ep) 4) ++ x.par) ++ [UInt8.ofNat x.dep.toNat]) 0 hw22 (by simp only [List.length_append, Sha.numB_length, List.length_singleton]; omega) (UInt64.ofNat x.aud.toNat) 1 (by omega) (by omega)))) rfl rfl rfl (by simp) ?_
    rintro m26 hw26
    change J _ _ _ [F, blk g1 [N64 x.ep, Str x.par, I x.dep, I x.aud, .slice A x.nodes.length c] 57, m26] _
    rw [okN1h _ (by omega), fbad_t, wnum_ok (okN1h _ (by omega)), numB1h _ (by omega)] at hw26
    refine J.dnil ?_
    refine J.then_n (J.k hK7 ?_)
    refine J.keepE [(1, _), (5, _)] ⟨rfl, rfl, trivial⟩ ?_
    refine J.seq (fun K8 hK8 => ?_)
    refine J.seq (fun K9 hK9 => ?_)
    refine J.region ?_
    refine J.y (op_fieldAddr (j := 4) rfl rfl Tryd.underlying57 rfl Tryd.sizeOf30 rfl) rfl rfl rfl ?_
    refine J.y (op_loadB 1 rfl rfl rfl Tryd.isAgg30 rfl) rfl rfl rfl ?_
    refine J.y (op_len Tryd.underlying30 rfl rfl) rfl rfl rfl ?_
    refine J.y (op_move rfl rfl) rfl rfl rfl ?_
    refine J.nil ?_
    refine J.then_n (J.k hK9 ?_)
    refine J.keepE [(5, _), (28, _), (29, _), (30, _)] ⟨rfl, rfl, rfl, rfl, trivial⟩ ?_
    refine J.block ?_
    refine J.loop (X := Nat × Hp) (fun x2 => [(5, Ptr g5), (28, .slice A x.nodes.length c), (29, I x.nodes.length), (30, I x2.1)]) (fun x2 => [F, blk g1 [N64 x.ep, Str x.par, I x.dep, I x.aud, .slice A x.nodes.length c] 57, x2.2]) (fun x2 => x2.1 ≤ x.nodes.length ∧ Wtr x2.2 g5 (x.base ++ ((x.nodes.take x2.1).map ndB).flatten) 0) (fun x2 => x.nodes.length - x2.1) (0, m26) (⟨Nat.zero_le _, by rw [List.take_zero, List.map_nil, List.flatten_nil, List.append_nil]; exact hw26⟩) ⟨rfl, rfl, rfl, rfl, trivial⟩ (fun _ h => h) ?_
    rintro ⟨k, m⟩ ⟨hk, hw⟩ I0 hI0
    dsimp only at hk hw ⊢
    refine J.seq (fun K10 hK10 => ?_)
    refine J.region ?_
    refine J.y (op_lss rfl rfl rfl) rfl rfl rfl ?_
    refine J.nil ?_
    refine J.then_n (J.k hK10 ?_)
    refine J.keepE [(5, _), (28, _), (29, _), (30, _), (31, _)] ⟨rfl, rfl, rfl, rfl, rfl, trivial⟩ ?_
    refine J.seq (fun K11 hK11 => ?_)
    refine J.ite rfl (fun h31 => ?_) (fun h31 => ?_)
    ·
      refine J.skip ?_
      refine J.then_n (J.k hK11 ?_)
      refine J.keepE [(5, _), (28, _), (29, _), (30, _)] ⟨rfl, rfl, rfl, rfl, trivial⟩ ?_
      refine J.seq (fun K12 hK12 => ?_)
      refine J.block ?_
      refine J.seq (fun K13 hK13 => ?_)
      refine J.region ?_
      refine J.y (op_indexAddr (i := k) rfl rfl rfl Tryd.underlying30 Tryd.sizeOf9 hsl (by omega)) rfl rfl rfl ?_
      refine J.y (op_load rfl rfl Tryd.isAgg9 (m := F) (by simp) (hsl.elem (strsV_get (getSome [] (show k < x.nodes.length by omega))))) rfl rfl rfl ?_
      refine J.y (op_assign rfl rfl) rfl rfl rfl ?_
      refine J.nil ?_
      refine J.then_n (J.k hK13 ?_)
      refine J.keepE [(5, _), (7, _), (28, _), (29, _), (30, _)] ⟨rfl, rfl, rfl, rfl, rfl, trivial⟩ ?_
      have hnl := node_len (e3 _ (getD_in (show k < x.nodes.length by omega)))
      refine J.region ?_
      refine J.y (op_move rfl rfl) rfl rfl rfl ?_
      refine J.e (op_call rfl rfl ent81 (Ct.use1 2 (m' := fun x : Hp => x) (new := fun _ => []) rfl (fun F' _ => text_ct F' m g5 (x.base ++ ((x.nodes.take k).map ndB).flatten) 0 hw (by have := nd_small (fun s hs => e3 s (List.mem_of_mem_take hs) : ∀ s ∈ x.nodes.take k, nodeP s); rw [List.length_take] at this; rw [List.length_append, hbl]; omega) (x.nodes.getD k []) (by omega)))) rfl rfl rfl ?_
      rintro m35 hw35
      change J _ _ _ [F, blk g1 [N64 x.ep, Str x.par, I x.dep, I x.aud, .slice A x.nodes.length c] 57, m35] _
      rw [(wtext_ok (by omega)).1, (wtext_ok (s := x.nodes.getD k []) (bs := []) (by omega)).2, List.append_assoc, List.append_assoc] at hw35
      change Wtr m35 g5 (x.base ++ (((x.nodes.take k).map ndB).flatten ++ ndB (x.nodes.getD k []))) 0 at hw35
      rw [← nd_take (by omega)] at hw35
      refine J.nil ?_
      refine J.blk_n ?_
      refine J.then_n (J.k hK12 ?_)
      refine J.keepE [(5, _), (28, _), (29, _), (30, _)] ⟨rfl, rfl, rfl, rfl, trivial⟩ ?_
      refine J.region ?_
      refine J.y ((op_add rfl rfl rfl (by first | omega | (refine ⟨?_, ?_⟩ <;> omega))).as (v' := I ((k + 1 : Nat) : Int)) (congrArg I (by omega))) rfl rfl rfl ?_
      refine J.y (op_move rfl rfl) rfl rfl rfl ?_
      refine J.nil ?_
      refine J.then_n ?_
      exact J.kk (k + 1, m35) (fun x2 (hx : _ ∧ x.nodes.length - x2.1 < x.nodes.length - k) => hI0 x2 hx.1 hx.2) ⟨⟨by dsimp only; omega, hw35⟩, by dsimp only; omega⟩ ⟨rfl, rfl, rfl, rfl, trivial⟩ (fun _ h => h)
    ·
      refine J.exit ?_
      refine J.then_x ?_
      refine J.then_x ?_
      refine J.blk_eq ?_
      refine J.then_n (J.k hK8 ?_)
      refine J.keepE [(5, _)] ⟨rfl, trivial⟩ ?_
      refine J.seq (fun K14 hK14 => ?_)
      rw [List.take_of_length_le (by omega)] at hw
      change Wtr m g5 x.bytes 0 at hw
      refine J.region ?_
      refine J.e (op_call rfl rfl ent75 (Ct.use1 2 (m' := fun x : Hp => x) (new := fun _ => []) rfl (fun F' _ => bytes_ct F' m g5 x.bytes 0 hw (by have := nd_small e3; unfold Hd.bytes; unfold Hd.base at hbl; rw [List.length_append, hbl]; omega)))) rfl rfl rfl ?_
      rintro m37 _
      change J _ _ _ [F, blk g1 [N64 x.ep, Str x.par, I x.dep, I x.aud, .slice A x.nodes.length c] 57, m37] _
      refine J.y (op_extract (v := Str x.bytes) rfl rfl rfl) rfl rfl rfl ?_
      refine J.y (op_extract (v := I 0) rfl rfl rfl) rfl rfl rfl ?_
      refine J.y (op_assign rfl rfl) rfl rfl rfl ?_
      refine J.y (op_assign rfl rfl) rfl rfl rfl ?_
      refine J.nil ?_
      refine J.then_n (J.k hK14 ?_)
      refine J.keepE [(2, _), (3, _)] ⟨rfl, rfl, trivial⟩ ?_
      refine J.ret ?_
      exact J.done hw0 (fun _ _ h => h) (res2 rfl rfl rfl) (retOk () (by unfold Hd.enc; rw [if_pos e0, e0]) trivial [0] rfl (by decide))

theorem bytes_len {x : Hd} (h : x.err = 0) : x.bytes.length ≤ 326 := by
  obtain ⟨e1, e2, e3⟩ := err_inv h
  have h1 := base_len e1
  have h2 := nd_small e3
  have h3 := cnt_le x.dep
  unfold Hd.bytes
  unfold Hd.base at h1
  rw [List.length_append, h1]; omega
theorem enc_0 {x : Hd} (h : x.err = 0) : x.enc = x.bytes := if_pos h
theorem dig_len {x : Hd} (h : x.err = 0) : x.dig.length = 16 := by unfold Hd.dig; rw [if_pos h, Sha.tagged_length]
theorem dig_small (x : Hd) : x.dig.length ≤ 16 := by
  unfold Hd.dig
  split
  · rw [Sha.tagged_length]; exact Nat.le_refl _
  · exact Nat.zero_le _
theorem dig_nil {x : Hd} : x.dig = [] ↔ x.err ≠ 0 := by
  constructor
  · intro h e
    have := dig_len e
    rw [h] at this
    cases this
  · intro h
    unfold Hd.dig
    rw [if_neg h]

theorem hdigest_ct (F : Hp) (hK : Cells F ⟨0, 0, none⟩ (Sha.K.map W32)) (x : Hd) (A : Option Addr) (c : Nat) (hg : x.good) (hsl : Sl F 1 A x.nodes.length c (strsV x.nodes)) :
    Ct Tryd.prog 47 [.agg #[N64 x.ep, Str x.par, I x.dep, I x.aud, .slice A x.nodes.length c]] [F] (fun _ : Unit => Str x.dig) (fun _ => True) (fun _ => [F]) := by
  refine Ct.walk Tryd.func47 rfl Tryd.ntmps47 rfl (fun w0 hw0 => ?_)
  change J _ [(0, _)] _ _ _
  refine J.seq (fun K1 hK1 => ?_)
  refine J.region ?_
  refine J.e (op_box rfl rfl (l := [N64 x.ep, Str x.par, I x.dep, I x.aud, .slice A x.nodes.length c]) rfl) rfl rfl rfl ?_
  intro g1 _
  change J _ _ _ [F, blk g1 [N64 x.ep, Str x.par, I x.dep, I x.aud, .slice A x.nodes.length c] 57] _
  refine J.y (op_assign rfl rfl) rfl rfl rfl ?_
  refine J.nil ?_
  refine J.then_n (J.k hK1 ?_)
  refine J.keepE [(1, _)] ⟨rfl, trivial⟩ ?_
  refine J.seq (fun K2 hK2 => ?_)
  refine J.region ?_
  refine J.y (op_loadBA 1 rfl rfl rfl Tryd.isAgg57 Tryd.sizeOf57 rfl) rfl rfl rfl ?_
  refine J.e (op_call rfl rfl ent45 (Ct.use0 (fun F' hF => hencode_ct F' x A c hg (hsl.mono (hF F (by simp)))))) rfl rfl rfl ?_
  intro g7 _
  refine J.y (op_move rfl rfl) rfl rfl rfl ?_
  refine J.y (op_extract (v := Str x.enc) rfl rfl rfl) rfl rfl rfl ?_
  refine J.y (op_extract (v := I x.err) rfl rfl rfl) rfl rfl rfl ?_
  refine J.y (op_assign rfl rfl) rfl rfl rfl ?_
  refine J.y (op_assign rfl rfl) rfl rfl rfl ?_
  refine J.nil ?_
  refine J.then_n (J.k hK2 ?_)
  refine J.keepE [(3, _), (4, _)] ⟨rfl, rfl, trivial⟩ ?_
  refine J.seq (fun K3 hK3 => ?_)
  refine J.seq (fun K4 hK4 => ?_)
  refine J.region ?_
  refine J.y (op_move rfl rfl) rfl rfl rfl ?_
  refine J.y (op_neq rfl rfl rfl) rfl rfl rfl ?_
  refine J.nil ?_
  refine J.then_n (J.k hK4 ?_)
  refine J.keepE [(3, _), (11, _)] ⟨rfl, rfl, trivial⟩ ?_
  refine J.ite rfl (fun h11 => ?_) (fun h11 => ?_)
  ·
    refine J.seq (fun K5 hK5 => ?_)
    refine J.region ?_
    refine J.y (op_assign rfl rfl) rfl rfl rfl ?_
    refine J.nil ?_
    refine J.then_n (J.k hK5 ?_)
    refine J.keepE [(2, _)] ⟨rfl, trivial⟩ ?_
    refine J.ret ?_
    refine J.then_r ?_
    exact J.done hw0 (fun _ _ h => h) (res1 rfl rfl) (retOk () (by unfold Hd.dig; rw [if_neg (by omega)]) trivial [0] rfl (by decide))
  ·
    refine J.skip ?_
    refine J.then_n (J.k hK3 ?_)
    refine J.keepE [(3, _)] ⟨rfl, trivial⟩ ?_
    refine J.seq (fun K6 hK6 => ?_)
    have e0 : x.err = 0 := by omega
    refine J.region ?_
    refine J.y ((op_move rfl rfl).as (v' := Str x.bytes) (congrArg Str (enc_0 e0))) rfl rfl rfl ?_
    refine J.e (op_buildSlice (l := [.tmp 12]) (xs := [[Str (x.bytes)]]) rfl rfl rfl rfl Tryd.underlying30 el9 rfl (by decide) (by decide) (by simp)) rfl rfl rfl ?_
    intro g13 _
    change J _ _ _ [F, blk g1 [N64 x.ep, Str x.par, I x.dep, I x.aud, .slice A x.nodes.length c] 57, blk g13 [Str (x.bytes)] 9] _
    refine J.e (op_call rfl rfl ent60 (Ct.use0 (fun F' hF => tagged_ct F' (hK.mono (hF _ (by simp))) 14 (some ⟨g13, 0, none⟩) 1 1 [x.bytes] ((slS [x.bytes] rfl).mono (hF (blk g13 (([x.bytes] : List (List UInt8)).map fun s => Str s) 9) (by simp))) (by have := bytes_len e0; simp; omega) (by decide)))) rfl rfl rfl ?_
    intro g14 _
    refine J.y (op_assign rfl rfl) rfl rfl rfl ?_
    refine J.nil ?_
    refine J.then_n (J.k hK6 ?_)
    refine J.keepE [(2, _)] ⟨rfl, trivial⟩ ?_
    refine J.ret ?_
    exact J.done hw0 (fun _ _ h => h) (res1 rfl rfl) (retOk () (by unfold Hd.dig; rw [if_pos e0]) trivial [0] rfl (by decide))

theorem natB_c (c : UInt8) : natB [c] = c.toNat := by simp [natB]
theorem take_inv {st : RS} {n : Nat} (h : (st.take n).bad = 0) : st.bad = 0 ∧ n ≤ st.s.length ∧ st.take n = ⟨st.s.drop n, 0⟩ ∧ st.out n = st.s.take n := by
  obtain ⟨s, b⟩ := st
  unfold RS.take at h ⊢
  unfold RS.out
  dsimp only at h ⊢
  by_cases hb : b = 0
  · rw [if_pos hb] at h ⊢
    by_cases hn : n ≤ s.length
    · rw [if_pos hn] at h ⊢
      exact ⟨hb, hn, rfl, if_pos ⟨hb, hn⟩⟩
    · rw [if_neg hn] at h; cases h
  · rw [if_neg hb] at h; exact absurd h hb
theorem take_bad {st : RS} {n : Nat} (h : st.bad ≠ 0) : st.take n = st := by unfold RS.take; rw [if_neg h]
theorem out_bad {st : RS} {n : Nat} (h : st.bad ≠ 0) : st.out n = [] := by unfold RS.out; rw [if_neg (fun e => h e.1)]
theorem textR_bad {st : RS} (h : st.bad ≠ 0) : st.textR = st := by
  unfold RS.textR
  rw [out_bad h, if_neg (by decide), take_bad h, take_bad h]
def RS.after : RS → Nat → RS
  | st, 0 => st
  | st, k + 1 => (st.after k).textR
def RS.tx (st : RS) (k : Nat) : List (List UInt8) := (List.range k).map fun j => (st.after j).textS
theorem after_zero (st : RS) : st.after 0 = st := rfl
theorem after_succ (st : RS) (k : Nat) : st.after (k + 1) = (st.after k).textR := rfl
theorem tx_zero (st : RS) : st.tx 0 = [] := rfl
theorem tx_succ (st : RS) (k : Nat) : st.tx (k + 1) = st.tx k ++ [(st.after k).textS] := by unfold RS.tx; rw [List.range_succ, List.map_append]; rfl
theorem tx_length (st : RS) (k : Nat) : (st.tx k).length = k := by unfold RS.tx; rw [List.length_map, List.length_range]
theorem after_front (st : RS) (k : Nat) : st.after (k + 1) = st.textR.after k := by
  induction k with
  | zero => rfl
  | succ k ih => rw [after_succ, ih, after_succ]
theorem tx_front (st : RS) (k : Nat) : st.tx (k + 1) = st.textS :: st.textR.tx k := by
  unfold RS.tx
  rw [List.range_succ_eq_map, List.map_cons, List.map_map]
  refine List.cons_eq_cons.2 ⟨rfl, List.map_congr_left fun j _ => ?_⟩
  show (st.after (j + 1)).textS = _
  rw [after_front]
theorem after_bad {st : RS} (h : st.bad ≠ 0) (k : Nat) : st.after k = st := by
  induction k with
  | zero => rfl
  | succ k ih => rw [after_succ, ih, textR_bad h]
theorem last_zero {st : RS} (h : st.last = 0) : st.bad = 0 ∧ st.s = [] := by
  unfold RS.last at h
  by_cases hb : st.bad = 0
  · rw [if_pos hb] at h
    by_cases hs : st.s = []
    · exact ⟨hb, hs⟩
    · rw [if_neg hs] at h; cases h
  · rw [if_neg hb] at h; exact absurd h hb
theorem text_inv {t : List UInt8} (h : (⟨t, 0⟩ : RS).textR.bad = 0) : ∃ r, t = ndB (⟨t, 0⟩ : RS).textS ++ r ∧ (⟨t, 0⟩ : RS).textR = ⟨r, 0⟩ := by
  unfold RS.textR at h ⊢
  unfold RS.textS
  by_cases h1 : 4096 < natB ((⟨t, 0⟩ : RS).out 2)
  · rw [if_pos h1] at h
    unfold RS.form at h
    by_cases h2 : ((⟨t, 0⟩ : RS).take 2).bad = 0
    · rw [if_pos h2] at h; cases h
    · rw [if_neg h2] at h; exact absurd h h2
  · rw [if_neg h1] at h
    rw [if_neg h1, if_neg h1]
    obtain ⟨a1, a2, a3, a4⟩ := take_inv h
    obtain ⟨b1, b2, b3, b4⟩ := take_inv a1
    rw [b3] at a2 a3 a4
    rw [b3]
    refine ⟨_, ?_, a3⟩
    rw [a4]
    dsimp only at a2 b2 b4 ⊢
    have e : ((t.drop 2).take (natB ((⟨t, 0⟩ : RS).out 2))).length = natB ((⟨t, 0⟩ : RS).out 2) := by rw [List.length_take]; omega
    have hn := numB_natB (t.take 2) (by rw [List.length_take]; omega)
    rw [show (t.take 2).length = 2 by rw [List.length_take]; omega] at hn
    unfold ndB
    rw [e, b4, hn, List.append_assoc, List.take_append_drop, List.take_append_drop]
theorem text_fwd {x : List UInt8} (r : List UInt8) (h : x.length ≤ 4096) : (⟨ndB x ++ r, 0⟩ : RS).textS = x ∧ (⟨ndB x ++ r, 0⟩ : RS).textR = ⟨r, 0⟩ := by
  have hN : (Sha.numB (UInt64.ofNat x.length) 2).length = 2 := Sha.numB_length _ _
  have e1 : (⟨ndB x ++ r, 0⟩ : RS).out 2 = Sha.numB (UInt64.ofNat x.length) 2 := by
    rw [out_ok (by unfold ndB; simp only [List.length_append, hN]; omega)]
    unfold ndB
    rw [List.append_assoc, List.take_left' hN]
  have e2 : (⟨ndB x ++ r, 0⟩ : RS).take 2 = ⟨x ++ r, 0⟩ := by
    rw [take_ok (by unfold ndB; simp only [List.length_append, hN]; omega)]
    unfold ndB
    rw [List.append_assoc, List.drop_left' hN]
  have e3 : natB (Sha.numB (UInt64.ofNat x.length) 2) = x.length := by
    rw [natB_numB _ (by omega) 2 (by decide)]; exact Nat.mod_eq_of_lt (by omega)
  unfold RS.textS RS.textR
  rw [e1, e2, e3, if_neg (by omega), if_neg (by omega), out_ok (by rw [List.length_append]; omega), take_ok (by rw [List.length_append]; omega), List.take_left' rfl, List.drop_left' rfl]
  exact ⟨rfl, rfl⟩
theorem all_fwd : ∀ (l : List (List UInt8)) (r : List UInt8), (∀ x ∈ l, x.length ≤ 4096) → (⟨(l.map ndB).flatten ++ r, 0⟩ : RS).after l.length = ⟨r, 0⟩ ∧ (⟨(l.map ndB).flatten ++ r, 0⟩ : RS).tx l.length = l
  | [], r, _ => ⟨rfl, rfl⟩
  | x :: l, r, h => by
    have h1 := text_fwd ((l.map ndB).flatten ++ r) (h x (.head _))
    have h2 := all_fwd l r (fun y hy => h y (.tail _ hy))
    rw [List.map_cons, List.flatten_cons, List.append_assoc, List.length_cons, after_front, tx_front, h1.1, h1.2]
    exact ⟨h2.1, by rw [h2.2]⟩
theorem all_inv : ∀ (k : Nat) (t : List UInt8), ((⟨t, 0⟩ : RS).after k).bad = 0 → ∃ r, t = (((⟨t, 0⟩ : RS).tx k).map ndB).flatten ++ r ∧ (⟨t, 0⟩ : RS).after k = ⟨r, 0⟩
  | 0, t, _ => ⟨t, rfl, rfl⟩
  | k + 1, t, h => by
    rw [after_front] at h
    by_cases hb : (⟨t, 0⟩ : RS).textR.bad = 0
    · obtain ⟨r, e1, e2⟩ := text_inv hb
      rw [e2] at h
      obtain ⟨r', e3, e4⟩ := all_inv k r h
      refine ⟨r', ?_, by rw [after_front, e2]; exact e4⟩
      rw [tx_front, e2, List.map_cons, List.flatten_cons, List.append_assoc, ← e3]; exact e1
    · rw [after_bad hb] at h; exact absurd h hb
/-- the reader behind a header's numbers -/
def hs1 (s : List UInt8) : RS := (⟨s, 0⟩ : RS).take 4
def hs2 (s : List UInt8) : RS := (hs1 s).take 16
def hs3 (s : List UInt8) : RS := (hs2 s).take 1
def hs4 (s : List UInt8) : RS := (hs3 s).take 1
def hdD (s : List UInt8) : Nat := natB ((hs2 s).out 1)
def hdA (s : List UInt8) : Nat := natB ((hs3 s).out 1)
def hdX (s : List UInt8) : Hd := ⟨natB ((⟨s, 0⟩ : RS).out 4), (hs1 s).out 16, hdD s, hdA s, (hs4 s).tx (cnt (hdD s))⟩
def hdE (s : List UInt8) : Int := if (hs3 s).last ≠ 3 ∧ cnt (hdD s) = 0 then 10 else if ((hs4 s).after (cnt (hdD s))).last ≠ 0 then ((hs4 s).after (cnt (hdD s))).last else (hdX s).err
def Hd.zero : Hd := ⟨0, [], 0, 0, []⟩
def hdY (s : List UInt8) : Hd := if hdE s = 0 then hdX s else Hd.zero
theorem byte_lt {st : RS} : natB (st.out 1) < 256 := by
  have := natB_lt (st.out 1)
  have h2 := st.out_len 1
  exact Nat.lt_of_lt_of_le this (Nat.le_trans (Nat.pow_le_pow_right (by decide) h2) (by decide))
theorem four_lt {st : RS} : natB (st.out 4) < 4294967296 := by
  have := natB_lt (st.out 4)
  have h2 := st.out_len 4
  exact Nat.lt_of_lt_of_le this (Nat.le_trans (Nat.pow_le_pow_right (by decide) h2) (by decide))
theorem hdX_good (s : List UInt8) : (hdX s).good := by
  refine ⟨?_, ?_, ?_⟩
  · have := four_lt (st := ⟨s, 0⟩)
    show natB ((⟨s, 0⟩ : RS).out 4) < _; omega
  · have := (hs1 s).out_len 16
    show ((hs1 s).out 16).length ≤ _; omega
  · show ((hs4 s).tx (cnt (hdD s))).length ≤ _
    rw [tx_length]
    have := cnt_le (hdD s)
    omega
theorem zero_good : Hd.zero.good := ⟨by decide, by decide, by decide⟩
theorem zero_err : Hd.zero.err = 10 := err_10 (by unfold Hd.out Hd.zero; simp)
theorem hdY_good (s : List UInt8) : (hdY s).good := by
  unfold hdY
  split
  · exact hdX_good s
  · exact zero_good
theorem hd_three {s : List UInt8} (h : (hs3 s).last = 3) : ((hs4 s).after (cnt (hdD s))).last = 3 := by
  have hb : (hs3 s).bad ≠ 0 := fun e => by
    unfold RS.last at h
    rw [if_pos e] at h
    split at h <;> cases h
  rw [hs4, take_bad hb, after_bad hb, h]
theorem last_in (st : RS) (h : st.bad = 0 ∨ st.bad = 3 ∨ st.bad = 4) : st.last = 0 ∨ st.last = 2 ∨ st.last = 3 ∨ st.last = 4 := by
  unfold RS.last
  by_cases hb : st.bad = 0
  · rw [if_pos hb]
    split <;> simp
  · rw [if_neg hb]; omega
theorem take_in {st : RS} {n : Nat} (h : st.bad = 0 ∨ st.bad = 3 ∨ st.bad = 4) : (st.take n).bad = 0 ∨ (st.take n).bad = 3 ∨ (st.take n).bad = 4 := by
  unfold RS.take
  split
  · split <;> simp
  · exact h
theorem after_in {st : RS} (h : st.bad = 0 ∨ st.bad = 3 ∨ st.bad = 4) : ∀ k, (st.after k).bad = 0 ∨ (st.after k).bad = 3 ∨ (st.after k).bad = 4
  | 0 => h
  | k + 1 => by
    rw [after_succ]
    unfold RS.textR
    split
    · unfold RS.form
      split
      · simp
      · exact take_in (after_in h k)
    · exact take_in (take_in (after_in h k))
theorem err_in (x : Hd) : x.err = 10 ∨ x.err = 22 ∨ x.err = 4 ∨ x.err = 0 := by
  unfold Hd.err
  split
  · simp
  · split
    · simp
    · split <;> simp
theorem hdE_in (s : List UInt8) : hdE s = 0 ∨ hdE s = 2 ∨ hdE s = 3 ∨ hdE s = 4 ∨ hdE s = 10 := by
  unfold hdE
  split
  · simp
  · split
    · have := last_in ((hs4 s).after (cnt (hdD s))) (after_in (take_in (take_in (take_in (take_in (.inl rfl))))) _)
      omega
    · have hn : ¬ (hdX s).nodes.length ≠ cnt (hdX s).dep := by
        show ¬ ((hs4 s).tx (cnt (hdD s))).length ≠ cnt (hdD s)
        rw [tx_length]; exact fun h => h rfl
      have := err_in (hdX s)
      rcases this with h | h | h | h
      · omega
      · unfold Hd.err at h ⊢
        by_cases ho : (hdX s).out
        · rw [if_pos ho]; simp
        · rw [if_neg ho, if_neg hn] at h
          split at h <;> cases h
      · omega
      · omega
theorem one_byte {l : List UInt8} (h : l.length = 1) : [UInt8.ofNat (natB l)] = l := by
  match l, h with
  | [c], _ =>
    rw [natB_c]
    congr 1
    apply UInt8.toNat_inj.1
    rw [UInt8.toNat_ofNat']; exact Nat.mod_eq_of_lt c.toNat_lt
theorem hdE_zero {s : List UInt8} (h : hdE s = 0) : (hdX s).err = 0 ∧ (hdX s).bytes = s := by
  unfold hdE at h
  split at h
  · cases h
  · split at h
    · rename_i h1; exact absurd h h1
    · rename_i h1 h2
      refine ⟨h, ?_⟩
      obtain ⟨hb, hs⟩ := last_zero (Decidable.not_not.1 h2)
      have h4 : (hs4 s).bad = 0 := by
        by_cases e : (hs4 s).bad = 0
        · exact e
        · rw [after_bad e] at hb; exact absurd hb e
      obtain ⟨d1, d2, d3, d4⟩ := take_inv (st := hs3 s) h4
      obtain ⟨c1, c2, c3, c4⟩ := take_inv (st := hs2 s) d1
      obtain ⟨b1, b2, b3, b4⟩ := take_inv (st := hs1 s) c1
      obtain ⟨a1, a2, a3, a4⟩ := take_inv (st := ⟨s, 0⟩) b1
      have e1 : hs1 s = ⟨s.drop 4, 0⟩ := a3
      have e2 : hs2 s = ⟨s.drop 20, 0⟩ := by
        have : hs2 s = ⟨(hs1 s).s.drop 16, 0⟩ := b3
        rw [this, e1, List.drop_drop]
      have e3 : hs3 s = ⟨s.drop 21, 0⟩ := by
        have : hs3 s = ⟨(hs2 s).s.drop 1, 0⟩ := c3
        rw [this, e2, List.drop_drop]
      have e4 : hs4 s = ⟨s.drop 22, 0⟩ := by
        have : hs4 s = ⟨(hs3 s).s.drop 1, 0⟩ := d3
        rw [this, e3, List.drop_drop]
      have l22 : 22 ≤ s.length := by
        rw [e3] at d2
        dsimp only at d2
        rw [List.length_drop] at d2; omega
      have hf := all_inv (cnt (hdD s)) (s.drop 22) (by rw [← e4]; exact hb)
      obtain ⟨r, f1, f2⟩ := hf
      have hr : r = [] := by
        rw [e4, f2] at hs; exact hs
      subst hr
      rw [List.append_nil, ← e4] at f1
      have n4 := numB_natB (s.take 4) (by rw [List.length_take]; omega)
      rw [show (s.take 4).length = 4 by rw [List.length_take]; omega] at n4
      show Sha.numB (UInt64.ofNat (natB ((⟨s, 0⟩ : RS).out 4))) 4 ++ (hs1 s).out 16 ++ [UInt8.ofNat ((hdD s : Int)).toNat] ++ [UInt8.ofNat ((hdA s : Int)).toNat] ++ (((hs4 s).tx (cnt (hdD s))).map ndB).flatten = s
      rw [← f1, Int.toNat_natCast, Int.toNat_natCast]
      unfold hdD hdA
      rw [d4, c4, b4, a4, e1, e2, e3]
      dsimp only
      rw [n4, one_byte (by rw [List.length_take, List.length_drop]; omega), one_byte (by rw [List.length_take, List.length_drop]; omega)]
      rw [show s.drop 22 = (s.drop 21).drop 1 by rw [List.drop_drop], show s.drop 21 = (s.drop 20).drop 1 by rw [List.drop_drop], show s.drop 20 = (s.drop 4).drop 16 by rw [List.drop_drop]]
      simp only [List.append_assoc, List.take_append_drop]
theorem hd_back {x : Hd} (h : x.err = 0) : hdE x.bytes = 0 ∧ hdX x.bytes = x := by
  obtain ⟨i1, i2, i3⟩ := err_inv h
  obtain ⟨o1, o2, o3, o4, o5⟩ := out_inv i1
  obtain ⟨ep, par, dep, aud, nodes⟩ := x
  dsimp only at o1 o2 o3 o4 o5 i2 i3
  obtain ⟨d, rfl⟩ := Int.eq_ofNat_of_zero_le o3.1
  obtain ⟨a, rfl⟩ := Int.eq_ofNat_of_zero_le o4
  have hb : (⟨ep, par, d, a, nodes⟩ : Hd).bytes = Sha.numB (UInt64.ofNat ep) 4 ++ (par ++ ([UInt8.ofNat d] ++ ([UInt8.ofNat a] ++ (nodes.map ndB).flatten))) := by
    unfold Hd.bytes
    simp only [List.append_assoc, Int.toNat_natCast]
  rw [hb]
  obtain ⟨s, hs⟩ : ∃ s, s = Sha.numB (UInt64.ofNat ep) 4 ++ (par ++ ([UInt8.ofNat d] ++ ([UInt8.ofNat a] ++ (nodes.map ndB).flatten))) := ⟨_, rfl⟩
  rw [← hs]
  have hN : (Sha.numB (UInt64.ofNat ep) 4).length = 4 := Sha.numB_length _ _
  have w1 : (⟨s, 0⟩ : RS).out 4 = Sha.numB (UInt64.ofNat ep) 4 := by rw [out_ok (by rw [hs]; simp only [List.length_append, hN]; omega), hs, List.take_left' hN]
  have e1 : hs1 s = ⟨par ++ ([UInt8.ofNat d] ++ ([UInt8.ofNat a] ++ (nodes.map ndB).flatten)), 0⟩ := by
    unfold hs1
    rw [take_ok (by rw [hs]; simp only [List.length_append, hN]; omega), hs, List.drop_left' hN]
  have w2 : (hs1 s).out 16 = par := by rw [e1, out_ok (by simp only [List.length_append]; omega), List.take_left' o2]
  have e2 : hs2 s = ⟨[UInt8.ofNat d] ++ ([UInt8.ofNat a] ++ (nodes.map ndB).flatten), 0⟩ := by
    unfold hs2
    rw [e1, take_ok (by simp only [List.length_append]; omega), List.drop_left' o2]
  have w3 : hdD s = d := by
    unfold hdD
    rw [e2, out_ok (by simp), show ∀ (c : UInt8) (l : List UInt8), ([c] ++ l).take 1 = [c] from fun _ _ => rfl, natB_c, UInt8.toNat_ofNat']; exact Nat.mod_eq_of_lt (by omega)
  have e3 : hs3 s = ⟨[UInt8.ofNat a] ++ (nodes.map ndB).flatten, 0⟩ := by
    unfold hs3
    rw [e2, take_ok (by simp), show ∀ (c : UInt8) (l : List UInt8), ([c] ++ l).drop 1 = l from fun _ _ => rfl]
  have w4 : hdA s = a := by
    unfold hdA
    rw [e3, out_ok (by simp), show ∀ (c : UInt8) (l : List UInt8), ([c] ++ l).take 1 = [c] from fun _ _ => rfl, natB_c, UInt8.toNat_ofNat']; exact Nat.mod_eq_of_lt (by omega)
  have e4 : hs4 s = ⟨(nodes.map ndB).flatten ++ [], 0⟩ := by
    unfold hs4
    rw [e3, take_ok (by simp), show ∀ (c : UInt8) (l : List UInt8), ([c] ++ l).drop 1 = l from fun _ _ => rfl, List.append_nil]
  have hf := all_fwd nodes [] (fun y hy => Nat.le_trans (node_len (i3 y hy)) (by decide))
  rw [i2, ← e4] at hf
  have hX : hdX s = ⟨ep, par, d, a, nodes⟩ := by
    unfold hdX
    rw [w1, w2, w3, w4, hf.2, natB_numB _ (by omega) 4 (by decide), Nat.mod_eq_of_lt (by omega)]
  refine ⟨?_, hX⟩
  unfold hdE
  rw [w3, hf.1, if_neg (fun e => i1 (.inr (.inr (.inl e.2)))), if_neg (by decide), hX]; exact h

theorem hdecode_ct (F : Hp) (s : List UInt8) :
    Ct Tryd.prog 46 [Str s] [F] (fun x : Option Addr × Nat × Hp => .tuple #[.agg (Hd.cells (hdY s) x.1 x.2.1).toArray, I (hdE s)]) (fun x => Sl x.2.2 1 x.1 (hdY s).nodes.length x.2.1 (strsV (hdY s).nodes)) (fun x => [F, x.2.2]) := by
  have hc16 := cnt_le (hdD s : Nat)
  have hby : hdD s < 256 := byte_lt
  have hby3 : hdA s < 256 := byte_lt
  refine Ct.walk Tryd.func46 rfl Tryd.ntmps46 rfl (fun w0 hw0 => ?_)
  change J _ [(0, _)] _ _ _
  refine J.seq (fun K1 hK1 => ?_)
  refine J.region ?_
  refine J.e (op_alloc rfl Tryd.zeroValue57 rfl) rfl rfl rfl ?_
  intro g2 _
  change J _ _ _ [F, blk g2 _ 57] _
  refine J.y (op_assign rfl rfl) rfl rfl rfl ?_
  refine J.nil ?_
  refine J.then_n (J.k hK1 ?_)
  refine J.keepE [(0, _), (2, _)] ⟨rfl, rfl, trivial⟩ ?_
  refine J.seq (fun K2 hK2 => ?_)
  refine J.region ?_
  refine J.y (op_move rfl rfl) rfl rfl rfl ?_
  refine J.e (op_call rfl rfl ent77 (Ct.use (new := fun g => [RSb g ⟨s, 0⟩]) (fun F' _ => (read_ct F' s).mono (φ2 := fun _ => True) (val2 := Ptr) (ms2 := fun g => F' :: [RSb g ⟨s, 0⟩]) id (fun _ _ => rfl) (fun _ h => h) (fun x w0 w _ h => h.pick [1, 0] (by decide))))) rfl rfl rfl ?_
  rintro g10 _
  change J _ _ _ [F, blk g2 _ 57, RSb g10 (⟨s, 0⟩ : RS)] _
  refine J.y (op_assign rfl rfl) rfl rfl rfl ?_
  refine J.nil ?_
  refine J.then_n (J.k hK2 ?_)
  refine J.keepE [(2, _), (4, _)] ⟨rfl, rfl, trivial⟩ ?_
  refine J.seq (fun K3 hK3 => ?_)
  refine J.region ?_
  refine J.y (op_move rfl rfl) rfl rfl rfl ?_
  refine J.e (op_call rfl rfl ent78 (Ct.use1 2 (m' := fun _ : Unit => RSb g10 (hs1 s)) (new := fun _ => []) rfl (fun F' _ => rnum_ct F' g10 (⟨s, 0⟩ : RS) 4 (by omega) (by omega)))) rfl rfl rfl ?_
  intro g12 _
  change J _ _ _ [F, blk g2 _ 57, RSb g10 (hs1 s)] _
  refine J.y (op_move rfl rfl) rfl rfl rfl ?_
  refine J.e (op_call rfl rfl ent79 (Ct.use1 2 (m' := fun _ : Unit => RSb g10 (hs2 s)) (new := fun _ => []) rfl (fun F' _ => rfixed_ct F' g10 (hs1 s) 16))) rfl rfl rfl ?_
  intro g14 _
  change J _ _ _ [F, blk g2 _ 57, RSb g10 (hs2 s)] _
  refine J.y (op_move rfl rfl) rfl rfl rfl ?_
  refine J.e (op_call rfl rfl ent78 (Ct.use1 2 (m' := fun _ : Unit => RSb g10 (hs3 s)) (new := fun _ => []) rfl (fun F' _ => rnum_ct F' g10 (hs2 s) 1 (by omega) (by omega)))) rfl rfl rfl ?_
  intro g16 _
  change J _ _ _ [F, blk g2 _ 57, RSb g10 (hs3 s)] _
  refine J.y ((op_cvU_toI rfl rfl Tryd.underlying47 Tryd.underlying3 (by omega)).as (v' := I (hdD s)) rfl) rfl rfl rfl ?_
  refine J.y (op_buildStruct (l := [(0, .tmp 12), (1, .tmp 14), (2, .tmp 17)]) (vs := [N64 (natB ((⟨s, 0⟩ : RS).out 4)), Str ((hs1 s).out 16), I (hdD s)]) (places := [(0, 1), (1, 1), (2, 1), (3, 1), (4, 1)]) (r := [N64 (natB ((⟨s, 0⟩ : RS).out 4)), Str ((hs1 s).out 16), I (hdD s), I 0, .slice none 0 0]) rfl rfl rfl Tryd.underlying57 Tryd.zeroValue57 (fun _ => by kernel_rfl) rfl) rfl rfl rfl ?_
  refine J.e (op_alloc rfl Tryd.zeroValue57 rfl) rfl rfl rfl ?_
  intro g5 _
  change J _ _ _ [F, blk g2 _ 57, RSb g10 (hs3 s), blk g5 _ 57] _
  refine J.s (op_storeAll (l := [N64 0, Str [], I 0, I 0, .slice none 0 0]) (i := 3) (vs := [N64 (natB ((⟨s, 0⟩ : RS).out 4)), Str ((hs1 s).out 16), I (hdD s), I 0, .slice none 0 0]) rfl rfl rfl rfl rfl Tryd.sizeOf57 rfl rfl) rfl rfl (fun _ _ => ?_)
  change J _ _ _ [F, blk g2 _ 57, RSb g10 (hs3 s), blk g5 [N64 (natB ((⟨s, 0⟩ : RS).out 4)), Str ((hs1 s).out 16), I (hdD s), I 0, .slice none 0 0] 57] _
  refine J.nil ?_
  refine J.then_n (J.k hK3 ?_)
  refine J.keepE [(2, _), (4, _), (5, _)] ⟨rfl, rfl, rfl, trivial⟩ ?_
  refine J.seq (fun K4 hK4 => ?_)
  refine J.region ?_
  refine J.y (op_fieldAddr (j := 2) rfl rfl Tryd.underlying57 rfl Tryd.sizeOf3 rfl) rfl rfl rfl ?_
  refine J.y (op_loadB 3 rfl rfl rfl Tryd.isAgg3 rfl) rfl rfl rfl ?_
  refine J.e (op_call rfl rfl ent82 (Ct.use0 (fun F' hF => bcount_ct F' (hdD s)))) rfl rfl rfl ?_
  intro g21 _
  refine J.y (op_assign rfl rfl) rfl rfl rfl ?_
  refine J.nil ?_
  refine J.then_n (J.k hK4 ?_)
  refine J.keepE [(2, _), (4, _), (5, _), (6, _)] ⟨rfl, rfl, rfl, rfl, trivial⟩ ?_
  refine J.seq (fun K5 hK5 => ?_)
  refine J.seq (fun K6 hK6 => ?_)
  refine J.region ?_
  refine J.y (op_move rfl rfl) rfl rfl rfl ?_
  refine J.e (op_call rfl rfl ent80 (Ct.use1 2 (m' := fun _ : Unit => RSb g10 (hs3 s)) (new := fun _ => []) rfl (fun F' _ => end_ct F' g10 (hs3 s)))) rfl rfl rfl ?_
  intro g23 _
  change J _ _ _ [F, blk g2 _ 57, RSb g10 (hs3 s), blk g5 [N64 (natB ((⟨s, 0⟩ : RS).out 4)), Str ((hs1 s).out 16), I (hdD s), I 0, .slice none 0 0] 57] _
  refine J.y (op_neq rfl rfl rfl) rfl rfl rfl ?_
  refine J.y (op_move rfl rfl) rfl rfl rfl ?_
  refine J.split (d := 25) rfl (fun h25 => ?_) (fun h25 => ?_)
  ·
    refine J.yg (Wan.is rfl rfl rfl rfl rfl) (op_move rfl rfl) rfl rfl ?_
    refine J.yg (Wan.is rfl rfl rfl rfl rfl) (op_eql rfl rfl rfl) rfl rfl ?_
    refine J.y (op_pickT rfl rfl rfl) rfl rfl rfl ?_
    refine J.addEmpty [0, 1, 2, 3, 4] [F, blk g2 _ 57, RSb g10 (hs3 s), blk g5 [N64 (natB ((⟨s, 0⟩ : RS).out 4)), Str ((hs1 s).out 16), I (hdD s), I 0, .slice none 0 0] 57, (fun _ => none)] rfl (by decide) ?_
    refine J.nil ?_
    refine J.then_n (J.k hK6 ?_)
    refine J.keepE [(2, _), (4, _), (5, _), (6, _), (28, _)] ⟨rfl, rfl, rfl, rfl, rfl, trivial⟩ ?_
    refine J.ite rfl (fun h28 => ?_) (fun h28 => ?_)
    ·
      refine J.seq (fun K7 hK7 => ?_)
      have hE : hdE s = 10 := by unfold hdE; rw [if_pos (by omega)]
      refine J.region ?_
      refine J.y (op_buildStruct (l := []) (vs := []) (places := [(0, 1), (1, 1), (2, 1), (3, 1), (4, 1)]) (r := [N64 0, Str [], I 0, I 0, .slice none 0 0]) rfl rfl rfl Tryd.underlying57 Tryd.zeroValue57 (fun _ => by kernel_rfl) rfl) rfl rfl rfl ?_
      refine J.s (op_storeAll (l := [N64 0, Str [], I 0, I 0, .slice none 0 0]) (i := 1) (vs := [N64 0, Str [], I 0, I 0, .slice none 0 0]) rfl rfl rfl rfl rfl Tryd.sizeOf57 rfl rfl) rfl rfl (fun _ _ => ?_)
      change J _ _ _ [F, blk g2 [N64 0, Str [], I 0, I 0, .slice none 0 0] 57, RSb g10 (hs3 s), blk g5 [N64 (natB ((⟨s, 0⟩ : RS).out 4)), Str ((hs1 s).out 16), I (hdD s), I 0, .slice none 0 0] 57, (fun _ => none)] _
      refine J.y (op_assign rfl rfl) rfl rfl rfl ?_
      refine J.nil ?_
      refine J.then_n (J.k hK7 ?_)
      refine J.keepE [(2, _), (3, _)] ⟨rfl, rfl, trivial⟩ ?_
      refine J.ret ?_
      refine J.then_r ?_
      exact J.done hw0 (fun _ _ h => h) (rv2 rfl (RV.blkA 1 rfl rfl Tryd.isAgg57 Tryd.sizeOf57) rfl) (retOk (none, 0, fun _ => none) (by show Value.tuple #[.agg #[N64 0, Str [], I 0, I 0, .slice none 0 0], I _] = _; rw [show hdY s = Hd.zero from if_neg (by rw [hE]; first | exact (by decide) | assumption), hE]; rfl) (by show Sl _ 1 none (hdY s).nodes.length 0 _; rw [show hdY s = Hd.zero from if_neg (by rw [hE]; first | exact (by decide) | assumption)]; exact Sl.nil) [0, 4] rfl (by decide))
    ·
      refine J.skip ?_
      refine J.then_n (J.k hK5 ?_)
      refine J.keepE [(2, _), (4, _), (5, _), (6, _)] ⟨rfl, rfl, rfl, rfl, trivial⟩ ?_
      refine J.seq (fun K8 hK8 => ?_)
      have hno : ¬ ((hs3 s).last ≠ 3 ∧ cnt (hdD s : Nat) = 0) := by omega
      refine J.region ?_
      refine J.y (op_move rfl rfl) rfl rfl rfl ?_
      refine J.e (op_call rfl rfl ent78 (Ct.use1 2 (m' := fun _ : Unit => RSb g10 (hs4 s)) (new := fun _ => []) rfl (fun F' _ => rnum_ct F' g10 (hs3 s) 1 (by omega) (by omega)))) rfl rfl rfl ?_
      intro g31 _
      change J _ _ _ [F, blk g2 _ 57, RSb g10 (hs4 s), blk g5 [N64 (natB ((⟨s, 0⟩ : RS).out 4)), Str ((hs1 s).out 16), I (hdD s), I 0, .slice none 0 0] 57, (fun _ => none)] _
      refine J.y ((op_cvU_toI rfl rfl Tryd.underlying47 Tryd.underlying3 (by omega)).as (v' := I (hdA s)) rfl) rfl rfl rfl ?_
      refine J.y (op_fieldAddr (j := 3) rfl rfl Tryd.underlying57 rfl Tryd.sizeOf3 rfl) rfl rfl rfl ?_
      refine J.s (op_store (i := 3) (vs := [I (hdA s)]) rfl rfl rfl rfl rfl Tryd.sizeOf3 rfl (by simp)) rfl rfl (fun _ _ => ?_)
      change J _ _ _ [F, blk g2 _ 57, RSb g10 (hs4 s), blk g5 [N64 (natB ((⟨s, 0⟩ : RS).out 4)), Str ((hs1 s).out 16), I (hdD s), I (hdA s), .slice none 0 0] 57, (fun _ => none)] _
      refine J.addEmpty [0, 1, 2, 3, 5] [F, blk g2 _ 57, RSb g10 (hs4 s), blk g5 [N64 (natB ((⟨s, 0⟩ : RS).out 4)), Str ((hs1 s).out 16), I (hdD s), I (hdA s), .slice none 0 0] 57, (fun _ => none)] rfl (by decide) ?_
      refine J.nil ?_
      refine J.then_n (J.k hK8 ?_)
      refine J.keepE [(2, _), (4, _), (5, _), (6, _)] ⟨rfl, rfl, rfl, rfl, trivial⟩ ?_
      refine J.seq (fun K9 hK9 => ?_)
      refine J.seq (fun K10 hK10 => ?_)
      refine J.region ?_
      refine J.y (op_move rfl rfl) rfl rfl rfl ?_
      refine J.y (op_move rfl rfl) rfl rfl rfl ?_
      refine J.nil ?_
      refine J.then_n (J.k hK10 ?_)
      refine J.keepE [(2, _), (4, _), (5, _), (34, _), (35, _)] ⟨rfl, rfl, rfl, rfl, rfl, trivial⟩ ?_
      refine J.block ?_
      refine J.loop (X := Nat × Option Addr × Nat × Hp) (fun x => [(2, Ptr g2), (4, Ptr g10), (5, Ptr g5), (34, I (cnt (hdD s : Nat))), (35, I x.1)]) (fun x => [F, blk g2 [N64 0, Str [], I 0, I 0, .slice none 0 0] 57, RSb g10 ((hs4 s).after x.1), blk g5 [N64 (natB ((⟨s, 0⟩ : RS).out 4)), Str ((hs1 s).out 16), I (hdD s), I (hdA s), .slice x.2.1 x.1 x.2.2.1] 57, x.2.2.2]) (fun x => x.1 ≤ cnt (hdD s : Nat) ∧ Row x.2.2.2 9 1 x.2.1 x.1 x.2.2.1 (strsV ((hs4 s).tx x.1))) (fun x => cnt (hdD s : Nat) - x.1) (0, none, 0, fun _ => none) (⟨Nat.zero_le _, RowQ.nil⟩) ⟨rfl, rfl, rfl, rfl, rfl, trivial⟩ (fun _ h => h) ?_
      rintro ⟨k, A, c, m⟩ ⟨hk, hr⟩ I0 hI0
      dsimp only at hk hr ⊢
      refine J.seq (fun K11 hK11 => ?_)
      refine J.region ?_
      refine J.y (op_lss rfl rfl rfl) rfl rfl rfl ?_
      refine J.nil ?_
      refine J.then_n (J.k hK11 ?_)
      refine J.keepE [(2, _), (4, _), (5, _), (34, _), (35, _), (36, _)] ⟨rfl, rfl, rfl, rfl, rfl, rfl, trivial⟩ ?_
      refine J.seq (fun K12 hK12 => ?_)
      refine J.ite rfl (fun h36 => ?_) (fun h36 => ?_)
      ·
        refine J.skip ?_
        refine J.then_n (J.k hK12 ?_)
        refine J.keepE [(2, _), (4, _), (5, _), (34, _), (35, _)] ⟨rfl, rfl, rfl, rfl, rfl, trivial⟩ ?_
        refine J.seq (fun K13 hK13 => ?_)
        refine J.block ?_
        refine J.draw [blk g5 [N64 (natB ((⟨s, 0⟩ : RS).out 4)), Str ((hs1 s).out 16), I (hdD s), I (hdA s), .slice A k c] 57] [7] (.y 0 (.y 1 (.y 2 (.e 3 (.e 4 (.e 5 (.y 6 (.e 7 .nil)))))))) Tryd.wide (by decide +kernel) (by simp) ?_
        refine J.dy rfl (op_fieldAddr (j := 4) rfl rfl Tryd.underlying57 rfl Tryd.sizeOf30 rfl) rfl rfl rfl rfl ?_
        refine J.dy rfl (op_loadB 0 rfl rfl rfl Tryd.isAgg30 rfl) rfl rfl rfl rfl ?_
        refine J.dy rfl (op_move rfl rfl) rfl rfl rfl rfl ?_
        refine J.de rfl (op_call rfl rfl ent83 (Ct.use1 2 (m' := fun _ : Unit => RSb g10 ((hs4 s).after (k + 1))) (new := fun _ => []) rfl (fun F' _ => rtext_ct F' g10 ((hs4 s).after k)))) rfl rfl rfl (by simp) ?_
        intro g40 _
        change J _ _ _ [F, blk g2 [N64 0, Str [], I 0, I 0, .slice none 0 0] 57, RSb g10 ((hs4 s).after (k + 1)), blk g5 [N64 (natB ((⟨s, 0⟩ : RS).out 4)), Str ((hs1 s).out 16), I (hdD s), I (hdA s), .slice A k c] 57, m] _
        refine J.de rfl (op_buildSlice (l := [.tmp 40]) (xs := [[Str ((hs4 s).after k).textS]]) rfl rfl rfl rfl Tryd.underlying30 el9 rfl (by decide) (by decide) (by simp)) rfl rfl rfl (by simp) ?_
        intro g41 _
        change J _ _ _ [F, blk g2 [N64 0, Str [], I 0, I 0, .slice none 0 0] 57, RSb g10 ((hs4 s).after (k + 1)), blk g5 [N64 (natB ((⟨s, 0⟩ : RS).out 4)), Str ((hs1 s).out 16), I (hdD s), I (hdA s), .slice A k c] 57, m, blk g41 [Str ((hs4 s).after k).textS] 9] _
        refine J.de rfl (op_append (i := 4) (m2 := blk g41 [Str ((hs4 s).after k).textS] 9) (ys := strsV [((hs4 s).after k).textS]) rfl rfl rfl Tryd.underlying30 Tryd.underlying30 el9 rfl hr (by simp) (slS [((hs4 s).after k).textS] rfl) (one_strs _) (by omega) (by omega)) rfl rfl rfl (by simp) ?_
        rintro ⟨A42, c42, m42⟩ h42
        try dsimp only at h42
        change J _ ((42, .slice A42 (k + 1) c42) :: _) _ [F, blk g2 [N64 0, Str [], I 0, I 0, .slice none 0 0] 57, RSb g10 ((hs4 s).after (k + 1)), blk g5 [N64 (natB ((⟨s, 0⟩ : RS).out 4)), Str ((hs1 s).out 16), I (hdD s), I (hdA s), .slice A k c] 57, m42, blk g41 [Str ((hs4 s).after k).textS] 9] _
        refine J.dy rfl (op_fieldAddr (j := 4) rfl rfl Tryd.underlying57 rfl Tryd.sizeOf30 rfl) rfl rfl rfl rfl ?_
        refine J.ds rfl (op_store (i := 3) (vs := [.slice A42 (k + 1) c42]) rfl rfl rfl rfl rfl Tryd.sizeOf30 rfl (by simp)) rfl rfl rfl (fun _ _ => ?_)
        change J _ _ _ [F, blk g2 [N64 0, Str [], I 0, I 0, .slice none 0 0] 57, RSb g10 ((hs4 s).after (k + 1)), blk g5 [N64 (natB ((⟨s, 0⟩ : RS).out 4)), Str ((hs1 s).out 16), I (hdD s), I (hdA s), .slice A42 (k + 1) c42] 57, m42, blk g41 [Str ((hs4 s).after k).textS] 9] _
        refine J.perm [0, 1, 2, 3, 4] [F, blk g2 [N64 0, Str [], I 0, I 0, .slice none 0 0] 57, RSb g10 ((hs4 s).after (k + 1)), blk g5 [N64 (natB ((⟨s, 0⟩ : RS).out 4)), Str ((hs1 s).out 16), I (hdD s), I (hdA s), .slice A42 (k + 1) c42] 57, m42] rfl (by decide) ?_
        refine J.dnil ?_
        refine J.blk_n ?_
        refine J.then_n (J.k hK13 ?_)
        refine J.keepE [(2, _), (4, _), (5, _), (34, _), (35, _)] ⟨rfl, rfl, rfl, rfl, rfl, trivial⟩ ?_
        refine J.region ?_
        refine J.y ((op_add rfl rfl rfl (by first | omega | (refine ⟨?_, ?_⟩ <;> omega))).as (v' := I ((k + 1 : Nat) : Int)) (congrArg I (by omega))) rfl rfl rfl ?_
        refine J.y (op_move rfl rfl) rfl rfl rfl ?_
        refine J.nil ?_
        refine J.then_n ?_
        exact J.kk (k + 1, A42, c42, m42) (fun x (hx : _ ∧ cnt (hdD s : Nat) - x.1 < cnt (hdD s : Nat) - k) => hI0 x hx.1 hx.2) ⟨⟨by dsimp only; omega, by rw [tx_succ]; rw [show ∀ a b, strsV (a ++ b) = strsV a ++ strsV b from fun a b => by simp [strsV]]; exact h42⟩, by dsimp only; omega⟩ ⟨rfl, rfl, rfl, rfl, rfl, trivial⟩ (fun _ h => h)
      ·
        refine J.exit ?_
        refine J.then_x ?_
        refine J.then_x ?_
        refine J.blk_eq ?_
        refine J.then_n (J.k hK9 ?_)
        refine J.keepE [(2, _), (4, _), (5, _)] ⟨rfl, rfl, rfl, trivial⟩ ?_
        refine J.seq (fun K14 hK14 => ?_)
        refine J.seq (fun K15 hK15 => ?_)
        have hkn : k = cnt (hdD s : Nat) := by omega
        subst hkn
        have hXn : (hdX s).nodes.length = cnt (hdD s : Nat) := tx_length _ _
        have hsX : Sl m 1 A (hdX s).nodes.length c (strsV (hdX s).nodes) := by rw [hXn]; exact hr.sl
        refine J.region ?_
        refine J.y (op_move rfl rfl) rfl rfl rfl ?_
        refine J.e (op_call rfl rfl ent80 (Ct.use1 2 (m' := fun _ : Unit => RSb g10 ((hs4 s).after (cnt (hdD s : Nat)))) (new := fun _ => []) rfl (fun F' _ => end_ct F' g10 ((hs4 s).after (cnt (hdD s : Nat)))))) rfl rfl rfl ?_
        intro g46 _
        change J _ _ _ [F, blk g2 [N64 0, Str [], I 0, I 0, .slice none 0 0] 57, RSb g10 ((hs4 s).after (cnt (hdD s : Nat))), blk g5 [N64 (natB ((⟨s, 0⟩ : RS).out 4)), Str ((hs1 s).out 16), I (hdD s), I (hdA s), .slice A (cnt (hdD s : Nat)) c] 57, m] _
        refine J.y (op_assign rfl rfl) rfl rfl rfl ?_
        refine J.nil ?_
        refine J.then_n (J.k hK15 ?_)
        refine J.keepE [(2, _), (5, _), (7, _)] ⟨rfl, rfl, rfl, trivial⟩ ?_
        refine J.seq (fun K16 hK16 => ?_)
        refine J.region ?_
        refine J.y (op_move rfl rfl) rfl rfl rfl ?_
        refine J.y (op_neq rfl rfl rfl) rfl rfl rfl ?_
        refine J.nil ?_
        refine J.then_n (J.k hK16 ?_)
        refine J.keepE [(2, _), (5, _), (7, _), (48, _)] ⟨rfl, rfl, rfl, rfl, trivial⟩ ?_
        refine J.ite rfl (fun h48 => ?_) (fun h48 => ?_)
        ·
          refine J.seq (fun K17 hK17 => ?_)
          have hE : hdE s = ((hs4 s).after (cnt (hdD s : Nat))).last := by unfold hdE; rw [if_neg hno, if_pos (by omega)]
          refine J.region ?_
          refine J.y (op_buildStruct (l := []) (vs := []) (places := [(0, 1), (1, 1), (2, 1), (3, 1), (4, 1)]) (r := [N64 0, Str [], I 0, I 0, .slice none 0 0]) rfl rfl rfl Tryd.underlying57 Tryd.zeroValue57 (fun _ => by kernel_rfl) rfl) rfl rfl rfl ?_
          refine J.y (op_move rfl rfl) rfl rfl rfl ?_
          refine J.s (op_storeAll (l := [N64 0, Str [], I 0, I 0, .slice none 0 0]) (i := 1) (vs := [N64 0, Str [], I 0, I 0, .slice none 0 0]) rfl rfl rfl rfl rfl Tryd.sizeOf57 rfl rfl) rfl rfl (fun _ _ => ?_)
          change J _ _ _ [F, blk g2 [N64 0, Str [], I 0, I 0, .slice none 0 0] 57, RSb g10 ((hs4 s).after (cnt (hdD s : Nat))), blk g5 [N64 (natB ((⟨s, 0⟩ : RS).out 4)), Str ((hs1 s).out 16), I (hdD s), I (hdA s), .slice A (cnt (hdD s : Nat)) c] 57, m] _
          refine J.y (op_assign rfl rfl) rfl rfl rfl ?_
          refine J.nil ?_
          refine J.then_n (J.k hK17 ?_)
          refine J.keepE [(2, _), (3, _)] ⟨rfl, rfl, trivial⟩ ?_
          refine J.ret ?_
          refine J.then_r ?_
          exact J.done hw0 (fun _ _ h => h) (rv2 rfl (RV.blkA 1 rfl rfl Tryd.isAgg57 Tryd.sizeOf57) rfl) (retOk (none, 0, m) (by show Value.tuple #[.agg #[N64 0, Str [], I 0, I 0, .slice none 0 0], I _] = _; rw [show hdY s = Hd.zero from if_neg (by rw [hE]; first | exact (by decide) | assumption), hE]; rfl) (by show Sl _ 1 none (hdY s).nodes.length 0 _; rw [show hdY s = Hd.zero from if_neg (by rw [hE]; first | exact (by decide) | assumption)]; exact Sl.nil) [0, 4] rfl (by decide))
        ·
          refine J.skip ?_
          refine J.then_n (J.k hK14 ?_)
          refine J.keepE [(2, _), (5, _)] ⟨rfl, rfl, trivial⟩ ?_
          refine J.seq (fun K18 hK18 => ?_)
          refine J.seq (fun K19 hK19 => ?_)
          have hE : hdE s = (hdX s).err := by unfold hdE; rw [if_neg hno, if_neg (by omega)]
          refine J.region ?_
          refine J.y ((op_loadBA 3 rfl rfl rfl Tryd.isAgg57 Tryd.sizeOf57 rfl).as (v' := .agg #[N64 (hdX s).ep, Str (hdX s).par, I (hdX s).dep, I (hdX s).aud, .slice A (hdX s).nodes.length c]) (by rw [hXn]; rfl)) rfl rfl rfl ?_
          refine J.e (op_call rfl rfl ent72 (Ct.use0 (fun F' hF => hcheck_ct F' (hdX s) A c (hdX_good s) ((hsX).mono (hF m (by simp)))))) rfl rfl rfl ?_
          intro g52 _
          refine J.y (op_assign rfl rfl) rfl rfl rfl ?_
          refine J.nil ?_
          refine J.then_n (J.k hK19 ?_)
          refine J.keepE [(2, _), (5, _), (8, _)] ⟨rfl, rfl, rfl, trivial⟩ ?_
          refine J.seq (fun K20 hK20 => ?_)
          refine J.region ?_
          refine J.y (op_move rfl rfl) rfl rfl rfl ?_
          refine J.y (op_neq rfl rfl rfl) rfl rfl rfl ?_
          refine J.nil ?_
          refine J.then_n (J.k hK20 ?_)
          refine J.keepE [(2, _), (5, _), (8, _), (54, _)] ⟨rfl, rfl, rfl, rfl, trivial⟩ ?_
          refine J.ite rfl (fun h54 => ?_) (fun h54 => ?_)
          ·
            refine J.seq (fun K21 hK21 => ?_)
            refine J.region ?_
            refine J.y (op_buildStruct (l := []) (vs := []) (places := [(0, 1), (1, 1), (2, 1), (3, 1), (4, 1)]) (r := [N64 0, Str [], I 0, I 0, .slice none 0 0]) rfl rfl rfl Tryd.underlying57 Tryd.zeroValue57 (fun _ => by kernel_rfl) rfl) rfl rfl rfl ?_
            refine J.y (op_move rfl rfl) rfl rfl rfl ?_
            refine J.s (op_storeAll (l := [N64 0, Str [], I 0, I 0, .slice none 0 0]) (i := 1) (vs := [N64 0, Str [], I 0, I 0, .slice none 0 0]) rfl rfl rfl rfl rfl Tryd.sizeOf57 rfl rfl) rfl rfl (fun _ _ => ?_)
            change J _ _ _ [F, blk g2 [N64 0, Str [], I 0, I 0, .slice none 0 0] 57, RSb g10 ((hs4 s).after (cnt (hdD s : Nat))), blk g5 [N64 (natB ((⟨s, 0⟩ : RS).out 4)), Str ((hs1 s).out 16), I (hdD s), I (hdA s), .slice A (cnt (hdD s : Nat)) c] 57, m] _
            refine J.y (op_assign rfl rfl) rfl rfl rfl ?_
            refine J.nil ?_
            refine J.then_n (J.k hK21 ?_)
            refine J.keepE [(2, _), (3, _)] ⟨rfl, rfl, trivial⟩ ?_
            refine J.ret ?_
            refine J.then_r ?_
            exact J.done hw0 (fun _ _ h => h) (rv2 rfl (RV.blkA 1 rfl rfl Tryd.isAgg57 Tryd.sizeOf57) rfl) (retOk (none, 0, m) (by show Value.tuple #[.agg #[N64 0, Str [], I 0, I 0, .slice none 0 0], I _] = _; rw [show hdY s = Hd.zero from if_neg (by rw [hE]; first | exact (by decide) | assumption), hE]; rfl) (by show Sl _ 1 none (hdY s).nodes.length 0 _; rw [show hdY s = Hd.zero from if_neg (by rw [hE]; first | exact (by decide) | assumption)]; exact Sl.nil) [0, 4] rfl (by decide))
          ·
            refine J.skip ?_
            refine J.then_n (J.k hK18 ?_)
            refine J.keepE [(2, _), (5, _)] ⟨rfl, rfl, trivial⟩ ?_
            refine J.seq (fun K22 hK22 => ?_)
            refine J.region ?_
            refine J.y ((op_loadBA 3 rfl rfl rfl Tryd.isAgg57 Tryd.sizeOf57 rfl).as (v' := .agg #[N64 (hdX s).ep, Str (hdX s).par, I (hdX s).dep, I (hdX s).aud, .slice A (hdX s).nodes.length c]) (by rw [hXn]; rfl)) rfl rfl rfl ?_
            refine J.s (op_storeAll (l := [N64 0, Str [], I 0, I 0, .slice none 0 0]) (i := 1) (vs := [N64 (hdX s).ep, Str (hdX s).par, I (hdX s).dep, I (hdX s).aud, .slice A (hdX s).nodes.length c]) rfl rfl rfl rfl rfl Tryd.sizeOf57 rfl rfl) rfl rfl (fun _ _ => ?_)
            change J _ _ _ [F, blk g2 [N64 (hdX s).ep, Str (hdX s).par, I (hdX s).dep, I (hdX s).aud, .slice A (hdX s).nodes.length c] 57, RSb g10 ((hs4 s).after (cnt (hdD s : Nat))), blk g5 [N64 (natB ((⟨s, 0⟩ : RS).out 4)), Str ((hs1 s).out 16), I (hdD s), I (hdA s), .slice A (cnt (hdD s : Nat)) c] 57, m] _
            refine J.y (op_assign rfl rfl) rfl rfl rfl ?_
            refine J.nil ?_
            refine J.then_n (J.k hK22 ?_)
            refine J.keepE [(2, _), (3, _)] ⟨rfl, rfl, trivial⟩ ?_
            refine J.ret ?_
            exact J.done hw0 (fun _ _ h => h) (rv2 rfl (RV.blkA 1 rfl rfl Tryd.isAgg57 Tryd.sizeOf57) rfl) (retOk (A, c, m) (by have h0 : hdE s = 0 := (by omega); show Value.tuple #[.agg #[N64 (hdX s).ep, Str (hdX s).par, I (hdX s).dep, I (hdX s).aud, .slice A (hdX s).nodes.length c], I 0] = _; rw [h0, show hdY s = hdX s from if_pos h0]; rfl) (by have h0 : hdE s = 0 := (by omega); show Sl m 1 A (hdY s).nodes.length c _; rw [show hdY s = hdX s from if_pos h0]; exact hsX) [0, 4] rfl (by decide))
  ·
    refine J.no (Wan.is rfl rfl rfl rfl rfl) rfl rfl ?_
    refine J.no (Wan.is rfl rfl rfl rfl rfl) rfl rfl ?_
    refine J.y (op_pickF rfl rfl rfl) rfl rfl rfl ?_
    refine J.addEmpty [0, 1, 2, 3, 4] [F, blk g2 _ 57, RSb g10 (hs3 s), blk g5 [N64 (natB ((⟨s, 0⟩ : RS).out 4)), Str ((hs1 s).out 16), I (hdD s), I 0, .slice none 0 0] 57, (fun _ => none)] rfl (by decide) ?_
    refine J.nil ?_
    refine J.then_n (J.k hK6 ?_)
    refine J.keepE [(2, _), (4, _), (5, _), (6, _), (28, _)] ⟨rfl, rfl, rfl, rfl, rfl, trivial⟩ ?_
    refine J.condF rfl rfl ?_
    refine J.skip ?_
    refine J.then_n (J.k hK5 ?_)
    refine J.keepE [(2, _), (4, _), (5, _), (6, _)] ⟨rfl, rfl, rfl, rfl, trivial⟩ ?_
    refine J.seq (fun K23 hK23 => ?_)
    have hno : ¬ ((hs3 s).last ≠ 3 ∧ cnt (hdD s : Nat) = 0) := by omega
    refine J.region ?_
    refine J.y (op_move rfl rfl) rfl rfl rfl ?_
    refine J.e (op_call rfl rfl ent78 (Ct.use1 2 (m' := fun _ : Unit => RSb g10 (hs4 s)) (new := fun _ => []) rfl (fun F' _ => rnum_ct F' g10 (hs3 s) 1 (by omega) (by omega)))) rfl rfl rfl ?_
    intro g31 _
    change J _ _ _ [F, blk g2 _ 57, RSb g10 (hs4 s), blk g5 [N64 (natB ((⟨s, 0⟩ : RS).out 4)), Str ((hs1 s).out 16), I (hdD s), I 0, .slice none 0 0] 57, (fun _ => none)] _
    refine J.y ((op_cvU_toI rfl rfl Tryd.underlying47 Tryd.underlying3 (by omega)).as (v' := I (hdA s)) rfl) rfl rfl rfl ?_
    refine J.y (op_fieldAddr (j := 3) rfl rfl Tryd.underlying57 rfl Tryd.sizeOf3 rfl) rfl rfl rfl ?_
    refine J.s (op_store (i := 3) (vs := [I (hdA s)]) rfl rfl rfl rfl rfl Tryd.sizeOf3 rfl (by simp)) rfl rfl (fun _ _ => ?_)
    change J _ _ _ [F, blk g2 _ 57, RSb g10 (hs4 s), blk g5 [N64 (natB ((⟨s, 0⟩ : RS).out 4)), Str ((hs1 s).out 16), I (hdD s), I (hdA s), .slice none 0 0] 57, (fun _ => none)] _
    refine J.addEmpty [0, 1, 2, 3, 5] [F, blk g2 _ 57, RSb g10 (hs4 s), blk g5 [N64 (natB ((⟨s, 0⟩ : RS).out 4)), Str ((hs1 s).out 16), I (hdD s), I (hdA s), .slice none 0 0] 57, (fun _ => none)] rfl (by decide) ?_
    refine J.nil ?_
    refine J.then_n (J.k hK23 ?_)
    refine J.keepE [(2, _), (4, _), (5, _), (6, _)] ⟨rfl, rfl, rfl, rfl, trivial⟩ ?_
    refine J.seq (fun K24 hK24 => ?_)
    refine J.seq (fun K25 hK25 => ?_)
    refine J.region ?_
    refine J.y (op_move rfl rfl) rfl rfl rfl ?_
    refine J.y (op_move rfl rfl) rfl rfl rfl ?_
    refine J.nil ?_
    refine J.then_n (J.k hK25 ?_)
    refine J.keepE [(2, _), (4, _), (5, _), (34, _), (35, _)] ⟨rfl, rfl, rfl, rfl, rfl, trivial⟩ ?_
    refine J.block ?_
    refine J.loop (X := Nat × Option Addr × Nat × Hp) (fun x => [(2, Ptr g2), (4, Ptr g10), (5, Ptr g5), (34, I (cnt (hdD s : Nat))), (35, I x.1)]) (fun x => [F, blk g2 [N64 0, Str [], I 0, I 0, .slice none 0 0] 57, RSb g10 ((hs4 s).after x.1), blk g5 [N64 (natB ((⟨s, 0⟩ : RS).out 4)), Str ((hs1 s).out 16), I (hdD s), I (hdA s), .slice x.2.1 x.1 x.2.2.1] 57, x.2.2.2]) (fun x => x.1 ≤ cnt (hdD s : Nat) ∧ Row x.2.2.2 9 1 x.2.1 x.1 x.2.2.1 (strsV ((hs4 s).tx x.1))) (fun x => cnt (hdD s : Nat) - x.1) (0, none, 0, fun _ => none) (⟨Nat.zero_le _, RowQ.nil⟩) ⟨rfl, rfl, rfl, rfl, rfl, trivial⟩ (fun _ h => h) ?_
    rintro ⟨k, A, c, m⟩ ⟨hk, hr⟩ I0 hI0
    dsimp only at hk hr ⊢
    refine J.seq (fun K26 hK26 => ?_)
    refine J.region ?_
    refine J.y (op_lss rfl rfl rfl) rfl rfl rfl ?_
    refine J.nil ?_
    refine J.then_n (J.k hK26 ?_)
    refine J.keepE [(2, _), (4, _), (5, _), (34, _), (35, _), (36, _)] ⟨rfl, rfl, rfl, rfl, rfl, rfl, trivial⟩ ?_
    refine J.seq (fun K27 hK27 => ?_)
    refine J.ite rfl (fun h36 => ?_) (fun h36 => ?_)
    ·
      refine J.skip ?_
      refine J.then_n (J.k hK27 ?_)
      refine J.keepE [(2, _), (4, _), (5, _), (34, _), (35, _)] ⟨rfl, rfl, rfl, rfl, rfl, trivial⟩ ?_
      refine J.seq (fun K28 hK28 => ?_)
      refine J.block ?_
      refine J.draw [blk g5 [N64 (natB ((⟨s, 0⟩ : RS).out 4)), Str ((hs1 s).out 16), I (hdD s), I (hdA s), .slice A k c] 57] [7] (.y 0 (.y 1 (.y 2 (.e 3 (.e 4 (.e 5 (.y 6 (.e 7 .nil)))))))) Tryd.wide (by decide +kernel) (by simp) ?_
      refine J.dy rfl (op_fieldAddr (j := 4) rfl rfl Tryd.underlying57 rfl Tryd.sizeOf30 rfl) rfl rfl rfl rfl ?_
      refine J.dy rfl (op_loadB 0 rfl rfl rfl Tryd.isAgg30 rfl) rfl rfl rfl rfl ?_
      refine J.dy rfl (op_move rfl rfl) rfl rfl rfl rfl ?_
      refine J.de rfl (op_call rfl rfl ent83 (Ct.use1 2 (m' := fun _ : Unit => RSb g10 ((hs4 s).after (k + 1))) (new := fun _ => []) rfl (fun F' _ => rtext_ct F' g10 ((hs4 s).after k)))) rfl rfl rfl (by simp) ?_
      intro g40 _
      change J _ _ _ [F, blk g2 [N64 0, Str [], I 0, I 0, .slice none 0 0] 57, RSb g10 ((hs4 s).after (k + 1)), blk g5 [N64 (natB ((⟨s, 0⟩ : RS).out 4)), Str ((hs1 s).out 16), I (hdD s), I (hdA s), .slice A k c] 57, m] _
      refine J.de rfl (op_buildSlice (l := [.tmp 40]) (xs := [[Str ((hs4 s).after k).textS]]) rfl rfl rfl rfl Tryd.underlying30 el9 rfl (by decide) (by decide) (by simp)) rfl rfl rfl (by simp) ?_
      intro g41 _
      change J _ _ _ [F, blk g2 [N64 0, Str [], I 0, I 0, .slice none 0 0] 57, RSb g10 ((hs4 s).after (k + 1)), blk g5 [N64 (natB ((⟨s, 0⟩ : RS).out 4)), Str ((hs1 s).out 16), I (hdD s), I (hdA s), .slice A k c] 57, m, blk g41 [Str ((hs4 s).after k).textS] 9] _
      refine J.de rfl (op_append (i := 4) (m2 := blk g41 [Str ((hs4 s).after k).textS] 9) (ys := strsV [((hs4 s).after k).textS]) rfl rfl rfl Tryd.underlying30 Tryd.underlying30 el9 rfl hr (by simp) (slS [((hs4 s).after k).textS] rfl) (one_strs _) (by omega) (by omega)) rfl rfl rfl (by simp) ?_
      rintro ⟨A42, c42, m42⟩ h42
      try dsimp only at h42
      change J _ ((42, .slice A42 (k + 1) c42) :: _) _ [F, blk g2 [N64 0, Str [], I 0, I 0, .slice none 0 0] 57, RSb g10 ((hs4 s).after (k + 1)), blk g5 [N64 (natB ((⟨s, 0⟩ : RS).out 4)), Str ((hs1 s).out 16), I (hdD s), I (hdA s), .slice A k c] 57, m42, blk g41 [Str ((hs4 s).after k).textS] 9] _
      refine J.dy rfl (op_fieldAddr (j := 4) rfl rfl Tryd.underlying57 rfl Tryd.sizeOf30 rfl) rfl rfl rfl rfl ?_
      refine J.ds rfl (op_store (i := 3) (vs := [.slice A42 (k + 1) c42]) rfl rfl rfl rfl rfl Tryd.sizeOf30 rfl (by simp)) rfl rfl rfl (fun _ _ => ?_)
      change J _ _ _ [F, blk g2 [N64 0, Str [], I 0, I 0, .slice none 0 0] 57, RSb g10 ((hs4 s).after (k + 1)), blk g5 [N64 (natB ((⟨s, 0⟩ : RS).out 4)), Str ((hs1 s).out 16), I (hdD s), I (hdA s), .slice A42 (k + 1) c42] 57, m42, blk g41 [Str ((hs4 s).after k).textS] 9] _
      refine J.perm [0, 1, 2, 3, 4] [F, blk g2 [N64 0, Str [], I 0, I 0, .slice none 0 0] 57, RSb g10 ((hs4 s).after (k + 1)), blk g5 [N64 (natB ((⟨s, 0⟩ : RS).out 4)), Str ((hs1 s).out 16), I (hdD s), I (hdA s), .slice A42 (k + 1) c42] 57, m42] rfl (by decide) ?_
      refine J.dnil ?_
      refine J.blk_n ?_
      refine J.then_n (J.k hK28 ?_)
      refine J.keepE [(2, _), (4, _), (5, _), (34, _), (35, _)] ⟨rfl, rfl, rfl, rfl, rfl, trivial⟩ ?_
      refine J.region ?_
      refine J.y ((op_add rfl rfl rfl (by first | omega | (refine ⟨?_, ?_⟩ <;> omega))).as (v' := I ((k + 1 : Nat) : Int)) (congrArg I (by omega))) rfl rfl rfl ?_
      refine J.y (op_move rfl rfl) rfl rfl rfl ?_
      refine J.nil ?_
      refine J.then_n ?_
      exact J.kk (k + 1, A42, c42, m42) (fun x (hx : _ ∧ cnt (hdD s : Nat) - x.1 < cnt (hdD s : Nat) - k) => hI0 x hx.1 hx.2) ⟨⟨by dsimp only; omega, by rw [tx_succ]; rw [show ∀ a b, strsV (a ++ b) = strsV a ++ strsV b from fun a b => by simp [strsV]]; exact h42⟩, by dsimp only; omega⟩ ⟨rfl, rfl, rfl, rfl, rfl, trivial⟩ (fun _ h => h)
    ·
      refine J.exit ?_
      refine J.then_x ?_
      refine J.then_x ?_
      refine J.blk_eq ?_
      refine J.then_n (J.k hK24 ?_)
      refine J.keepE [(2, _), (4, _), (5, _)] ⟨rfl, rfl, rfl, trivial⟩ ?_
      refine J.seq (fun K29 hK29 => ?_)
      refine J.seq (fun K30 hK30 => ?_)
      have hkn : k = cnt (hdD s : Nat) := by omega
      subst hkn
      have hXn : (hdX s).nodes.length = cnt (hdD s : Nat) := tx_length _ _
      have hsX : Sl m 1 A (hdX s).nodes.length c (strsV (hdX s).nodes) := by rw [hXn]; exact hr.sl
      refine J.region ?_
      refine J.y (op_move rfl rfl) rfl rfl rfl ?_
      refine J.e (op_call rfl rfl ent80 (Ct.use1 2 (m' := fun _ : Unit => RSb g10 ((hs4 s).after (cnt (hdD s : Nat)))) (new := fun _ => []) rfl (fun F' _ => end_ct F' g10 ((hs4 s).after (cnt (hdD s : Nat)))))) rfl rfl rfl ?_
      intro g46 _
      change J _ _ _ [F, blk g2 [N64 0, Str [], I 0, I 0, .slice none 0 0] 57, RSb g10 ((hs4 s).after (cnt (hdD s : Nat))), blk g5 [N64 (natB ((⟨s, 0⟩ : RS).out 4)), Str ((hs1 s).out 16), I (hdD s), I (hdA s), .slice A (cnt (hdD s : Nat)) c] 57, m] _
      refine J.y (op_assign rfl rfl) rfl rfl rfl ?_
      refine J.nil ?_
      refine J.then_n (J.k hK30 ?_)
      refine J.keepE [(2, _), (5, _), (7, _)] ⟨rfl, rfl, rfl, trivial⟩ ?_
      refine J.seq (fun K31 hK31 => ?_)
      refine J.region ?_
      refine J.y (op_move rfl rfl) rfl rfl rfl ?_
      refine J.y (op_neq rfl rfl rfl) rfl rfl rfl ?_
      refine J.nil ?_
      refine J.then_n (J.k hK31 ?_)
      refine J.keepE [(2, _), (5, _), (7, _), (48, _)] ⟨rfl, rfl, rfl, rfl, trivial⟩ ?_
      refine J.ite rfl (fun h48 => ?_) (fun h48 => ?_)
      ·
        refine J.seq (fun K32 hK32 => ?_)
        have hE : hdE s = ((hs4 s).after (cnt (hdD s : Nat))).last := by unfold hdE; rw [if_neg hno, if_pos (by omega)]
        refine J.region ?_
        refine J.y (op_buildStruct (l := []) (vs := []) (places := [(0, 1), (1, 1), (2, 1), (3, 1), (4, 1)]) (r := [N64 0, Str [], I 0, I 0, .slice none 0 0]) rfl rfl rfl Tryd.underlying57 Tryd.zeroValue57 (fun _ => by kernel_rfl) rfl) rfl rfl rfl ?_
        refine J.y (op_move rfl rfl) rfl rfl rfl ?_
        refine J.s (op_storeAll (l := [N64 0, Str [], I 0, I 0, .slice none 0 0]) (i := 1) (vs := [N64 0, Str [], I 0, I 0, .slice none 0 0]) rfl rfl rfl rfl rfl Tryd.sizeOf57 rfl rfl) rfl rfl (fun _ _ => ?_)
        change J _ _ _ [F, blk g2 [N64 0, Str [], I 0, I 0, .slice none 0 0] 57, RSb g10 ((hs4 s).after (cnt (hdD s : Nat))), blk g5 [N64 (natB ((⟨s, 0⟩ : RS).out 4)), Str ((hs1 s).out 16), I (hdD s), I (hdA s), .slice A (cnt (hdD s : Nat)) c] 57, m] _
        refine J.y (op_assign rfl rfl) rfl rfl rfl ?_
        refine J.nil ?_
        refine J.then_n (J.k hK32 ?_)
        refine J.keepE [(2, _), (3, _)] ⟨rfl, rfl, trivial⟩ ?_
        refine J.ret ?_
        refine J.then_r ?_
        exact J.done hw0 (fun _ _ h => h) (rv2 rfl (RV.blkA 1 rfl rfl Tryd.isAgg57 Tryd.sizeOf57) rfl) (retOk (none, 0, m) (by show Value.tuple #[.agg #[N64 0, Str [], I 0, I 0, .slice none 0 0], I _] = _; rw [show hdY s = Hd.zero from if_neg (by rw [hE]; first | exact (by decide) | assumption), hE]; rfl) (by show Sl _ 1 none (hdY s).nodes.length 0 _; rw [show hdY s = Hd.zero from if_neg (by rw [hE]; first | exact (by decide) | assumption)]; exact Sl.nil) [0, 4] rfl (by decide))
      ·
        refine J.skip ?_
        refine J.then_n (J.k hK29 ?_)
        refine J.keepE [(2, _), (5, _)] ⟨rfl, rfl, trivial⟩ ?_
        refine J.seq (fun K33 hK33 => ?_)
        refine J.seq (fun K34 hK34 => ?_)
        have hE : hdE s = (hdX s).err := by unfold hdE; rw [if_neg hno, if_neg (by omega)]
        refine J.region ?_
        refine J.y ((op_loadBA 3 rfl rfl rfl Tryd.isAgg57 Tryd.sizeOf57 rfl).as (v' := .agg #[N64 (hdX s).ep, Str (hdX s).par, I (hdX s).dep, I (hdX s).aud, .slice A (hdX s).nodes.length c]) (by rw [hXn]; rfl)) rfl rfl rfl ?_
        refine J.e (op_call rfl rfl ent72 (Ct.use0 (fun F' hF => hcheck_ct F' (hdX s) A c (hdX_good s) ((hsX).mono (hF m (by simp)))))) rfl rfl rfl ?_
        intro g52 _
        refine J.y (op_assign rfl rfl) rfl rfl rfl ?_
        refine J.nil ?_
        refine J.then_n (J.k hK34 ?_)
        refine J.keepE [(2, _), (5, _), (8, _)] ⟨rfl, rfl, rfl, trivial⟩ ?_
        refine J.seq (fun K35 hK35 => ?_)
        refine J.region ?_
        refine J.y (op_move rfl rfl) rfl rfl rfl ?_
        refine J.y (op_neq rfl rfl rfl) rfl rfl rfl ?_
        refine J.nil ?_
        refine J.then_n (J.k hK35 ?_)
        refine J.keepE [(2, _), (5, _), (8, _), (54, _)] ⟨rfl, rfl, rfl, rfl, trivial⟩ ?_
        refine J.ite rfl (fun h54 => ?_) (fun h54 => ?_)
        ·
          refine J.seq (fun K36 hK36 => ?_)
          refine J.region ?_
          refine J.y (op_buildStruct (l := []) (vs := []) (places := [(0, 1), (1, 1), (2, 1), (3, 1), (4, 1)]) (r := [N64 0, Str [], I 0, I 0, .slice none 0 0]) rfl rfl rfl Tryd.underlying57 Tryd.zeroValue57 (fun _ => by kernel_rfl) rfl) rfl rfl rfl ?_
          refine J.y (op_move rfl rfl) rfl rfl rfl ?_
          refine J.s (op_storeAll (l := [N64 0, Str [], I 0, I 0, .slice none 0 0]) (i := 1) (vs := [N64 0, Str [], I 0, I 0, .slice none 0 0]) rfl rfl rfl rfl rfl Tryd.sizeOf57 rfl rfl) rfl rfl (fun _ _ => ?_)
          change J _ _ _ [F, blk g2 [N64 0, Str [], I 0, I 0, .slice none 0 0] 57, RSb g10 ((hs4 s).after (cnt (hdD s : Nat))), blk g5 [N64 (natB ((⟨s, 0⟩ : RS).out 4)), Str ((hs1 s).out 16), I (hdD s), I (hdA s), .slice A (cnt (hdD s : Nat)) c] 57, m] _
          refine J.y (op_assign rfl rfl) rfl rfl rfl ?_
          refine J.nil ?_
          refine J.then_n (J.k hK36 ?_)
          refine J.keepE [(2, _), (3, _)] ⟨rfl, rfl, trivial⟩ ?_
          refine J.ret ?_
          refine J.then_r ?_
          exact J.done hw0 (fun _ _ h => h) (rv2 rfl (RV.blkA 1 rfl rfl Tryd.isAgg57 Tryd.sizeOf57) rfl) (retOk (none, 0, m) (by show Value.tuple #[.agg #[N64 0, Str [], I 0, I 0, .slice none 0 0], I _] = _; rw [show hdY s = Hd.zero from if_neg (by rw [hE]; first | exact (by decide) | assumption), hE]; rfl) (by show Sl _ 1 none (hdY s).nodes.length 0 _; rw [show hdY s = Hd.zero from if_neg (by rw [hE]; first | exact (by decide) | assumption)]; exact Sl.nil) [0, 4] rfl (by decide))
        ·
          refine J.skip ?_
          refine J.then_n (J.k hK33 ?_)
          refine J.keepE [(2, _), (5, _)] ⟨rfl, rfl, trivial⟩ ?_
          refine J.seq (fun K37 hK37 => ?_)
          refine J.region ?_
          refine J.y ((op_loadBA 3 rfl rfl rfl Tryd.isAgg57 Tryd.sizeOf57 rfl).as (v' := .agg #[N64 (hdX s).ep, Str (hdX s).par, I (hdX s).dep, I (hdX s).aud, .slice A (hdX s).nodes.length c]) (by rw [hXn]; rfl)) rfl rfl rfl ?_
          refine J.s (op_storeAll (l := [N64 0, Str [], I 0, I 0, .slice none 0 0]) (i := 1) (vs := [N64 (hdX s).ep, Str (hdX s).par, I (hdX s).dep, I (hdX s).aud, .slice A (hdX s).nodes.length c]) rfl rfl rfl rfl rfl Tryd.sizeOf57 rfl rfl) rfl rfl (fun _ _ => ?_)
          change J _ _ _ [F, blk g2 [N64 (hdX s).ep, Str (hdX s).par, I (hdX s).dep, I (hdX s).aud, .slice A (hdX s).nodes.length c] 57, RSb g10 ((hs4 s).after (cnt (hdD s : Nat))), blk g5 [N64 (natB ((⟨s, 0⟩ : RS).out 4)), Str ((hs1 s).out 16), I (hdD s), I (hdA s), .slice A (cnt (hdD s : Nat)) c] 57, m] _
          refine J.y (op_assign rfl rfl) rfl rfl rfl ?_
          refine J.nil ?_
          refine J.then_n (J.k hK37 ?_)
          refine J.keepE [(2, _), (3, _)] ⟨rfl, rfl, trivial⟩ ?_
          refine J.ret ?_
          exact J.done hw0 (fun _ _ h => h) (rv2 rfl (RV.blkA 1 rfl rfl Tryd.isAgg57 Tryd.sizeOf57) rfl) (retOk (A, c, m) (by have h0 : hdE s = 0 := (by omega); show Value.tuple #[.agg #[N64 (hdX s).ep, Str (hdX s).par, I (hdX s).dep, I (hdX s).aud, .slice A (hdX s).nodes.length c], I 0] = _; rw [h0, show hdY s = hdX s from if_pos h0]; rfl) (by have h0 : hdE s = 0 := (by omega); show Sl m 1 A (hdY s).nodes.length c _; rw [show hdY s = hdX s from if_pos h0]; exact hsX) [0, 4] rfl (by decide))

def Hd.gen (x : Hd) : Int := if x.err ≠ 0 then x.err else if x.ep ≠ 0 then 14 else if x.par ≠ noughts then 15 else 0
def Hd.next (x y : Hd) : Int := if y.err ≠ 0 then y.err else if y.ep = 0 ∨ y.ep - 1 ≠ x.ep then 14 else if x.dig = [] ∨ y.par ≠ x.dig then 15 else if y.dep ≠ x.dep ∨ y.aud < x.aud then 22 else 0
def Hd.same (x y : Hd) : Prop := x.err = 0 ∧ y.err = 0 ∧ x.enc = y.enc
instance (x y : Hd) : Decidable (x.same y) := by unfold Hd.same; infer_instance
theorem gen_1 {x : Hd} (h : x.err ≠ 0) : x.gen = x.err := if_pos h
theorem gen_2 {x : Hd} (h : ¬ x.err ≠ 0) (h2 : x.ep ≠ 0) : x.gen = 14 := by unfold Hd.gen; rw [if_neg h, if_pos h2]
theorem gen_3 {x : Hd} (h : ¬ x.err ≠ 0) (h2 : ¬ x.ep ≠ 0) (h3 : x.par ≠ noughts) : x.gen = 15 := by unfold Hd.gen; rw [if_neg h, if_neg h2, if_pos h3]
theorem gen_4 {x : Hd} (h : ¬ x.err ≠ 0) (h2 : ¬ x.ep ≠ 0) (h3 : ¬ x.par ≠ noughts) : x.gen = 0 := by unfold Hd.gen; rw [if_neg h, if_neg h2, if_neg h3]
theorem next_1 {x y : Hd} (h : y.err ≠ 0) : x.next y = y.err := if_pos h
theorem next_2 {x y : Hd} (h : ¬ y.err ≠ 0) (h2 : y.ep = 0 ∨ y.ep - 1 ≠ x.ep) : x.next y = 14 := by unfold Hd.next; rw [if_neg h, if_pos h2]
theorem next_3 {x y : Hd} (h : ¬ y.err ≠ 0) (h2 : ¬ (y.ep = 0 ∨ y.ep - 1 ≠ x.ep)) (h3 : x.dig = [] ∨ y.par ≠ x.dig) : x.next y = 15 := by unfold Hd.next; rw [if_neg h, if_neg h2, if_pos h3]
theorem next_4 {x y : Hd} (h : ¬ y.err ≠ 0) (h2 : ¬ (y.ep = 0 ∨ y.ep - 1 ≠ x.ep)) (h3 : ¬ (x.dig = [] ∨ y.par ≠ x.dig)) (h4 : y.dep ≠ x.dep ∨ y.aud < x.aud) : x.next y = 22 := by unfold Hd.next; rw [if_neg h, if_neg h2, if_neg h3, if_pos h4]
theorem next_5 {x y : Hd} (h : ¬ y.err ≠ 0) (h2 : ¬ (y.ep = 0 ∨ y.ep - 1 ≠ x.ep)) (h3 : ¬ (x.dig = [] ∨ y.par ≠ x.dig)) (h4 : ¬ (y.dep ≠ x.dep ∨ y.aud < x.aud)) : x.next y = 0 := by unfold Hd.next; rw [if_neg h, if_neg h2, if_neg h3, if_neg h4]

theorem hgenesis_ct (F : Hp) (x : Hd) (A : Option Addr) (c : Nat) (hg : x.good) (hsl : Sl F 1 A x.nodes.length c (strsV x.nodes)) :
    Ct Tryd.prog 33 [.agg #[N64 x.ep, Str x.par, I x.dep, I x.aud, .slice A x.nodes.length c]] [F] (fun _ : Unit => I x.gen) (fun _ => True) (fun _ => [F]) := by
  refine Ct.walk Tryd.func33 rfl Tryd.ntmps33 rfl (fun w0 hw0 => ?_)
  change J _ [(0, _)] _ _ _
  refine J.seq (fun K1 hK1 => ?_)
  refine J.region ?_
  refine J.e (op_box rfl rfl (l := [N64 x.ep, Str x.par, I x.dep, I x.aud, .slice A x.nodes.length c]) rfl) rfl rfl rfl ?_
  intro g1 _
  change J _ _ _ [F, blk g1 [N64 x.ep, Str x.par, I x.dep, I x.aud, .slice A x.nodes.length c] 57] _
  refine J.y (op_assign rfl rfl) rfl rfl rfl ?_
  refine J.nil ?_
  refine J.then_n (J.k hK1 ?_)
  refine J.keepE [(1, _)] ⟨rfl, trivial⟩ ?_
  refine J.seq (fun K2 hK2 => ?_)
  refine J.region ?_
  refine J.y (op_loadBA 1 rfl rfl rfl Tryd.isAgg57 Tryd.sizeOf57 rfl) rfl rfl rfl ?_
  refine J.e (op_call rfl rfl ent72 (Ct.use0 (fun F' hF => hcheck_ct F' x A c hg (hsl.mono (hF F (by simp)))))) rfl rfl rfl ?_
  intro g5 _
  refine J.y (op_assign rfl rfl) rfl rfl rfl ?_
  refine J.nil ?_
  refine J.then_n (J.k hK2 ?_)
  refine J.keepE [(1, _), (3, _)] ⟨rfl, rfl, trivial⟩ ?_
  refine J.seq (fun K3 hK3 => ?_)
  refine J.block ?_
  refine J.seq (fun K4 hK4 => ?_)
  refine J.region ?_
  refine J.y (op_move rfl rfl) rfl rfl rfl ?_
  refine J.y (op_neq rfl rfl rfl) rfl rfl rfl ?_
  refine J.y (op_assign rfl rfl) rfl rfl rfl ?_
  refine J.nil ?_
  refine J.then_n (J.k hK4 ?_)
  refine J.keepE [(1, _), (3, _), (6, _)] ⟨rfl, rfl, rfl, trivial⟩ ?_
  refine J.ite rfl (fun h6 => ?_) (fun h6 => ?_)
  ·
    refine J.seq (fun K5 hK5 => ?_)
    refine J.region ?_
    refine J.y (op_move rfl rfl) rfl rfl rfl ?_
    refine J.y (op_assign rfl rfl) rfl rfl rfl ?_
    refine J.nil ?_
    refine J.then_n (J.k hK5 ?_)
    refine J.keepE [(2, _)] ⟨rfl, trivial⟩ ?_
    refine J.ret ?_
    refine J.blk_r ?_
    refine J.then_r ?_
    exact J.done hw0 (fun _ _ h => h) (res1 rfl rfl) (retOk () (congrArg I (gen_1 (by omega)).symm) trivial [0] rfl (by decide))
  ·
    refine J.seq (fun K6 hK6 => ?_)
    refine J.region ?_
    refine J.y (op_fieldAddr (j := 0) rfl rfl Tryd.underlying57 rfl Tryd.sizeOf47 rfl) rfl rfl rfl ?_
    refine J.y (op_loadB 1 rfl rfl rfl Tryd.isAgg47 rfl) rfl rfl rfl ?_
    refine J.y (op_neq rfl rfl rfl) rfl rfl rfl ?_
    refine J.y (op_assign rfl rfl) rfl rfl rfl ?_
    refine J.nil ?_
    refine J.then_n (J.k hK6 ?_)
    refine J.keepE [(1, _), (10, _)] ⟨rfl, rfl, trivial⟩ ?_
    refine J.ite rfl (fun h10 => ?_) (fun h10 => ?_)
    ·
      refine J.seq (fun K7 hK7 => ?_)
      refine J.region ?_
      refine J.y (op_assign rfl rfl) rfl rfl rfl ?_
      refine J.nil ?_
      refine J.then_n (J.k hK7 ?_)
      refine J.keepE [(2, _)] ⟨rfl, trivial⟩ ?_
      refine J.ret ?_
      refine J.blk_r ?_
      refine J.then_r ?_
      exact J.done hw0 (fun _ _ h => h) (res1 rfl rfl) (retOk () (congrArg I (gen_2 (by omega) (by omega)).symm) trivial [0] rfl (by decide))
    ·
      refine J.seq (fun K8 hK8 => ?_)
      refine J.draw [F, blk g1 [N64 x.ep, Str x.par, I x.dep, I x.aud, .slice A x.nodes.length c] 57] [] (.y 0 (.y 1 (.e 2 (.y 3 (.y 4 .nil))))) Tryd.wide (by decide +kernel) (by simp) ?_
      refine J.dy rfl (op_fieldAddr (j := 1) rfl rfl Tryd.underlying57 rfl Tryd.sizeOf9 rfl) rfl rfl rfl rfl ?_
      refine J.dy rfl (op_loadB 1 rfl rfl rfl Tryd.isAgg9 rfl) rfl rfl rfl rfl ?_
      refine J.de rfl (op_call rfl rfl ent69 (Ct.use0 (fun F' hF => repeat_ct F' 16 (by decide) (by decide)))) rfl rfl rfl (by simp) ?_
      intro g17 _
      refine J.dy rfl (op_sne rfl rfl rfl) rfl rfl rfl rfl ?_
      refine J.dy rfl (op_assign rfl rfl) rfl rfl rfl rfl ?_
      refine J.dnil ?_
      refine J.then_n (J.k hK8 ?_)
      refine J.keepE [(14, _)] ⟨rfl, trivial⟩ ?_
      refine J.ite rfl (fun h14 => ?_) (fun h14 => ?_)
      ·
        change x.par ≠ noughts at h14
        refine J.seq (fun K9 hK9 => ?_)
        refine J.region ?_
        refine J.y (op_assign rfl rfl) rfl rfl rfl ?_
        refine J.nil ?_
        refine J.then_n (J.k hK9 ?_)
        refine J.keepE [(2, _)] ⟨rfl, trivial⟩ ?_
        refine J.ret ?_
        refine J.blk_r ?_
        refine J.then_r ?_
        exact J.done hw0 (fun _ _ h => h) (res1 rfl rfl) (retOk () (congrArg I (gen_3 (by omega) (by omega) h14).symm) trivial [0] rfl (by decide))
      ·
        change ¬ x.par ≠ noughts at h14
        refine J.skip ?_
        refine J.blk_n ?_
        refine J.then_n (J.k hK3 ?_)
        refine J.keepE [] trivial ?_
        refine J.seq (fun K10 hK10 => ?_)
        refine J.region ?_
        refine J.y (op_assign rfl rfl) rfl rfl rfl ?_
        refine J.nil ?_
        refine J.then_n (J.k hK10 ?_)
        refine J.keepE [(2, _)] ⟨rfl, trivial⟩ ?_
        refine J.ret ?_
        exact J.done hw0 (fun _ _ h => h) (res1 rfl rfl) (retOk () (congrArg I (gen_4 (by omega) (by omega) h14).symm) trivial [0] rfl (by decide))

theorem hsame_ct (F : Hp) (x : Hd) (A : Option Addr) (c : Nat) (hg : x.good) (hsl : Sl F 1 A x.nodes.length c (strsV x.nodes)) (y : Hd) (B : Option Addr) (e : Nat) (hgy : y.good) (hsy : Sl F 1 B y.nodes.length e (strsV y.nodes)) :
    Ct Tryd.prog 48 [.agg #[N64 x.ep, Str x.par, I x.dep, I x.aud, .slice A x.nodes.length c], .agg #[N64 y.ep, Str y.par, I y.dep, I y.aud, .slice B y.nodes.length e]] [F] (fun _ : Unit => .bool (decide (x.same y))) (fun _ => True) (fun _ => [F]) := by
  refine Ct.walk Tryd.func48 rfl Tryd.ntmps48 rfl (fun w0 hw0 => ?_)
  change J _ [(0, _), (1, _)] _ _ _
  refine J.seq (fun K1 hK1 => ?_)
  refine J.region ?_
  refine J.e (op_box rfl rfl (l := [N64 x.ep, Str x.par, I x.dep, I x.aud, .slice A x.nodes.length c]) rfl) rfl rfl rfl ?_
  intro g2 _
  change J _ _ _ [F, blk g2 [N64 x.ep, Str x.par, I x.dep, I x.aud, .slice A x.nodes.length c] 57] _
  refine J.e (op_box rfl rfl (l := [N64 y.ep, Str y.par, I y.dep, I y.aud, .slice B y.nodes.length e]) rfl) rfl rfl rfl ?_
  intro g3 _
  change J _ _ _ [F, blk g2 [N64 x.ep, Str x.par, I x.dep, I x.aud, .slice A x.nodes.length c] 57, blk g3 [N64 y.ep, Str y.par, I y.dep, I y.aud, .slice B y.nodes.length e] 57] _
  refine J.y (op_assign rfl rfl) rfl rfl rfl ?_
  refine J.nil ?_
  refine J.then_n (J.k hK1 ?_)
  refine J.keepE [(2, _), (3, _)] ⟨rfl, rfl, trivial⟩ ?_
  refine J.seq (fun K2 hK2 => ?_)
  refine J.region ?_
  refine J.y (op_loadBA 1 rfl rfl rfl Tryd.isAgg57 Tryd.sizeOf57 rfl) rfl rfl rfl ?_
  refine J.e (op_call rfl rfl ent45 (Ct.use0 (fun F' hF => hencode_ct F' x A c hg (hsl.mono (hF F (by simp)))))) rfl rfl rfl ?_
  intro g11 _
  refine J.y (op_move rfl rfl) rfl rfl rfl ?_
  refine J.y (op_extract (v := Str x.enc) rfl rfl rfl) rfl rfl rfl ?_
  refine J.y (op_extract (v := I x.err) rfl rfl rfl) rfl rfl rfl ?_
  refine J.y (op_assign rfl rfl) rfl rfl rfl ?_
  refine J.y (op_assign rfl rfl) rfl rfl rfl ?_
  refine J.nil ?_
  refine J.then_n (J.k hK2 ?_)
  refine J.keepE [(3, _), (5, _), (6, _)] ⟨rfl, rfl, rfl, trivial⟩ ?_
  refine J.seq (fun K3 hK3 => ?_)
  refine J.region ?_
  refine J.y (op_loadBA 2 rfl rfl rfl Tryd.isAgg57 Tryd.sizeOf57 rfl) rfl rfl rfl ?_
  refine J.e (op_call rfl rfl ent45 (Ct.use0 (fun F' hF => hencode_ct F' y B e hgy (hsy.mono (hF F (by simp)))))) rfl rfl rfl ?_
  intro g16 _
  refine J.y (op_move rfl rfl) rfl rfl rfl ?_
  refine J.y (op_extract (v := Str y.enc) rfl rfl rfl) rfl rfl rfl ?_
  refine J.y (op_extract (v := I y.err) rfl rfl rfl) rfl rfl rfl ?_
  refine J.y (op_assign rfl rfl) rfl rfl rfl ?_
  refine J.y (op_assign rfl rfl) rfl rfl rfl ?_
  refine J.nil ?_
  refine J.then_n (J.k hK3 ?_)
  refine J.keepE [(5, _), (6, _), (7, _), (8, _)] ⟨rfl, rfl, rfl, rfl, trivial⟩ ?_
  refine J.seq (fun K4 hK4 => ?_)
  refine J.region ?_
  refine J.y (op_move rfl rfl) rfl rfl rfl ?_
  refine J.y (op_eql rfl rfl rfl) rfl rfl rfl ?_
  refine J.y (op_move rfl rfl) rfl rfl rfl ?_
  refine J.split (d := 21) rfl (fun h21 => ?_) (fun h21 => ?_)
  ·
    refine J.yg (Wan.is rfl rfl rfl rfl rfl) (op_move rfl rfl) rfl rfl ?_
    refine J.yg (Wan.is rfl rfl rfl rfl rfl) (op_eql rfl rfl rfl) rfl rfl ?_
    refine J.y (op_pickT rfl rfl rfl) rfl rfl rfl ?_
    refine J.y (op_move rfl rfl) rfl rfl rfl ?_
    refine J.split (d := 25) rfl (fun h25 => ?_) (fun h25 => ?_)
    ·
      refine J.yg (Wan.is rfl rfl rfl rfl rfl) (op_move rfl rfl) rfl rfl ?_
      refine J.yg (Wan.is rfl rfl rfl rfl rfl) (op_move rfl rfl) rfl rfl ?_
      refine J.yg (Wan.is rfl rfl rfl rfl rfl) (op_seq rfl rfl rfl) rfl rfl ?_
      refine J.y (op_pickT rfl rfl rfl) rfl rfl rfl ?_
      refine J.y (op_assign rfl rfl) rfl rfl rfl ?_
      refine J.nil ?_
      refine J.then_n (J.k hK4 ?_)
      refine J.keepE [(4, _)] ⟨rfl, trivial⟩ ?_
      refine J.ret ?_
      exact J.done hw0 (fun _ _ h => h) (res1 rfl rfl) (retOk () (congrArg Value.bool (decide_eq_decide.2 ⟨fun h => ⟨h21, h25, h⟩, fun h => h.2.2⟩)) trivial [0] rfl (by decide))
    ·
      refine J.no (Wan.is rfl rfl rfl rfl rfl) rfl rfl ?_
      refine J.no (Wan.is rfl rfl rfl rfl rfl) rfl rfl ?_
      refine J.no (Wan.is rfl rfl rfl rfl rfl) rfl rfl ?_
      refine J.y (op_pickF rfl rfl rfl) rfl rfl rfl ?_
      refine J.y (op_assign rfl rfl) rfl rfl rfl ?_
      refine J.nil ?_
      refine J.then_n (J.k hK4 ?_)
      refine J.keepE [(4, _)] ⟨rfl, trivial⟩ ?_
      refine J.ret ?_
      exact J.done hw0 (fun _ _ h => h) (res1 rfl rfl) (retOk () (congrArg Value.bool (decide_eq_false (fun h => h25 h.2.1)).symm) trivial [0] rfl (by decide))
  ·
    refine J.no (Wan.is rfl rfl rfl rfl rfl) rfl rfl ?_
    refine J.no (Wan.is rfl rfl rfl rfl rfl) rfl rfl ?_
    refine J.y (op_pickF rfl rfl rfl) rfl rfl rfl ?_
    refine J.y (op_move rfl rfl) rfl rfl rfl ?_
    refine J.no (Wan.is rfl rfl rfl rfl rfl) rfl rfl ?_
    refine J.no (Wan.is rfl rfl rfl rfl rfl) rfl rfl ?_
    refine J.no (Wan.is rfl rfl rfl rfl rfl) rfl rfl ?_
    refine J.y (op_pickF rfl rfl rfl) rfl rfl rfl ?_
    refine J.y (op_assign rfl rfl) rfl rfl rfl ?_
    refine J.nil ?_
    refine J.then_n (J.k hK4 ?_)
    refine J.keepE [(4, _)] ⟨rfl, trivial⟩ ?_
    refine J.ret ?_
    exact J.done hw0 (fun _ _ h => h) (res1 rfl rfl) (retOk () (congrArg Value.bool (decide_eq_false (fun h => h21 h.1)).symm) trivial [0] rfl (by decide))

theorem hroot_ct (F : Hp) (hK : Cells F ⟨0, 0, none⟩ (Sha.K.map W32)) (x : Hd) (A : Option Addr) (c : Nat) (hg : x.good) (hsl : Sl F 1 A x.nodes.length c (strsV x.nodes)) (hsm : ∀ s ∈ x.nodes, s.length ≤ 1048576) :
    Ct Tryd.prog 50 [.agg #[N64 x.ep, Str x.par, I x.dep, I x.aud, .slice A x.nodes.length c]] [F] (fun _ : Unit => Str (brVal x.nodes x.dep)) (fun _ => True) (fun _ => [F]) := by
  refine Ct.walk Tryd.func50 rfl Tryd.ntmps50 rfl (fun w0 hw0 => ?_)
  change J _ [(0, _)] _ _ _
  refine J.seq (fun K1 hK1 => ?_)
  refine J.region ?_
  refine J.e (op_box rfl rfl (l := [N64 x.ep, Str x.par, I x.dep, I x.aud, .slice A x.nodes.length c]) rfl) rfl rfl rfl ?_
  intro g1 _
  change J _ _ _ [F, blk g1 [N64 x.ep, Str x.par, I x.dep, I x.aud, .slice A x.nodes.length c] 57] _
  refine J.y (op_assign rfl rfl) rfl rfl rfl ?_
  refine J.nil ?_
  refine J.then_n (J.k hK1 ?_)
  refine J.keepE [(1, _)] ⟨rfl, trivial⟩ ?_
  refine J.seq (fun K2 hK2 => ?_)
  refine J.region ?_
  refine J.y (op_fieldAddr (j := 4) rfl rfl Tryd.underlying57 rfl Tryd.sizeOf30 rfl) rfl rfl rfl ?_
  refine J.y (op_loadB 1 rfl rfl rfl Tryd.isAgg30 rfl) rfl rfl rfl ?_
  refine J.y (op_fieldAddr (j := 2) rfl rfl Tryd.underlying57 rfl Tryd.sizeOf3 rfl) rfl rfl rfl ?_
  refine J.y (op_loadB 1 rfl rfl rfl Tryd.isAgg3 rfl) rfl rfl rfl ?_
  refine J.e (op_call rfl rfl ent49 (Ct.use0 (fun F' hF => broot_ct F' (hK.mono (hF F (by simp))) x.dep x.nodes A c (hsl.mono (hF F (by simp))) hsm))) rfl rfl rfl ?_
  intro g10 _
  refine J.y (op_move rfl rfl) rfl rfl rfl ?_
  refine J.y (op_extract (v := Str (brVal x.nodes x.dep)) rfl rfl rfl) rfl rfl rfl ?_
  refine J.y (op_extract (v := I (brErr x.nodes x.dep)) rfl rfl rfl) rfl rfl rfl ?_
  refine J.y (op_assign rfl rfl) rfl rfl rfl ?_
  refine J.y (op_assign rfl rfl) rfl rfl rfl ?_
  refine J.nil ?_
  refine J.then_n (J.k hK2 ?_)
  refine J.keepE [(3, _)] ⟨rfl, trivial⟩ ?_
  refine J.seq (fun K3 hK3 => ?_)
  refine J.region ?_
  refine J.y (op_move rfl rfl) rfl rfl rfl ?_
  refine J.y (op_assign rfl rfl) rfl rfl rfl ?_
  refine J.nil ?_
  refine J.then_n (J.k hK3 ?_)
  refine J.keepE [(2, _)] ⟨rfl, trivial⟩ ?_
  refine J.ret ?_
  exact J.done hw0 (fun _ _ h => h) (res1 rfl rfl) (retOk () rfl trivial [0] rfl (by decide))

theorem hnext_ct (F : Hp) (hK : Cells F ⟨0, 0, none⟩ (Sha.K.map W32)) (x : Hd) (A : Option Addr) (c : Nat) (hg : x.good) (hsl : Sl F 1 A x.nodes.length c (strsV x.nodes)) (y : Hd) (B : Option Addr) (e : Nat) (hgy : y.good) (hsy : Sl F 1 B y.nodes.length e (strsV y.nodes)) :
    Ct Tryd.prog 32 [.agg #[N64 x.ep, Str x.par, I x.dep, I x.aud, .slice A x.nodes.length c], .agg #[N64 y.ep, Str y.par, I y.dep, I y.aud, .slice B y.nodes.length e]] [F] (fun _ : Unit => I (x.next y)) (fun _ => True) (fun _ => [F]) := by
  obtain ⟨hgx1, hgx2, hgx3⟩ := id hg
  obtain ⟨hgy1, hgy2, hgy3⟩ := id hgy
  refine Ct.walk Tryd.func32 rfl Tryd.ntmps32 rfl (fun w0 hw0 => ?_)
  change J _ [(0, _), (1, _)] _ _ _
  refine J.seq (fun K1 hK1 => ?_)
  refine J.region ?_
  refine J.e (op_box rfl rfl (l := [N64 x.ep, Str x.par, I x.dep, I x.aud, .slice A x.nodes.length c]) rfl) rfl rfl rfl ?_
  intro g2 _
  change J _ _ _ [F, blk g2 [N64 x.ep, Str x.par, I x.dep, I x.aud, .slice A x.nodes.length c] 57] _
  refine J.e (op_box rfl rfl (l := [N64 y.ep, Str y.par, I y.dep, I y.aud, .slice B y.nodes.length e]) rfl) rfl rfl rfl ?_
  intro g3 _
  change J _ _ _ [F, blk g2 [N64 x.ep, Str x.par, I x.dep, I x.aud, .slice A x.nodes.length c] 57, blk g3 [N64 y.ep, Str y.par, I y.dep, I y.aud, .slice B y.nodes.length e] 57] _
  refine J.y (op_assign rfl rfl) rfl rfl rfl ?_
  refine J.nil ?_
  refine J.then_n (J.k hK1 ?_)
  refine J.keepE [(2, _), (3, _)] ⟨rfl, rfl, trivial⟩ ?_
  refine J.seq (fun K2 hK2 => ?_)
  refine J.draw [F, blk g2 [N64 x.ep, Str x.par, I x.dep, I x.aud, .slice A x.nodes.length c] 57, blk g3 [N64 y.ep, Str y.par, I y.dep, I y.aud, .slice B y.nodes.length e] 57] [] (.y 0 (.y 2 (.e 1 (.e 3 (.y 4 (.y 5 .nil)))))) Tryd.wide (by decide +kernel) (by simp) ?_
  refine J.dy rfl (op_loadBA 2 rfl rfl rfl Tryd.isAgg57 Tryd.sizeOf57 rfl) rfl rfl rfl rfl ?_
  refine J.dy rfl (op_loadBA 1 rfl rfl rfl Tryd.isAgg57 Tryd.sizeOf57 rfl) rfl rfl rfl rfl ?_
  refine J.de rfl (op_call rfl rfl ent72 (Ct.use0 (fun F' hF => hcheck_ct F' y B e hgy (hsy.mono (hF F (by simp)))))) rfl rfl rfl (by simp) ?_
  intro g8 _
  refine J.de rfl (op_call rfl rfl ent47 (Ct.use0 (fun F' hF => hdigest_ct F' (hK.mono (hF F (by simp))) x A c hg (hsl.mono (hF F (by simp)))))) rfl rfl rfl (by simp) ?_
  intro g10 _
  refine J.dy rfl (op_assign rfl rfl) rfl rfl rfl rfl ?_
  refine J.dy rfl (op_assign rfl rfl) rfl rfl rfl rfl ?_
  refine J.dnil ?_
  refine J.then_n (J.k hK2 ?_)
  refine J.keepE [(2, _), (3, _), (5, _), (6, _)] ⟨rfl, rfl, rfl, rfl, trivial⟩ ?_
  refine J.seq (fun K3 hK3 => ?_)
  refine J.block ?_
  refine J.seq (fun K4 hK4 => ?_)
  refine J.region ?_
  refine J.y (op_move rfl rfl) rfl rfl rfl ?_
  refine J.y (op_neq rfl rfl rfl) rfl rfl rfl ?_
  refine J.y (op_assign rfl rfl) rfl rfl rfl ?_
  refine J.nil ?_
  refine J.then_n (J.k hK4 ?_)
  refine J.keepE [(2, _), (3, _), (5, _), (6, _), (11, _)] ⟨rfl, rfl, rfl, rfl, rfl, trivial⟩ ?_
  refine J.ite rfl (fun h11 => ?_) (fun h11 => ?_)
  ·
    refine J.seq (fun K5 hK5 => ?_)
    refine J.region ?_
    refine J.y (op_move rfl rfl) rfl rfl rfl ?_
    refine J.y (op_assign rfl rfl) rfl rfl rfl ?_
    refine J.nil ?_
    refine J.then_n (J.k hK5 ?_)
    refine J.keepE [(4, _)] ⟨rfl, trivial⟩ ?_
    refine J.ret ?_
    refine J.blk_r ?_
    refine J.then_r ?_
    exact J.done hw0 (fun _ _ h => h) (res1 rfl rfl) (retOk () (congrArg I (next_1 (by omega)).symm) trivial [0] rfl (by decide))
  ·
    refine J.seq (fun K6 hK6 => ?_)
    refine J.region ?_
    refine J.y (op_fieldAddr (j := 0) rfl rfl Tryd.underlying57 rfl Tryd.sizeOf47 rfl) rfl rfl rfl ?_
    refine J.y (op_loadB 2 rfl rfl rfl Tryd.isAgg47 rfl) rfl rfl rfl ?_
    refine J.y (op_eql rfl rfl rfl) rfl rfl rfl ?_
    refine J.y (op_move rfl rfl) rfl rfl rfl ?_
    refine J.split (d := 19) rfl (fun h19 => ?_) (fun h19 => ?_)
    ·
      refine J.no (Wan.is rfl rfl rfl rfl rfl) rfl rfl ?_
      refine J.no (Wan.is rfl rfl rfl rfl rfl) rfl rfl ?_
      refine J.no (Wan.is rfl rfl rfl rfl rfl) rfl rfl ?_
      refine J.no (Wan.is rfl rfl rfl rfl rfl) rfl rfl ?_
      refine J.no (Wan.is rfl rfl rfl rfl rfl) rfl rfl ?_
      refine J.no (Wan.is rfl rfl rfl rfl rfl) rfl rfl ?_
      refine J.y (op_pickT rfl rfl rfl) rfl rfl rfl ?_
      refine J.y (op_assign rfl rfl) rfl rfl rfl ?_
      refine J.nil ?_
      refine J.then_n (J.k hK6 ?_)
      refine J.keepE [(2, _), (3, _), (6, _), (15, _)] ⟨rfl, rfl, rfl, rfl, trivial⟩ ?_
      refine J.condT rfl rfl ?_
      refine J.seq (fun K7 hK7 => ?_)
      refine J.region ?_
      refine J.y (op_assign rfl rfl) rfl rfl rfl ?_
      refine J.nil ?_
      refine J.then_n (J.k hK7 ?_)
      refine J.keepE [(4, _)] ⟨rfl, trivial⟩ ?_
      refine J.ret ?_
      refine J.blk_r ?_
      refine J.then_r ?_
      exact J.done hw0 (fun _ _ h => h) (res1 rfl rfl) (retOk () (congrArg I (next_2 (by omega) (by omega)).symm) trivial [0] rfl (by decide))
    ·
      refine J.yg (Wan.is rfl rfl rfl rfl rfl) (op_fieldAddr (j := 0) rfl rfl Tryd.underlying57 rfl Tryd.sizeOf47 rfl) rfl rfl ?_
      refine J.yg (Wan.is rfl rfl rfl rfl rfl) (op_loadB 2 rfl rfl rfl Tryd.isAgg47 rfl) rfl rfl ?_
      refine J.yg (Wan.is rfl rfl rfl rfl rfl) (op_subU (b := 1) rfl rfl rfl (by omega)) rfl rfl ?_
      refine J.yg (Wan.is rfl rfl rfl rfl rfl) (op_fieldAddr (j := 0) rfl rfl Tryd.underlying57 rfl Tryd.sizeOf47 rfl) rfl rfl ?_
      refine J.yg (Wan.is rfl rfl rfl rfl rfl) (op_loadB 1 rfl rfl rfl Tryd.isAgg47 rfl) rfl rfl ?_
      refine J.yg (Wan.is rfl rfl rfl rfl rfl) (op_neq rfl rfl rfl) rfl rfl ?_
      refine J.y (op_pickF rfl rfl rfl) rfl rfl rfl ?_
      refine J.y (op_assign rfl rfl) rfl rfl rfl ?_
      refine J.nil ?_
      refine J.then_n (J.k hK6 ?_)
      refine J.keepE [(2, _), (3, _), (6, _), (15, _)] ⟨rfl, rfl, rfl, rfl, trivial⟩ ?_
      refine J.ite rfl (fun h15 => ?_) (fun h15 => ?_)
      ·
        refine J.seq (fun K8 hK8 => ?_)
        refine J.region ?_
        refine J.y (op_assign rfl rfl) rfl rfl rfl ?_
        refine J.nil ?_
        refine J.then_n (J.k hK8 ?_)
        refine J.keepE [(4, _)] ⟨rfl, trivial⟩ ?_
        refine J.ret ?_
        refine J.blk_r ?_
        refine J.then_r ?_
        exact J.done hw0 (fun _ _ h => h) (res1 rfl rfl) (retOk () (congrArg I (next_2 (by omega) (by omega)).symm) trivial [0] rfl (by decide))
      ·
        refine J.seq (fun K9 hK9 => ?_)
        refine J.region ?_
        refine J.y (op_move rfl rfl) rfl rfl rfl ?_
        refine J.y (op_seq rfl rfl rfl) rfl rfl rfl ?_
        refine J.y (op_move rfl rfl) rfl rfl rfl ?_
        refine J.split (d := 30) rfl (fun h30 => ?_) (fun h30 => ?_)
        ·
          refine J.no (Wan.is rfl rfl rfl rfl rfl) rfl rfl ?_
          refine J.no (Wan.is rfl rfl rfl rfl rfl) rfl rfl ?_
          refine J.no (Wan.is rfl rfl rfl rfl rfl) rfl rfl ?_
          refine J.no (Wan.is rfl rfl rfl rfl rfl) rfl rfl ?_
          refine J.y (op_pickT rfl rfl rfl) rfl rfl rfl ?_
          refine J.y (op_assign rfl rfl) rfl rfl rfl ?_
          refine J.nil ?_
          refine J.then_n (J.k hK9 ?_)
          refine J.keepE [(2, _), (3, _), (27, _)] ⟨rfl, rfl, rfl, trivial⟩ ?_
          refine J.condT rfl rfl ?_
          refine J.seq (fun K10 hK10 => ?_)
          refine J.region ?_
          refine J.y (op_assign rfl rfl) rfl rfl rfl ?_
          refine J.nil ?_
          refine J.then_n (J.k hK10 ?_)
          refine J.keepE [(4, _)] ⟨rfl, trivial⟩ ?_
          refine J.ret ?_
          refine J.blk_r ?_
          refine J.then_r ?_
          exact J.done hw0 (fun _ _ h => h) (res1 rfl rfl) (retOk () (congrArg I (next_3 (by omega) (by omega) (.inl h30)).symm) trivial [0] rfl (by decide))
        ·
          refine J.yg (Wan.is rfl rfl rfl rfl rfl) (op_fieldAddr (j := 1) rfl rfl Tryd.underlying57 rfl Tryd.sizeOf9 rfl) rfl rfl ?_
          refine J.yg (Wan.is rfl rfl rfl rfl rfl) (op_loadB 2 rfl rfl rfl Tryd.isAgg9 rfl) rfl rfl ?_
          refine J.yg (Wan.is rfl rfl rfl rfl rfl) (op_move rfl rfl) rfl rfl ?_
          refine J.yg (Wan.is rfl rfl rfl rfl rfl) (op_sne rfl rfl rfl) rfl rfl ?_
          refine J.y (op_pickF rfl rfl rfl) rfl rfl rfl ?_
          refine J.y (op_assign rfl rfl) rfl rfl rfl ?_
          refine J.nil ?_
          refine J.then_n (J.k hK9 ?_)
          refine J.keepE [(2, _), (3, _), (27, _)] ⟨rfl, rfl, rfl, trivial⟩ ?_
          refine J.ite rfl (fun h27 => ?_) (fun h27 => ?_)
          ·
            refine J.seq (fun K11 hK11 => ?_)
            refine J.region ?_
            refine J.y (op_assign rfl rfl) rfl rfl rfl ?_
            refine J.nil ?_
            refine J.then_n (J.k hK11 ?_)
            refine J.keepE [(4, _)] ⟨rfl, trivial⟩ ?_
            refine J.ret ?_
            refine J.blk_r ?_
            refine J.then_r ?_
            exact J.done hw0 (fun _ _ h => h) (res1 rfl rfl) (retOk () (congrArg I (next_3 (by omega) (by omega) (.inr h27)).symm) trivial [0] rfl (by decide))
          ·
            refine J.seq (fun K12 hK12 => ?_)
            refine J.region ?_
            refine J.y (op_fieldAddr (j := 2) rfl rfl Tryd.underlying57 rfl Tryd.sizeOf3 rfl) rfl rfl rfl ?_
            refine J.y (op_loadB 2 rfl rfl rfl Tryd.isAgg3 rfl) rfl rfl rfl ?_
            refine J.y (op_fieldAddr (j := 2) rfl rfl Tryd.underlying57 rfl Tryd.sizeOf3 rfl) rfl rfl rfl ?_
            refine J.y (op_loadB 1 rfl rfl rfl Tryd.isAgg3 rfl) rfl rfl rfl ?_
            refine J.y (op_neq rfl rfl rfl) rfl rfl rfl ?_
            refine J.y (op_move rfl rfl) rfl rfl rfl ?_
            refine J.split (d := 42) rfl (fun h42 => ?_) (fun h42 => ?_)
            ·
              refine J.no (Wan.is rfl rfl rfl rfl rfl) rfl rfl ?_
              refine J.no (Wan.is rfl rfl rfl rfl rfl) rfl rfl ?_
              refine J.no (Wan.is rfl rfl rfl rfl rfl) rfl rfl ?_
              refine J.no (Wan.is rfl rfl rfl rfl rfl) rfl rfl ?_
              refine J.no (Wan.is rfl rfl rfl rfl rfl) rfl rfl ?_
              refine J.y (op_pickT rfl rfl rfl) rfl rfl rfl ?_
              refine J.y (op_assign rfl rfl) rfl rfl rfl ?_
              refine J.nil ?_
              refine J.then_n (J.k hK12 ?_)
              refine J.keepE [(36, _)] ⟨rfl, trivial⟩ ?_
              refine J.condT rfl rfl ?_
              refine J.seq (fun K13 hK13 => ?_)
              refine J.region ?_
              refine J.y (op_assign rfl rfl) rfl rfl rfl ?_
              refine J.nil ?_
              refine J.then_n (J.k hK13 ?_)
              refine J.keepE [(4, _)] ⟨rfl, trivial⟩ ?_
              refine J.ret ?_
              refine J.blk_r ?_
              refine J.then_r ?_
              exact J.done hw0 (fun _ _ h => h) (res1 rfl rfl) (retOk () (congrArg I (next_4 (by omega) (by omega) (fun h => h.elim h30 h27) (by omega)).symm) trivial [0] rfl (by decide))
            ·
              refine J.yg (Wan.is rfl rfl rfl rfl rfl) (op_fieldAddr (j := 3) rfl rfl Tryd.underlying57 rfl Tryd.sizeOf3 rfl) rfl rfl ?_
              refine J.yg (Wan.is rfl rfl rfl rfl rfl) (op_loadB 2 rfl rfl rfl Tryd.isAgg3 rfl) rfl rfl ?_
              refine J.yg (Wan.is rfl rfl rfl rfl rfl) (op_fieldAddr (j := 3) rfl rfl Tryd.underlying57 rfl Tryd.sizeOf3 rfl) rfl rfl ?_
              refine J.yg (Wan.is rfl rfl rfl rfl rfl) (op_loadB 1 rfl rfl rfl Tryd.isAgg3 rfl) rfl rfl ?_
              refine J.yg (Wan.is rfl rfl rfl rfl rfl) (op_lss rfl rfl rfl) rfl rfl ?_
              refine J.y (op_pickF rfl rfl rfl) rfl rfl rfl ?_
              refine J.y (op_assign rfl rfl) rfl rfl rfl ?_
              refine J.nil ?_
              refine J.then_n (J.k hK12 ?_)
              refine J.keepE [(36, _)] ⟨rfl, trivial⟩ ?_
              refine J.ite rfl (fun h36 => ?_) (fun h36 => ?_)
              ·
                refine J.seq (fun K14 hK14 => ?_)
                refine J.region ?_
                refine J.y (op_assign rfl rfl) rfl rfl rfl ?_
                refine J.nil ?_
                refine J.then_n (J.k hK14 ?_)
                refine J.keepE [(4, _)] ⟨rfl, trivial⟩ ?_
                refine J.ret ?_
                refine J.blk_r ?_
                refine J.then_r ?_
                exact J.done hw0 (fun _ _ h => h) (res1 rfl rfl) (retOk () (congrArg I (next_4 (by omega) (by omega) (fun h => h.elim h30 h27) (by omega)).symm) trivial [0] rfl (by decide))
              ·
                refine J.skip ?_
                refine J.blk_n ?_
                refine J.then_n (J.k hK3 ?_)
                refine J.keepE [] trivial ?_
                refine J.seq (fun K15 hK15 => ?_)
                refine J.region ?_
                refine J.y (op_assign rfl rfl) rfl rfl rfl ?_
                refine J.nil ?_
                refine J.then_n (J.k hK15 ?_)
                refine J.keepE [(4, _)] ⟨rfl, trivial⟩ ?_
                refine J.ret ?_
                exact J.done hw0 (fun _ _ h => h) (res1 rfl rfl) (retOk () (congrArg I (next_5 (by omega) (by omega) (fun h => h.elim h30 h27) (by omega)).symm) trivial [0] rfl (by decide))

end Go.Proofs.YtlopnfgacopkbaaDoor
