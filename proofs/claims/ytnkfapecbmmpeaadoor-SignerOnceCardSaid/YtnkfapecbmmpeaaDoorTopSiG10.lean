/- A part of the proof: contracts of functions of the program, each for every state of the heaps that it names. -/
import Derived.Test.YtnkfapecbmmpeaaDoorTopSiG8
import Derived.Test.YtnkfapecbmmpeaaDoorTopSiG4
import Derived.Test.YtnkfapecbmmpeaaDoorTopSiG9
set_option linter.unusedSimpArgs false
set_option linter.unusedVariables false
namespace Go.Proofs.YtnkfapecbmmpeaaDoor
open Go Go.Fw
set_option maxRecDepth 100000
set_option maxHeartbeats 1000000
theorem ent55 : Enters Tryd.prog 55 := Enters.of Tryd.func55 rfl (by kernel_rfl)
theorem ent85 : Enters Tryd.prog 85 := Enters.of Tryd.func85 rfl (by kernel_rfl)
theorem ent101 : Enters Tryd.prog 101 := Enters.of Tryd.func101 rfl (by kernel_rfl)
theorem ent130 : Enters Tryd.prog 130 := Enters.of Tryd.func130 rfl (by kernel_rfl)
theorem ent139 : Enters Tryd.prog 139 := Enters.of Tryd.func139 rfl (by kernel_rfl)

def fbad (ok : Bool) (e bad : Int) : Int := if ok = false ∧ bad = 0 then e else bad
def fset (ok : Bool) (e bad : Int) (l : List Value) : List Value := if ok = false ∧ bad = 0 then setAt l 2 [I e] else l
theorem fset_len {ok : Bool} {e bad : Int} {l : List Value} (hl : l.length = 3) : (fset ok e bad l).length = 3 := by
  unfold fset
  split
  · rw [setAt_len (by omega)]; exact hl
  · exact hl
theorem fset_bad {ok : Bool} {e bad : Int} {l : List Value} (hl : l.length = 3) (hb : l[2]? = some (I bad)) : (fset ok e bad l)[2]? = some (I (fbad ok e bad)) := by
  unfold fset fbad
  split
  · exact setAt_get (by omega)
  · exact hb
theorem fset_bld {ok : Bool} {e bad : Int} {g : Nat} {l : List Value} {mr : Hp} {bs : List UInt8} {A : Option Addr} {c : Nat} {p : Option Addr} (hl : l.length = 3) (hb : Bld g 0 l mr bs A c p) : Bld g 0 (fset ok e bad l) mr bs A c p := by
  unfold fset
  split
  · exact ⟨(setAt_ne (by omega) (by decide)).trans hb.a0, hb.self, (setAt_ne (by omega) (by decide)).trans hb.a1, hb.row, hb.cap⟩
  · exact hb

theorem fail_true (F : Hp) (g : Nat) (l : List Value) (hl : l.length = 3) (bad : Int) (hb : l[2]? = some (I bad)) (e : Int) :
    Ct Tryd.prog 101 [Ptr g, .bool true, I e] [blk g l 104, F] (fun _ : Unit => .bool (decide (fbad true e bad = 0))) (fun _ => True) (fun _ => [blk g (fset true e bad l) 104, F]) := by
  refine Ct.walk Tryd.func101 rfl Tryd.ntmps101 rfl (fun w0 hw0 => ?_)
  change J _ [(0, _), (1, _), (2, _)] _ _ _
  refine J.seq (fun K1 hK1 => ?_)
  refine J.region ?_
  refine J.y (op_assign rfl rfl) rfl rfl rfl ?_
  refine J.nil ?_
  refine J.then_n (J.k hK1 ?_)
  refine J.keepE [(0, _), (1, _), (2, _)] ⟨rfl, rfl, rfl, trivial⟩ ?_
  refine J.seq (fun K2 hK2 => ?_)
  refine J.seq (fun K3 hK3 => ?_)
  refine J.region ?_
  refine J.y (op_move rfl rfl) rfl rfl rfl ?_
  refine J.y (op_not rfl rfl) rfl rfl rfl ?_
  refine J.y (op_move rfl rfl) rfl rfl rfl ?_
  refine J.no (Wan.is rfl rfl rfl rfl rfl) rfl rfl ?_
  refine J.no (Wan.is rfl rfl rfl rfl rfl) rfl rfl ?_
  refine J.no (Wan.is rfl rfl rfl rfl rfl) rfl rfl ?_
  refine J.no (Wan.is rfl rfl rfl rfl rfl) rfl rfl ?_
  refine J.no (Wan.is rfl rfl rfl rfl rfl) rfl rfl ?_
  refine J.y (op_pickF rfl rfl rfl) rfl rfl rfl ?_
  refine J.nil ?_
  refine J.then_n (J.k hK3 ?_)
  refine J.keepE [(0, _), (2, _), (15, _)] ⟨rfl, rfl, rfl, trivial⟩ ?_
  refine J.condF rfl rfl ?_
  refine J.skip ?_
  refine J.then_n (J.k hK2 ?_)
  refine J.keepE [(0, _)] ⟨rfl, trivial⟩ ?_
  refine J.seq (fun K4 hK4 => ?_)
  refine J.region ?_
  refine J.y (op_move rfl rfl) rfl rfl rfl ?_
  refine J.y (op_nilCheck rfl rfl) rfl rfl rfl ?_
  refine J.y (op_fieldAddr (j := 2) rfl rfl Tryd.underlying104 rfl Tryd.sizeOf27 rfl) rfl rfl rfl ?_
  refine J.y (op_loadB 0 rfl rfl rfl Tryd.isAgg27 (by first | exact hb | exact setAt_get (by omega))) rfl rfl rfl ?_
  refine J.y (op_eql rfl rfl rfl) rfl rfl rfl ?_
  refine J.y (op_assign rfl rfl) rfl rfl rfl ?_
  refine J.nil ?_
  refine J.then_n (J.k hK4 ?_)
  refine J.keepE [(6, _)] ⟨rfl, trivial⟩ ?_
  refine J.ret ?_
  exact J.done hw0 (fun _ _ h => h) (res1 rfl rfl) (retOk () (congrArg Value.bool (decide_eq_decide.2 (by unfold fbad; rw [if_neg (show ¬ (true = false ∧ bad = 0) from fun h => by cases h.1)]))) trivial [0, 1] (by show [blk g _ _, F] = [blk g (fset true e bad l) _, F]; unfold fset; rw [if_neg (show ¬ (true = false ∧ bad = 0) from fun h => by cases h.1)]) (by decide))

theorem fail_false (F : Hp) (g : Nat) (l : List Value) (hl : l.length = 3) (bad : Int) (hb : l[2]? = some (I bad)) (e : Int) :
    Ct Tryd.prog 101 [Ptr g, .bool false, I e] [blk g l 104, F] (fun _ : Unit => .bool (decide (fbad false e bad = 0))) (fun _ => True) (fun _ => [blk g (fset false e bad l) 104, F]) := by
  refine Ct.walk Tryd.func101 rfl Tryd.ntmps101 rfl (fun w0 hw0 => ?_)
  change J _ [(0, _), (1, _), (2, _)] _ _ _
  refine J.seq (fun K1 hK1 => ?_)
  refine J.region ?_
  refine J.y (op_assign rfl rfl) rfl rfl rfl ?_
  refine J.nil ?_
  refine J.then_n (J.k hK1 ?_)
  refine J.keepE [(0, _), (1, _), (2, _)] ⟨rfl, rfl, rfl, trivial⟩ ?_
  refine J.seq (fun K2 hK2 => ?_)
  refine J.seq (fun K3 hK3 => ?_)
  refine J.region ?_
  refine J.y (op_move rfl rfl) rfl rfl rfl ?_
  refine J.y (op_not rfl rfl) rfl rfl rfl ?_
  refine J.y (op_move rfl rfl) rfl rfl rfl ?_
  refine J.yg (Wan.is rfl rfl rfl rfl rfl) (op_move rfl rfl) rfl rfl ?_
  refine J.yg (Wan.is rfl rfl rfl rfl rfl) (op_nilCheck rfl rfl) rfl rfl ?_
  refine J.yg (Wan.is rfl rfl rfl rfl rfl) (op_fieldAddr (j := 2) rfl rfl Tryd.underlying104 rfl Tryd.sizeOf27 rfl) rfl rfl ?_
  refine J.yg (Wan.is rfl rfl rfl rfl rfl) (op_loadB 0 rfl rfl rfl Tryd.isAgg27 hb) rfl rfl ?_
  refine J.yg (Wan.is rfl rfl rfl rfl rfl) (op_eql rfl rfl rfl) rfl rfl ?_
  refine J.y (op_pickT rfl rfl rfl) rfl rfl rfl ?_
  refine J.nil ?_
  refine J.then_n (J.k hK3 ?_)
  refine J.keepE [(0, _), (2, _), (15, _)] ⟨rfl, rfl, rfl, trivial⟩ ?_
  refine J.ite rfl (fun h15 => ?_) (fun h15 => ?_)
  ·
    refine J.region ?_
    refine J.y (op_move rfl rfl) rfl rfl rfl ?_
    refine J.y (op_move rfl rfl) rfl rfl rfl ?_
    refine J.y (op_nilCheck rfl rfl) rfl rfl rfl ?_
    refine J.y (op_fieldAddr (j := 2) rfl rfl Tryd.underlying104 rfl Tryd.sizeOf27 rfl) rfl rfl rfl ?_
    refine J.s (op_store (i := 0) (vs := [I e]) rfl rfl rfl rfl rfl Tryd.sizeOf27 rfl (by rw [hl]; exact Nat.le_refl 3)) rfl rfl (fun _ _ => ?_)
    change J _ _ _ [blk g (setAt l 2 [I e]) 104, F] _
    refine J.nil ?_
    refine J.then_n (J.k hK2 ?_)
    refine J.keepE [(0, _)] ⟨rfl, trivial⟩ ?_
    refine J.seq (fun K4 hK4 => ?_)
    refine J.region ?_
    refine J.y (op_move rfl rfl) rfl rfl rfl ?_
    refine J.y (op_nilCheck rfl rfl) rfl rfl rfl ?_
    refine J.y (op_fieldAddr (j := 2) rfl rfl Tryd.underlying104 rfl Tryd.sizeOf27 rfl) rfl rfl rfl ?_
    refine J.y (op_loadB 0 rfl rfl rfl Tryd.isAgg27 (by first | exact hb | exact setAt_get (by omega))) rfl rfl rfl ?_
    refine J.y (op_eql rfl rfl rfl) rfl rfl rfl ?_
    refine J.y (op_assign rfl rfl) rfl rfl rfl ?_
    refine J.nil ?_
    refine J.then_n (J.k hK4 ?_)
    refine J.keepE [(6, _)] ⟨rfl, trivial⟩ ?_
    refine J.ret ?_
    exact J.done hw0 (fun _ _ h => h) (res1 rfl rfl) (retOk () (congrArg Value.bool (decide_eq_decide.2 (by unfold fbad; rw [if_pos (show false = false ∧ bad = 0 from ⟨rfl, by omega⟩)]))) trivial [0, 1] (by show [blk g _ _, F] = [blk g (fset false e bad l) _, F]; unfold fset; rw [if_pos (show false = false ∧ bad = 0 from ⟨rfl, by omega⟩)]) (by decide))
  ·
    refine J.skip ?_
    refine J.then_n (J.k hK2 ?_)
    refine J.keepE [(0, _)] ⟨rfl, trivial⟩ ?_
    refine J.seq (fun K5 hK5 => ?_)
    refine J.region ?_
    refine J.y (op_move rfl rfl) rfl rfl rfl ?_
    refine J.y (op_nilCheck rfl rfl) rfl rfl rfl ?_
    refine J.y (op_fieldAddr (j := 2) rfl rfl Tryd.underlying104 rfl Tryd.sizeOf27 rfl) rfl rfl rfl ?_
    refine J.y (op_loadB 0 rfl rfl rfl Tryd.isAgg27 (by first | exact hb | exact setAt_get (by omega))) rfl rfl rfl ?_
    refine J.y (op_eql rfl rfl rfl) rfl rfl rfl ?_
    refine J.y (op_assign rfl rfl) rfl rfl rfl ?_
    refine J.nil ?_
    refine J.then_n (J.k hK5 ?_)
    refine J.keepE [(6, _)] ⟨rfl, trivial⟩ ?_
    refine J.ret ?_
    exact J.done hw0 (fun _ _ h => h) (res1 rfl rfl) (retOk () (congrArg Value.bool (decide_eq_decide.2 (by unfold fbad; rw [if_neg (show ¬ (false = false ∧ bad = 0) from fun h => h15 h.2)]))) trivial [0, 1] (by show [blk g _ _, F] = [blk g (fset false e bad l) _, F]; unfold fset; rw [if_neg (show ¬ (false = false ∧ bad = 0) from fun h => h15 h.2)]) (by decide))

theorem fail_ct (F : Hp) (g : Nat) (l : List Value) (hl : l.length = 3) (bad : Int) (hb : l[2]? = some (I bad)) (ok : Bool) (e : Int) :
    Ct Tryd.prog 101 [Ptr g, .bool ok, I e] [blk g l 104, F] (fun _ : Unit => .bool (decide (fbad ok e bad = 0))) (fun _ => True) (fun _ => [blk g (fset ok e bad l) 104, F]) := by
  cases ok
  · exact fail_false F g l hl bad hb e
  · exact fail_true F g l hl bad hb e

/-- a writer in memory: the bytes, and why there are no more -/
def Wtr (m : Hp) (g : Nat) (bs : List UInt8) (bad : Int) : Prop := ∃ l mr A c p, m = U [blk g l 104, mr] ∧ Dj (blk g l 104) mr ∧ l.length = 3 ∧ Bld g 0 l mr bs A c p ∧ l[2]? = some (I bad)
theorem lies (l : List Value) (hl : l.length = 3) : liesAt Tryd.prog Tryd.prog.depth 104 (l.length / Tryd.prog.cellsOf 104) 0 102 1 = true := by rw [hl]; kernel_rfl
def okN (n : UInt64) (size : Nat) : Bool := decide (n.toNat < 2 ^ (8 * size))
def wnum (n : UInt64) (size : Nat) (bs : List UInt8) (bad : Int) : List UInt8 := if fbad (okN n size) 10 bad = 0 then bs ++ Sha.numB n size else bs
def okF (s : List UInt8) (size : Nat) : Bool := decide (s.length = size)
def wfix (s : List UInt8) (size : Nat) (bs : List UInt8) (bad : Int) : List UInt8 := if fbad (okF s size) 10 bad = 0 then bs ++ s else bs
theorem numB_take (n : UInt64) (size t : Nat) (h : t < size) : (Sha.numB n size).take (t + 1) = (Sha.numB n size).take t ++ [(UInt64.ofNat (n.toNat / 2 ^ min (8 * (size - 1 - t)) 64)).toUInt8] := by
  rw [List.take_succ_eq_append_getElem (by rw [Sha.numB_length]; exact h)]
  congr 2
  simp [Sha.numB]

theorem shr_zero (n : UInt64) (size : Nat) (h : size < 8) : (((UInt64.ofNat (n.toNat / 2 ^ min (8 * size) 64)).toNat : Int) = 0) ↔ n.toNat < 2 ^ (8 * size) := by
  have hn := n.toNat_lt
  rw [UInt64.toNat_ofNat', Nat.mod_eq_of_lt (Nat.lt_of_le_of_lt (Nat.div_le_self _ _) hn), Nat.min_eq_left (by omega)]
  have hp := Nat.two_pow_pos (8 * size)
  constructor
  · intro h0
    have h1 : n.toNat / 2 ^ (8 * size) = 0 := by omega
    rcases Nat.div_eq_zero_iff.1 h1 with h2 | h2
    · omega
    · exact h2
  · intro h0
    rw [Nat.div_eq_of_lt h0]; rfl

theorem num_ct (F m : Hp) (g : Nat) (bs : List UInt8) (bad : Int) (hw : Wtr m g bs bad) (hlen : bs.length ≤ 1099511627776) (n : UInt64) (size : Nat) (h1 : 1 ≤ size) (h8 : size < 8) :
    Ct Tryd.prog 55 [Ptr g, W64 n, I size] [m, F] (fun _ : Hp => Ptr g) (fun m' => Wtr m' g (wnum n size bs bad) (fbad (okN n size) 10 bad)) (fun m' => [m', F]) := by
  obtain ⟨l, mr, A, c, p, rfl, hd, hl, hb, hbad⟩ := hw
  have hfl := fset_len (ok := (okN n size)) (e := 10) (bad := bad) hl
  have hfb := fset_bld (ok := (okN n size)) (e := 10) (bad := bad) hl hb
  have hf2 := fset_bad (ok := (okN n size)) (e := 10) hl hbad
  refine Ct.walk Tryd.func55 rfl Tryd.ntmps55 rfl (fun w0 hw0 => ?_)
  change J _ [(0, _), (1, _), (2, _)] _ _ _
  refine J.splitU hd ?_
  refine J.seq (fun K1 hK1 => ?_)
  refine J.region ?_
  refine J.y (op_assign rfl rfl) rfl rfl rfl ?_
  refine J.nil ?_
  refine J.then_n (J.k hK1 ?_)
  refine J.keepE [(0, _), (1, _), (2, _)] ⟨rfl, rfl, rfl, trivial⟩ ?_
  refine J.seq (fun K2 hK2 => ?_)
  refine J.seq (fun K3 hK3 => ?_)
  refine J.region ?_
  refine J.y (op_move rfl rfl) rfl rfl rfl ?_
  refine J.y ((op_peq Tryd.underlying105 rfl rfl rfl).as (v' := .bool false) rfl) rfl rfl rfl ?_
  refine J.y (op_move rfl rfl) rfl rfl rfl ?_
  refine J.yg (Wan.is rfl rfl rfl rfl rfl) (op_move rfl rfl) rfl rfl ?_
  refine J.yg (Wan.is rfl rfl rfl rfl rfl) (op_move rfl rfl) rfl rfl ?_
  refine J.yg (Wan.is rfl rfl rfl rfl rfl) ((op_geq rfl rfl rfl).as (v' := .bool true) (congrArg Value.bool (decide_eq_true (by omega)))) rfl rfl ?_
  refine J.yg (Wan.is rfl rfl rfl rfl rfl) (op_move rfl rfl) rfl rfl ?_
  refine J.yg (Wan.is rfl rfl rfl rfl rfl) (op_move rfl rfl) rfl rfl ?_
  refine J.yg (Wan.is rfl rfl rfl rfl rfl) ((op_leq rfl rfl rfl).as (v' := .bool true) (congrArg Value.bool (decide_eq_true (by omega)))) rfl rfl ?_
  refine J.yg (Wan.is rfl rfl rfl rfl rfl) (op_pickT rfl rfl rfl) rfl rfl ?_
  refine J.yg (Wan.is rfl rfl rfl rfl rfl) (op_move rfl rfl) rfl rfl ?_
  refine J.yg (Wan.is rfl rfl rfl rfl rfl) (op_move rfl rfl) rfl rfl ?_
  refine J.yg (Wan.is rfl rfl rfl rfl rfl) ((op_eql rfl rfl rfl).as (v' := .bool false) (congrArg Value.bool (decide_eq_false (by omega)))) rfl rfl ?_
  refine J.yg (Wan.is rfl rfl rfl rfl rfl) (op_move rfl rfl) rfl rfl ?_
  refine J.yg (Wan.is rfl rfl rfl rfl rfl) (op_move rfl rfl) rfl rfl ?_
  refine J.yg (Wan.is rfl rfl rfl rfl rfl) (op_move rfl rfl) rfl rfl ?_
  refine J.yg (Wan.is rfl rfl rfl rfl rfl) ((op_mul (a := 8) rfl rfl rfl (by omega)).as (v' := I ((8 * size : Nat) : Int)) (congrArg I (by omega))) rfl rfl ?_
  refine J.yg (Wan.is rfl rfl rfl rfl rfl) (op_shr64 (m := 8 * size) rfl rfl rfl) rfl rfl ?_
  refine J.yg (Wan.is rfl rfl rfl rfl rfl) ((op_eql rfl rfl rfl).as (v' := .bool (okN n size)) (congrArg Value.bool (by unfold okN; exact decide_eq_decide.2 (shr_zero n size h8)))) rfl rfl ?_
  refine J.yg (Wan.is rfl rfl rfl rfl rfl) (op_pickF rfl rfl rfl) rfl rfl ?_
  refine J.yg (Wan.is rfl rfl rfl rfl rfl) (op_pickT rfl rfl rfl) rfl rfl ?_
  refine J.eg (Wan.is rfl rfl rfl rfl rfl) (op_call rfl rfl ent101 (Ct.use1 0 (m' := fun _ : Unit => blk g (fset (okN n size) 10 bad l) 104) (new := fun _ => []) rfl (fun F' _ => fail_ct F' g l hl bad hbad (okN n size) 10))) rfl rfl ?_
  intro g29 _
  change J _ _ _ [blk g (fset (okN n size) 10 bad l) 104, mr, F] _
  refine J.yg (Wan.is rfl rfl rfl rfl rfl) (op_notD rfl rfl) rfl rfl ?_
  refine J.y (op_pickF rfl rfl rfl) rfl rfl rfl ?_
  refine J.nil ?_
  refine J.then_n (J.k hK3 ?_)
  refine J.keepE [(0, _), (1, _), (2, _), (31, _)] ⟨rfl, rfl, rfl, rfl, trivial⟩ ?_
  refine J.ite rfl (fun h31 => ?_) (fun h31 => ?_)
  ·
    refine J.seq (fun K4 hK4 => ?_)
    refine J.region ?_
    refine J.y (op_move rfl rfl) rfl rfl rfl ?_
    refine J.y (op_assign rfl rfl) rfl rfl rfl ?_
    refine J.nil ?_
    refine J.then_n (J.k hK4 ?_)
    refine J.keepE [(6, _)] ⟨rfl, trivial⟩ ?_
    refine J.ret ?_
    refine J.then_r ?_
    exact J.done hw0 (fun _ _ h => h) (res1 rfl rfl) (retOkU (U [blk g (fset (okN n size) 10 bad l) 104, mr]) rfl (fun hd => ⟨_, mr, A, c, p, rfl, hd, hfl, by unfold wnum; rw [if_neg (by omega)]; exact hfb, hf2⟩) [0, 1, 2] rfl rfl (by decide))
  ·
    refine J.skip ?_
    refine J.then_n (J.k hK2 ?_)
    refine J.keepE [(0, _), (1, _), (2, _)] ⟨rfl, rfl, rfl, trivial⟩ ?_
    refine J.seq (fun K5 hK5 => ?_)
    refine J.seq (fun K6 hK6 => ?_)
    have hok : fbad (okN n size) 10 bad = 0 := by omega
    refine J.region ?_
    refine J.y (op_move rfl rfl) rfl rfl rfl ?_
    refine J.y ((op_sub rfl rfl rfl (by omega)).as (v' := I ((size : Int) - 1 - ((0 : Nat) : Int))) (congrArg I (by omega))) rfl rfl rfl ?_
    refine J.y (op_assign rfl rfl) rfl rfl rfl ?_
    refine J.nil ?_
    refine J.then_n (J.k hK6 ?_)
    refine J.keepE [(0, _), (1, _), (7, _)] ⟨rfl, rfl, rfl, trivial⟩ ?_
    refine J.block ?_
    refine J.loop (X := Nat × List Value × Hp) (fun x => [(0, Ptr g), (1, W64 n), (7, I ((size : Int) - 1 - (x.1 : Int)))]) (fun x => [blk g x.2.1 104, x.2.2, F]) (fun x => x.1 ≤ size ∧ x.2.1.length = 3 ∧ x.2.1[2]? = some (I (fbad (okN n size) 10 bad)) ∧ ∃ A c p, Bld g 0 x.2.1 x.2.2 (bs ++ (Sha.numB n size).take x.1) A c p) (fun x => size - x.1) (0, (fset (okN n size) 10 bad l), mr) (⟨Nat.zero_le _, hfl, hf2, A, c, p, by rw [List.take_zero, List.append_nil]; exact hfb⟩) ⟨rfl, rfl, rfl, trivial⟩ (fun _ h => h) ?_
    rintro ⟨t, l2, mr2⟩ ⟨ht, hl2, hbad2, A2, c2, p2, hb2⟩ I0 hI0
    dsimp only at ht hl2 hbad2 hb2 ⊢
    refine J.seq (fun K7 hK7 => ?_)
    refine J.seq (fun K8 hK8 => ?_)
    refine J.region ?_
    refine J.y (op_move rfl rfl) rfl rfl rfl ?_
    refine J.y (op_geq rfl rfl rfl) rfl rfl rfl ?_
    refine J.nil ?_
    refine J.then_n (J.k hK8 ?_)
    refine J.keepE [(0, _), (1, _), (7, _), (36, _)] ⟨rfl, rfl, rfl, rfl, trivial⟩ ?_
    refine J.ite rfl (fun h36 => ?_) (fun h36 => ?_)
    ·
      refine J.skip ?_
      refine J.then_n (J.k hK7 ?_)
      refine J.keepE [(0, _), (1, _), (7, _)] ⟨rfl, rfl, rfl, trivial⟩ ?_
      refine J.seq (fun K9 hK9 => ?_)
      refine J.block ?_
      refine J.draw [] [] (.y 0 (.y 1 (.y 2 (.y 3 (.y 4 (.y 5 (.y 6 (.y 7 (.e 8 .nil))))))))) Tryd.wide (by decide +kernel) (by simp) ?_
      refine J.dy rfl (op_move rfl rfl) rfl rfl rfl rfl ?_
      refine J.dy rfl (op_nilCheck rfl rfl) rfl rfl rfl rfl ?_
      refine J.dy rfl (op_fieldAddr (j := 0) rfl rfl Tryd.underlying104 rfl Tryd.sizeOf102 rfl) rfl rfl rfl rfl ?_
      refine J.dy rfl (op_move rfl rfl) rfl rfl rfl rfl ?_
      refine J.dy rfl ((op_move rfl rfl).as (v' := I ((size - 1 - t : Nat) : Int)) (congrArg I (by omega))) rfl rfl rfl rfl ?_
      refine J.dy rfl ((op_mul (a := 8) rfl rfl rfl (by omega)).as (v' := I ((8 * (size - 1 - t) : Nat) : Int)) (congrArg I (by omega))) rfl rfl rfl rfl ?_
      refine J.dy rfl (op_shr64 (m := 8 * (size - 1 - t)) rfl rfl rfl) rfl rfl rfl rfl ?_
      refine J.dy rfl (op_cv_u64_u8 rfl rfl Tryd.underlying108 Tryd.underlying5) rfl rfl rfl rfl ?_
      refine J.de rfl (op_call rfl rfl ent103 (Ct.useA [blk g l2 104, mr2] [F] (A' := fun x : List Value × Hp => [blk g x.1 104, x.2]) (new := fun _ => []) (fun F' _ => writeByte_ct F' mr2 g 104 0 l2 (bs ++ (Sha.numB n size).take t) A2 c2 p2 hb2 (lies l2 hl2) ((UInt64.ofNat (n.toNat / 2 ^ min (8 * (size - 1 - t)) 64)).toUInt8) (by rw [List.length_append, List.length_take, Sha.numB_length]; omega)))) rfl rfl rfl (by simp) ?_
      rintro ⟨l3, mr3⟩ ⟨A3, c3, hb3, hu3⟩
      change J _ _ _ [blk g l3 104, mr3, F] _
      dsimp only at hb3 hu3
      rw [List.append_assoc, ← numB_take n size t (by omega)] at hb3
      refine J.dnil ?_
      refine J.blk_n ?_
      refine J.then_n (J.k hK9 ?_)
      refine J.keepE [(0, _), (1, _), (7, _)] ⟨rfl, rfl, rfl, trivial⟩ ?_
      refine J.region ?_
      refine J.y (op_move rfl rfl) rfl rfl rfl ?_
      refine J.y ((op_sub rfl rfl rfl (by omega)).as (v' := I ((size : Int) - 1 - ((t + 1 : Nat) : Int))) (congrArg I (by omega))) rfl rfl rfl ?_
      refine J.y (op_assign rfl rfl) rfl rfl rfl ?_
      refine J.nil ?_
      refine J.then_n ?_
      exact J.kk (t + 1, l3, mr3) (fun x (hx : _ ∧ size - x.1 < size - t) => hI0 x hx.1 hx.2) ⟨⟨by dsimp only; omega, hu3.1.trans hl2, (hu3.2 2 (by decide) (by decide)).trans hbad2, A3, c3, _, hb3⟩, by dsimp only; omega⟩ ⟨rfl, rfl, rfl, trivial⟩ (fun _ h => h)
    ·
      refine J.exit ?_
      refine J.then_x ?_
      refine J.then_x ?_
      refine J.blk_eq ?_
      refine J.then_n (J.k hK5 ?_)
      refine J.keepE [(0, _)] ⟨rfl, trivial⟩ ?_
      refine J.seq (fun K10 hK10 => ?_)
      have hts : t = size := by omega
      subst hts
      rw [List.take_of_length_le (by rw [Sha.numB_length]; exact Nat.le_refl _)] at hb2
      refine J.region ?_
      refine J.y (op_move rfl rfl) rfl rfl rfl ?_
      refine J.y (op_assign rfl rfl) rfl rfl rfl ?_
      refine J.nil ?_
      refine J.then_n (J.k hK10 ?_)
      refine J.keepE [(6, _)] ⟨rfl, trivial⟩ ?_
      refine J.ret ?_
      exact J.done hw0 (fun _ _ h => h) (res1 rfl rfl) (retOkU (U [blk g l2 104, mr2]) rfl (fun hd => ⟨l2, mr2, A2, c2, p2, rfl, hd, hl2, by unfold wnum; rw [if_pos hok]; exact hb2, hbad2⟩) [0, 1, 2] rfl rfl (by decide))

def okT (s : List UInt8) : Bool := decide (s.length ≤ 4096)
def wtext (s : List UInt8) (bs : List UInt8) (bad : Int) : List UInt8 := if fbad (okT s) 2 bad = 0 then bs ++ Sha.numB (UInt64.ofNat s.length) 2 ++ s else bs
theorem wnum_ok {n : UInt64} {size : Nat} {bs : List UInt8} (h : okN n size = true) : wnum n size bs 0 = bs ++ Sha.numB n size := by
  unfold wnum fbad
  rw [h]; rfl

theorem bytes_ct (F m : Hp) (g : Nat) (bs : List UInt8) (bad : Int) (hw : Wtr m g bs bad) (hlen : bs.length ≤ 2199023255552) :
    Ct Tryd.prog 56 [Ptr g] [m, F] (fun _ : Hp => .tuple #[Str (if bad = 0 then bs else []), I bad]) (fun m' => Wtr m' g bs bad) (fun m' => [m', F]) := by
  obtain ⟨l, mr, A, c, p, rfl, hd, hl, hb, hbad⟩ := hw
  refine Ct.walk Tryd.func56 rfl Tryd.ntmps56 rfl (fun w0 hw0 => ?_)
  change J _ [(0, _)] _ _ _
  refine J.splitU hd ?_
  refine J.seq (fun K1 hK1 => ?_)
  refine J.region ?_
  refine J.y (op_assign rfl rfl) rfl rfl rfl ?_
  refine J.y (op_assign rfl rfl) rfl rfl rfl ?_
  refine J.nil ?_
  refine J.then_n (J.k hK1 ?_)
  refine J.keepE [(0, _)] ⟨rfl, trivial⟩ ?_
  refine J.seq (fun K2 hK2 => ?_)
  refine J.block ?_
  refine J.seq (fun K3 hK3 => ?_)
  refine J.region ?_
  refine J.y (op_move rfl rfl) rfl rfl rfl ?_
  refine J.y ((op_peq Tryd.underlying105 rfl rfl rfl).as (v' := .bool false) rfl) rfl rfl rfl ?_
  refine J.y (op_assign rfl rfl) rfl rfl rfl ?_
  refine J.nil ?_
  refine J.then_n (J.k hK3 ?_)
  refine J.keepE [(0, _), (4, _)] ⟨rfl, rfl, trivial⟩ ?_
  refine J.condF rfl rfl ?_
  refine J.seq (fun K4 hK4 => ?_)
  refine J.region ?_
  refine J.y (op_move rfl rfl) rfl rfl rfl ?_
  refine J.y (op_nilCheck rfl rfl) rfl rfl rfl ?_
  refine J.y (op_fieldAddr (j := 2) rfl rfl Tryd.underlying104 rfl Tryd.sizeOf27 rfl) rfl rfl rfl ?_
  refine J.y (op_loadB 0 rfl rfl rfl Tryd.isAgg27 hbad) rfl rfl rfl ?_
  refine J.y (op_neq rfl rfl rfl) rfl rfl rfl ?_
  refine J.y (op_assign rfl rfl) rfl rfl rfl ?_
  refine J.nil ?_
  refine J.then_n (J.k hK4 ?_)
  refine J.keepE [(0, _), (7, _)] ⟨rfl, rfl, trivial⟩ ?_
  refine J.ite rfl (fun h7 => ?_) (fun h7 => ?_)
  ·
    refine J.seq (fun K5 hK5 => ?_)
    refine J.draw [blk g l 104, mr, F] [] (.y 0 (.y 1 (.y 2 (.y 3 (.y 4 (.y 5 .nil)))))) Tryd.wide (by decide +kernel) (by simp) ?_
    refine J.dy rfl (op_move rfl rfl) rfl rfl rfl rfl ?_
    refine J.dy rfl (op_nilCheck rfl rfl) rfl rfl rfl rfl ?_
    refine J.dy rfl (op_fieldAddr (j := 2) rfl rfl Tryd.underlying104 rfl Tryd.sizeOf27 rfl) rfl rfl rfl rfl ?_
    refine J.dy rfl (op_loadB 0 rfl rfl rfl Tryd.isAgg27 hbad) rfl rfl rfl rfl ?_
    refine J.dy rfl (op_assign rfl rfl) rfl rfl rfl rfl ?_
    refine J.dy rfl (op_assign rfl rfl) rfl rfl rfl rfl ?_
    refine J.dnil ?_
    refine J.then_n (J.k hK5 ?_)
    refine J.keepE [(2, _), (3, _)] ⟨rfl, rfl, trivial⟩ ?_
    refine J.ret ?_
    refine J.blk_r ?_
    refine J.then_r ?_
    exact J.done hw0 (fun _ _ h => h) (res2 rfl rfl rfl) (retOkU (U [blk g l 104, mr]) (by rw [if_neg (by omega)]) (fun hd => ⟨l, mr, A, c, p, rfl, hd, hl, hb, hbad⟩) [0, 1, 2] rfl rfl (by decide))
  ·
    refine J.skip ?_
    refine J.blk_n ?_
    refine J.then_n (J.k hK2 ?_)
    refine J.keepE [(0, _)] ⟨rfl, trivial⟩ ?_
    refine J.seq (fun K6 hK6 => ?_)
    have hz : bad = 0 := by omega
    subst hz
    refine J.region ?_
    refine J.y (op_move rfl rfl) rfl rfl rfl ?_
    refine J.y (op_nilCheck rfl rfl) rfl rfl rfl ?_
    refine J.y (op_fieldAddr (j := 0) rfl rfl Tryd.underlying104 rfl Tryd.sizeOf102 rfl) rfl rfl rfl ?_
    refine J.e (op_call rfl rfl ent104 (Ct.useA [blk g l 104, mr] [F] (A' := fun x : Hp => [blk g l 104, x]) (new := fun _ => []) (fun F' _ => bString_ct F' mr g 104 0 l bs A c p hb (by omega)))) rfl rfl rfl ?_
    rintro mr2 hb2
    change J _ _ _ [blk g l 104, mr2, F] _
    refine J.y (op_assign rfl rfl) rfl rfl rfl ?_
    refine J.y (op_assign rfl rfl) rfl rfl rfl ?_
    refine J.nil ?_
    refine J.then_n (J.k hK6 ?_)
    refine J.keepE [(2, _), (3, _)] ⟨rfl, rfl, trivial⟩ ?_
    refine J.ret ?_
    exact J.done hw0 (fun _ _ h => h) (res2 rfl rfl rfl) (retOkU (U [blk g l 104, mr2]) (rfl) (fun hd => ⟨l, mr2, A, c, p, rfl, hd, hl, hb2, hbad⟩) [0, 1, 2] rfl rfl (by decide))

/-- a reader: what is left, and why nothing more is told -/
structure RS where
  s : List UInt8
  bad : Int
def RS.can (st : RS) (size : Nat) : Bool := decide (st.bad = 0 ∧ size ≤ st.s.length)
def RS.out (st : RS) (size : Nat) : List UInt8 := if st.bad = 0 ∧ size ≤ st.s.length then st.s.take size else []
def RS.take (st : RS) (size : Nat) : RS := if st.bad = 0 then (if size ≤ st.s.length then ⟨st.s.drop size, 0⟩ else ⟨st.s, 3⟩) else st
def RS.form (st : RS) : RS := if st.bad = 0 then ⟨st.s, 4⟩ else st
def natB (l : List UInt8) : Nat := l.foldl (fun n c => n * 256 + c.toNat) 0
theorem natB_take (l : List UInt8) (t : Nat) (ht : t < l.length) : natB (l.take (t + 1)) = natB (l.take t) * 256 + (l[t]'ht).toNat := by
  rw [List.take_succ_eq_append_getElem ht, natB, List.foldl_append]; rfl
theorem natB_snoc (l : List UInt8) (c : UInt8) : natB (l ++ [c]) = natB l * 256 + c.toNat := by
  rw [natB, List.foldl_append]; rfl
theorem natB_ltr (l : List UInt8) : natB l.reverse < 256 ^ l.length := by
  induction l with
  | nil => decide
  | cons c l ih =>
    rw [List.reverse_cons, natB_snoc, List.length_cons, Nat.pow_succ]
    have := c.toNat_lt
    omega
theorem natB_lt (l : List UInt8) : natB l < 256 ^ l.length := by
  have := natB_ltr l.reverse
  rwa [List.reverse_reverse, List.length_reverse] at this
theorem RS.out_len (st : RS) (size : Nat) : (st.out size).length ≤ size := by
  unfold RS.out
  split
  · rw [List.length_take]; omega
  · exact Nat.zero_le _
theorem natB_le (l : List UInt8) (n t : Nat) (h : l.length ≤ n) (hn : n ≤ 8) (ht : t < l.length) : natB (l.take t) < 72057594037927936 :=
  Nat.lt_of_lt_of_le (natB_lt _) (Nat.le_trans (Nat.pow_le_pow_right (by omega) (show (l.take t).length ≤ 7 by rw [List.length_take]; omega)) (by decide))
def RSb (g : Nat) (st : RS) : Hp := blk g [Str st.s, I st.bad] 189
theorem op_shlU {P : Program} {env : Env} {rs : List Hp} {o : Oper} {t t' : TypeId} {x y : Operand} {a m : Nat} {yk : IntKind} (ho : o.op = .binOp .shl t x y t') (hx : ev env x = some (N64 a)) (hy : ev env y = some (.int yk (m : Nat))) (hm : m ≤ 64) (hr : a < 18446744073709551616 ∧ a * 2 ^ m < 18446744073709551616) : YOp P env rs o (N64 (a * 2 ^ m)) := by
  rw [N_W hr.1] at hx
  exact (op_shl64 ho hx hy).as (by show Value.int .u64 _ = Value.int .u64 _; rw [ofNat64 hr.1, Nat.min_eq_left hm, ofNat64 hr.2])
theorem op_orU {P : Program} {env : Env} {rs : List Hp} {o : Oper} {t t' : TypeId} {x y : Operand} {a b : Nat} (ho : o.op = .binOp .or t x y t') (hx : ev env x = some (N64 a)) (hy : ev env y = some (N64 b)) (hr : a < 18446744073709551616 ∧ b < 18446744073709551616) : YOp P env rs o (N64 (a ||| b)) := by
  rw [N_W hr.1] at hx
  rw [N_W hr.2] at hy
  exact (op_or64 ho hx hy).as (by show Value.int .u64 _ = Value.int .u64 _; rw [UInt64.toNat_or, ofNat64 hr.1, ofNat64 hr.2])
theorem or_add (a b : Nat) (h : b < 256) : a * 2 ^ 8 ||| b = a * 256 + b := by
  rw [Nat.mul_comm, ← Nat.two_pow_add_eq_or_of_lt (i := 8) h]

theorem read_ct (F : Hp) (s : List UInt8) :
    Ct Tryd.prog 84 [Str s] [F] Ptr (fun _ => True) (fun g => [RSb g ⟨s, 0⟩, F]) := by
  refine Ct.walk Tryd.func84 rfl Tryd.ntmps84 rfl (fun w0 hw0 => ?_)
  change J _ [(0, _)] _ _ _
  refine J.seq (fun K1 hK1 => ?_)
  refine J.region ?_
  refine J.y (op_assign rfl rfl) rfl rfl rfl ?_
  refine J.nil ?_
  refine J.then_n (J.k hK1 ?_)
  refine J.keepE [(0, _)] ⟨rfl, trivial⟩ ?_
  refine J.seq (fun K2 hK2 => ?_)
  refine J.region ?_
  refine J.y (op_move rfl rfl) rfl rfl rfl ?_
  refine J.y (op_buildStruct (l := [(0, .tmp 3)]) (vs := [Str s]) (places := [(0, 1), (1, 1)]) (r := [Str s, I 0]) rfl rfl rfl Tryd.underlying189 Tryd.zeroValue189 (fun _ => by kernel_rfl) rfl) rfl rfl rfl ?_
  refine J.e (op_box (l := [Str s, I 0]) rfl rfl rfl) rfl rfl rfl ?_
  rintro g5 _
  change J _ _ _ [F, blk g5 [Str s, I 0] 189] _
  refine J.y (op_assign rfl rfl) rfl rfl rfl ?_
  refine J.nil ?_
  refine J.then_n (J.k hK2 ?_)
  refine J.keepE [(2, _)] ⟨rfl, trivial⟩ ?_
  refine J.ret ?_
  exact J.done hw0 (fun _ _ h => h) (res1 rfl rfl) (retOk g5 rfl trivial [1, 0] rfl (by decide))

theorem take_ct (F : Hp) (g : Nat) (st : RS) (size : Nat) :
    Ct Tryd.prog 130 [Ptr g, I size] [RSb g st, F] (fun _ : Unit => .tuple #[Str (st.out size), .bool (st.can size)]) (fun _ => True) (fun _ => [RSb g (st.take size), F]) := by
  obtain ⟨s, bad⟩ := st
  change Ct _ _ _ [blk g [Str s, I bad] 189, F] _ _ _
  refine Ct.walk Tryd.func130 rfl Tryd.ntmps130 rfl (fun w0 hw0 => ?_)
  change J _ [(0, _), (1, _)] _ _ _
  refine J.seq (fun K1 hK1 => ?_)
  refine J.region ?_
  refine J.y (op_assign rfl rfl) rfl rfl rfl ?_
  refine J.y (op_assign rfl rfl) rfl rfl rfl ?_
  refine J.nil ?_
  refine J.then_n (J.k hK1 ?_)
  refine J.keepE [(0, _), (1, _)] ⟨rfl, rfl, trivial⟩ ?_
  refine J.seq (fun K2 hK2 => ?_)
  refine J.seq (fun K3 hK3 => ?_)
  refine J.region ?_
  refine J.y (op_move rfl rfl) rfl rfl rfl ?_
  refine J.y ((op_peq Tryd.underlying140 rfl rfl rfl).as (v' := .bool false) rfl) rfl rfl rfl ?_
  refine J.y (op_move rfl rfl) rfl rfl rfl ?_
  refine J.yg (Wan.is rfl rfl rfl rfl rfl) (op_move rfl rfl) rfl rfl ?_
  refine J.yg (Wan.is rfl rfl rfl rfl rfl) (op_nilCheck rfl rfl) rfl rfl ?_
  refine J.yg (Wan.is rfl rfl rfl rfl rfl) (op_fieldAddr (j := 1) rfl rfl Tryd.underlying189 rfl Tryd.sizeOf27 rfl) rfl rfl ?_
  refine J.yg (Wan.is rfl rfl rfl rfl rfl) (op_loadB 0 (k := 1) rfl rfl rfl Tryd.isAgg27 rfl) rfl rfl ?_
  refine J.yg (Wan.is rfl rfl rfl rfl rfl) (op_neq rfl rfl rfl) rfl rfl ?_
  refine J.y (op_pickF rfl rfl rfl) rfl rfl rfl ?_
  refine J.nil ?_
  refine J.then_n (J.k hK3 ?_)
  refine J.keepE [(0, _), (1, _), (15, _)] ⟨rfl, rfl, rfl, trivial⟩ ?_
  refine J.ite rfl (fun h15 => ?_) (fun h15 => ?_)
  ·
    refine J.seq (fun K4 hK4 => ?_)
    refine J.region ?_
    refine J.y (op_assign rfl rfl) rfl rfl rfl ?_
    refine J.y (op_assign rfl rfl) rfl rfl rfl ?_
    refine J.nil ?_
    refine J.then_n (J.k hK4 ?_)
    refine J.keepE [(4, _), (5, _)] ⟨rfl, rfl, trivial⟩ ?_
    refine J.ret ?_
    refine J.then_r ?_
    exact J.done hw0 (fun _ _ h => h) (res2 rfl rfl rfl) (retOk () (by unfold RS.out RS.can; simp only [h15, false_and, if_false, decide_false]) trivial [0, 1] (by unfold RS.take RSb; simp only [if_neg h15]; rfl) (by decide))
  ·
    refine J.skip ?_
    refine J.then_n (J.k hK2 ?_)
    refine J.keepE [(0, _), (1, _)] ⟨rfl, rfl, trivial⟩ ?_
    refine J.seq (fun K5 hK5 => ?_)
    refine J.seq (fun K6 hK6 => ?_)
    refine J.region ?_
    refine J.y (op_move rfl rfl) rfl rfl rfl ?_
    refine J.y (op_move rfl rfl) rfl rfl rfl ?_
    refine J.y (op_nilCheck rfl rfl) rfl rfl rfl ?_
    refine J.y (op_fieldAddr (j := 0) rfl rfl Tryd.underlying189 rfl Tryd.sizeOf9 rfl) rfl rfl rfl ?_
    refine J.y (op_loadB 0 (k := 0) rfl rfl rfl Tryd.isAgg9 rfl) rfl rfl rfl ?_
    refine J.y (op_slen Tryd.underlying9 rfl rfl) rfl rfl rfl ?_
    refine J.y (op_gtr rfl rfl rfl) rfl rfl rfl ?_
    refine J.nil ?_
    refine J.then_n (J.k hK6 ?_)
    refine J.keepE [(0, _), (1, _), (22, _)] ⟨rfl, rfl, rfl, trivial⟩ ?_
    refine J.ite rfl (fun h22 => ?_) (fun h22 => ?_)
    ·
      refine J.seq (fun K7 hK7 => ?_)
      refine J.region ?_
      refine J.y (op_move rfl rfl) rfl rfl rfl ?_
      refine J.y (op_nilCheck rfl rfl) rfl rfl rfl ?_
      refine J.y (op_fieldAddr (j := 1) rfl rfl Tryd.underlying189 rfl Tryd.sizeOf27 rfl) rfl rfl rfl ?_
      refine J.s (op_store (i := 0) (vs := [I 3]) rfl rfl rfl rfl rfl Tryd.sizeOf27 rfl (by simp)) rfl rfl (fun _ _ => ?_)
      change J _ _ _ [blk g [Str s, I 3] 189, F] _
      refine J.nil ?_
      refine J.then_n (J.k hK7 ?_)
      refine J.keepE [] trivial ?_
      refine J.seq (fun K8 hK8 => ?_)
      refine J.region ?_
      refine J.y (op_assign rfl rfl) rfl rfl rfl ?_
      refine J.y (op_assign rfl rfl) rfl rfl rfl ?_
      refine J.nil ?_
      refine J.then_n (J.k hK8 ?_)
      refine J.keepE [(4, _), (5, _)] ⟨rfl, rfl, trivial⟩ ?_
      refine J.ret ?_
      refine J.then_r ?_
      exact J.done hw0 (fun _ _ h => h) (res2 rfl rfl rfl) (retOk () (by unfold RS.out RS.can; simp only [show ¬ size ≤ s.length by omega, and_false, if_false, decide_false]) trivial [0, 1] (by unfold RS.take RSb; simp only [show bad = 0 by omega, if_true, if_neg (show ¬ size ≤ s.length by omega)]; rfl) (by decide))
    ·
      refine J.skip ?_
      refine J.then_n (J.k hK5 ?_)
      refine J.keepE [(0, _), (1, _)] ⟨rfl, rfl, trivial⟩ ?_
      refine J.seq (fun K9 hK9 => ?_)
      refine J.region ?_
      refine J.y (op_move rfl rfl) rfl rfl rfl ?_
      refine J.y (op_nilCheck rfl rfl) rfl rfl rfl ?_
      refine J.y (op_fieldAddr (j := 0) rfl rfl Tryd.underlying189 rfl Tryd.sizeOf9 rfl) rfl rfl rfl ?_
      refine J.y (op_loadB 0 (k := 0) rfl rfl rfl Tryd.isAgg9 rfl) rfl rfl rfl ?_
      refine J.y (op_move rfl rfl) rfl rfl rfl ?_
      refine J.y ((op_sslice (l := 0) (h := size) Tryd.underlying9 rfl rfl rfl rfl ⟨by omega, by omega⟩).as (v' := Str (s.take size)) (congrArg Str List.drop_zero)) rfl rfl rfl ?_
      refine J.y (op_assign rfl rfl) rfl rfl rfl ?_
      refine J.nil ?_
      refine J.then_n (J.k hK9 ?_)
      refine J.keepE [(0, _), (1, _), (6, _)] ⟨rfl, rfl, rfl, trivial⟩ ?_
      refine J.seq (fun K10 hK10 => ?_)
      refine J.region ?_
      refine J.y (op_move rfl rfl) rfl rfl rfl ?_
      refine J.y (op_move rfl rfl) rfl rfl rfl ?_
      refine J.y (op_nilCheck rfl rfl) rfl rfl rfl ?_
      refine J.y (op_fieldAddr (j := 0) rfl rfl Tryd.underlying189 rfl Tryd.sizeOf9 rfl) rfl rfl rfl ?_
      refine J.y (op_loadB 0 (k := 0) rfl rfl rfl Tryd.isAgg9 rfl) rfl rfl rfl ?_
      refine J.y (op_move rfl rfl) rfl rfl rfl ?_
      refine J.y ((op_sslice (l := size) (h := s.length) Tryd.underlying9 rfl rfl rfl rfl ⟨by omega, by omega⟩).as (v' := Str (s.drop size)) (by rw [List.take_length])) rfl rfl rfl ?_
      refine J.y (op_nilCheck rfl rfl) rfl rfl rfl ?_
      refine J.y (op_fieldAddr (j := 0) rfl rfl Tryd.underlying189 rfl Tryd.sizeOf9 rfl) rfl rfl rfl ?_
      refine J.s (op_store (i := 0) (vs := [Str (s.drop size)]) rfl rfl rfl rfl rfl Tryd.sizeOf9 rfl (by simp)) rfl rfl (fun _ _ => ?_)
      change J _ _ _ [blk g [Str (s.drop size), I bad] 189, F] _
      refine J.nil ?_
      refine J.then_n (J.k hK10 ?_)
      refine J.keepE [(6, _)] ⟨rfl, trivial⟩ ?_
      refine J.seq (fun K11 hK11 => ?_)
      refine J.region ?_
      refine J.y (op_move rfl rfl) rfl rfl rfl ?_
      refine J.y (op_assign rfl rfl) rfl rfl rfl ?_
      refine J.y (op_assign rfl rfl) rfl rfl rfl ?_
      refine J.nil ?_
      refine J.then_n (J.k hK11 ?_)
      refine J.keepE [(4, _), (5, _)] ⟨rfl, rfl, trivial⟩ ?_
      refine J.ret ?_
      exact J.done hw0 (fun _ _ h => h) (res2 rfl rfl rfl) (retOk () (by unfold RS.out RS.can; simp only [show bad = 0 by omega, show size ≤ s.length by omega, and_self, if_true, decide_true]) trivial [0, 1] (by unfold RS.take RSb; simp only [show bad = 0 by omega, if_true, if_pos (show size ≤ s.length by omega)]; rfl) (by decide))

theorem rnum_ct (F : Hp) (g : Nat) (st : RS) (size : Nat) (h1 : 1 ≤ size) (h8 : size ≤ 8) :
    Ct Tryd.prog 85 [Ptr g, I size] [RSb g st, F] (fun _ : Unit => N64 (natB (st.out size))) (fun _ => True) (fun _ => [RSb g (st.take size), F]) := by
  have hol := st.out_len size
  have hlt := natB_lt (st.out size)
  refine Ct.walk Tryd.func85 rfl Tryd.ntmps85 rfl (fun w0 hw0 => ?_)
  change J _ [(0, _), (1, _)] _ _ _
  refine J.seq (fun K1 hK1 => ?_)
  refine J.region ?_
  refine J.y (op_assign rfl rfl) rfl rfl rfl ?_
  refine J.nil ?_
  refine J.then_n (J.k hK1 ?_)
  refine J.keepE [(0, _), (1, _)] ⟨rfl, rfl, trivial⟩ ?_
  refine J.seq (fun K2 hK2 => ?_)
  refine J.seq (fun K3 hK3 => ?_)
  refine J.region ?_
  refine J.y (op_move rfl rfl) rfl rfl rfl ?_
  refine J.y ((op_lss rfl rfl rfl).as (v' := .bool false) (congrArg Value.bool (decide_eq_false (by omega)))) rfl rfl rfl ?_
  refine J.y (op_move rfl rfl) rfl rfl rfl ?_
  refine J.yg (Wan.is rfl rfl rfl rfl rfl) (op_move rfl rfl) rfl rfl ?_
  refine J.yg (Wan.is rfl rfl rfl rfl rfl) ((op_gtr rfl rfl rfl).as (v' := .bool false) (congrArg Value.bool (decide_eq_false (by omega)))) rfl rfl ?_
  refine J.y (op_pickF rfl rfl rfl) rfl rfl rfl ?_
  refine J.nil ?_
  refine J.then_n (J.k hK3 ?_)
  refine J.keepE [(0, _), (1, _), (14, _)] ⟨rfl, rfl, rfl, trivial⟩ ?_
  refine J.condF rfl rfl ?_
  refine J.skip ?_
  refine J.then_n (J.k hK2 ?_)
  refine J.keepE [(0, _), (1, _)] ⟨rfl, rfl, trivial⟩ ?_
  refine J.seq (fun K4 hK4 => ?_)
  refine J.region ?_
  refine J.y (op_move rfl rfl) rfl rfl rfl ?_
  refine J.y (op_move rfl rfl) rfl rfl rfl ?_
  refine J.e (op_call rfl rfl ent130 (Ct.use1 0 (m' := fun _ : Unit => RSb g (st.take size)) (new := fun _ => []) rfl (fun F' _ => take_ct F' g st size))) rfl rfl rfl ?_
  intro g20 _
  change J _ _ _ [RSb g (st.take size), F] _
  refine J.y (op_move rfl rfl) rfl rfl rfl ?_
  refine J.y (op_extract rfl rfl rfl) rfl rfl rfl ?_
  refine J.y (op_extract rfl rfl rfl) rfl rfl rfl ?_
  refine J.y (op_assign rfl rfl) rfl rfl rfl ?_
  refine J.y (op_assign rfl rfl) rfl rfl rfl ?_
  refine J.nil ?_
  refine J.then_n (J.k hK4 ?_)
  refine J.keepE [(5, _)] ⟨rfl, trivial⟩ ?_
  refine J.seq (fun K5 hK5 => ?_)
  refine J.region ?_
  refine J.y (op_assign rfl rfl) rfl rfl rfl ?_
  refine J.nil ?_
  refine J.then_n (J.k hK5 ?_)
  refine J.keepE [(5, _), (7, _)] ⟨rfl, rfl, trivial⟩ ?_
  refine J.seq (fun K6 hK6 => ?_)
  refine J.seq (fun K7 hK7 => ?_)
  refine J.region ?_
  refine J.y (op_move rfl rfl) rfl rfl rfl ?_
  refine J.y (op_slen Tryd.underlying9 rfl rfl) rfl rfl rfl ?_
  refine J.y (op_move rfl rfl) rfl rfl rfl ?_
  refine J.nil ?_
  refine J.then_n (J.k hK7 ?_)
  refine J.keepE [(5, _), (7, _), (24, _), (25, _)] ⟨rfl, rfl, rfl, rfl, trivial⟩ ?_
  refine J.block ?_
  refine J.loop (X := Nat) (fun t => [(5, Str (st.out size)), (7, N64 (natB ((st.out size).take t))), (24, I (st.out size).length), (25, I t)]) (fun _ => [RSb g (st.take size), F]) (fun t => t ≤ (st.out size).length) (fun t => (st.out size).length - t) 0 (Nat.zero_le _) ⟨rfl, rfl, rfl, rfl, trivial⟩ (fun _ h => h) ?_
  intro t ht I0 hI0
  refine J.seq (fun K8 hK8 => ?_)
  refine J.region ?_
  refine J.y (op_lss rfl rfl rfl) rfl rfl rfl ?_
  refine J.nil ?_
  refine J.then_n (J.k hK8 ?_)
  refine J.keepE [(5, _), (7, _), (24, _), (25, _), (26, _)] ⟨rfl, rfl, rfl, rfl, rfl, trivial⟩ ?_
  refine J.seq (fun K9 hK9 => ?_)
  refine J.ite rfl (fun h26 => ?_) (fun h26 => ?_)
  ·
    refine J.skip ?_
    refine J.then_n (J.k hK9 ?_)
    refine J.keepE [(5, _), (7, _), (24, _), (25, _)] ⟨rfl, rfl, rfl, rfl, trivial⟩ ?_
    refine J.seq (fun K10 hK10 => ?_)
    refine J.block ?_
    refine J.seq (fun K11 hK11 => ?_)
    have ht1 : t < (st.out size).length := by omega
    have hnt := natB_le (st.out size) size t hol h8 ht1
    refine J.region ?_
    refine J.y (op_move rfl rfl) rfl rfl rfl ?_
    refine J.y (op_assign rfl rfl) rfl rfl rfl ?_
    refine J.nil ?_
    refine J.then_n (J.k hK11 ?_)
    refine J.keepE [(5, _), (7, _), (8, _), (24, _), (25, _)] ⟨rfl, rfl, rfl, rfl, rfl, trivial⟩ ?_
    refine J.region ?_
    refine J.y (op_move rfl rfl) rfl rfl rfl ?_
    refine J.y (op_shlU (m := 8) rfl rfl rfl (by omega) (by omega)) rfl rfl rfl ?_
    refine J.y (op_move rfl rfl) rfl rfl rfl ?_
    refine J.y (op_move rfl rfl) rfl rfl rfl ?_
    refine J.y (op_sindex Tryd.underlying9 rfl rfl rfl (List.getElem?_eq_getElem ht1)) rfl rfl rfl ?_
    refine J.y (op_cvU_u8 rfl rfl Tryd.underlying5 Tryd.underlying108) rfl rfl rfl ?_
    refine J.y ((op_orU rfl rfl rfl (by have := (UInt8.toNat_lt ((st.out size)[t]'ht1)); omega)).as (v' := N64 (natB ((st.out size).take (t + 1)))) (congrArg N64 ((or_add _ _ (UInt8.toNat_lt ((st.out size)[t]'ht1))).trans (natB_take _ t ht1).symm))) rfl rfl rfl ?_
    refine J.y (op_assign rfl rfl) rfl rfl rfl ?_
    refine J.nil ?_
    refine J.blk_n ?_
    refine J.then_n (J.k hK10 ?_)
    refine J.keepE [(5, _), (7, _), (24, _), (25, _)] ⟨rfl, rfl, rfl, rfl, trivial⟩ ?_
    refine J.region ?_
    refine J.y (op_add rfl rfl rfl (by omega)) rfl rfl rfl ?_
    refine J.y (op_move rfl rfl) rfl rfl rfl ?_
    refine J.nil ?_
    refine J.then_n ?_
    exact J.kk (t + 1) (fun x (hx : _ ∧ (st.out size).length - x < (st.out size).length - t) => hI0 x hx.1 hx.2) ⟨by omega, by omega⟩ ⟨rfl, rfl, rfl, rfl, trivial⟩ (fun _ h => h)
  ·
    refine J.exit ?_
    refine J.then_x ?_
    refine J.then_x ?_
    refine J.blk_eq ?_
    refine J.then_n (J.k hK6 ?_)
    refine J.keepE [(7, _)] ⟨rfl, trivial⟩ ?_
    refine J.seq (fun K12 hK12 => ?_)
    have hte : t = (st.out size).length := by omega
    subst hte
    refine J.region ?_
    refine J.y (op_move rfl rfl) rfl rfl rfl ?_
    refine J.y (op_assign rfl rfl) rfl rfl rfl ?_
    refine J.nil ?_
    refine J.then_n (J.k hK12 ?_)
    refine J.keepE [(4, _)] ⟨rfl, trivial⟩ ?_
    refine J.ret ?_
    exact J.done hw0 (fun _ _ h => h) (res1 rfl rfl) (retOk () (by rw [List.take_length]) trivial [0, 1] rfl (by decide))

theorem rfixed_ct (F : Hp) (g : Nat) (st : RS) (size : Nat) :
    Ct Tryd.prog 139 [Ptr g, I size] [RSb g st, F] (fun _ : Unit => Str (st.out size)) (fun _ => True) (fun _ => [RSb g (st.take size), F]) := by
  refine Ct.walk Tryd.func139 rfl Tryd.ntmps139 rfl (fun w0 hw0 => ?_)
  change J _ [(0, _), (1, _)] _ _ _
  refine J.seq (fun K1 hK1 => ?_)
  refine J.region ?_
  refine J.y (op_assign rfl rfl) rfl rfl rfl ?_
  refine J.nil ?_
  refine J.then_n (J.k hK1 ?_)
  refine J.keepE [(0, _), (1, _)] ⟨rfl, rfl, trivial⟩ ?_
  refine J.seq (fun K2 hK2 => ?_)
  refine J.seq (fun K3 hK3 => ?_)
  refine J.region ?_
  refine J.y (op_move rfl rfl) rfl rfl rfl ?_
  refine J.y ((op_lss rfl rfl rfl).as (v' := .bool false) (congrArg Value.bool (decide_eq_false (by omega)))) rfl rfl rfl ?_
  refine J.nil ?_
  refine J.then_n (J.k hK3 ?_)
  refine J.keepE [(0, _), (1, _), (8, _)] ⟨rfl, rfl, rfl, trivial⟩ ?_
  refine J.condF rfl rfl ?_
  refine J.skip ?_
  refine J.then_n (J.k hK2 ?_)
  refine J.keepE [(0, _), (1, _)] ⟨rfl, rfl, trivial⟩ ?_
  refine J.seq (fun K4 hK4 => ?_)
  refine J.region ?_
  refine J.y (op_move rfl rfl) rfl rfl rfl ?_
  refine J.y (op_move rfl rfl) rfl rfl rfl ?_
  refine J.e (op_call rfl rfl ent130 (Ct.use1 0 (m' := fun _ : Unit => RSb g (st.take size)) (new := fun _ => []) rfl (fun F' _ => take_ct F' g st size))) rfl rfl rfl ?_
  intro g14 _
  change J _ _ _ [RSb g (st.take size), F] _
  refine J.y (op_move rfl rfl) rfl rfl rfl ?_
  refine J.y (op_extract rfl rfl rfl) rfl rfl rfl ?_
  refine J.y (op_extract rfl rfl rfl) rfl rfl rfl ?_
  refine J.y (op_assign rfl rfl) rfl rfl rfl ?_
  refine J.y (op_assign rfl rfl) rfl rfl rfl ?_
  refine J.nil ?_
  refine J.then_n (J.k hK4 ?_)
  refine J.keepE [(5, _)] ⟨rfl, trivial⟩ ?_
  refine J.seq (fun K5 hK5 => ?_)
  refine J.region ?_
  refine J.y (op_move rfl rfl) rfl rfl rfl ?_
  refine J.y (op_assign rfl rfl) rfl rfl rfl ?_
  refine J.nil ?_
  refine J.then_n (J.k hK5 ?_)
  refine J.keepE [(4, _)] ⟨rfl, trivial⟩ ?_
  refine J.ret ?_
  exact J.done hw0 (fun _ _ h => h) (res1 rfl rfl) (retOk () rfl trivial [0, 1] rfl (by decide))

def RS.textS (st : RS) : List UInt8 := if 4096 < natB (st.out 2) then [] else (st.take 2).out (natB (st.out 2))
def RS.textR (st : RS) : RS := if 4096 < natB (st.out 2) then (st.take 2).form else (st.take 2).take (natB (st.out 2))
def RS.last (st : RS) : Int := if st.bad = 0 then (if st.s = [] then 0 else 2) else st.bad
theorem natB2 (st : RS) : natB (st.out 2) < 65536 := by
  refine Nat.lt_of_lt_of_le (natB_lt _) (Nat.le_trans (Nat.pow_le_pow_right (by omega) (st.out_len 2)) (by decide))

theorem end_ct (F : Hp) (g : Nat) (st : RS) :
    Ct Tryd.prog 86 [Ptr g] [RSb g st, F] (fun _ : Unit => I st.last) (fun _ => True) (fun _ => [RSb g st, F]) := by
  obtain ⟨s, bad⟩ := st
  change Ct _ _ _ [blk g [Str s, I bad] 189, F] _ _ _
  refine Ct.walk Tryd.func86 rfl Tryd.ntmps86 rfl (fun w0 hw0 => ?_)
  change J _ [(0, _)] _ _ _
  refine J.seq (fun K1 hK1 => ?_)
  refine J.region ?_
  refine J.y (op_assign rfl rfl) rfl rfl rfl ?_
  refine J.nil ?_
  refine J.then_n (J.k hK1 ?_)
  refine J.keepE [(0, _)] ⟨rfl, trivial⟩ ?_
  refine J.seq (fun K2 hK2 => ?_)
  refine J.block ?_
  refine J.seq (fun K3 hK3 => ?_)
  refine J.region ?_
  refine J.y (op_move rfl rfl) rfl rfl rfl ?_
  refine J.y ((op_peq Tryd.underlying140 rfl rfl rfl).as (v' := .bool false) rfl) rfl rfl rfl ?_
  refine J.y (op_assign rfl rfl) rfl rfl rfl ?_
  refine J.nil ?_
  refine J.then_n (J.k hK3 ?_)
  refine J.keepE [(0, _), (3, _)] ⟨rfl, rfl, trivial⟩ ?_
  refine J.condF rfl rfl ?_
  refine J.seq (fun K4 hK4 => ?_)
  refine J.region ?_
  refine J.y (op_move rfl rfl) rfl rfl rfl ?_
  refine J.y (op_nilCheck rfl rfl) rfl rfl rfl ?_
  refine J.y (op_fieldAddr (j := 1) rfl rfl Tryd.underlying189 rfl Tryd.sizeOf27 rfl) rfl rfl rfl ?_
  refine J.y (op_loadB 0 (k := 1) rfl rfl rfl Tryd.isAgg27 rfl) rfl rfl rfl ?_
  refine J.y (op_neq rfl rfl rfl) rfl rfl rfl ?_
  refine J.y (op_assign rfl rfl) rfl rfl rfl ?_
  refine J.nil ?_
  refine J.then_n (J.k hK4 ?_)
  refine J.keepE [(0, _), (6, _)] ⟨rfl, rfl, trivial⟩ ?_
  refine J.ite rfl (fun h6 => ?_) (fun h6 => ?_)
  ·
    refine J.seq (fun K5 hK5 => ?_)
    refine J.region ?_
    refine J.y (op_move rfl rfl) rfl rfl rfl ?_
    refine J.y (op_nilCheck rfl rfl) rfl rfl rfl ?_
    refine J.y (op_fieldAddr (j := 1) rfl rfl Tryd.underlying189 rfl Tryd.sizeOf27 rfl) rfl rfl rfl ?_
    refine J.y (op_loadB 0 (k := 1) rfl rfl rfl Tryd.isAgg27 rfl) rfl rfl rfl ?_
    refine J.y (op_assign rfl rfl) rfl rfl rfl ?_
    refine J.nil ?_
    refine J.then_n (J.k hK5 ?_)
    refine J.keepE [(2, _)] ⟨rfl, trivial⟩ ?_
    refine J.ret ?_
    refine J.blk_r ?_
    refine J.then_r ?_
    exact J.done hw0 (fun _ _ h => h) (res1 rfl rfl) (retOk () (congrArg I (by unfold RS.last; dsimp only; rw [if_neg (by omega)])) trivial [0, 1] rfl (by decide))
  ·
    refine J.seq (fun K6 hK6 => ?_)
    refine J.region ?_
    refine J.y (op_move rfl rfl) rfl rfl rfl ?_
    refine J.y (op_nilCheck rfl rfl) rfl rfl rfl ?_
    refine J.y (op_fieldAddr (j := 0) rfl rfl Tryd.underlying189 rfl Tryd.sizeOf9 rfl) rfl rfl rfl ?_
    refine J.y (op_loadB 0 (k := 0) rfl rfl rfl Tryd.isAgg9 rfl) rfl rfl rfl ?_
    refine J.y (op_sne rfl rfl rfl) rfl rfl rfl ?_
    refine J.y (op_assign rfl rfl) rfl rfl rfl ?_
    refine J.nil ?_
    refine J.then_n (J.k hK6 ?_)
    refine J.keepE [(16, _)] ⟨rfl, trivial⟩ ?_
    refine J.ite rfl (fun h16 => ?_) (fun h16 => ?_)
    ·
      refine J.seq (fun K7 hK7 => ?_)
      refine J.region ?_
      refine J.y (op_assign rfl rfl) rfl rfl rfl ?_
      refine J.nil ?_
      refine J.then_n (J.k hK7 ?_)
      refine J.keepE [(2, _)] ⟨rfl, trivial⟩ ?_
      refine J.ret ?_
      refine J.blk_r ?_
      refine J.then_r ?_
      exact J.done hw0 (fun _ _ h => h) (res1 rfl rfl) (retOk () (congrArg I (by unfold RS.last; dsimp only; rw [if_pos (by omega), if_neg (by assumption)])) trivial [0, 1] rfl (by decide))
    ·
      refine J.skip ?_
      refine J.blk_n ?_
      refine J.then_n (J.k hK2 ?_)
      refine J.keepE [] trivial ?_
      refine J.seq (fun K8 hK8 => ?_)
      refine J.region ?_
      refine J.y (op_assign rfl rfl) rfl rfl rfl ?_
      refine J.nil ?_
      refine J.then_n (J.k hK8 ?_)
      refine J.keepE [(2, _)] ⟨rfl, trivial⟩ ?_
      refine J.ret ?_
      exact J.done hw0 (fun _ _ h => h) (res1 rfl rfl) (retOk () (congrArg I (by unfold RS.last; dsimp only; rw [if_pos (by omega), if_pos (Decidable.not_not.1 (by assumption))])) trivial [0, 1] rfl (by decide))

end Go.Proofs.YtnkfapecbmmpeaaDoor

namespace Go.Proofs.YtnkfapecbmmpeaaDoor
open Go Go.Fw
set_option maxRecDepth 100000
set_option maxHeartbeats 1000000
theorem ent56 : Enters Tryd.prog 56 := Enters.of Tryd.func56 rfl (by kernel_rfl)

def pubOk (o r : List UInt8) (h : Int) : Prop := 0 ≤ h ∧ h ≤ 6 ∧ o.length = 16 ∧ r.length = 16
instance (o r : List UInt8) (h : Int) : Decidable (pubOk o r h) := by unfold pubOk; infer_instance
def pubEnc (o r : List UInt8) (h : Int) : List UInt8 := if pubOk o r h then o ++ r ++ [UInt8.ofNat h.toNat] else []
def pubErr (o r : List UInt8) (h : Int) : Int := if pubOk o r h then 0 else 10
def pbad (o r : List UInt8) : Int := fbad (okF r 16) 10 (fbad (okF o 16) 10 0)
def pbs (o r : List UInt8) : List UInt8 := wfix r 16 (wfix o 16 [] 0) (fbad (okF o 16) 10 0)
theorem eqPub (d : Nat) (o r o' r' : List UInt8) (h h' : Int) (w : World) : (Op.equalIn (d + 2) 32 (.agg #[Str o, Str r, I h]) (.agg #[Str o', Str r', I h'])).run Tryd.prog w = .ok (decide (o = o' ∧ r = r' ∧ h = h')) w := by
  have u3 := Tryd.underlying3
  have a3 := Tryd.isAgg3
  have us := Tryd.underlying9
  have ag := Tryd.isAgg9
  have hS : Tryd.prog.underlying 32 = some (.struct (Tryd.prog.fieldsOf 32)) := by kernel_rfl
  have hp : Tryd.prog.stoodInHeld 32 = false := by kernel_rfl
  rw [show d + 2 = (d + 1) + 1 from rfl, run_equalIn_struct w (d + 1) 32 _ _ hS hp]
  simp only [Program.fieldsOf, Tryd.underlying32]
  have hi : ∀ (a b : Int) (w : World), (Op.equalIn (d + 1) 3 (.int .i64 a) (.int .i64 b)).run Tryd.prog w = .ok (a == b) w := fun a b w => run_equalIn_int w d 3 .i64 .i64 a b u3
  have hs : ∀ (a b : List UInt8) (w : World), (Op.equalIn (d + 1) 9 (Str a) (Str b)).run Tryd.prog w = .ok (decide (a = b)) w := fun a b w => by rw [run_equalIn_string w d 9 _ _ us, bytes_beq]
  simp only [Op.eqFields]
  simp [part, a3, ag, hi, hs]
  by_cases h1 : o = o' <;> by_cases h2 : r = r' <;> by_cases h3 : h = h' <;> simp [h1, h2, h3]

end Go.Proofs.YtnkfapecbmmpeaaDoor

namespace Go.Proofs.YtnkfapecbmmpeaaDoor
open Go Go.Fw
set_option maxRecDepth 100000
set_option maxHeartbeats 1000000

theorem take_ok {s : List UInt8} {n : Nat} (h : n ≤ s.length) : (⟨s, 0⟩ : RS).take n = ⟨s.drop n, 0⟩ := by simp [RS.take, h]
theorem out_ok {s : List UInt8} {n : Nat} (h : n ≤ s.length) : (⟨s, 0⟩ : RS).out n = s.take n := by simp [RS.out, h]
def dpE (s : List UInt8) : Int := if s.length < 33 then 3 else if 33 < s.length then 2 else if 6 < (s.getD 32 0).toNat then 4 else 0
def dpO (s : List UInt8) : List UInt8 := if dpE s = 0 then s.take 16 else []
def dpR (s : List UInt8) : List UInt8 := if dpE s = 0 then (s.drop 16).take 16 else []
def dpH (s : List UInt8) : Nat := if dpE s = 0 then (s.getD 32 0).toNat else 0
def dpV (s : List UInt8) : Value := .tuple #[.agg #[Str (dpO s), Str (dpR s), I (dpH s)], I (dpE s)]
theorem numB_zero (n : UInt64) : Sha.numB n 0 = [] := rfl
theorem numB_cons (n t : Nat) (hn : n < 18446744073709551616) (ht : t < 8) : Sha.numB (UInt64.ofNat n) (t + 1) = UInt8.ofNat (n / 256 ^ t % 256) :: Sha.numB (UInt64.ofNat n) t := by
  unfold Sha.numB
  rw [List.range_succ_eq_map, List.map_cons, List.map_map]
  congr 1
  · rw [ofNat64 hn, Nat.min_eq_left (by omega), show t + 1 - 1 - 0 = t by omega, Nat.pow_mul]
    apply UInt8.toNat_inj.1
    rw [UInt64.toNat_toUInt8, ofNat64 (Nat.lt_of_le_of_lt (Nat.div_le_self _ _) hn), UInt8.toNat_ofNat']; simp
  · apply List.map_congr_left
    intro i hi
    rw [List.mem_range] at hi
    simp only [Function.comp, Nat.succ_eq_add_one, ofNat64 hn]
    rw [show t + 1 - 1 - (i + 1) = t - 1 - i by omega]
theorem pow_le8 (t : Nat) (ht : t ≤ 8) : 256 ^ t ≤ 18446744073709551616 := Nat.le_trans (Nat.pow_le_pow_right (by omega) ht) (by decide)

def noughts : List UInt8 := List.replicate 16 0
theorem natB_foldl (l : List UInt8) : ∀ a : Nat, l.foldl (fun n c => n * 256 + c.toNat) a = a * 256 ^ l.length + natB l := by
  induction l with
  | nil => intro a; simp [natB]
  | cons c l ih =>
    intro a
    unfold natB
    rw [List.foldl_cons, List.foldl_cons, ih, ih (0 * 256 + c.toNat), List.length_cons, Nat.pow_succ, Nat.add_mul, Nat.add_mul, Nat.mul_assoc, Nat.mul_comm 256]
    omega
theorem natB_cons (c : UInt8) (l : List UInt8) : natB (c :: l) = c.toNat * 256 ^ l.length + natB l := by
  rw [natB, List.foldl_cons, natB_foldl, Nat.zero_mul, Nat.zero_add]
theorem natB_numB (n : Nat) (hn : n < 18446744073709551616) : ∀ t, t ≤ 8 → natB (Sha.numB (UInt64.ofNat n) t) = n % 256 ^ t := by
  intro t
  induction t with
  | zero => intro _; rw [numB_zero]; simp [natB, Nat.mod_one]
  | succ t ih =>
    intro ht
    rw [numB_cons n t hn (by omega), natB_cons, Sha.numB_length, ih (by omega), UInt8.toNat_ofNat', show (2 ^ 8 : Nat) = 256 from rfl, Nat.mod_mod, Nat.pow_succ, Nat.mod_mul, Nat.mul_comm, Nat.add_comm]
theorem numB_add (c m t : Nat) (hc : c * 256 ^ t + m < 18446744073709551616) : ∀ k, k ≤ t → k ≤ 8 → Sha.numB (UInt64.ofNat (c * 256 ^ t + m)) k = Sha.numB (UInt64.ofNat m) k := by
  intro k
  induction k with
  | zero => intro _ _; rfl
  | succ k ih =>
    intro hk h8
    rw [numB_cons _ k hc (by omega), numB_cons m k (by omega) (by omega), ih (by omega) (by omega)]
    congr 2
    obtain ⟨d, rfl⟩ : ∃ d, t = k + 1 + d := ⟨t - k - 1, by omega⟩
    have e : c * 256 ^ (k + 1 + d) = 256 ^ k * (c * 256 ^ d * 256) := by rw [Nat.pow_add, Nat.pow_succ]; ac_rfl
    rw [e, Nat.mul_add_div (Nat.pow_pos (by omega)), Nat.mul_comm, Nat.mul_add_mod]
theorem numB_natB : ∀ (l : List UInt8), l.length ≤ 8 → Sha.numB (UInt64.ofNat (natB l)) l.length = l := by
  intro l
  induction l with
  | nil => intro _; rfl
  | cons c l ih =>
    intro hl
    rw [List.length_cons] at hl
    have h1 := natB_lt (c :: l)
    have h2 := pow_le8 (l.length + 1) hl
    have h3 := natB_lt l
    rw [List.length_cons] at h1
    rw [natB_cons] at h1 ⊢
    rw [List.length_cons, numB_cons _ _ (by omega) (by omega), numB_add _ _ _ (by omega) _ (Nat.le_refl _) (by omega), ih (by omega)]
    congr 1
    apply UInt8.toNat_inj.1
    have h4 := c.toNat_lt
    rw [UInt8.toNat_ofNat', Nat.mul_comm, Nat.mul_add_div (Nat.pow_pos (by omega)), Nat.div_eq_of_lt h3]
    simp only [Nat.reducePow] at h4 ⊢
    omega
/-! ## reading texts, one behind the other -/
def tb (s : List UInt8) : List UInt8 := Sha.numB (UInt64.ofNat s.length) 2 ++ s
theorem take_inv {st : RS} {n : Nat} (h : (st.take n).bad = 0) : st.bad = 0 ∧ n ≤ st.s.length ∧ st.take n = ⟨st.s.drop n, 0⟩ ∧ st.out n = st.s.take n := by
  obtain ⟨s, b⟩ := st
  unfold RS.take at h ⊢
  unfold RS.out
  dsimp only at h ⊢
  by_cases hb : b = 0
  · rw [if_pos hb] at h ⊢
    by_cases hn : n ≤ s.length
    · rw [if_pos hn] at h ⊢
      exact ⟨hb, hn, rfl, if_pos ⟨hb, hn⟩⟩
    · rw [if_neg hn] at h; cases h
  · rw [if_neg hb] at h; exact absurd h hb
theorem take_bad {st : RS} {n : Nat} (h : st.bad ≠ 0) : st.take n = st := by unfold RS.take; rw [if_neg h]
theorem out_bad {st : RS} {n : Nat} (h : st.bad ≠ 0) : st.out n = [] := by unfold RS.out; rw [if_neg (fun e => h e.1)]
theorem textR_bad {st : RS} (h : st.bad ≠ 0) : st.textR = st := by
  unfold RS.textR
  rw [out_bad h, if_neg (by decide), take_bad h, take_bad h]
def RS.after : RS → Nat → RS
  | st, 0 => st
  | st, k + 1 => (st.after k).textR
def RS.tx (st : RS) (k : Nat) : List (List UInt8) := (List.range k).map fun j => (st.after j).textS
theorem after_succ (st : RS) (k : Nat) : st.after (k + 1) = (st.after k).textR := rfl
theorem after_front (st : RS) (k : Nat) : st.after (k + 1) = st.textR.after k := by
  induction k with
  | zero => rfl
  | succ k ih => rw [after_succ, ih, after_succ]
theorem tx_front (st : RS) (k : Nat) : st.tx (k + 1) = st.textS :: st.textR.tx k := by
  unfold RS.tx
  rw [List.range_succ_eq_map, List.map_cons, List.map_map]
  refine List.cons_eq_cons.2 ⟨rfl, List.map_congr_left fun j _ => ?_⟩
  show (st.after (j + 1)).textS = _
  rw [after_front]
theorem after_bad {st : RS} (h : st.bad ≠ 0) (k : Nat) : st.after k = st := by
  induction k with
  | zero => rfl
  | succ k ih => rw [after_succ, ih, textR_bad h]
theorem text_inv {t : List UInt8} (h : (⟨t, 0⟩ : RS).textR.bad = 0) : ∃ r, t = tb (⟨t, 0⟩ : RS).textS ++ r ∧ (⟨t, 0⟩ : RS).textR = ⟨r, 0⟩ := by
  unfold RS.textR at h ⊢
  unfold RS.textS
  by_cases h1 : 4096 < natB ((⟨t, 0⟩ : RS).out 2)
  · rw [if_pos h1] at h
    unfold RS.form at h
    by_cases h2 : ((⟨t, 0⟩ : RS).take 2).bad = 0
    · rw [if_pos h2] at h; cases h
    · rw [if_neg h2] at h; exact absurd h h2
  · rw [if_neg h1] at h
    rw [if_neg h1, if_neg h1]
    obtain ⟨a1, a2, a3, a4⟩ := take_inv h
    obtain ⟨b1, b2, b3, b4⟩ := take_inv a1
    rw [b3] at a2 a3 a4
    rw [b3]
    refine ⟨_, ?_, a3⟩
    rw [a4]
    dsimp only at a2 b2 b4 ⊢
    have e : ((t.drop 2).take (natB ((⟨t, 0⟩ : RS).out 2))).length = natB ((⟨t, 0⟩ : RS).out 2) := by rw [List.length_take]; omega
    have hn := numB_natB (t.take 2) (by rw [List.length_take]; omega)
    rw [show (t.take 2).length = 2 by rw [List.length_take]; omega] at hn
    unfold tb
    rw [e, b4, hn, List.append_assoc, List.take_append_drop, List.take_append_drop]
theorem text_fwd {x : List UInt8} (r : List UInt8) (h : x.length ≤ 4096) : (⟨tb x ++ r, 0⟩ : RS).textS = x ∧ (⟨tb x ++ r, 0⟩ : RS).textR = ⟨r, 0⟩ := by
  have hN : (Sha.numB (UInt64.ofNat x.length) 2).length = 2 := Sha.numB_length _ _
  have e1 : (⟨tb x ++ r, 0⟩ : RS).out 2 = Sha.numB (UInt64.ofNat x.length) 2 := by
    rw [out_ok (by unfold tb; simp only [List.length_append, hN]; omega)]
    unfold tb
    rw [List.append_assoc, List.take_left' hN]
  have e2 : (⟨tb x ++ r, 0⟩ : RS).take 2 = ⟨x ++ r, 0⟩ := by
    rw [take_ok (by unfold tb; simp only [List.length_append, hN]; omega)]
    unfold tb
    rw [List.append_assoc, List.drop_left' hN]
  have e3 : natB (Sha.numB (UInt64.ofNat x.length) 2) = x.length := by
    rw [natB_numB _ (by omega) 2 (by decide)]; exact Nat.mod_eq_of_lt (by omega)
  unfold RS.textS RS.textR
  rw [e1, e2, e3, if_neg (by omega), if_neg (by omega), out_ok (by rw [List.length_append]; omega), take_ok (by rw [List.length_append]; omega), List.take_left' rfl, List.drop_left' rfl]
  exact ⟨rfl, rfl⟩
theorem all_fwd : ∀ (l : List (List UInt8)) (r : List UInt8), (∀ x ∈ l, x.length ≤ 4096) → (⟨(l.map tb).flatten ++ r, 0⟩ : RS).after l.length = ⟨r, 0⟩ ∧ (⟨(l.map tb).flatten ++ r, 0⟩ : RS).tx l.length = l
  | [], r, _ => ⟨rfl, rfl⟩
  | x :: l, r, h => by
    have h1 := text_fwd ((l.map tb).flatten ++ r) (h x (.head _))
    have h2 := all_fwd l r (fun y hy => h y (.tail _ hy))
    rw [List.map_cons, List.flatten_cons, List.append_assoc, List.length_cons, after_front, tx_front, h1.1, h1.2]
    exact ⟨h2.1, by rw [h2.2]⟩
theorem all_inv : ∀ (k : Nat) (t : List UInt8), ((⟨t, 0⟩ : RS).after k).bad = 0 → ∃ r, t = (((⟨t, 0⟩ : RS).tx k).map tb).flatten ++ r ∧ (⟨t, 0⟩ : RS).after k = ⟨r, 0⟩
  | 0, t, _ => ⟨t, rfl, rfl⟩
  | k + 1, t, h => by
    rw [after_front] at h
    by_cases hb : (⟨t, 0⟩ : RS).textR.bad = 0
    · obtain ⟨r, e1, e2⟩ := text_inv hb
      rw [e2] at h
      obtain ⟨r', e3, e4⟩ := all_inv k r h
      refine ⟨r', ?_, by rw [after_front, e2]; exact e4⟩
      rw [tx_front, e2, List.map_cons, List.flatten_cons, List.append_assoc, ← e3]; exact e1
    · rw [after_bad hb] at h; exact absurd h hb
theorem take_in {st : RS} {n : Nat} (h : st.bad = 0 ∨ st.bad = 3 ∨ st.bad = 4) : (st.take n).bad = 0 ∨ (st.take n).bad = 3 ∨ (st.take n).bad = 4 := by
  unfold RS.take
  split
  · split <;> simp
  · exact h
theorem after_in {st : RS} (h : st.bad = 0 ∨ st.bad = 3 ∨ st.bad = 4) : ∀ k, (st.after k).bad = 0 ∨ (st.after k).bad = 3 ∨ (st.after k).bad = 4
  | 0 => h
  | k + 1 => by
    rw [after_succ]
    unfold RS.textR
    split
    · unfold RS.form
      split
      · simp
      · exact take_in (after_in h k)
    · exact take_in (take_in (after_in h k))
theorem tb_len (s : List UInt8) : (tb s).length = 2 + s.length := by unfold tb; rw [List.length_append, Sha.numB_length]

theorem wtrN (g : Nat) : Wtr (blk g [.pointer none, .slice none 0 0, I 0] 104) g [] 0 :=
  ⟨[.pointer none, .slice none 0 0, I 0], fun _ => none, none, 0, none, by funext k; simp only [U]; cases blk g [.pointer none, .slice none 0 0, I 0] 104 k <;> rfl, fun _ => .inr rfl, rfl, ⟨rfl, .inl rfl, rfl, RowQ.nil, .inl rfl⟩, rfl⟩
theorem fbad_tt (e : Int) : fbad true e 0 = 0 := by unfold fbad; rw [if_neg (by simp)]
theorem numG_ct (F m : Hp) (g : Nat) (bs : List UInt8) (hw : Wtr m g bs 0) (hlen : bs.length ≤ 1099511627776) (k size : Nat) (h1 : 1 ≤ size) (h8 : size < 8) (hk : k < 2 ^ (8 * size)) :
    Ct Tryd.prog 55 [Ptr g, N64 k, I size] [m, F] (fun _ : Hp => Ptr g) (fun m' => Wtr m' g (bs ++ Sha.numB (UInt64.ofNat k) size) 0) (fun m' => [m', F]) := by
  have hlt : k < 18446744073709551616 := Nat.lt_of_lt_of_le hk (Nat.le_trans (Nat.pow_le_pow_right (by decide) (show 8 * size ≤ 64 by omega)) (by decide))
  have hn : (UInt64.ofNat k).toNat = k := ofNat64 hlt
  have e : okN (UInt64.ofNat k) size = true := by unfold okN; rw [hn]; exact decide_eq_true hk
  have h := num_ct F m g bs 0 hw hlen (UInt64.ofNat k) size h1 h8
  rw [wnum_ok e, e, fbad_tt] at h
  rw [N_W hlt]; exact h
theorem bytesG_ct (F m : Hp) (g : Nat) (bs : List UInt8) (hw : Wtr m g bs 0) (hlen : bs.length ≤ 1099511627776) :
    Ct Tryd.prog 56 [Ptr g] [m, F] (fun _ : Hp => .tuple #[Str bs, I ((0 : Nat) : Int)]) (fun m' => Wtr m' g bs 0) (fun m' => [m', F]) := by
  have h := bytes_ct F m g bs 0 hw (by omega)
  rw [if_pos rfl] at h; exact h
/-! ## a proof in bytes -/
def b01 (t : Bool) : UInt8 := if t = true then 1 else 0
def n01 (t : Bool) : Nat := if t = true then 1 else 0
def pfB (bs : List (List UInt8)) (th : Bool) (pk pv : List UInt8) : List UInt8 := [UInt8.ofNat bs.length] ++ (bs.map tb).flatten ++ [b01 th] ++ tb pk ++ tb pv
def pd1 (s : List UInt8) : RS := (⟨s, 0⟩ : RS).take 1
def pdn (s : List UInt8) : Nat := natB ((⟨s, 0⟩ : RS).out 1)
def pd2 (s : List UInt8) : RS := (pd1 s).after (min (pdn s) 128)
def pdb (s : List UInt8) : List (List UInt8) := (pd1 s).tx (min (pdn s) 128)
def pdt (s : List UInt8) : Nat := natB ((pd2 s).out 1)
def pd3 (s : List UInt8) : RS := (pd2 s).take 1
def pd4 (s : List UInt8) : RS := (pd3 s).textR
def pd5 (s : List UInt8) : RS := (pd4 s).textR
def pdE (s : List UInt8) : Int := if (pd5 s).last ≠ 0 then (pd5 s).last else if 128 < pdn s ∨ 1 < pdt s then 4 else 0
def pdB (s : List UInt8) : List (List UInt8) := if pdE s = 0 then pdb s else []
def pdT (s : List UInt8) : Bool := if pdE s = 0 then decide (pdt s = 1) else false
def pdK (s : List UInt8) : List UInt8 := if pdE s = 0 then (pd3 s).textS else []
def pdV (s : List UInt8) : List UInt8 := if pdE s = 0 then (pd4 s).textS else []
end Go.Proofs.YtnkfapecbmmpeaaDoor

namespace Go.Proofs.YtnkfapecbmmpeaaDoor
open Go Go.Fw
set_option maxRecDepth 100000
set_option maxHeartbeats 1000000

namespace Sha
/-- the first k texts, cut -/
def cutL (w : Nat) (ls : List (List UInt8)) (k : Nat) : List (List UInt8) := (ls.take k).map (List.take w)
theorem cutL_succ (w : Nat) (ls : List (List UInt8)) (k : Nat) (h : k < ls.length) : cutL w ls (k + 1) = cutL w ls k ++ [(ls.getD k []).take w] := by
  unfold cutL
  rw [List.take_succ_eq_append_getElem h, List.map_append, List.getD_eq_getElem?_getD, List.getElem?_eq_getElem h]; rfl
theorem cutL_flat (w : Nat) (ls : List (List UInt8)) : ∀ k, k ≤ ls.length → (cutL w ls k).flatten.length ≤ w * k
  | 0, _ => by simp [cutL]
  | k + 1, h => by
    have := cutL_flat w ls k (by omega)
    have h2 : ((ls.getD k []).take w).length ≤ w := by rw [List.length_take]; omega
    rw [cutL_succ w ls k (by omega), List.flatten_append, List.length_append, Nat.mul_add]
    simp only [List.flatten_cons, List.flatten_nil, List.append_nil, Nat.mul_one]; omega
theorem take_min (s : List UInt8) (k : Nat) : (s.take (min s.length k)).drop 0 = s.take k := by
  rw [List.drop_zero]
  by_cases h : s.length ≤ k
  · rw [Nat.min_eq_left h, List.take_length, List.take_of_length_le h]
  · rw [Nat.min_eq_right (by omega)]
end Sha
attribute [local irreducible] Sha.tagB

end Go.Proofs.YtnkfapecbmmpeaaDoor

namespace Go.Proofs.YtnkfapecbmmpeaaDoor
open Go Go.Fw
set_option maxRecDepth 100000
set_option maxHeartbeats 1000000
attribute [local irreducible] Mk.node

namespace Mk
theorem climb_snoc (s : List UInt8) : ∀ (p : List (List UInt8)) (x : List UInt8) (i : Nat), climb x i (p ++ [s]) = if i / 2 ^ p.length % 2 = 0 then node (climb x i p) s else node s (climb x i p)
  | [], x, i => by simp [climb]
  | a :: p, x, i => by
    rw [List.cons_append, climb, climb, climb_snoc s p, List.length_cons, Nat.pow_succ, Nat.mul_comm, ← Nat.div_div_eq_div_mul]
theorem climb_lvl (l : List (List UInt8)) (h i : Nat) (hl : l.length = 2 ^ h) (hi : i < 2 ^ h) : ∀ j, j ≤ h → climb (l.getD i []) i (path l i j) = (lvl l j).getD (i / 2 ^ j) []
  | 0, _ => by simp [path, climb, lvl]
  | j + 1, hj => by
    have hlen := lvl_length l h hl j (by omega)
    have h1 : i / 2 ^ j < 2 ^ (h - j) := by rw [Nat.div_lt_iff_lt_mul (Nat.two_pow_pos j), ← Nat.pow_add, show h - j + j = h by omega]; exact hi
    have h2 := two_pow_even (show 0 < h - j by omega)
    rw [path_succ, climb_snoc, climb_lvl l h i hl hi j (by omega), path_length, Nat.pow_succ, ← Nat.div_div_eq_div_mul]
    generalize i / 2 ^ j = q at *
    rw [show lvl l (j + 1) = above (lvl l j) from rfl, List.getD_eq_getElem?_getD (l := above (lvl l j)), above_get, hlen, if_pos (show q / 2 < 2 ^ (h - j) / 2 by omega), xor_val]
    split
    · rename_i e
      rw [show 2 * (q / 2) = q by omega]; rfl
    · rename_i e
      rw [show 2 * (q / 2) = q - 1 by omega, show q - 1 + 1 = q by omega]; rfl
theorem climb_root (l : List (List UInt8)) (h i : Nat) (hl : l.length = 2 ^ h) (hi : i < 2 ^ h) : climb (l.getD i []) i (path l i h) = root l h := by
  rw [climb_lvl l h i hl hi h (Nat.le_refl _), Nat.div_eq_of_lt hi]; rfl
/-- so many texts, cut; the empty one behind the last -/
def fillL (w : Nat) (ls : List (List UInt8)) (k : Nat) : List (List UInt8) := (List.range k).map fun j => (ls.getD j []).take w
theorem flat_small {ls : List (List UInt8)} {w : Nat} (h : ∀ s ∈ ls, s.length ≤ w) : ls.flatten.length ≤ w * ls.length := by
  induction ls with
  | nil => simp
  | cons a l ih =>
    have := ih (fun s hs => h s (.tail _ hs))
    have h2 := h a (.head _)
    rw [List.flatten_cons, List.length_append, List.length_cons, Nat.mul_add]; omega
end Mk
namespace Sha
end Sha
attribute [local irreducible] Sha.tagB Mk.root Mk.path

end Go.Proofs.YtnkfapecbmmpeaaDoor
