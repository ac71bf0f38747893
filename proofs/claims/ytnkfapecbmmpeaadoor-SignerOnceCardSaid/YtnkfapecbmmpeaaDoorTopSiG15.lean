/- A part of the proof: contracts of functions of the program, each for every state of the heaps that it names. -/
import Derived.Test.YtnkfapecbmmpeaaDoorTopSiG13
import Derived.Test.YtnkfapecbmmpeaaDoorTopSiG14
set_option linter.unusedSimpArgs false
set_option linter.unusedVariables false
namespace Go.Proofs.YtnkfapecbmmpeaaDoor
open Go Go.Fw
set_option maxRecDepth 100000
set_option maxHeartbeats 1000000
theorem ent66 : Enters Tryd.prog 66 := Enters.of Tryd.func66 rfl (by kernel_rfl)
theorem ent76 : Enters Tryd.prog 76 := Enters.of Tryd.func76 rfl (by kernel_rfl)
theorem ent77 : Enters Tryd.prog 77 := Enters.of Tryd.func77 rfl (by kernel_rfl)
theorem ent78 : Enters Tryd.prog 78 := Enters.of Tryd.func78 rfl (by kernel_rfl)
theorem ent80 : Enters Tryd.prog 80 := Enters.of Tryd.func80 rfl (by kernel_rfl)
theorem ent84 : Enters Tryd.prog 84 := Enters.of Tryd.func84 rfl (by kernel_rfl)
theorem ent120 : Enters Tryd.prog 120 := Enters.of Tryd.func120 rfl (by kernel_rfl)
theorem ent121 : Enters Tryd.prog 121 := Enters.of Tryd.func121 rfl (by kernel_rfl)
theorem ent124 : Enters Tryd.prog 124 := Enters.of Tryd.func124 rfl (by kernel_rfl)
theorem ent163 : Enters Tryd.prog 163 := Enters.of Tryd.func163 rfl (by kernel_rfl)
theorem ent164 : Enters Tryd.prog 164 := Enters.of Tryd.func164 rfl (by kernel_rfl)
theorem ent166 : Enters Tryd.prog 166 := Enters.of Tryd.func166 rfl (by kernel_rfl)
theorem ent167 : Enters Tryd.prog 167 := Enters.of Tryd.func167 rfl (by kernel_rfl)
theorem el184 : Elem Tryd.prog 184 [.int .u64 0, .int .u64 0, .int .i64 0, .int .i64 0, Str [], Str []] 64 := Elem.of (by kernel_rfl) rfl

theorem wtr_newB (g : Nat) : Wtr (blk g [.pointer none, .slice none 0 0, I 0] 104) g [] 0 :=
  ⟨[.pointer none, .slice none 0 0, I 0], fun _ => none, none, 0, none, by funext k; simp only [U]; cases blk g [.pointer none, .slice none 0 0, I 0] 104 k <;> rfl, fun _ => .inr rfl, rfl, ⟨rfl, .inl rfl, rfl, RowQ.nil, .inl rfl⟩, rfl⟩
theorem wnum_in {n : UInt64} {size : Nat} (h : n.toNat < 2 ^ (8 * size)) (bs : List UInt8) : wnum n size bs 0 = bs ++ Sha.numB n size ∧ fbad (okN n size) 10 0 = 0 := by
  have e : okN n size = true := decide_eq_true h
  have f : fbad (okN n size) 10 0 = 0 := by unfold fbad; rw [e, if_neg (by simp)]
  exact ⟨by unfold wnum; rw [if_pos f], f⟩
def bsum (s : List UInt8) : List UInt8 := (Sha.tagged 8 [s]).take 8
def bname (turn num : UInt64) (s : List UInt8) : List UInt8 := (Sha.tagged 7 [Sha.numB turn 4, Sha.numB num 2, s]).take 8

theorem bbytes_ct (F : Hp) (n : UInt64) (size : Nat) (h1 : 1 ≤ size) (h8 : size < 8) (hn : n.toNat < 2 ^ (8 * size)) :
    Ct Tryd.prog 166 [W64 n, I size] [F] (fun _ : Unit => Str (Sha.numB n size)) (fun _ => True) (fun _ => [F]) := by
  refine Ct.walk Tryd.func166 rfl Tryd.ntmps166 rfl (fun w0 hw0 => ?_)
  change J _ [(0, _), (1, _)] _ _ _
  refine J.seq (fun K1 hK1 => ?_)
  refine J.region ?_
  refine J.y (op_assign rfl rfl) rfl rfl rfl ?_
  refine J.nil ?_
  refine J.then_n (J.k hK1 ?_)
  refine J.keepE [(0, _), (1, _)] ⟨rfl, rfl, trivial⟩ ?_
  refine J.seq (fun K2 hK2 => ?_)
  refine J.region ?_
  refine J.e (op_alloc rfl Tryd.zeroValue104 rfl) rfl rfl rfl ?_
  intro g5 _
  change J _ _ _ [F, blk g5 _ 104] _
  refine J.nil ?_
  refine J.then_n (J.k hK2 ?_)
  refine J.keepE [(0, _), (1, _), (5, _)] ⟨rfl, rfl, rfl, trivial⟩ ?_
  refine J.seq (fun K3 hK3 => ?_)
  refine J.region ?_
  refine J.y (op_move rfl rfl) rfl rfl rfl ?_
  refine J.y (op_move rfl rfl) rfl rfl rfl ?_
  refine J.e (op_call rfl rfl ent55 (Ct.use1 1 (m' := fun x : Hp => x) (new := fun _ => []) rfl (fun F' _ => num_ct F' (blk g5 [.pointer none, .slice none 0 0, I 0] 104) g5 [] 0 (wtr_newB g5) (by decide) n size h1 h8))) rfl rfl rfl ?_
  rintro m11 hw11
  change J _ _ _ [F, m11] _
  rw [(wnum_in hn []).1, (wnum_in hn []).2, List.nil_append] at hw11
  refine J.e (op_call rfl rfl ent56 (Ct.use1 1 (m' := fun x : Hp => x) (new := fun _ => []) rfl (fun F' _ => bytes_ct F' m11 g5 (Sha.numB n size) 0 hw11 (by rw [Sha.numB_length]; omega)))) rfl rfl rfl ?_
  rintro m12 _
  change J _ _ _ [F, m12] _
  refine J.y (op_move rfl rfl) rfl rfl rfl ?_
  refine J.y (op_extract (v := Str (Sha.numB n size)) rfl rfl rfl) rfl rfl rfl ?_
  refine J.y (op_extract (v := I 0) rfl rfl rfl) rfl rfl rfl ?_
  refine J.y (op_assign rfl rfl) rfl rfl rfl ?_
  refine J.y (op_assign rfl rfl) rfl rfl rfl ?_
  refine J.nil ?_
  refine J.then_n (J.k hK3 ?_)
  refine J.keepE [(6, _)] ⟨rfl, trivial⟩ ?_
  refine J.seq (fun K4 hK4 => ?_)
  refine J.region ?_
  refine J.y (op_move rfl rfl) rfl rfl rfl ?_
  refine J.y (op_assign rfl rfl) rfl rfl rfl ?_
  refine J.nil ?_
  refine J.then_n (J.k hK4 ?_)
  refine J.keepE [(4, _)] ⟨rfl, trivial⟩ ?_
  refine J.ret ?_
  exact J.done hw0 (fun _ _ h => h) (res1 rfl rfl) (retOk () rfl trivial [0] rfl (by decide))

theorem bsum_ct (F : Hp) (hK : Cells F ⟨1, 0, none⟩ (Sha.K.map W32)) (s : List UInt8) (hs : s.length ≤ 1048576) : Ct Tryd.prog 167 [Str s] [F] (fun _ : Unit => Str (bsum s)) (fun _ => True) (fun _ => [F]) := by
  refine Ct.walk Tryd.func167 rfl Tryd.ntmps167 rfl (fun w0 hw0 => ?_)
  change J _ [(0, _)] _ _ _
  refine J.seq (fun K1 hK1 => ?_)
  refine J.region ?_
  refine J.y (op_assign rfl rfl) rfl rfl rfl ?_
  refine J.nil ?_
  refine J.then_n (J.k hK1 ?_)
  refine J.keepE [(0, _)] ⟨rfl, trivial⟩ ?_
  refine J.seq (fun K2 hK2 => ?_)
  refine J.region ?_
  refine J.y (op_move rfl rfl) rfl rfl rfl ?_
  refine J.e (op_buildSlice (l := [.tmp 3]) (xs := [[Str (s)]]) rfl rfl rfl rfl Tryd.underlying55 el9 rfl (by decide) (by decide) (by simp)) rfl rfl rfl ?_
  intro g4 _
  change J _ _ _ [F, blk g4 [Str (s)] 9] _
  refine J.e (op_call rfl rfl ent58 (Ct.use0 (fun F' hF => tagged_ct F' (hK.mono (hF _ (by simp))) 8 (some ⟨g4, 0, none⟩) 1 1 [s] ((slS [s] rfl).mono (hF (blk g4 (([s] : List (List UInt8)).map fun s => Str s) 9) (by simp))) (by simp; omega) (by decide)))) rfl rfl rfl ?_
  intro g5 _
  refine J.y ((op_sslice (l := 0) (h := 8) Tryd.underlying9 rfl rfl rfl rfl (by rw [Sha.tagged_length]; decide)).as (v' := Str (bsum s)) (congrArg Str List.drop_zero)) rfl rfl rfl ?_
  refine J.y (op_assign rfl rfl) rfl rfl rfl ?_
  refine J.nil ?_
  refine J.then_n (J.k hK2 ?_)
  refine J.keepE [(2, _)] ⟨rfl, trivial⟩ ?_
  refine J.ret ?_
  exact J.done hw0 (fun _ _ h => h) (res1 rfl rfl) (retOk () rfl trivial [0] rfl (by decide))

theorem bname_ct (F : Hp) (hK : Cells F ⟨1, 0, none⟩ (Sha.K.map W32)) (turn num : UInt64) (s : List UInt8) (ht : turn.toNat < 2 ^ (8 * 4)) (hn : num.toNat < 2 ^ (8 * 2)) (hs : s.length ≤ 1048576) : Ct Tryd.prog 164 [W64 turn, W64 num, Str s] [F] (fun _ : Unit => Str (bname turn num s)) (fun _ => True) (fun _ => [F]) := by
  refine Ct.walk Tryd.func164 rfl Tryd.ntmps164 rfl (fun w0 hw0 => ?_)
  change J _ [(0, _), (1, _), (2, _)] _ _ _
  refine J.seq (fun K1 hK1 => ?_)
  refine J.region ?_
  refine J.y (op_assign rfl rfl) rfl rfl rfl ?_
  refine J.nil ?_
  refine J.then_n (J.k hK1 ?_)
  refine J.keepE [(0, _), (1, _), (2, _)] ⟨rfl, rfl, rfl, trivial⟩ ?_
  refine J.seq (fun K2 hK2 => ?_)
  refine J.region ?_
  refine J.y (op_move rfl rfl) rfl rfl rfl ?_
  refine J.e (op_call rfl rfl ent166 (Ct.use0 (fun F' hF => bbytes_ct F' turn 4 (by decide) (by decide) ht))) rfl rfl rfl ?_
  intro g8 _
  refine J.y (op_move rfl rfl) rfl rfl rfl ?_
  refine J.e (op_call rfl rfl ent166 (Ct.use0 (fun F' hF => bbytes_ct F' num 2 (by decide) (by decide) hn))) rfl rfl rfl ?_
  intro g10 _
  refine J.y (op_move rfl rfl) rfl rfl rfl ?_
  refine J.e (op_buildSlice (l := [.tmp 8, .tmp 10, .tmp 11]) (xs := [[Str (Sha.numB turn 4)], [Str (Sha.numB num 2)], [Str (s)]]) rfl rfl rfl rfl Tryd.underlying55 el9 rfl (by decide) (by decide) (by simp)) rfl rfl rfl ?_
  intro g12 _
  change J _ _ _ [F, blk g12 [Str (Sha.numB turn 4), Str (Sha.numB num 2), Str (s)] 9] _
  refine J.e (op_call rfl rfl ent58 (Ct.use0 (fun F' hF => tagged_ct F' (hK.mono (hF _ (by simp))) 7 (some ⟨g12, 0, none⟩) 3 3 [Sha.numB turn 4, Sha.numB num 2, s] ((slS [Sha.numB turn 4, Sha.numB num 2, s] rfl).mono (hF (blk g12 (([Sha.numB turn 4, Sha.numB num 2, s] : List (List UInt8)).map fun s => Str s) 9) (by simp))) (by simp only [List.flatten_cons, List.flatten_nil, List.append_nil, List.length_append, Sha.numB_length]; omega) (by decide)))) rfl rfl rfl ?_
  intro g13 _
  refine J.y ((op_sslice (l := 0) (h := 8) Tryd.underlying9 rfl rfl rfl rfl (by rw [Sha.tagged_length]; decide)).as (v' := Str (bname turn num s)) (congrArg Str List.drop_zero)) rfl rfl rfl ?_
  refine J.y (op_assign rfl rfl) rfl rfl rfl ?_
  refine J.nil ?_
  refine J.then_n (J.k hK2 ?_)
  refine J.keepE [(6, _)] ⟨rfl, trivial⟩ ?_
  refine J.ret ?_
  exact J.done hw0 (fun _ _ h => h) (res1 rfl rfl) (retOk () rfl trivial [0] rfl (by decide))

def partsN (n : Nat) : Nat := if n < 1 then 1 else (n - 1) / 39 + 1

theorem partsN_ct (F : Hp) (n : Nat) (hn : n ≤ 1048576) : Ct Tryd.prog 80 [I n] [F] (fun _ : Unit => I (partsN n : Nat)) (fun _ => True) (fun _ => [F]) := by
  refine Ct.walk Tryd.func80 rfl Tryd.ntmps80 rfl (fun w0 hw0 => ?_)
  change J _ [(0, _)] _ _ _
  refine J.seq (fun K1 hK1 => ?_)
  refine J.region ?_
  refine J.y (op_assign rfl rfl) rfl rfl rfl ?_
  refine J.nil ?_
  refine J.then_n (J.k hK1 ?_)
  refine J.keepE [(0, _)] ⟨rfl, trivial⟩ ?_
  refine J.seq (fun K2 hK2 => ?_)
  refine J.seq (fun K3 hK3 => ?_)
  refine J.region ?_
  refine J.y (op_move rfl rfl) rfl rfl rfl ?_
  refine J.y (op_lss rfl rfl rfl) rfl rfl rfl ?_
  refine J.nil ?_
  refine J.then_n (J.k hK3 ?_)
  refine J.keepE [(0, _), (4, _)] ⟨rfl, rfl, trivial⟩ ?_
  refine J.ite rfl (fun h4 => ?_) (fun h4 => ?_)
  ·
    refine J.seq (fun K4 hK4 => ?_)
    refine J.region ?_
    refine J.y (op_assign rfl rfl) rfl rfl rfl ?_
    refine J.nil ?_
    refine J.then_n (J.k hK4 ?_)
    refine J.keepE [(2, _)] ⟨rfl, trivial⟩ ?_
    refine J.ret ?_
    refine J.then_r ?_
    exact J.done hw0 (fun _ _ h => h) (res1 rfl rfl) (retOk () (by unfold partsN; rw [if_pos (by omega)]; rfl) trivial [0] rfl (by decide))
  ·
    refine J.skip ?_
    refine J.then_n (J.k hK2 ?_)
    refine J.keepE [(0, _)] ⟨rfl, trivial⟩ ?_
    refine J.seq (fun K5 hK5 => ?_)
    refine J.region ?_
    refine J.y (op_move rfl rfl) rfl rfl rfl ?_
    refine J.y ((op_sub rfl rfl rfl (by first | omega | (refine ⟨?_, ?_⟩ <;> omega))).as (v' := I ((n - 1 : Nat) : Int)) (congrArg I (by omega))) rfl rfl rfl ?_
    refine J.y ((op_quo (a := ((n - 1 : Nat) : Int)) (b := ((39 : Nat) : Int)) rfl rfl rfl (by omega)).as (v' := I (((n - 1) / 39 : Nat) : Int)) (congrArg I (Int.ofNat_tdiv _ _).symm)) rfl rfl rfl ?_
    refine J.y (op_add rfl rfl rfl (by omega)) rfl rfl rfl ?_
    refine J.y (op_assign rfl rfl) rfl rfl rfl ?_
    refine J.nil ?_
    refine J.then_n (J.k hK5 ?_)
    refine J.keepE [(2, _)] ⟨rfl, trivial⟩ ?_
    refine J.ret ?_
    exact J.done hw0 (fun _ _ h => h) (res1 rfl rfl) (retOk () (by unfold partsN; rw [if_neg (by omega)]; rfl) trivial [0] rfl (by decide))

/-- a part of a record -/
structure Prt where
  turn : UInt64
  num : UInt64
  at_ : Nat
  all : Nat
  name : List UInt8
  con : List UInt8
def Prt.cells (p : Prt) : List Value := [W64 p.turn, W64 p.num, I p.at_, I p.all, Str p.name, Str p.con]
structure Prt.ok (p : Prt) : Prop where
  t : p.turn.toNat < 2 ^ (8 * 4)
  n : p.num.toNat < 2 ^ (8 * 2)
  a : p.at_ < 256
  l : p.all < 256
  m : p.name.length ≤ 8
  c : p.con.length ≤ 39
def Prt.b1 (p : Prt) : List UInt8 := Sha.numB p.turn 4 ++ Sha.numB p.num 2
def Prt.b2 (p : Prt) : List UInt8 := p.b1 ++ Sha.numB (UInt64.ofNat p.at_) 1
def Prt.b3 (p : Prt) : List UInt8 := p.b2 ++ Sha.numB (UInt64.ofNat p.all) 1
def Prt.b4 (p : Prt) : List UInt8 := p.b3 ++ Sha.numB (UInt64.ofNat p.con.length) 1
def Prt.b5 (p : Prt) : List UInt8 := p.b4 ++ p.name
def Prt.body (p : Prt) : List UInt8 := p.b5 ++ p.con
def Prt.pad (p : Prt) : List UInt8 := p.body ++ List.replicate (56 - p.body.length) 0
def Prt.text (p : Prt) : List UInt8 := p.pad ++ bsum p.pad
theorem bsum_len (s : List UInt8) : (bsum s).length = 8 := by unfold bsum; rw [List.length_take, Sha.tagged_length]; rfl
theorem bname_len (t n : UInt64) (s : List UInt8) : (bname t n s).length = 8 := by unfold bname; rw [List.length_take, Sha.tagged_length]; rfl
theorem Prt.b4_len (p : Prt) : p.b4.length = 9 := by unfold Prt.b4 Prt.b3 Prt.b2 Prt.b1; simp only [List.length_append, Sha.numB_length]
theorem Prt.body_len (p : Prt) : p.body.length = 9 + p.name.length + p.con.length := by unfold Prt.body Prt.b5; rw [List.length_append, List.length_append, p.b4_len]
theorem Prt.pad_len {p : Prt} (h : p.ok) : p.pad.length = 56 := by
  have := p.body_len
  have := h.m
  have := h.c
  unfold Prt.pad; rw [List.length_append, List.length_replicate]; omega
theorem Prt.text_len {p : Prt} (h : p.ok) : p.text.length = 64 := by unfold Prt.text; rw [List.length_append, p.pad_len h, bsum_len]
theorem n1ok {n : Nat} (h : n < 256) : (UInt64.ofNat n).toNat < 2 ^ (8 * 1) := by rw [ofNat64 (by omega)]; exact h

theorem ptext_ct (F : Hp) (hK : Cells F ⟨1, 0, none⟩ (Sha.K.map W32)) (p : Prt) (hp : p.ok) : Ct Tryd.prog 124 [.agg p.cells.toArray] [F] (fun _ : Unit => Str p.text) (fun _ => True) (fun _ => [F]) := by
  obtain ⟨h1, h2, h3, h4, h5, h6⟩ := hp
  have hbl := p.body_len
  have hpl := Prt.pad_len ⟨h1, h2, h3, h4, h5, h6⟩
  refine Ct.walk Tryd.func124 rfl Tryd.ntmps124 rfl (fun w0 hw0 => ?_)
  change J _ [(0, _)] _ _ _
  refine J.seq (fun K1 hK1 => ?_)
  refine J.region ?_
  refine J.e (op_box rfl rfl (l := p.cells) rfl) rfl rfl rfl ?_
  intro g1 _
  change J _ _ _ [F, blk g1 p.cells 184] _
  refine J.y (op_assign rfl rfl) rfl rfl rfl ?_
  refine J.nil ?_
  refine J.then_n (J.k hK1 ?_)
  refine J.keepE [(1, _)] ⟨rfl, trivial⟩ ?_
  refine J.seq (fun K2 hK2 => ?_)
  refine J.draw [blk g1 p.cells 184] [] (.y 0 (.y 1 (.y 3 (.y 4 (.y 7 (.y 8 (.y 9 (.y 12 (.y 13 (.y 14 (.y 17 (.y 18 (.y 19 (.y 20 (.y 23 (.y 24 (.y 26 (.y 27 (.e 2 (.e 5 (.y 6 (.e 10 (.y 11 (.e 15 (.y 16 (.e 21 (.y 22 (.y 25 (.y 28 (.y 29 .nil)))))))))))))))))))))))))))))) Tryd.wide (by decide +kernel) (by simp) ?_
  refine J.dy rfl (op_fieldAddr (j := 0) rfl rfl Tryd.underlying184 rfl Tryd.sizeOf108 rfl) rfl rfl rfl rfl ?_
  refine J.dy rfl (op_loadB 0 rfl rfl rfl Tryd.isAgg108 rfl) rfl rfl rfl rfl ?_
  refine J.dy rfl (op_fieldAddr (j := 1) rfl rfl Tryd.underlying184 rfl Tryd.sizeOf108 rfl) rfl rfl rfl rfl ?_
  refine J.dy rfl (op_loadB 0 rfl rfl rfl Tryd.isAgg108 rfl) rfl rfl rfl rfl ?_
  refine J.dy rfl (op_fieldAddr (j := 2) rfl rfl Tryd.underlying184 rfl Tryd.sizeOf3 rfl) rfl rfl rfl rfl ?_
  refine J.dy rfl (op_loadB 0 rfl rfl rfl Tryd.isAgg3 rfl) rfl rfl rfl rfl ?_
  refine J.dy rfl (op_cv_i64_u64 rfl rfl Tryd.underlying3 Tryd.underlying108 (m := p.at_) (by omega)) rfl rfl rfl rfl ?_
  refine J.dy rfl (op_fieldAddr (j := 3) rfl rfl Tryd.underlying184 rfl Tryd.sizeOf3 rfl) rfl rfl rfl rfl ?_
  refine J.dy rfl (op_loadB 0 rfl rfl rfl Tryd.isAgg3 rfl) rfl rfl rfl rfl ?_
  refine J.dy rfl (op_cv_i64_u64 rfl rfl Tryd.underlying3 Tryd.underlying108 (m := p.all) (by omega)) rfl rfl rfl rfl ?_
  refine J.dy rfl (op_fieldAddr (j := 5) rfl rfl Tryd.underlying184 rfl Tryd.sizeOf9 rfl) rfl rfl rfl rfl ?_
  refine J.dy rfl (op_loadB 0 rfl rfl rfl Tryd.isAgg9 rfl) rfl rfl rfl rfl ?_
  refine J.dy rfl (op_slen Tryd.underlying9 rfl rfl) rfl rfl rfl rfl ?_
  refine J.dy rfl (op_cv_i64_u64 rfl rfl Tryd.underlying3 Tryd.underlying108 (m := p.con.length) (by omega)) rfl rfl rfl rfl ?_
  refine J.dy rfl (op_fieldAddr (j := 4) rfl rfl Tryd.underlying184 rfl Tryd.sizeOf9 rfl) rfl rfl rfl rfl ?_
  refine J.dy rfl (op_loadB 0 rfl rfl rfl Tryd.isAgg9 rfl) rfl rfl rfl rfl ?_
  refine J.dy rfl (op_fieldAddr (j := 5) rfl rfl Tryd.underlying184 rfl Tryd.sizeOf9 rfl) rfl rfl rfl rfl ?_
  refine J.dy rfl (op_loadB 0 rfl rfl rfl Tryd.isAgg9 rfl) rfl rfl rfl rfl ?_
  refine J.de rfl (op_call rfl rfl ent166 (Ct.use0 (fun F' hF => bbytes_ct F' p.turn 4 (by decide) (by decide) h1))) rfl rfl rfl (by simp) ?_
  intro g6 _
  refine J.de rfl (op_call rfl rfl ent166 (Ct.use0 (fun F' hF => bbytes_ct F' p.num 2 (by decide) (by decide) h2))) rfl rfl rfl (by simp) ?_
  intro g9 _
  refine J.dy rfl ((op_sadd rfl rfl rfl (by first | (have hb4 := p.b4_len; have hbl := p.body_len; simp only [List.length_append, List.length_replicate, Prt.b4, Prt.b3, Prt.b2, Prt.b1, Prt.b5, Prt.body, Sha.numB_length] at hb4 hbl ⊢; omega) | omega)).as (v' := Str (p.b1)) rfl) rfl rfl rfl rfl ?_
  refine J.de rfl (op_call rfl rfl ent166 (Ct.use0 (fun F' hF => bbytes_ct F' (UInt64.ofNat p.at_) 1 (by decide) (by decide) (n1ok h3)))) rfl rfl rfl (by simp) ?_
  intro g14 _
  refine J.dy rfl ((op_sadd rfl rfl rfl (by first | (have hb4 := p.b4_len; have hbl := p.body_len; simp only [List.length_append, List.length_replicate, Prt.b4, Prt.b3, Prt.b2, Prt.b1, Prt.b5, Prt.body, Sha.numB_length] at hb4 hbl ⊢; omega) | omega)).as (v' := Str (p.b2)) rfl) rfl rfl rfl rfl ?_
  refine J.de rfl (op_call rfl rfl ent166 (Ct.use0 (fun F' hF => bbytes_ct F' (UInt64.ofNat p.all) 1 (by decide) (by decide) (n1ok h4)))) rfl rfl rfl (by simp) ?_
  intro g19 _
  refine J.dy rfl ((op_sadd rfl rfl rfl (by first | (have hb4 := p.b4_len; have hbl := p.body_len; simp only [List.length_append, List.length_replicate, Prt.b4, Prt.b3, Prt.b2, Prt.b1, Prt.b5, Prt.body, Sha.numB_length] at hb4 hbl ⊢; omega) | omega)).as (v' := Str (p.b3)) rfl) rfl rfl rfl rfl ?_
  refine J.de rfl (op_call rfl rfl ent166 (Ct.use0 (fun F' hF => bbytes_ct F' (UInt64.ofNat p.con.length) 1 (by decide) (by decide) (n1ok (by omega))))) rfl rfl rfl (by simp) ?_
  intro g25 _
  refine J.dy rfl ((op_sadd rfl rfl rfl (by first | (have hb4 := p.b4_len; have hbl := p.body_len; simp only [List.length_append, List.length_replicate, Prt.b4, Prt.b3, Prt.b2, Prt.b1, Prt.b5, Prt.body, Sha.numB_length] at hb4 hbl ⊢; omega) | omega)).as (v' := Str (p.b4)) rfl) rfl rfl rfl rfl ?_
  refine J.dy rfl ((op_sadd rfl rfl rfl (by first | (have hb4 := p.b4_len; have hbl := p.body_len; simp only [List.length_append, List.length_replicate, Prt.b4, Prt.b3, Prt.b2, Prt.b1, Prt.b5, Prt.body, Sha.numB_length] at hb4 hbl ⊢; omega) | omega)).as (v' := Str (p.b5)) rfl) rfl rfl rfl rfl ?_
  refine J.dy rfl ((op_sadd rfl rfl rfl (by first | (have hb4 := p.b4_len; have hbl := p.body_len; simp only [List.length_append, List.length_replicate, Prt.b4, Prt.b3, Prt.b2, Prt.b1, Prt.b5, Prt.body, Sha.numB_length] at hb4 hbl ⊢; omega) | omega)).as (v' := Str (p.body)) rfl) rfl rfl rfl rfl ?_
  refine J.dy rfl (op_assign rfl rfl) rfl rfl rfl rfl ?_
  refine J.dnil ?_
  refine J.then_n (J.k hK2 ?_)
  refine J.keepE [(3, _)] ⟨rfl, trivial⟩ ?_
  refine J.seq (fun K3 hK3 => ?_)
  refine J.region ?_
  refine J.y (op_move rfl rfl) rfl rfl rfl ?_
  refine J.y (op_move rfl rfl) rfl rfl rfl ?_
  refine J.y (op_slen Tryd.underlying9 rfl rfl) rfl rfl rfl ?_
  refine J.y ((op_sub rfl rfl rfl (by first | omega | (refine ⟨?_, ?_⟩ <;> omega))).as (v' := I ((56 - p.body.length : Nat) : Int)) (congrArg I (by omega))) rfl rfl rfl ?_
  refine J.e (op_call rfl rfl ent75 (Ct.use0 (fun F' hF => repeat_any F' (56 - p.body.length) (by omega)))) rfl rfl rfl ?_
  intro g37 _
  refine J.y ((op_sadd rfl rfl rfl (by rw [List.length_replicate]; omega)).as (v' := Str p.pad) rfl) rfl rfl rfl ?_
  refine J.y (op_assign rfl rfl) rfl rfl rfl ?_
  refine J.nil ?_
  refine J.then_n (J.k hK3 ?_)
  refine J.keepE [(3, _)] ⟨rfl, trivial⟩ ?_
  refine J.seq (fun K4 hK4 => ?_)
  refine J.region ?_
  refine J.y (op_move rfl rfl) rfl rfl rfl ?_
  refine J.y (op_move rfl rfl) rfl rfl rfl ?_
  refine J.e (op_call rfl rfl ent167 (Ct.use0 (fun F' hF => bsum_ct F' (hK.mono (hF _ (by simp))) p.pad (by omega)))) rfl rfl rfl ?_
  intro g41 _
  refine J.y ((op_sadd rfl rfl rfl (by rw [bsum_len]; omega)).as (v' := Str p.text) rfl) rfl rfl rfl ?_
  refine J.y (op_assign rfl rfl) rfl rfl rfl ?_
  refine J.nil ?_
  refine J.then_n (J.k hK4 ?_)
  refine J.keepE [(2, _)] ⟨rfl, trivial⟩ ?_
  refine J.ret ?_
  exact J.done hw0 (fun _ _ h => h) (res1 rfl rfl) (retOk () rfl trivial [0] rfl (by decide))

def R0 (s : List UInt8) : RS := ⟨s.take 56, 0⟩
def R1 (s : List UInt8) : RS := (R0 s).take 4
def R2 (s : List UInt8) : RS := (R1 s).take 2
def R3 (s : List UInt8) : RS := (R2 s).take 1
def R4 (s : List UInt8) : RS := (R3 s).take 1
def R5 (s : List UInt8) : RS := (R4 s).take 1
def R6 (s : List UInt8) : RS := (R5 s).take 8
def conN (s : List UInt8) : Nat := min (natB ((R4 s).out 1)) 39
/-- the part that a sector's bytes would be -/
def rdp (s : List UInt8) : Prt := ⟨UInt64.ofNat (natB ((R0 s).out 4)), UInt64.ofNat (natB ((R1 s).out 2)), natB ((R2 s).out 1), natB ((R3 s).out 1), (R5 s).out 8, (R6 s).out (conN s)⟩
def noPrt : Prt := ⟨0, 0, 0, 0, [], []⟩
theorem natB_out (st : RS) (n k : Nat) (h : 256 ^ n ≤ k) : natB (st.out n) < k :=
  Nat.lt_of_lt_of_le (natB_lt _) (Nat.le_trans (Nat.pow_le_pow_right (by decide) (st.out_len n)) h)
theorem rdp_ok (s : List UInt8) : (rdp s).ok := by
  have h4 := natB_out (R0 s) 4 4294967296 (by decide)
  have h2 := natB_out (R1 s) 2 65536 (by decide)
  refine ⟨?_, ?_, natB_out _ 1 256 (by decide), natB_out _ 1 256 (by decide), RS.out_len _ _, Nat.le_trans (RS.out_len _ _) (Nat.min_le_right _ _)⟩
  · show (UInt64.ofNat (natB ((R0 s).out 4))).toNat < _
    rw [ofNat64 (by omega)]; exact h4
  · show (UInt64.ofNat (natB ((R1 s).out 2))).toNat < _
    rw [ofNat64 (by omega)]; exact h2
def parse (s : List UInt8) : Prt × Bool := if bsum (s.take 56) = s.drop 56 then (rdp s, decide ((rdp s).text = s)) else (noPrt, false)

theorem parse_ct (F : Hp) (hK : Cells F ⟨1, 0, none⟩ (Sha.K.map W32)) (s : List UInt8) (hs : s.length = 64) : Ct Tryd.prog 163 [Str s] [F] (fun _ : Unit => .tuple #[.agg (parse s).1.cells.toArray, .bool (parse s).2]) (fun _ => True) (fun _ => [F]) := by
  have hn4 := natB_out (R4 s) 1 256 (by decide)
  refine Ct.walk Tryd.func163 rfl Tryd.ntmps163 rfl (fun w0 hw0 => ?_)
  change J _ [(0, _)] _ _ _
  refine J.seq (fun K1 hK1 => ?_)
  refine J.region ?_
  refine J.e (op_alloc rfl Tryd.zeroValue184 rfl) rfl rfl rfl ?_
  intro g2 _
  change J _ _ _ [F, blk g2 _ 184] _
  refine J.y (op_assign rfl rfl) rfl rfl rfl ?_
  refine J.nil ?_
  refine J.then_n (J.k hK1 ?_)
  refine J.keepE [(0, _), (2, _)] ⟨rfl, rfl, trivial⟩ ?_
  refine J.seq (fun K2 hK2 => ?_)
  refine J.seq (fun K3 hK3 => ?_)
  refine J.draw [F] [] (.y 0 (.y 1 (.y 3 (.y 4 (.e 2 (.y 5 .nil)))))) Tryd.wide (by decide +kernel) (by simp) ?_
  refine J.dy rfl (op_move rfl rfl) rfl rfl rfl rfl ?_
  refine J.dy rfl ((op_sslice (l := 0) (h := 56) Tryd.underlying9 rfl rfl rfl rfl ⟨by omega, by omega⟩).as (v' := Str (s.take 56)) (congrArg Str List.drop_zero)) rfl rfl rfl rfl ?_
  refine J.dy rfl (op_move rfl rfl) rfl rfl rfl rfl ?_
  refine J.dy rfl ((op_sslice (l := 56) (h := s.length) Tryd.underlying9 rfl rfl rfl rfl ⟨by omega, by omega⟩).as (v' := Str (s.drop 56)) (by rw [List.take_length])) rfl rfl rfl rfl ?_
  refine J.de rfl (op_call rfl rfl ent167 (Ct.use0 (fun F' hF => bsum_ct F' (hK.mono (hF _ (by simp))) (s.take 56) (by rw [List.length_take]; omega)))) rfl rfl rfl (by simp) ?_
  intro g9 _
  refine J.dy rfl (op_sne rfl rfl rfl) rfl rfl rfl rfl ?_
  refine J.dnil ?_
  refine J.then_n (J.k hK3 ?_)
  refine J.keepE [(0, _), (2, _), (12, _)] ⟨rfl, rfl, rfl, trivial⟩ ?_
  refine J.ite rfl (fun h12 => ?_) (fun h12 => ?_)
  ·
    refine J.seq (fun K4 hK4 => ?_)
    refine J.region ?_
    refine J.y (op_buildStruct (l := []) (vs := []) (places := [(0, 1), (1, 1), (2, 1), (3, 1), (4, 1), (5, 1)]) (r := [W64 0, W64 0, I 0, I 0, Str [], Str []]) rfl rfl rfl Tryd.underlying184 Tryd.zeroValue184 (fun _ => by kernel_rfl) rfl) rfl rfl rfl ?_
    refine J.s (op_storeAll (l := noPrt.cells) (i := 1) (vs := noPrt.cells) rfl rfl rfl rfl rfl Tryd.sizeOf184 rfl rfl) rfl rfl (fun _ _ => ?_)
    change J _ _ _ [F, blk g2 noPrt.cells 184] _
    refine J.y (op_assign rfl rfl) rfl rfl rfl ?_
    refine J.nil ?_
    refine J.then_n (J.k hK4 ?_)
    refine J.keepE [(2, _), (3, _)] ⟨rfl, rfl, trivial⟩ ?_
    refine J.ret ?_
    refine J.then_r ?_
    exact J.done hw0 (fun _ _ h => h) (rv2 rfl (RV.blkA 1 rfl rfl Tryd.isAgg184 Tryd.sizeOf184) rfl) (retOk () (by unfold parse; rw [if_neg (show ¬ bsum (s.take 56) = s.drop 56 from h12)]) trivial [0] rfl (by decide))
  ·
    refine J.skip ?_
    refine J.then_n (J.k hK2 ?_)
    refine J.keepE [(0, _), (2, _)] ⟨rfl, rfl, trivial⟩ ?_
    refine J.seq (fun K5 hK5 => ?_)
    refine J.region ?_
    refine J.y (op_move rfl rfl) rfl rfl rfl ?_
    refine J.y ((op_sslice (l := 0) (h := 56) Tryd.underlying9 rfl rfl rfl rfl ⟨by omega, by omega⟩).as (v' := Str (s.take 56)) (congrArg Str List.drop_zero)) rfl rfl rfl ?_
    refine J.e (op_call rfl rfl ent84 (Ct.use (new := fun g => [RSb g (R0 s)]) (fun F' _ => (read_ct F' (s.take 56)).mono (φ2 := fun _ => True) (val2 := Ptr) (ms2 := fun g => F' :: [RSb g (R0 s)]) id (fun _ _ => rfl) (fun _ h => h) (fun x w0 w _ h => h.pick [1, 0] (by decide))))) rfl rfl rfl ?_
    rintro g16 _
    change J _ _ _ [F, blk g2 _ 184, RSb g16 (R0 s)] _
    refine J.y (op_assign rfl rfl) rfl rfl rfl ?_
    refine J.nil ?_
    refine J.then_n (J.k hK5 ?_)
    refine J.keepE [(0, _), (2, _), (4, _)] ⟨rfl, rfl, rfl, trivial⟩ ?_
    refine J.seq (fun K6 hK6 => ?_)
    refine J.region ?_
    refine J.y (op_move rfl rfl) rfl rfl rfl ?_
    refine J.e (op_call rfl rfl ent85 (Ct.use1 2 (m' := fun _ : Unit => RSb g16 (R1 s)) (new := fun _ => []) rfl (fun F' _ => rnum_ct F' g16 (R0 s) 4 (by omega) (by omega)))) rfl rfl rfl ?_
    intro g18 _
    change J _ _ _ [F, blk g2 _ 184, RSb g16 (R1 s)] _
    rw [N_W (show natB ((R0 s).out 4) < 18446744073709551616 from Nat.lt_of_lt_of_le (natB_out _ 4 (256 ^ 4) (Nat.le_refl _)) (by decide))]
    refine J.y (op_move rfl rfl) rfl rfl rfl ?_
    refine J.e (op_call rfl rfl ent85 (Ct.use1 2 (m' := fun _ : Unit => RSb g16 (R2 s)) (new := fun _ => []) rfl (fun F' _ => rnum_ct F' g16 (R1 s) 2 (by omega) (by omega)))) rfl rfl rfl ?_
    intro g20 _
    change J _ _ _ [F, blk g2 _ 184, RSb g16 (R2 s)] _
    rw [N_W (show natB ((R1 s).out 2) < 18446744073709551616 from Nat.lt_of_lt_of_le (natB_out _ 2 (256 ^ 2) (Nat.le_refl _)) (by decide))]
    refine J.y (op_move rfl rfl) rfl rfl rfl ?_
    refine J.e (op_call rfl rfl ent85 (Ct.use1 2 (m' := fun _ : Unit => RSb g16 (R3 s)) (new := fun _ => []) rfl (fun F' _ => rnum_ct F' g16 (R2 s) 1 (by omega) (by omega)))) rfl rfl rfl ?_
    intro g22 _
    change J _ _ _ [F, blk g2 _ 184, RSb g16 (R3 s)] _
    refine J.y (op_cvU_toI rfl rfl Tryd.underlying108 Tryd.underlying3 (by have := natB_out (R2 s) 1 256 (by decide); omega)) rfl rfl rfl ?_
    refine J.y (op_move rfl rfl) rfl rfl rfl ?_
    refine J.e (op_call rfl rfl ent85 (Ct.use1 2 (m' := fun _ : Unit => RSb g16 (R4 s)) (new := fun _ => []) rfl (fun F' _ => rnum_ct F' g16 (R3 s) 1 (by omega) (by omega)))) rfl rfl rfl ?_
    intro g25 _
    change J _ _ _ [F, blk g2 _ 184, RSb g16 (R4 s)] _
    refine J.y (op_cvU_toI rfl rfl Tryd.underlying108 Tryd.underlying3 (by have := natB_out (R3 s) 1 256 (by decide); omega)) rfl rfl rfl ?_
    refine J.y (op_buildStruct (l := [(0, .tmp 18), (1, .tmp 20), (2, .tmp 23), (3, .tmp 26)]) (vs := [W64 (rdp s).turn, W64 (rdp s).num, I (rdp s).at_, I (rdp s).all]) (places := [(0, 1), (1, 1), (2, 1), (3, 1), (4, 1), (5, 1)]) (r := [W64 (rdp s).turn, W64 (rdp s).num, I (rdp s).at_, I (rdp s).all, Str [], Str []]) rfl rfl rfl Tryd.underlying184 Tryd.zeroValue184 (fun _ => by kernel_rfl) rfl) rfl rfl rfl ?_
    refine J.e (op_alloc rfl Tryd.zeroValue184 rfl) rfl rfl rfl ?_
    intro g5 _
    change J _ _ _ [F, blk g2 _ 184, RSb g16 (R4 s), blk g5 _ 184] _
    refine J.s (op_storeAll (l := noPrt.cells) (i := 3) (vs := [W64 (rdp s).turn, W64 (rdp s).num, I (rdp s).at_, I (rdp s).all, Str [], Str []]) rfl rfl rfl rfl rfl Tryd.sizeOf184 rfl rfl) rfl rfl (fun _ _ => ?_)
    change J _ _ _ [F, blk g2 _ 184, RSb g16 (R4 s), blk g5 [W64 (rdp s).turn, W64 (rdp s).num, I (rdp s).at_, I (rdp s).all, Str [], Str []] 184] _
    refine J.nil ?_
    refine J.then_n (J.k hK6 ?_)
    refine J.keepE [(0, _), (2, _), (4, _), (5, _)] ⟨rfl, rfl, rfl, rfl, trivial⟩ ?_
    refine J.seq (fun K7 hK7 => ?_)
    refine J.region ?_
    refine J.y (op_move rfl rfl) rfl rfl rfl ?_
    refine J.e (op_call rfl rfl ent85 (Ct.use1 2 (m' := fun _ : Unit => RSb g16 (R5 s)) (new := fun _ => []) rfl (fun F' _ => rnum_ct F' g16 (R4 s) 1 (by omega) (by omega)))) rfl rfl rfl ?_
    intro g29 _
    change J _ _ _ [F, blk g2 _ 184, RSb g16 (R5 s), blk g5 [W64 (rdp s).turn, W64 (rdp s).num, I (rdp s).at_, I (rdp s).all, Str [], Str []] 184] _
    refine J.y (op_cvU_toI rfl rfl Tryd.underlying108 Tryd.underlying3 (by omega)) rfl rfl rfl ?_
    refine J.y (op_assign rfl rfl) rfl rfl rfl ?_
    refine J.nil ?_
    refine J.then_n (J.k hK7 ?_)
    refine J.keepE [(0, _), (2, _), (4, _), (5, _), (6, _)] ⟨rfl, rfl, rfl, rfl, rfl, trivial⟩ ?_
    refine J.seq (fun K8 hK8 => ?_)
    refine J.region ?_
    refine J.y (op_move rfl rfl) rfl rfl rfl ?_
    refine J.e (op_call rfl rfl ent139 (Ct.use1 2 (m' := fun _ : Unit => RSb g16 (R6 s)) (new := fun _ => []) rfl (fun F' _ => rfixed_ct F' g16 (R5 s) 8))) rfl rfl rfl ?_
    intro g32 _
    change J _ _ _ [F, blk g2 _ 184, RSb g16 (R6 s), blk g5 [W64 (rdp s).turn, W64 (rdp s).num, I (rdp s).at_, I (rdp s).all, Str [], Str []] 184] _
    refine J.y (op_fieldAddr (j := 4) rfl rfl Tryd.underlying184 rfl Tryd.sizeOf9 rfl) rfl rfl rfl ?_
    refine J.s (op_store (i := 3) (vs := [Str (rdp s).name]) rfl rfl rfl rfl rfl Tryd.sizeOf9 rfl (by simp)) rfl rfl (fun _ _ => ?_)
    change J _ _ _ [F, blk g2 _ 184, RSb g16 (R6 s), blk g5 [W64 (rdp s).turn, W64 (rdp s).num, I (rdp s).at_, I (rdp s).all, Str (rdp s).name, Str []] 184] _
    refine J.nil ?_
    refine J.then_n (J.k hK8 ?_)
    refine J.keepE [(0, _), (2, _), (4, _), (5, _), (6, _)] ⟨rfl, rfl, rfl, rfl, rfl, trivial⟩ ?_
    refine J.seq (fun K9 hK9 => ?_)
    refine J.region ?_
    refine J.y (op_move rfl rfl) rfl rfl rfl ?_
    refine J.y (op_move rfl rfl) rfl rfl rfl ?_
    refine J.y ((op_min rfl rfl rfl).as (v' := I (conN s : Nat)) (congrArg I (by unfold conN; omega))) rfl rfl rfl ?_
    refine J.e (op_call rfl rfl ent139 (Ct.use1 2 (m' := fun _ : Unit => RSb g16 ((R6 s).take (conN s))) (new := fun _ => []) rfl (fun F' _ => rfixed_ct F' g16 (R6 s) (conN s)))) rfl rfl rfl ?_
    intro g37 _
    change J _ _ _ [F, blk g2 _ 184, RSb g16 ((R6 s).take (conN s)), blk g5 [W64 (rdp s).turn, W64 (rdp s).num, I (rdp s).at_, I (rdp s).all, Str (rdp s).name, Str []] 184] _
    refine J.y (op_fieldAddr (j := 5) rfl rfl Tryd.underlying184 rfl Tryd.sizeOf9 rfl) rfl rfl rfl ?_
    refine J.s (op_store (i := 3) (vs := [Str (rdp s).con]) rfl rfl rfl rfl rfl Tryd.sizeOf9 rfl (by simp)) rfl rfl (fun _ _ => ?_)
    change J _ _ _ [F, blk g2 _ 184, RSb g16 ((R6 s).take (conN s)), blk g5 (rdp s).cells 184] _
    refine J.nil ?_
    refine J.then_n (J.k hK9 ?_)
    refine J.keepE [(0, _), (2, _), (5, _)] ⟨rfl, rfl, rfl, trivial⟩ ?_
    refine J.seq (fun K10 hK10 => ?_)
    refine J.draw [F, blk g5 (rdp s).cells 184] [5, 6, 100003, 100004] (.y 0 (.y 1 (.y 3 (.e 2 (.y 4 (.e 5 (.e 6 .nil))))))) Tryd.wide (by decide +kernel) (by simp) ?_
    refine J.dy rfl (op_loadBA 1 rfl rfl rfl Tryd.isAgg184 Tryd.sizeOf184 rfl) rfl rfl rfl rfl ?_
    refine J.dy rfl (op_loadBA 1 rfl rfl rfl Tryd.isAgg184 Tryd.sizeOf184 rfl) rfl rfl rfl rfl ?_
    refine J.dyF rfl (op_move rfl rfl) rfl rfl rfl ?_
    refine J.de rfl (op_call rfl rfl ent124 (Ct.use0 (fun F' hF => ptext_ct F' (hK.mono (hF _ (by simp))) (rdp s) (rdp_ok s)))) rfl rfl rfl (by simp) ?_
    intro g41 _
    refine J.dyF rfl (op_seq rfl rfl rfl) rfl rfl rfl ?_
    refine J.ds rfl (op_storeAll (l := noPrt.cells) (i := 1) (vs := (rdp s).cells) rfl rfl rfl rfl rfl Tryd.sizeOf184 rfl rfl) rfl rfl rfl (fun _ _ => ?_)
    change J _ _ _ [F, blk g2 (rdp s).cells 184, RSb g16 ((R6 s).take (conN s)), blk g5 (rdp s).cells 184] _
    refine J.dt rfl (YOp.eop (op_assign rfl rfl)) rfl rfl rfl rfl ?_
    intro _ _
    refine J.dnil ?_
    refine J.then_n (J.k hK10 ?_)
    refine J.keepE [(2, _), (3, _)] ⟨rfl, rfl, trivial⟩ ?_
    refine J.ret ?_
    exact J.done hw0 (fun _ _ h => h) (rv2 rfl (RV.blkA 1 rfl rfl Tryd.isAgg184 Tryd.sizeOf184) rfl) (retOk () (by unfold parse; rw [if_pos (show bsum (s.take 56) = s.drop 56 from Decidable.not_not.1 h12)]) trivial [0] rfl (by decide))

theorem zero_part : (parse (List.replicate 64 0)).2 = false ∨ (parse (List.replicate 64 0)).1.turn = 0 := by
  unfold parse
  split
  · right
    show UInt64.ofNat (natB ((R0 (List.replicate 64 0)).out 4)) = 0
    decide
  · exact .inl rfl

def zS : List UInt8 := List.replicate 64 0
theorem zS_part : (parse zS).2 = false ∨ (parse zS).1.turn = 0 := zero_part
def hatk (first : Nat) : Nat → Int
  | 0 => 0
  | _ + 1 => first

theorem may_ct (F : Hp) (gb gd : Nat) (first : Int) (size : Nat) (hat : Int) (hturn : UInt64) (hend : Int) (Ar : Option Addr) (nr cr : Nat) (bad : Bool) (hB : Cells F ⟨gb, 0, none⟩ [Ptr gd, I first, I (size : Nat), I hat, W64 hturn, I hend, .slice Ar nr cr, .bool bad]) (s : List UInt8) :
    Ct Tryd.prog 78 [Ptr gb, Str s] [F] (fun _ : Unit => I (if 900 < s.length then 2 else if bad = true then 21 else 0)) (fun _ => True) (fun _ => [F]) := by
  refine Ct.walk Tryd.func78 rfl Tryd.ntmps78 rfl (fun w0 hw0 => ?_)
  change J _ [(0, _), (1, _)] _ _ _
  refine J.seq (fun K1 hK1 => ?_)
  refine J.region ?_
  refine J.y (op_assign rfl rfl) rfl rfl rfl ?_
  refine J.nil ?_
  refine J.then_n (J.k hK1 ?_)
  refine J.keepE [(0, _), (1, _)] ⟨rfl, rfl, trivial⟩ ?_
  refine J.seq (fun K2 hK2 => ?_)
  refine J.block ?_
  refine J.seq (fun K3 hK3 => ?_)
  refine J.region ?_
  refine J.y (op_move rfl rfl) rfl rfl rfl ?_
  refine J.y ((op_peq Tryd.underlying67 rfl rfl rfl).as (v' := .bool false) rfl) rfl rfl rfl ?_
  refine J.y (op_assign rfl rfl) rfl rfl rfl ?_
  refine J.nil ?_
  refine J.then_n (J.k hK3 ?_)
  refine J.keepE [(0, _), (1, _), (5, _)] ⟨rfl, rfl, rfl, trivial⟩ ?_
  refine J.condF rfl rfl ?_
  refine J.seq (fun K4 hK4 => ?_)
  refine J.region ?_
  refine J.y (op_move rfl rfl) rfl rfl rfl ?_
  refine J.y (op_slen Tryd.underlying9 rfl rfl) rfl rfl rfl ?_
  refine J.y (op_gtr rfl rfl rfl) rfl rfl rfl ?_
  refine J.y (op_assign rfl rfl) rfl rfl rfl ?_
  refine J.nil ?_
  refine J.then_n (J.k hK4 ?_)
  refine J.keepE [(0, _), (8, _)] ⟨rfl, rfl, trivial⟩ ?_
  refine J.ite rfl (fun h8 => ?_) (fun h8 => ?_)
  ·
    refine J.seq (fun K5 hK5 => ?_)
    refine J.region ?_
    refine J.y (op_assign rfl rfl) rfl rfl rfl ?_
    refine J.nil ?_
    refine J.then_n (J.k hK5 ?_)
    refine J.keepE [(4, _)] ⟨rfl, trivial⟩ ?_
    refine J.ret ?_
    refine J.blk_r ?_
    refine J.then_r ?_
    exact J.done hw0 (fun _ _ h => h) (res1 rfl rfl) (retOk () (congrArg I (by rw [if_pos (by omega)])) trivial [0] rfl (by decide))
  ·
    refine J.seq (fun K6 hK6 => ?_)
    refine J.region ?_
    refine J.y (op_move rfl rfl) rfl rfl rfl ?_
    refine J.y (op_nilCheck rfl rfl) rfl rfl rfl ?_
    refine J.y (op_fieldAddr (j := 7) rfl rfl Tryd.underlying130 rfl Tryd.sizeOf4 rfl) rfl rfl rfl ?_
    refine J.y ((op_load rfl rfl Tryd.isAgg4 (m := F) (by simp) (hB.at (i := 7) rfl)).as (v' := .bool (decide (bad = true))) (by rw [Bool.decide_eq_true])) rfl rfl rfl ?_
    refine J.y (op_assign rfl rfl) rfl rfl rfl ?_
    refine J.nil ?_
    refine J.then_n (J.k hK6 ?_)
    refine J.keepE [(12, _)] ⟨rfl, trivial⟩ ?_
    refine J.ite rfl (fun h12 => ?_) (fun h12 => ?_)
    ·
      refine J.seq (fun K7 hK7 => ?_)
      refine J.region ?_
      refine J.y (op_assign rfl rfl) rfl rfl rfl ?_
      refine J.nil ?_
      refine J.then_n (J.k hK7 ?_)
      refine J.keepE [(4, _)] ⟨rfl, trivial⟩ ?_
      refine J.ret ?_
      refine J.blk_r ?_
      refine J.then_r ?_
      exact J.done hw0 (fun _ _ h => h) (res1 rfl rfl) (retOk () (congrArg I (by rw [if_neg (by omega), if_pos (by assumption)])) trivial [0] rfl (by decide))
    ·
      refine J.skip ?_
      refine J.blk_n ?_
      refine J.then_n (J.k hK2 ?_)
      refine J.keepE [] trivial ?_
      refine J.seq (fun K8 hK8 => ?_)
      refine J.region ?_
      refine J.y (op_assign rfl rfl) rfl rfl rfl ?_
      refine J.nil ?_
      refine J.then_n (J.k hK8 ?_)
      refine J.keepE [(4, _)] ⟨rfl, trivial⟩ ?_
      refine J.ret ?_
      exact J.done hw0 (fun _ _ h => h) (res1 rfl rfl) (retOk () (congrArg I (by rw [if_neg (by omega), if_neg (by assumption)])) trivial [0] rfl (by decide))

theorem left_ct (F : Hp) (gb gd : Nat) (first : Int) (size : Nat) (hat : Int) (hturn : UInt64) (hend : Int) (Ar : Option Addr) (nr cr : Nat) (bad : Bool) (hB : Cells F ⟨gb, 0, none⟩ [Ptr gd, I first, I (size : Nat), I hat, W64 hturn, I hend, .slice Ar nr cr, .bool bad]) (hs : size ≤ 1048576) (he : 0 ≤ hend ∧ hend ≤ 1048576) :
    Ct Tryd.prog 79 [Ptr gb] [F] (fun _ : Unit => I ((size : Int) - hend)) (fun _ => True) (fun _ => [F]) := by
  refine Ct.walk Tryd.func79 rfl Tryd.ntmps79 rfl (fun w0 hw0 => ?_)
  change J _ [(0, _)] _ _ _
  refine J.seq (fun K1 hK1 => ?_)
  refine J.region ?_
  refine J.y (op_assign rfl rfl) rfl rfl rfl ?_
  refine J.nil ?_
  refine J.then_n (J.k hK1 ?_)
  refine J.keepE [(0, _)] ⟨rfl, trivial⟩ ?_
  refine J.seq (fun K2 hK2 => ?_)
  refine J.seq (fun K3 hK3 => ?_)
  refine J.region ?_
  refine J.y (op_move rfl rfl) rfl rfl rfl ?_
  refine J.y ((op_peq Tryd.underlying67 rfl rfl rfl).as (v' := .bool false) rfl) rfl rfl rfl ?_
  refine J.nil ?_
  refine J.then_n (J.k hK3 ?_)
  refine J.keepE [(0, _), (4, _)] ⟨rfl, rfl, trivial⟩ ?_
  refine J.condF rfl rfl ?_
  refine J.skip ?_
  refine J.then_n (J.k hK2 ?_)
  refine J.keepE [(0, _)] ⟨rfl, trivial⟩ ?_
  refine J.seq (fun K4 hK4 => ?_)
  refine J.draw [F] [] (.y 0 (.y 1 (.y 2 (.y 3 (.y 4 (.y 5 (.y 6 (.y 7 (.y 8 (.y 9 (.y 10 .nil))))))))))) Tryd.wide (by decide +kernel) (by simp) ?_
  refine J.dy rfl (op_move rfl rfl) rfl rfl rfl rfl ?_
  refine J.dy rfl (op_nilCheck rfl rfl) rfl rfl rfl rfl ?_
  refine J.dy rfl (op_fieldAddr (j := 2) rfl rfl Tryd.underlying130 rfl Tryd.sizeOf3 rfl) rfl rfl rfl rfl ?_
  refine J.dy rfl (op_load rfl rfl Tryd.isAgg3 (m := F) (by simp) (hB.at (i := 2) rfl)) rfl rfl rfl rfl ?_
  refine J.dy rfl (op_move rfl rfl) rfl rfl rfl rfl ?_
  refine J.dy rfl (op_nilCheck rfl rfl) rfl rfl rfl rfl ?_
  refine J.dy rfl (op_fieldAddr (j := 3) rfl rfl Tryd.underlying130 rfl Tryd.sizeOf128 rfl) rfl rfl rfl rfl ?_
  refine J.dy rfl (op_fieldAddr (j := 5) rfl rfl Tryd.underlying128 rfl Tryd.sizeOf3 rfl) rfl rfl rfl rfl ?_
  refine J.dy rfl (op_load rfl rfl Tryd.isAgg3 (m := F) (by simp) (hB.at (i := 5) rfl)) rfl rfl rfl rfl ?_
  refine J.dy rfl (op_sub rfl rfl rfl (by omega)) rfl rfl rfl rfl ?_
  refine J.dy rfl (op_assign rfl rfl) rfl rfl rfl rfl ?_
  refine J.dnil ?_
  refine J.then_n (J.k hK4 ?_)
  refine J.keepE [(2, _)] ⟨rfl, trivial⟩ ?_
  refine J.ret ?_
  exact J.done hw0 (fun _ _ h => h) (res1 rfl rfl) (retOk () rfl trivial [0] rfl (by decide))

theorem records_ct (F : Hp) (gb gd : Nat) (first : Int) (size : Nat) (hat : Int) (hturn : UInt64) (hend : Int) (Ar : Option Addr) (nr cr : Nat) (bad : Bool) (hB : Cells F ⟨gb, 0, none⟩ [Ptr gd, I first, I (size : Nat), I hat, W64 hturn, I hend, .slice Ar nr cr, .bool bad]) (L : List (List UInt8)) (hLn : L.length = nr) (hL : Sl F 1 Ar nr cr (strsV L)) (hn : nr ≤ 1073741824) :
    Ct Tryd.prog 83 [Ptr gb] [F] (fun x : Option Addr × Nat × Hp => .slice x.1 L.length x.2.1) (fun x => Row x.2.2 9 1 x.1 L.length x.2.1 (strsV L)) (fun x => [F, x.2.2]) := by
  subst hLn
  refine Ct.walk Tryd.func83 rfl Tryd.ntmps83 rfl (fun w0 hw0 => ?_)
  change J _ [(0, _)] _ _ _
  refine J.seq (fun K1 hK1 => ?_)
  refine J.region ?_
  refine J.y (op_assign rfl rfl) rfl rfl rfl ?_
  refine J.nil ?_
  refine J.then_n (J.k hK1 ?_)
  refine J.keepE [(0, _)] ⟨rfl, trivial⟩ ?_
  refine J.seq (fun K2 hK2 => ?_)
  refine J.seq (fun K3 hK3 => ?_)
  refine J.region ?_
  refine J.y (op_move rfl rfl) rfl rfl rfl ?_
  refine J.y ((op_peq Tryd.underlying67 rfl rfl rfl).as (v' := .bool false) rfl) rfl rfl rfl ?_
  refine J.nil ?_
  refine J.then_n (J.k hK3 ?_)
  refine J.keepE [(0, _), (4, _)] ⟨rfl, rfl, trivial⟩ ?_
  refine J.condF rfl rfl ?_
  refine J.skip ?_
  refine J.then_n (J.k hK2 ?_)
  refine J.keepE [(0, _)] ⟨rfl, trivial⟩ ?_
  refine J.seq (fun K4 hK4 => ?_)
  refine J.region ?_
  refine J.y (op_move rfl rfl) rfl rfl rfl ?_
  refine J.y (op_nilCheck rfl rfl) rfl rfl rfl ?_
  refine J.y (op_fieldAddr (j := 3) rfl rfl Tryd.underlying130 rfl Tryd.sizeOf128 rfl) rfl rfl rfl ?_
  refine J.y (op_fieldAddr (j := 6) rfl rfl Tryd.underlying128 rfl Tryd.sizeOf55 rfl) rfl rfl rfl ?_
  refine J.y (op_load rfl rfl Tryd.isAgg55 (m := F) (by simp) (hB.at (i := 6) rfl)) rfl rfl rfl ?_
  refine J.e (op_call rfl rfl ent66 (Ct.use (new := fun x : Option Addr × Nat × Hp => [x.2.2]) (fun F' hF => cloneS_ct F' L Ar cr (hL.mono (hF F (by simp))) hn))) rfl rfl rfl ?_
  rintro ⟨A10, c10, m10⟩ h10
  try dsimp only at h10
  change J _ _ _ [F, m10] _
  refine J.y (op_assign rfl rfl) rfl rfl rfl ?_
  refine J.nil ?_
  refine J.then_n (J.k hK4 ?_)
  refine J.keepE [(2, _)] ⟨rfl, trivial⟩ ?_
  refine J.ret ?_
  exact J.done hw0 (fun _ _ h => h) (res1 rfl rfl) (retOk (A10, c10, m10) rfl h10 [0, 1] rfl (by decide))

theorem Sha_take_min (s : List UInt8) (n : Nat) : (s.take (min s.length n)).drop 0 = s.take n := by
  rw [List.drop_zero]
  by_cases h : s.length ≤ n
  · rw [Nat.min_eq_left h, List.take_of_length_le (Nat.le_refl _), List.take_of_length_le h]
  · rw [Nat.min_eq_right (by omega)]
theorem drop_min (s : List UInt8) (n : Nat) : s.drop (min s.length n) = s.drop n := by
  by_cases h : s.length ≤ n
  · rw [Nat.min_eq_left h, List.drop_of_length_le (Nat.le_refl _), List.drop_of_length_le h]
  · rw [Nat.min_eq_right (by omega)]
def prtsV (l : List Prt) : List (List Value) := l.map Prt.cells
theorem prtsV_app (a b : List Prt) : prtsV (a ++ b) = prtsV a ++ prtsV b := by simp [prtsV]
def prt (turn num : UInt64) (s : List UInt8) (n i : Nat) : Prt := ⟨turn, num, i, n, bname turn num s, (s.drop (39 * i)).take 39⟩
/-- the first k parts of a record of n -/
def prts (turn num : UInt64) (s : List UInt8) (n k : Nat) : List Prt := (List.range k).map (prt turn num s n)
theorem prts_succ (turn num : UInt64) (s : List UInt8) (n k : Nat) : prts turn num s n (k + 1) = prts turn num s n k ++ [prt turn num s n k] := by unfold prts; rw [List.range_succ, List.map_append]; rfl
theorem prtsV_get {turn num : UInt64} {s : List UInt8} {n k i : Nat} (h : i < k) : (prtsV (prts turn num s n k))[i]? = some (prt turn num s n i).cells := by
  unfold prtsV prts
  rw [List.map_map, List.getElem?_map, List.getElem?_range h]; rfl
theorem partsN_pos (n : Nat) : 1 ≤ partsN n := by unfold partsN; split <;> omega
theorem partsN_le {n : Nat} (h : n ≤ 900) : partsN n ≤ 24 := by unfold partsN; split <;> omega

theorem parts_ct (F : Hp) (hK : Cells F ⟨1, 0, none⟩ (Sha.K.map W32)) (turn num : UInt64) (s : List UInt8) (ht : turn.toNat < 2 ^ (8 * 4)) (hnm : num.toNat < 2 ^ (8 * 2)) (hs : s.length ≤ 900) (n : Nat) (hn : n = partsN s.length) :
    Ct Tryd.prog 122 [W64 turn, W64 num, Str s] [F] (fun x : Option Addr × Nat × Hp => .slice x.1 n x.2.1) (fun x => Row x.2.2 184 6 x.1 n x.2.1 (prtsV (prts turn num s n n))) (fun x => [F, x.2.2]) := by
  have hn24 : n ≤ 24 := hn ▸ partsN_le hs
  refine Ct.walk Tryd.func122 rfl Tryd.ntmps122 rfl (fun w0 hw0 => ?_)
  change J _ [(0, _), (1, _), (2, _)] _ _ _
  refine J.seq (fun K1 hK1 => ?_)
  refine J.region ?_
  refine J.y (op_assign rfl rfl) rfl rfl rfl ?_
  refine J.nil ?_
  refine J.then_n (J.k hK1 ?_)
  refine J.keepE [(0, _), (1, _), (2, _)] ⟨rfl, rfl, rfl, trivial⟩ ?_
  refine J.seq (fun K2 hK2 => ?_)
  refine J.region ?_
  refine J.y (op_move rfl rfl) rfl rfl rfl ?_
  refine J.y (op_slen Tryd.underlying9 rfl rfl) rfl rfl rfl ?_
  refine J.e (op_call rfl rfl ent80 (Ct.use0 (fun F' hF => by have := partsN_ct F' s.length (by omega); rw [← hn] at this; exact this))) rfl rfl rfl ?_
  intro g13 _
  refine J.y (op_move rfl rfl) rfl rfl rfl ?_
  refine J.y (op_move rfl rfl) rfl rfl rfl ?_
  refine J.y (op_move rfl rfl) rfl rfl rfl ?_
  refine J.e (op_call rfl rfl ent164 (Ct.use0 (fun F' hF => bname_ct F' (hK.mono (hF _ (by simp))) turn num s ht hnm (by omega)))) rfl rfl rfl ?_
  intro g17 _
  refine J.y (op_assign rfl rfl) rfl rfl rfl ?_
  refine J.y (op_assign rfl rfl) rfl rfl rfl ?_
  refine J.nil ?_
  refine J.then_n (J.k hK2 ?_)
  refine J.keepE [(0, _), (1, _), (2, _), (7, _), (8, _)] ⟨rfl, rfl, rfl, rfl, rfl, trivial⟩ ?_
  refine J.seq (fun K3 hK3 => ?_)
  refine J.region ?_
  refine J.y (op_assign rfl rfl) rfl rfl rfl ?_
  refine J.nil ?_
  refine J.then_n (J.k hK3 ?_)
  refine J.keepE [(0, _), (1, _), (2, _), (7, _), (8, _), (9, _)] ⟨rfl, rfl, rfl, rfl, rfl, rfl, trivial⟩ ?_
  refine J.seq (fun K4 hK4 => ?_)
  refine J.seq (fun K5 hK5 => ?_)
  refine J.addEmpty [0, 1] [F, (fun _ => none)] rfl (by decide) ?_
  refine J.region ?_
  refine J.y (op_move rfl rfl) rfl rfl rfl ?_
  refine J.y (op_move rfl rfl) rfl rfl rfl ?_
  refine J.nil ?_
  refine J.then_n (J.k hK5 ?_)
  refine J.keepE [(0, _), (1, _), (2, _), (7, _), (8, _), (9, _), (18, _), (19, _)] ⟨rfl, rfl, rfl, rfl, rfl, rfl, rfl, rfl, trivial⟩ ?_
  refine J.block ?_
  refine J.loop (X := Nat × Hp × Option Addr × Nat) (fun x => [(0, W64 turn), (1, W64 num), (2, Str (s.drop (39 * x.1))), (7, I n), (8, Str (bname turn num s)), (9, .slice x.2.2.1 x.1 x.2.2.2), (18, I n), (19, I x.1)]) (fun x => [F, x.2.1]) (fun x => x.1 ≤ n ∧ Row x.2.1 184 6 x.2.2.1 x.1 x.2.2.2 (prtsV (prts turn num s n x.1))) (fun x => n - x.1) (0, (fun _ => none), none, 0) (⟨Nat.zero_le _, RowQ.nil⟩) ⟨rfl, rfl, rfl, rfl, rfl, rfl, rfl, rfl, trivial⟩ (fun _ h => h) ?_
  rintro ⟨k, m, A7, c7⟩ ⟨hk, hr⟩ I0 hI0
  dsimp only at hk hr ⊢
  refine J.seq (fun K6 hK6 => ?_)
  refine J.region ?_
  refine J.y (op_lss rfl rfl rfl) rfl rfl rfl ?_
  refine J.nil ?_
  refine J.then_n (J.k hK6 ?_)
  refine J.keepE [(0, _), (1, _), (2, _), (7, _), (8, _), (9, _), (18, _), (19, _), (20, _)] ⟨rfl, rfl, rfl, rfl, rfl, rfl, rfl, rfl, rfl, trivial⟩ ?_
  refine J.seq (fun K7 hK7 => ?_)
  refine J.ite rfl (fun h20 => ?_) (fun h20 => ?_)
  ·
    refine J.skip ?_
    refine J.then_n (J.k hK7 ?_)
    refine J.keepE [(0, _), (1, _), (2, _), (7, _), (8, _), (9, _), (18, _), (19, _)] ⟨rfl, rfl, rfl, rfl, rfl, rfl, rfl, rfl, trivial⟩ ?_
    refine J.seq (fun K8 hK8 => ?_)
    refine J.block ?_
    refine J.seq (fun K9 hK9 => ?_)
    refine J.region ?_
    refine J.y (op_move rfl rfl) rfl rfl rfl ?_
    refine J.y (op_assign rfl rfl) rfl rfl rfl ?_
    refine J.nil ?_
    refine J.then_n (J.k hK9 ?_)
    refine J.keepE [(0, _), (1, _), (2, _), (7, _), (8, _), (9, _), (10, _), (18, _), (19, _)] ⟨rfl, rfl, rfl, rfl, rfl, rfl, rfl, rfl, rfl, trivial⟩ ?_
    refine J.seq (fun K10 hK10 => ?_)
    refine J.region ?_
    refine J.y (op_move rfl rfl) rfl rfl rfl ?_
    refine J.y (op_move rfl rfl) rfl rfl rfl ?_
    refine J.y (op_move rfl rfl) rfl rfl rfl ?_
    refine J.y (op_move rfl rfl) rfl rfl rfl ?_
    refine J.y (op_move rfl rfl) rfl rfl rfl ?_
    refine J.y (op_move rfl rfl) rfl rfl rfl ?_
    refine J.y (op_move rfl rfl) rfl rfl rfl ?_
    refine J.y (op_move rfl rfl) rfl rfl rfl ?_
    refine J.y (op_slen Tryd.underlying9 rfl rfl) rfl rfl rfl ?_
    refine J.y ((op_min rfl rfl rfl).as (v' := I ((min (s.drop (39 * k)).length 39 : Nat) : Int)) (congrArg I (by omega))) rfl rfl rfl ?_
    refine J.y ((op_sslice (l := 0) (h := min (s.drop (39 * k)).length 39) Tryd.underlying9 rfl rfl rfl rfl ⟨by omega, by omega⟩).as (v' := Str ((s.drop (39 * k)).take 39)) (congrArg Str (Sha_take_min _ _))) rfl rfl rfl ?_
    refine J.y (op_buildStruct (l := [(0, .tmp 23), (1, .tmp 24), (2, .tmp 25), (3, .tmp 26), (4, .tmp 27), (5, .tmp 32)]) (vs := [W64 turn, W64 num, I k, I n, Str (bname turn num s), Str ((s.drop (39 * k)).take 39)]) (places := [(0, 1), (1, 1), (2, 1), (3, 1), (4, 1), (5, 1)]) (r := [W64 turn, W64 num, I k, I n, Str (bname turn num s), Str ((s.drop (39 * k)).take 39)]) rfl rfl rfl Tryd.underlying184 Tryd.zeroValue184 (fun _ => by kernel_rfl) rfl) rfl rfl rfl ?_
    refine J.e (op_buildSlice (l := [.tmp 33]) (xs := [(prt turn num s n k).cells]) rfl rfl rfl rfl Tryd.underlying180 el184 rfl (by decide) (by decide) (by simp [Prt.cells, prt])) rfl rfl rfl ?_
    intro g34 _
    change J _ _ _ [F, m, blk g34 (prt turn num s n k).cells 184] _
    refine J.e (op_append (i := 1) (m2 := blk g34 (prt turn num s n k).cells 184) (xs := prtsV (prts turn num s n k)) (ys := prtsV [(prt turn num s n k)]) rfl rfl rfl Tryd.underlying180 Tryd.underlying180 el184 rfl hr (by simp) ((row_blk (q := True) (xs := prtsV [(prt turn num s n k)]) rfl (by simp [prtsV, Prt.cells])).sl) (by simp [prtsV, Prt.cells, Value.oneCell']) (by omega) (by omega)) rfl rfl rfl ?_
    rintro ⟨A8, c8, m8⟩ h8
    try dsimp only at h8
    change J _ ((35, .slice A8 (k + 1) c8) :: _) _ [F, m8, blk g34 (prt turn num s n k).cells 184] _
    rw [← prtsV_app, ← prts_succ] at h8
    refine J.y (op_assign rfl rfl) rfl rfl rfl ?_
    refine J.nil ?_
    refine J.then_n (J.k hK10 ?_)
    refine J.keepE [(0, _), (1, _), (2, _), (7, _), (8, _), (9, _), (18, _), (19, _)] ⟨rfl, rfl, rfl, rfl, rfl, rfl, rfl, rfl, trivial⟩ ?_
    refine J.region ?_
    refine J.y (op_move rfl rfl) rfl rfl rfl ?_
    refine J.y (op_move rfl rfl) rfl rfl rfl ?_
    refine J.y (op_slen Tryd.underlying9 rfl rfl) rfl rfl rfl ?_
    refine J.y ((op_min rfl rfl rfl).as (v' := I ((min (s.drop (39 * k)).length 39 : Nat) : Int)) (congrArg I (by omega))) rfl rfl rfl ?_
    refine J.y ((op_sslice (l := min (s.drop (39 * k)).length 39) (h := (s.drop (39 * k)).length) Tryd.underlying9 rfl rfl rfl rfl ⟨by omega, by omega⟩).as (v' := Str (s.drop (39 * (k + 1)))) (congrArg Str (by rw [List.take_length, drop_min, List.drop_drop, Nat.mul_add, Nat.mul_one]))) rfl rfl rfl ?_
    refine J.y (op_assign rfl rfl) rfl rfl rfl ?_
    refine J.nil ?_
    refine J.blk_n ?_
    refine J.then_n (J.k hK8 ?_)
    refine J.keepE [(0, _), (1, _), (2, _), (7, _), (8, _), (9, _), (18, _), (19, _)] ⟨rfl, rfl, rfl, rfl, rfl, rfl, rfl, rfl, trivial⟩ ?_
    refine J.region ?_
    refine J.y ((op_add rfl rfl rfl (by first | omega | (refine ⟨?_, ?_⟩ <;> omega))).as (v' := I ((k + 1 : Nat) : Int)) (congrArg I (by omega))) rfl rfl rfl ?_
    refine J.y (op_move rfl rfl) rfl rfl rfl ?_
    refine J.nil ?_
    refine J.then_n ?_
    exact J.kk (k + 1, m8, A8, c8) (fun y (hy : _ ∧ n - y.1 < n - k) => hI0 y hy.1 hy.2) ⟨⟨by dsimp only; omega, h8⟩, by dsimp only; omega⟩ ⟨rfl, rfl, rfl, rfl, rfl, rfl, rfl, rfl, trivial⟩ (fun _ h => h.pick [0, 1] (by decide))
  ·
    refine J.exit ?_
    refine J.then_x ?_
    refine J.then_x ?_
    refine J.blk_eq ?_
    refine J.then_n (J.k hK4 ?_)
    refine J.keepE [(9, _)] ⟨rfl, trivial⟩ ?_
    refine J.seq (fun K11 hK11 => ?_)
    have hkn : k = n := by omega
    subst hkn
    refine J.region ?_
    refine J.y (op_move rfl rfl) rfl rfl rfl ?_
    refine J.y (op_assign rfl rfl) rfl rfl rfl ?_
    refine J.nil ?_
    refine J.then_n (J.k hK11 ?_)
    refine J.keepE [(6, _)] ⟨rfl, trivial⟩ ?_
    refine J.ret ?_
    exact J.done hw0 (fun _ _ h => h) (res1 rfl rfl) (retOk (A7, c7, m) rfl hr [0, 1] rfl (by decide))

end Go.Proofs.YtnkfapecbmmpeaaDoor
