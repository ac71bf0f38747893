/- A part of the proof: contracts of functions of the program, each for every state of the heaps that it names. -/
import Derived.Test.YtpcffgkmpmcobaaDoorSec2
import Derived.Test.YtpcffgkmpmcobaaDoorFwZ
set_option linter.unusedSimpArgs false
set_option linter.unusedVariables false
namespace Go.Proofs.YtpcffgkmpmcobaaDoor
open Go Go.Fw
set_option maxRecDepth 100000
set_option maxHeartbeats 1000000
theorem ent42 : Enters Tryd.prog 42 := Enters.of Tryd.func42 rfl (by kernel_rfl)
theorem ent95 : Enters Tryd.prog 95 := Enters.of Tryd.func95 rfl (by kernel_rfl)
theorem ent96 : Enters Tryd.prog 96 := Enters.of Tryd.func96 rfl (by kernel_rfl)
theorem ent97 : Enters Tryd.prog 97 := Enters.of Tryd.func97 rfl (by kernel_rfl)
theorem ent137 : Enters Tryd.prog 137 := Enters.of Tryd.func137 rfl (by kernel_rfl)
theorem ent138 : Enters Tryd.prog 138 := Enters.of Tryd.func138 rfl (by kernel_rfl)
theorem ent141 : Enters Tryd.prog 141 := Enters.of Tryd.func141 rfl (by kernel_rfl)
theorem ent159 : Enters Tryd.prog 159 := Enters.of Tryd.func159 rfl (by kernel_rfl)
theorem ent160 : Enters Tryd.prog 160 := Enters.of Tryd.func160 rfl (by kernel_rfl)
theorem ent166 : Enters Tryd.prog 166 := Enters.of Tryd.func166 rfl (by kernel_rfl)
theorem ent167 : Enters Tryd.prog 167 := Enters.of Tryd.func167 rfl (by kernel_rfl)
theorem ent169 : Enters Tryd.prog 169 := Enters.of Tryd.func169 rfl (by kernel_rfl)
theorem ent170 : Enters Tryd.prog 170 := Enters.of Tryd.func170 rfl (by kernel_rfl)
theorem ent187 : Enters Tryd.prog 187 := Enters.of Tryd.func187 rfl (by kernel_rfl)
theorem ent188 : Enters Tryd.prog 188 := Enters.of Tryd.func188 rfl (by kernel_rfl)
theorem ent189 : Enters Tryd.prog 189 := Enters.of Tryd.func189 rfl (by kernel_rfl)
theorem el198 : Elem Tryd.prog 198 [.int .u64 0, .int .u64 0, .int .i64 0, .int .i64 0, Str [], Str []] 64 := Elem.of (by kernel_rfl) rfl

theorem wtr_newB (g : Nat) : Wtr (blk g [.pointer none, .slice none 0 0, I 0] 213) g [] 0 :=
  ⟨[.pointer none, .slice none 0 0, I 0], fun _ => none, none, 0, none, by funext k; simp only [U]; cases blk g [.pointer none, .slice none 0 0, I 0] 213 k <;> rfl, fun _ => .inr rfl, rfl, ⟨rfl, .inl rfl, rfl, RowQ.nil, .inl rfl⟩, rfl⟩
theorem wnum_in {n : UInt64} {size : Nat} (h : n.toNat < 2 ^ (8 * size)) (bs : List UInt8) : wnum n size bs 0 = bs ++ Sha.numB n size ∧ fbad (okN n size) 10 0 = 0 := by
  have e : okN n size = true := decide_eq_true h
  have f : fbad (okN n size) 10 0 = 0 := by unfold fbad; rw [e, if_neg (by simp)]
  exact ⟨by unfold wnum; rw [if_pos f], f⟩
def bsum (s : List UInt8) : List UInt8 := (Sha.tagged 8 [s]).take 8
def bname (turn num : UInt64) (s : List UInt8) : List UInt8 := (Sha.tagged 7 [Sha.numB turn 4, Sha.numB num 2, s]).take 8

theorem bbytes_ct (F : Hp) (n : UInt64) (size : Nat) (h1 : 1 ≤ size) (h8 : size < 8) (hn : n.toNat < 2 ^ (8 * size)) :
    Ct Tryd.prog 169 [W64 n, I size] [F] (fun _ : Unit => Str (Sha.numB n size)) (fun _ => True) (fun _ => [F]) := by
  refine Ct.walk Tryd.func169 rfl Tryd.ntmps169 rfl (fun w0 hw0 => ?_)
  change J _ [(0, _), (1, _)] _ _ _
  refine J.seq (fun K1 hK1 => ?_)
  refine J.region ?_
  refine J.y (op_assign rfl rfl) rfl rfl rfl ?_
  refine J.nil ?_
  refine J.then_n (J.k hK1 ?_)
  refine J.keepE [(0, _), (1, _)] ⟨rfl, rfl, trivial⟩ ?_
  refine J.seq (fun K2 hK2 => ?_)
  refine J.region ?_
  refine J.e (op_alloc rfl Tryd.zeroValue213 rfl) rfl rfl rfl ?_
  intro g5 _
  change J _ _ _ [F, blk g5 _ 213] _
  refine J.nil ?_
  refine J.then_n (J.k hK2 ?_)
  refine J.keepE [(0, _), (1, _), (5, _)] ⟨rfl, rfl, rfl, trivial⟩ ?_
  refine J.seq (fun K3 hK3 => ?_)
  refine J.region ?_
  refine J.y (op_move rfl rfl) rfl rfl rfl ?_
  refine J.y (op_move rfl rfl) rfl rfl rfl ?_
  refine J.e (op_call rfl rfl ent159 (Ct.use1 1 (m' := fun x : Hp => x) (new := fun _ => []) rfl (fun F' _ => num_ct F' (blk g5 [.pointer none, .slice none 0 0, I 0] 213) g5 [] 0 (wtr_newB g5) (by decide) n size h1 h8))) rfl rfl rfl ?_
  rintro m11 hw11
  change J _ _ _ [F, m11] _
  rw [(wnum_in hn []).1, (wnum_in hn []).2, List.nil_append] at hw11
  refine J.e (op_call rfl rfl ent160 (Ct.use1 1 (m' := fun x : Hp => x) (new := fun _ => []) rfl (fun F' _ => bytes_ct F' m11 g5 (Sha.numB n size) 0 hw11 (by rw [Sha.numB_length]; omega)))) rfl rfl rfl ?_
  rintro m12 _
  change J _ _ _ [F, m12] _
  refine J.y (op_move rfl rfl) rfl rfl rfl ?_
  refine J.y (op_extract (v := Str (Sha.numB n size)) rfl rfl rfl) rfl rfl rfl ?_
  refine J.y (op_extract (v := I 0) rfl rfl rfl) rfl rfl rfl ?_
  refine J.y (op_assign rfl rfl) rfl rfl rfl ?_
  refine J.y (op_assign rfl rfl) rfl rfl rfl ?_
  refine J.nil ?_
  refine J.then_n (J.k hK3 ?_)
  refine J.keepE [(6, _)] ⟨rfl, trivial⟩ ?_
  refine J.seq (fun K4 hK4 => ?_)
  refine J.region ?_
  refine J.y (op_move rfl rfl) rfl rfl rfl ?_
  refine J.y (op_assign rfl rfl) rfl rfl rfl ?_
  refine J.nil ?_
  refine J.then_n (J.k hK4 ?_)
  refine J.keepE [(4, _)] ⟨rfl, trivial⟩ ?_
  refine J.ret ?_
  exact J.done hw0 (fun _ _ h => h) (res1 rfl rfl) (retOk () rfl trivial [0] rfl (by decide))

theorem bsum_ct (F : Hp) (hK : Cells F ⟨4, 0, none⟩ (Sha.K.map W32)) (s : List UInt8) (hs : s.length ≤ 1048576) : Ct Tryd.prog 170 [Str s] [F] (fun _ : Unit => Str (bsum s)) (fun _ => True) (fun _ => [F]) := by
  refine Ct.walk Tryd.func170 rfl Tryd.ntmps170 rfl (fun w0 hw0 => ?_)
  change J _ [(0, _)] _ _ _
  refine J.seq (fun K1 hK1 => ?_)
  refine J.region ?_
  refine J.y (op_assign rfl rfl) rfl rfl rfl ?_
  refine J.nil ?_
  refine J.then_n (J.k hK1 ?_)
  refine J.keepE [(0, _)] ⟨rfl, trivial⟩ ?_
  refine J.seq (fun K2 hK2 => ?_)
  refine J.region ?_
  refine J.y (op_move rfl rfl) rfl rfl rfl ?_
  refine J.e (op_buildSlice (l := [.tmp 3]) (xs := [[Str (s)]]) rfl rfl rfl rfl Tryd.underlying36 el9 rfl (by decide) (by decide) (by simp)) rfl rfl rfl ?_
  intro g4 _
  change J _ _ _ [F, blk g4 [Str (s)] 9] _
  refine J.e (op_call rfl rfl ent113 (Ct.use0 (fun F' hF => tagged_ct F' (hK.mono (hF _ (by simp))) 8 (some ⟨g4, 0, none⟩) 1 1 [s] ((slS [s] rfl).mono (hF (blk g4 (([s] : List (List UInt8)).map fun s => Str s) 9) (by simp))) (by simp; omega) (by decide)))) rfl rfl rfl ?_
  intro g5 _
  refine J.y ((op_sslice (l := 0) (h := 8) Tryd.underlying9 rfl rfl rfl rfl (by rw [Sha.tagged_length]; decide)).as (v' := Str (bsum s)) (congrArg Str List.drop_zero)) rfl rfl rfl ?_
  refine J.y (op_assign rfl rfl) rfl rfl rfl ?_
  refine J.nil ?_
  refine J.then_n (J.k hK2 ?_)
  refine J.keepE [(2, _)] ⟨rfl, trivial⟩ ?_
  refine J.ret ?_
  exact J.done hw0 (fun _ _ h => h) (res1 rfl rfl) (retOk () rfl trivial [0] rfl (by decide))

theorem bname_ct (F : Hp) (hK : Cells F ⟨4, 0, none⟩ (Sha.K.map W32)) (turn num : UInt64) (s : List UInt8) (ht : turn.toNat < 2 ^ (8 * 4)) (hn : num.toNat < 2 ^ (8 * 2)) (hs : s.length ≤ 1048576) : Ct Tryd.prog 167 [W64 turn, W64 num, Str s] [F] (fun _ : Unit => Str (bname turn num s)) (fun _ => True) (fun _ => [F]) := by
  refine Ct.walk Tryd.func167 rfl Tryd.ntmps167 rfl (fun w0 hw0 => ?_)
  change J _ [(0, _), (1, _), (2, _)] _ _ _
  refine J.seq (fun K1 hK1 => ?_)
  refine J.region ?_
  refine J.y (op_assign rfl rfl) rfl rfl rfl ?_
  refine J.nil ?_
  refine J.then_n (J.k hK1 ?_)
  refine J.keepE [(0, _), (1, _), (2, _)] ⟨rfl, rfl, rfl, trivial⟩ ?_
  refine J.seq (fun K2 hK2 => ?_)
  refine J.region ?_
  refine J.y (op_move rfl rfl) rfl rfl rfl ?_
  refine J.e (op_call rfl rfl ent169 (Ct.use0 (fun F' hF => bbytes_ct F' turn 4 (by decide) (by decide) ht))) rfl rfl rfl ?_
  intro g8 _
  refine J.y (op_move rfl rfl) rfl rfl rfl ?_
  refine J.e (op_call rfl rfl ent169 (Ct.use0 (fun F' hF => bbytes_ct F' num 2 (by decide) (by decide) hn))) rfl rfl rfl ?_
  intro g10 _
  refine J.y (op_move rfl rfl) rfl rfl rfl ?_
  refine J.e (op_buildSlice (l := [.tmp 8, .tmp 10, .tmp 11]) (xs := [[Str (Sha.numB turn 4)], [Str (Sha.numB num 2)], [Str (s)]]) rfl rfl rfl rfl Tryd.underlying36 el9 rfl (by decide) (by decide) (by simp)) rfl rfl rfl ?_
  intro g12 _
  change J _ _ _ [F, blk g12 [Str (Sha.numB turn 4), Str (Sha.numB num 2), Str (s)] 9] _
  refine J.e (op_call rfl rfl ent113 (Ct.use0 (fun F' hF => tagged_ct F' (hK.mono (hF _ (by simp))) 7 (some ⟨g12, 0, none⟩) 3 3 [Sha.numB turn 4, Sha.numB num 2, s] ((slS [Sha.numB turn 4, Sha.numB num 2, s] rfl).mono (hF (blk g12 (([Sha.numB turn 4, Sha.numB num 2, s] : List (List UInt8)).map fun s => Str s) 9) (by simp))) (by simp only [List.flatten_cons, List.flatten_nil, List.append_nil, List.length_append, Sha.numB_length]; omega) (by decide)))) rfl rfl rfl ?_
  intro g13 _
  refine J.y ((op_sslice (l := 0) (h := 8) Tryd.underlying9 rfl rfl rfl rfl (by rw [Sha.tagged_length]; decide)).as (v' := Str (bname turn num s)) (congrArg Str List.drop_zero)) rfl rfl rfl ?_
  refine J.y (op_assign rfl rfl) rfl rfl rfl ?_
  refine J.nil ?_
  refine J.then_n (J.k hK2 ?_)
  refine J.keepE [(6, _)] ⟨rfl, trivial⟩ ?_
  refine J.ret ?_
  exact J.done hw0 (fun _ _ h => h) (res1 rfl rfl) (retOk () rfl trivial [0] rfl (by decide))

def partsN (n : Nat) : Nat := if n < 1 then 1 else (n - 1) / 39 + 1

theorem partsN_ct (F : Hp) (n : Nat) (hn : n ≤ 1048576) : Ct Tryd.prog 42 [I n] [F] (fun _ : Unit => I (partsN n : Nat)) (fun _ => True) (fun _ => [F]) := by
  refine Ct.walk Tryd.func42 rfl Tryd.ntmps42 rfl (fun w0 hw0 => ?_)
  change J _ [(0, _)] _ _ _
  refine J.seq (fun K1 hK1 => ?_)
  refine J.region ?_
  refine J.y (op_assign rfl rfl) rfl rfl rfl ?_
  refine J.nil ?_
  refine J.then_n (J.k hK1 ?_)
  refine J.keepE [(0, _)] ⟨rfl, trivial⟩ ?_
  refine J.seq (fun K2 hK2 => ?_)
  refine J.seq (fun K3 hK3 => ?_)
  refine J.region ?_
  refine J.y (op_move rfl rfl) rfl rfl rfl ?_
  refine J.y (op_lss rfl rfl rfl) rfl rfl rfl ?_
  refine J.nil ?_
  refine J.then_n (J.k hK3 ?_)
  refine J.keepE [(0, _), (4, _)] ⟨rfl, rfl, trivial⟩ ?_
  refine J.ite rfl (fun h4 => ?_) (fun h4 => ?_)
  ·
    refine J.seq (fun K4 hK4 => ?_)
    refine J.region ?_
    refine J.y (op_assign rfl rfl) rfl rfl rfl ?_
    refine J.nil ?_
    refine J.then_n (J.k hK4 ?_)
    refine J.keepE [(2, _)] ⟨rfl, trivial⟩ ?_
    refine J.ret ?_
    refine J.then_r ?_
    exact J.done hw0 (fun _ _ h => h) (res1 rfl rfl) (retOk () (by unfold partsN; rw [if_pos (by omega)]; rfl) trivial [0] rfl (by decide))
  ·
    refine J.skip ?_
    refine J.then_n (J.k hK2 ?_)
    refine J.keepE [(0, _)] ⟨rfl, trivial⟩ ?_
    refine J.seq (fun K5 hK5 => ?_)
    refine J.region ?_
    refine J.y (op_move rfl rfl) rfl rfl rfl ?_
    refine J.y ((op_sub rfl rfl rfl (by first | omega | (refine ⟨?_, ?_⟩ <;> omega))).as (v' := I ((n - 1 : Nat) : Int)) (congrArg I (by omega))) rfl rfl rfl ?_
    refine J.y ((op_quo (a := ((n - 1 : Nat) : Int)) (b := ((39 : Nat) : Int)) rfl rfl rfl (by omega)).as (v' := I (((n - 1) / 39 : Nat) : Int)) (congrArg I (Int.ofNat_tdiv _ _).symm)) rfl rfl rfl ?_
    refine J.y (op_add rfl rfl rfl (by omega)) rfl rfl rfl ?_
    refine J.y (op_assign rfl rfl) rfl rfl rfl ?_
    refine J.nil ?_
    refine J.then_n (J.k hK5 ?_)
    refine J.keepE [(2, _)] ⟨rfl, trivial⟩ ?_
    refine J.ret ?_
    exact J.done hw0 (fun _ _ h => h) (res1 rfl rfl) (retOk () (by unfold partsN; rw [if_neg (by omega)]; rfl) trivial [0] rfl (by decide))

/-- a part of a record -/
structure Prt where
  turn : UInt64
  num : UInt64
  at_ : Nat
  all : Nat
  name : List UInt8
  con : List UInt8
def Prt.cells (p : Prt) : List Value := [W64 p.turn, W64 p.num, I p.at_, I p.all, Str p.name, Str p.con]
structure Prt.ok (p : Prt) : Prop where
  t : p.turn.toNat < 2 ^ (8 * 4)
  n : p.num.toNat < 2 ^ (8 * 2)
  a : p.at_ < 256
  l : p.all < 256
  m : p.name.length ≤ 8
  c : p.con.length ≤ 39
def Prt.b1 (p : Prt) : List UInt8 := Sha.numB p.turn 4 ++ Sha.numB p.num 2
def Prt.b2 (p : Prt) : List UInt8 := p.b1 ++ Sha.numB (UInt64.ofNat p.at_) 1
def Prt.b3 (p : Prt) : List UInt8 := p.b2 ++ Sha.numB (UInt64.ofNat p.all) 1
def Prt.b4 (p : Prt) : List UInt8 := p.b3 ++ Sha.numB (UInt64.ofNat p.con.length) 1
def Prt.b5 (p : Prt) : List UInt8 := p.b4 ++ p.name
def Prt.body (p : Prt) : List UInt8 := p.b5 ++ p.con
def Prt.pad (p : Prt) : List UInt8 := p.body ++ List.replicate (56 - p.body.length) 0
def Prt.text (p : Prt) : List UInt8 := p.pad ++ bsum p.pad
theorem bsum_len (s : List UInt8) : (bsum s).length = 8 := by unfold bsum; rw [List.length_take, Sha.tagged_length]; rfl
theorem bname_len (t n : UInt64) (s : List UInt8) : (bname t n s).length = 8 := by unfold bname; rw [List.length_take, Sha.tagged_length]; rfl
theorem Prt.b4_len (p : Prt) : p.b4.length = 9 := by unfold Prt.b4 Prt.b3 Prt.b2 Prt.b1; simp only [List.length_append, Sha.numB_length]
theorem Prt.body_len (p : Prt) : p.body.length = 9 + p.name.length + p.con.length := by unfold Prt.body Prt.b5; rw [List.length_append, List.length_append, p.b4_len]
theorem Prt.pad_len {p : Prt} (h : p.ok) : p.pad.length = 56 := by
  have := p.body_len
  have := h.m
  have := h.c
  unfold Prt.pad; rw [List.length_append, List.length_replicate]; omega
theorem Prt.text_len {p : Prt} (h : p.ok) : p.text.length = 64 := by unfold Prt.text; rw [List.length_append, p.pad_len h, bsum_len]
theorem n1ok {n : Nat} (h : n < 256) : (UInt64.ofNat n).toNat < 2 ^ (8 * 1) := by rw [ofNat64 (by omega)]; exact h

theorem ptext_ct (F : Hp) (hK : Cells F ⟨4, 0, none⟩ (Sha.K.map W32)) (p : Prt) (hp : p.ok) : Ct Tryd.prog 141 [.agg p.cells.toArray] [F] (fun _ : Unit => Str p.text) (fun _ => True) (fun _ => [F]) := by
  obtain ⟨h1, h2, h3, h4, h5, h6⟩ := hp
  have hbl := p.body_len
  have hpl := Prt.pad_len ⟨h1, h2, h3, h4, h5, h6⟩
  refine Ct.walk Tryd.func141 rfl Tryd.ntmps141 rfl (fun w0 hw0 => ?_)
  change J _ [(0, _)] _ _ _
  refine J.seq (fun K1 hK1 => ?_)
  refine J.region ?_
  refine J.e (op_box rfl rfl (l := p.cells) rfl) rfl rfl rfl ?_
  intro g1 _
  change J _ _ _ [F, blk g1 p.cells 198] _
  refine J.y (op_assign rfl rfl) rfl rfl rfl ?_
  refine J.nil ?_
  refine J.then_n (J.k hK1 ?_)
  refine J.keepE [(1, _)] ⟨rfl, trivial⟩ ?_
  refine J.seq (fun K2 hK2 => ?_)
  refine J.draw [blk g1 p.cells 198] [] (.y 0 (.y 1 (.y 3 (.y 4 (.y 7 (.y 8 (.y 9 (.y 12 (.y 13 (.y 14 (.y 17 (.y 18 (.y 19 (.y 20 (.y 23 (.y 24 (.y 26 (.y 27 (.e 2 (.e 5 (.y 6 (.e 10 (.y 11 (.e 15 (.y 16 (.e 21 (.y 22 (.y 25 (.y 28 (.y 29 .nil)))))))))))))))))))))))))))))) Tryd.wide (by decide +kernel) (by simp) ?_
  refine J.dy rfl (op_fieldAddr (j := 0) rfl rfl Tryd.underlying198 rfl Tryd.sizeOf134 rfl) rfl rfl rfl rfl ?_
  refine J.dy rfl (op_loadB 0 rfl rfl rfl Tryd.isAgg134 rfl) rfl rfl rfl rfl ?_
  refine J.dy rfl (op_fieldAddr (j := 1) rfl rfl Tryd.underlying198 rfl Tryd.sizeOf134 rfl) rfl rfl rfl rfl ?_
  refine J.dy rfl (op_loadB 0 rfl rfl rfl Tryd.isAgg134 rfl) rfl rfl rfl rfl ?_
  refine J.dy rfl (op_fieldAddr (j := 2) rfl rfl Tryd.underlying198 rfl Tryd.sizeOf3 rfl) rfl rfl rfl rfl ?_
  refine J.dy rfl (op_loadB 0 rfl rfl rfl Tryd.isAgg3 rfl) rfl rfl rfl rfl ?_
  refine J.dy rfl (op_cv_i64_u64 rfl rfl Tryd.underlying3 Tryd.underlying134 (m := p.at_) (by omega)) rfl rfl rfl rfl ?_
  refine J.dy rfl (op_fieldAddr (j := 3) rfl rfl Tryd.underlying198 rfl Tryd.sizeOf3 rfl) rfl rfl rfl rfl ?_
  refine J.dy rfl (op_loadB 0 rfl rfl rfl Tryd.isAgg3 rfl) rfl rfl rfl rfl ?_
  refine J.dy rfl (op_cv_i64_u64 rfl rfl Tryd.underlying3 Tryd.underlying134 (m := p.all) (by omega)) rfl rfl rfl rfl ?_
  refine J.dy rfl (op_fieldAddr (j := 5) rfl rfl Tryd.underlying198 rfl Tryd.sizeOf9 rfl) rfl rfl rfl rfl ?_
  refine J.dy rfl (op_loadB 0 rfl rfl rfl Tryd.isAgg9 rfl) rfl rfl rfl rfl ?_
  refine J.dy rfl (op_slen Tryd.underlying9 rfl rfl) rfl rfl rfl rfl ?_
  refine J.dy rfl (op_cv_i64_u64 rfl rfl Tryd.underlying3 Tryd.underlying134 (m := p.con.length) (by omega)) rfl rfl rfl rfl ?_
  refine J.dy rfl (op_fieldAddr (j := 4) rfl rfl Tryd.underlying198 rfl Tryd.sizeOf9 rfl) rfl rfl rfl rfl ?_
  refine J.dy rfl (op_loadB 0 rfl rfl rfl Tryd.isAgg9 rfl) rfl rfl rfl rfl ?_
  refine J.dy rfl (op_fieldAddr (j := 5) rfl rfl Tryd.underlying198 rfl Tryd.sizeOf9 rfl) rfl rfl rfl rfl ?_
  refine J.dy rfl (op_loadB 0 rfl rfl rfl Tryd.isAgg9 rfl) rfl rfl rfl rfl ?_
  refine J.de rfl (op_call rfl rfl ent169 (Ct.use0 (fun F' hF => bbytes_ct F' p.turn 4 (by decide) (by decide) h1))) rfl rfl rfl (by simp) ?_
  intro g6 _
  refine J.de rfl (op_call rfl rfl ent169 (Ct.use0 (fun F' hF => bbytes_ct F' p.num 2 (by decide) (by decide) h2))) rfl rfl rfl (by simp) ?_
  intro g9 _
  refine J.dy rfl ((op_sadd rfl rfl rfl (by first | (have hb4 := p.b4_len; have hbl := p.body_len; simp only [List.length_append, List.length_replicate, Prt.b4, Prt.b3, Prt.b2, Prt.b1, Prt.b5, Prt.body, Sha.numB_length] at hb4 hbl ⊢; omega) | omega)).as (v' := Str (p.b1)) rfl) rfl rfl rfl rfl ?_
  refine J.de rfl (op_call rfl rfl ent169 (Ct.use0 (fun F' hF => bbytes_ct F' (UInt64.ofNat p.at_) 1 (by decide) (by decide) (n1ok h3)))) rfl rfl rfl (by simp) ?_
  intro g14 _
  refine J.dy rfl ((op_sadd rfl rfl rfl (by first | (have hb4 := p.b4_len; have hbl := p.body_len; simp only [List.length_append, List.length_replicate, Prt.b4, Prt.b3, Prt.b2, Prt.b1, Prt.b5, Prt.body, Sha.numB_length] at hb4 hbl ⊢; omega) | omega)).as (v' := Str (p.b2)) rfl) rfl rfl rfl rfl ?_
  refine J.de rfl (op_call rfl rfl ent169 (Ct.use0 (fun F' hF => bbytes_ct F' (UInt64.ofNat p.all) 1 (by decide) (by decide) (n1ok h4)))) rfl rfl rfl (by simp) ?_
  intro g19 _
  refine J.dy rfl ((op_sadd rfl rfl rfl (by first | (have hb4 := p.b4_len; have hbl := p.body_len; simp only [List.length_append, List.length_replicate, Prt.b4, Prt.b3, Prt.b2, Prt.b1, Prt.b5, Prt.body, Sha.numB_length] at hb4 hbl ⊢; omega) | omega)).as (v' := Str (p.b3)) rfl) rfl rfl rfl rfl ?_
  refine J.de rfl (op_call rfl rfl ent169 (Ct.use0 (fun F' hF => bbytes_ct F' (UInt64.ofNat p.con.length) 1 (by decide) (by decide) (n1ok (by omega))))) rfl rfl rfl (by simp) ?_
  intro g25 _
  refine J.dy rfl ((op_sadd rfl rfl rfl (by first | (have hb4 := p.b4_len; have hbl := p.body_len; simp only [List.length_append, List.length_replicate, Prt.b4, Prt.b3, Prt.b2, Prt.b1, Prt.b5, Prt.body, Sha.numB_length] at hb4 hbl ⊢; omega) | omega)).as (v' := Str (p.b4)) rfl) rfl rfl rfl rfl ?_
  refine J.dy rfl ((op_sadd rfl rfl rfl (by first | (have hb4 := p.b4_len; have hbl := p.body_len; simp only [List.length_append, List.length_replicate, Prt.b4, Prt.b3, Prt.b2, Prt.b1, Prt.b5, Prt.body, Sha.numB_length] at hb4 hbl ⊢; omega) | omega)).as (v' := Str (p.b5)) rfl) rfl rfl rfl rfl ?_
  refine J.dy rfl ((op_sadd rfl rfl rfl (by first | (have hb4 := p.b4_len; have hbl := p.body_len; simp only [List.length_append, List.length_replicate, Prt.b4, Prt.b3, Prt.b2, Prt.b1, Prt.b5, Prt.body, Sha.numB_length] at hb4 hbl ⊢; omega) | omega)).as (v' := Str (p.body)) rfl) rfl rfl rfl rfl ?_
  refine J.dy rfl (op_assign rfl rfl) rfl rfl rfl rfl ?_
  refine J.dnil ?_
  refine J.then_n (J.k hK2 ?_)
  refine J.keepE [(3, _)] ⟨rfl, trivial⟩ ?_
  refine J.seq (fun K3 hK3 => ?_)
  refine J.region ?_
  refine J.y (op_move rfl rfl) rfl rfl rfl ?_
  refine J.y (op_move rfl rfl) rfl rfl rfl ?_
  refine J.y (op_slen Tryd.underlying9 rfl rfl) rfl rfl rfl ?_
  refine J.y ((op_sub rfl rfl rfl (by first | omega | (refine ⟨?_, ?_⟩ <;> omega))).as (v' := I ((56 - p.body.length : Nat) : Int)) (congrArg I (by omega))) rfl rfl rfl ?_
  refine J.e (op_call rfl rfl ent94 (Ct.use0 (fun F' hF => repeat_any F' (56 - p.body.length) (by omega)))) rfl rfl rfl ?_
  intro g37 _
  refine J.y ((op_sadd rfl rfl rfl (by rw [List.length_replicate]; omega)).as (v' := Str p.pad) rfl) rfl rfl rfl ?_
  refine J.y (op_assign rfl rfl) rfl rfl rfl ?_
  refine J.nil ?_
  refine J.then_n (J.k hK3 ?_)
  refine J.keepE [(3, _)] ⟨rfl, trivial⟩ ?_
  refine J.seq (fun K4 hK4 => ?_)
  refine J.region ?_
  refine J.y (op_move rfl rfl) rfl rfl rfl ?_
  refine J.y (op_move rfl rfl) rfl rfl rfl ?_
  refine J.e (op_call rfl rfl ent170 (Ct.use0 (fun F' hF => bsum_ct F' (hK.mono (hF _ (by simp))) p.pad (by omega)))) rfl rfl rfl ?_
  intro g41 _
  refine J.y ((op_sadd rfl rfl rfl (by rw [bsum_len]; omega)).as (v' := Str p.text) rfl) rfl rfl rfl ?_
  refine J.y (op_assign rfl rfl) rfl rfl rfl ?_
  refine J.nil ?_
  refine J.then_n (J.k hK4 ?_)
  refine J.keepE [(2, _)] ⟨rfl, trivial⟩ ?_
  refine J.ret ?_
  exact J.done hw0 (fun _ _ h => h) (res1 rfl rfl) (retOk () rfl trivial [0] rfl (by decide))

def R0 (s : List UInt8) : RS := ⟨s.take 56, 0⟩
def R1 (s : List UInt8) : RS := (R0 s).take 4
def R2 (s : List UInt8) : RS := (R1 s).take 2
def R3 (s : List UInt8) : RS := (R2 s).take 1
def R4 (s : List UInt8) : RS := (R3 s).take 1
def R5 (s : List UInt8) : RS := (R4 s).take 1
def R6 (s : List UInt8) : RS := (R5 s).take 8
def conN (s : List UInt8) : Nat := min (natB ((R4 s).out 1)) 39
/-- the part that a sector's bytes would be -/
def rdp (s : List UInt8) : Prt := ⟨UInt64.ofNat (natB ((R0 s).out 4)), UInt64.ofNat (natB ((R1 s).out 2)), natB ((R2 s).out 1), natB ((R3 s).out 1), (R5 s).out 8, (R6 s).out (conN s)⟩
def noPrt : Prt := ⟨0, 0, 0, 0, [], []⟩
theorem natB_out (st : RS) (n k : Nat) (h : 256 ^ n ≤ k) : natB (st.out n) < k :=
  Nat.lt_of_lt_of_le (natB_lt _) (Nat.le_trans (Nat.pow_le_pow_right (by decide) (st.out_len n)) h)
theorem rdp_ok (s : List UInt8) : (rdp s).ok := by
  have h4 := natB_out (R0 s) 4 4294967296 (by decide)
  have h2 := natB_out (R1 s) 2 65536 (by decide)
  refine ⟨?_, ?_, natB_out _ 1 256 (by decide), natB_out _ 1 256 (by decide), RS.out_len _ _, Nat.le_trans (RS.out_len _ _) (Nat.min_le_right _ _)⟩
  · show (UInt64.ofNat (natB ((R0 s).out 4))).toNat < _
    rw [ofNat64 (by omega)]; exact h4
  · show (UInt64.ofNat (natB ((R1 s).out 2))).toNat < _
    rw [ofNat64 (by omega)]; exact h2
def parse (s : List UInt8) : Prt × Bool := if bsum (s.take 56) = s.drop 56 then (rdp s, decide ((rdp s).text = s)) else (noPrt, false)

theorem parse_ct (F : Hp) (hK : Cells F ⟨4, 0, none⟩ (Sha.K.map W32)) (s : List UInt8) (hs : s.length = 64) : Ct Tryd.prog 166 [Str s] [F] (fun _ : Unit => .tuple #[.agg (parse s).1.cells.toArray, .bool (parse s).2]) (fun _ => True) (fun _ => [F]) := by
  have hn4 := natB_out (R4 s) 1 256 (by decide)
  refine Ct.walk Tryd.func166 rfl Tryd.ntmps166 rfl (fun w0 hw0 => ?_)
  change J _ [(0, _)] _ _ _
  refine J.seq (fun K1 hK1 => ?_)
  refine J.region ?_
  refine J.e (op_alloc rfl Tryd.zeroValue198 rfl) rfl rfl rfl ?_
  intro g2 _
  change J _ _ _ [F, blk g2 _ 198] _
  refine J.y (op_assign rfl rfl) rfl rfl rfl ?_
  refine J.nil ?_
  refine J.then_n (J.k hK1 ?_)
  refine J.keepE [(0, _), (2, _)] ⟨rfl, rfl, trivial⟩ ?_
  refine J.seq (fun K2 hK2 => ?_)
  refine J.seq (fun K3 hK3 => ?_)
  refine J.draw [F] [] (.y 0 (.y 1 (.y 3 (.y 4 (.e 2 (.y 5 .nil)))))) Tryd.wide (by decide +kernel) (by simp) ?_
  refine J.dy rfl (op_move rfl rfl) rfl rfl rfl rfl ?_
  refine J.dy rfl ((op_sslice (l := 0) (h := 56) Tryd.underlying9 rfl rfl rfl rfl ⟨by omega, by omega⟩).as (v' := Str (s.take 56)) (congrArg Str List.drop_zero)) rfl rfl rfl rfl ?_
  refine J.dy rfl (op_move rfl rfl) rfl rfl rfl rfl ?_
  refine J.dy rfl ((op_sslice (l := 56) (h := s.length) Tryd.underlying9 rfl rfl rfl rfl ⟨by omega, by omega⟩).as (v' := Str (s.drop 56)) (by rw [List.take_length])) rfl rfl rfl rfl ?_
  refine J.de rfl (op_call rfl rfl ent170 (Ct.use0 (fun F' hF => bsum_ct F' (hK.mono (hF _ (by simp))) (s.take 56) (by rw [List.length_take]; omega)))) rfl rfl rfl (by simp) ?_
  intro g9 _
  refine J.dy rfl (op_sne rfl rfl rfl) rfl rfl rfl rfl ?_
  refine J.dnil ?_
  refine J.then_n (J.k hK3 ?_)
  refine J.keepE [(0, _), (2, _), (12, _)] ⟨rfl, rfl, rfl, trivial⟩ ?_
  refine J.ite rfl (fun h12 => ?_) (fun h12 => ?_)
  ·
    refine J.seq (fun K4 hK4 => ?_)
    refine J.region ?_
    refine J.y (op_buildStruct (l := []) (vs := []) (places := [(0, 1), (1, 1), (2, 1), (3, 1), (4, 1), (5, 1)]) (r := [W64 0, W64 0, I 0, I 0, Str [], Str []]) rfl rfl rfl Tryd.underlying198 Tryd.zeroValue198 (fun _ => by kernel_rfl) rfl) rfl rfl rfl ?_
    refine J.s (op_storeAll (l := noPrt.cells) (i := 1) (vs := noPrt.cells) rfl rfl rfl rfl rfl Tryd.sizeOf198 rfl rfl) rfl rfl (fun _ _ => ?_)
    change J _ _ _ [F, blk g2 noPrt.cells 198] _
    refine J.y (op_assign rfl rfl) rfl rfl rfl ?_
    refine J.nil ?_
    refine J.then_n (J.k hK4 ?_)
    refine J.keepE [(2, _), (3, _)] ⟨rfl, rfl, trivial⟩ ?_
    refine J.ret ?_
    refine J.then_r ?_
    exact J.done hw0 (fun _ _ h => h) (rv2 rfl (RV.blkA 1 rfl rfl Tryd.isAgg198 Tryd.sizeOf198) rfl) (retOk () (by unfold parse; rw [if_neg (show ¬ bsum (s.take 56) = s.drop 56 from h12)]) trivial [0] rfl (by decide))
  ·
    refine J.skip ?_
    refine J.then_n (J.k hK2 ?_)
    refine J.keepE [(0, _), (2, _)] ⟨rfl, rfl, trivial⟩ ?_
    refine J.seq (fun K5 hK5 => ?_)
    refine J.region ?_
    refine J.y (op_move rfl rfl) rfl rfl rfl ?_
    refine J.y ((op_sslice (l := 0) (h := 56) Tryd.underlying9 rfl rfl rfl rfl ⟨by omega, by omega⟩).as (v' := Str (s.take 56)) (congrArg Str List.drop_zero)) rfl rfl rfl ?_
    refine J.e (op_call rfl rfl ent187 (Ct.use (new := fun g => [RSb g (R0 s)]) (fun F' _ => (read_ct F' (s.take 56)).mono (φ2 := fun _ => True) (val2 := Ptr) (ms2 := fun g => F' :: [RSb g (R0 s)]) id (fun _ _ => rfl) (fun _ h => h) (fun x w0 w _ h => h.pick [1, 0] (by decide))))) rfl rfl rfl ?_
    rintro g16 _
    change J _ _ _ [F, blk g2 _ 198, RSb g16 (R0 s)] _
    refine J.y (op_assign rfl rfl) rfl rfl rfl ?_
    refine J.nil ?_
    refine J.then_n (J.k hK5 ?_)
    refine J.keepE [(0, _), (2, _), (4, _)] ⟨rfl, rfl, rfl, trivial⟩ ?_
    refine J.seq (fun K6 hK6 => ?_)
    refine J.region ?_
    refine J.y (op_move rfl rfl) rfl rfl rfl ?_
    refine J.e (op_call rfl rfl ent188 (Ct.use1 2 (m' := fun _ : Unit => RSb g16 (R1 s)) (new := fun _ => []) rfl (fun F' _ => rnum_ct F' g16 (R0 s) 4 (by omega) (by omega)))) rfl rfl rfl ?_
    intro g18 _
    change J _ _ _ [F, blk g2 _ 198, RSb g16 (R1 s)] _
    rw [N_W (show natB ((R0 s).out 4) < 18446744073709551616 from Nat.lt_of_lt_of_le (natB_out _ 4 (256 ^ 4) (Nat.le_refl _)) (by decide))]
    refine J.y (op_move rfl rfl) rfl rfl rfl ?_
    refine J.e (op_call rfl rfl ent188 (Ct.use1 2 (m' := fun _ : Unit => RSb g16 (R2 s)) (new := fun _ => []) rfl (fun F' _ => rnum_ct F' g16 (R1 s) 2 (by omega) (by omega)))) rfl rfl rfl ?_
    intro g20 _
    change J _ _ _ [F, blk g2 _ 198, RSb g16 (R2 s)] _
    rw [N_W (show natB ((R1 s).out 2) < 18446744073709551616 from Nat.lt_of_lt_of_le (natB_out _ 2 (256 ^ 2) (Nat.le_refl _)) (by decide))]
    refine J.y (op_move rfl rfl) rfl rfl rfl ?_
    refine J.e (op_call rfl rfl ent188 (Ct.use1 2 (m' := fun _ : Unit => RSb g16 (R3 s)) (new := fun _ => []) rfl (fun F' _ => rnum_ct F' g16 (R2 s) 1 (by omega) (by omega)))) rfl rfl rfl ?_
    intro g22 _
    change J _ _ _ [F, blk g2 _ 198, RSb g16 (R3 s)] _
    refine J.y (op_cvU_toI rfl rfl Tryd.underlying134 Tryd.underlying3 (by have := natB_out (R2 s) 1 256 (by decide); omega)) rfl rfl rfl ?_
    refine J.y (op_move rfl rfl) rfl rfl rfl ?_
    refine J.e (op_call rfl rfl ent188 (Ct.use1 2 (m' := fun _ : Unit => RSb g16 (R4 s)) (new := fun _ => []) rfl (fun F' _ => rnum_ct F' g16 (R3 s) 1 (by omega) (by omega)))) rfl rfl rfl ?_
    intro g25 _
    change J _ _ _ [F, blk g2 _ 198, RSb g16 (R4 s)] _
    refine J.y (op_cvU_toI rfl rfl Tryd.underlying134 Tryd.underlying3 (by have := natB_out (R3 s) 1 256 (by decide); omega)) rfl rfl rfl ?_
    refine J.y (op_buildStruct (l := [(0, .tmp 18), (1, .tmp 20), (2, .tmp 23), (3, .tmp 26)]) (vs := [W64 (rdp s).turn, W64 (rdp s).num, I (rdp s).at_, I (rdp s).all]) (places := [(0, 1), (1, 1), (2, 1), (3, 1), (4, 1), (5, 1)]) (r := [W64 (rdp s).turn, W64 (rdp s).num, I (rdp s).at_, I (rdp s).all, Str [], Str []]) rfl rfl rfl Tryd.underlying198 Tryd.zeroValue198 (fun _ => by kernel_rfl) rfl) rfl rfl rfl ?_
    refine J.e (op_alloc rfl Tryd.zeroValue198 rfl) rfl rfl rfl ?_
    intro g5 _
    change J _ _ _ [F, blk g2 _ 198, RSb g16 (R4 s), blk g5 _ 198] _
    refine J.s (op_storeAll (l := noPrt.cells) (i := 3) (vs := [W64 (rdp s).turn, W64 (rdp s).num, I (rdp s).at_, I (rdp s).all, Str [], Str []]) rfl rfl rfl rfl rfl Tryd.sizeOf198 rfl rfl) rfl rfl (fun _ _ => ?_)
    change J _ _ _ [F, blk g2 _ 198, RSb g16 (R4 s), blk g5 [W64 (rdp s).turn, W64 (rdp s).num, I (rdp s).at_, I (rdp s).all, Str [], Str []] 198] _
    refine J.nil ?_
    refine J.then_n (J.k hK6 ?_)
    refine J.keepE [(0, _), (2, _), (4, _), (5, _)] ⟨rfl, rfl, rfl, rfl, trivial⟩ ?_
    refine J.seq (fun K7 hK7 => ?_)
    refine J.region ?_
    refine J.y (op_move rfl rfl) rfl rfl rfl ?_
    refine J.e (op_call rfl rfl ent188 (Ct.use1 2 (m' := fun _ : Unit => RSb g16 (R5 s)) (new := fun _ => []) rfl (fun F' _ => rnum_ct F' g16 (R4 s) 1 (by omega) (by omega)))) rfl rfl rfl ?_
    intro g29 _
    change J _ _ _ [F, blk g2 _ 198, RSb g16 (R5 s), blk g5 [W64 (rdp s).turn, W64 (rdp s).num, I (rdp s).at_, I (rdp s).all, Str [], Str []] 198] _
    refine J.y (op_cvU_toI rfl rfl Tryd.underlying134 Tryd.underlying3 (by omega)) rfl rfl rfl ?_
    refine J.y (op_assign rfl rfl) rfl rfl rfl ?_
    refine J.nil ?_
    refine J.then_n (J.k hK7 ?_)
    refine J.keepE [(0, _), (2, _), (4, _), (5, _), (6, _)] ⟨rfl, rfl, rfl, rfl, rfl, trivial⟩ ?_
    refine J.seq (fun K8 hK8 => ?_)
    refine J.region ?_
    refine J.y (op_move rfl rfl) rfl rfl rfl ?_
    refine J.e (op_call rfl rfl ent189 (Ct.use1 2 (m' := fun _ : Unit => RSb g16 (R6 s)) (new := fun _ => []) rfl (fun F' _ => rfixed_ct F' g16 (R5 s) 8))) rfl rfl rfl ?_
    intro g32 _
    change J _ _ _ [F, blk g2 _ 198, RSb g16 (R6 s), blk g5 [W64 (rdp s).turn, W64 (rdp s).num, I (rdp s).at_, I (rdp s).all, Str [], Str []] 198] _
    refine J.y (op_fieldAddr (j := 4) rfl rfl Tryd.underlying198 rfl Tryd.sizeOf9 rfl) rfl rfl rfl ?_
    refine J.s (op_store (i := 3) (vs := [Str (rdp s).name]) rfl rfl rfl rfl rfl Tryd.sizeOf9 rfl (by simp)) rfl rfl (fun _ _ => ?_)
    change J _ _ _ [F, blk g2 _ 198, RSb g16 (R6 s), blk g5 [W64 (rdp s).turn, W64 (rdp s).num, I (rdp s).at_, I (rdp s).all, Str (rdp s).name, Str []] 198] _
    refine J.nil ?_
    refine J.then_n (J.k hK8 ?_)
    refine J.keepE [(0, _), (2, _), (4, _), (5, _), (6, _)] ⟨rfl, rfl, rfl, rfl, rfl, trivial⟩ ?_
    refine J.seq (fun K9 hK9 => ?_)
    refine J.region ?_
    refine J.y (op_move rfl rfl) rfl rfl rfl ?_
    refine J.y (op_move rfl rfl) rfl rfl rfl ?_
    refine J.y ((op_min rfl rfl rfl).as (v' := I (conN s : Nat)) (congrArg I (by unfold conN; omega))) rfl rfl rfl ?_
    refine J.e (op_call rfl rfl ent189 (Ct.use1 2 (m' := fun _ : Unit => RSb g16 ((R6 s).take (conN s))) (new := fun _ => []) rfl (fun F' _ => rfixed_ct F' g16 (R6 s) (conN s)))) rfl rfl rfl ?_
    intro g37 _
    change J _ _ _ [F, blk g2 _ 198, RSb g16 ((R6 s).take (conN s)), blk g5 [W64 (rdp s).turn, W64 (rdp s).num, I (rdp s).at_, I (rdp s).all, Str (rdp s).name, Str []] 198] _
    refine J.y (op_fieldAddr (j := 5) rfl rfl Tryd.underlying198 rfl Tryd.sizeOf9 rfl) rfl rfl rfl ?_
    refine J.s (op_store (i := 3) (vs := [Str (rdp s).con]) rfl rfl rfl rfl rfl Tryd.sizeOf9 rfl (by simp)) rfl rfl (fun _ _ => ?_)
    change J _ _ _ [F, blk g2 _ 198, RSb g16 ((R6 s).take (conN s)), blk g5 (rdp s).cells 198] _
    refine J.nil ?_
    refine J.then_n (J.k hK9 ?_)
    refine J.keepE [(0, _), (2, _), (5, _)] ⟨rfl, rfl, rfl, trivial⟩ ?_
    refine J.seq (fun K10 hK10 => ?_)
    refine J.draw [F, blk g5 (rdp s).cells 198] [5, 6, 100003, 100004] (.y 0 (.y 1 (.y 3 (.e 2 (.y 4 (.e 5 (.e 6 .nil))))))) Tryd.wide (by decide +kernel) (by simp) ?_
    refine J.dy rfl (op_loadBA 1 rfl rfl rfl Tryd.isAgg198 Tryd.sizeOf198 rfl) rfl rfl rfl rfl ?_
    refine J.dy rfl (op_loadBA 1 rfl rfl rfl Tryd.isAgg198 Tryd.sizeOf198 rfl) rfl rfl rfl rfl ?_
    refine J.dyF rfl (op_move rfl rfl) rfl rfl rfl ?_
    refine J.de rfl (op_call rfl rfl ent141 (Ct.use0 (fun F' hF => ptext_ct F' (hK.mono (hF _ (by simp))) (rdp s) (rdp_ok s)))) rfl rfl rfl (by simp) ?_
    intro g41 _
    refine J.dyF rfl (op_seq rfl rfl rfl) rfl rfl rfl ?_
    refine J.ds rfl (op_storeAll (l := noPrt.cells) (i := 1) (vs := (rdp s).cells) rfl rfl rfl rfl rfl Tryd.sizeOf198 rfl rfl) rfl rfl rfl (fun _ _ => ?_)
    change J _ _ _ [F, blk g2 (rdp s).cells 198, RSb g16 ((R6 s).take (conN s)), blk g5 (rdp s).cells 198] _
    refine J.dt rfl (YOp.eop (op_assign rfl rfl)) rfl rfl rfl rfl ?_
    intro _ _
    refine J.dnil ?_
    refine J.then_n (J.k hK10 ?_)
    refine J.keepE [(2, _), (3, _)] ⟨rfl, rfl, trivial⟩ ?_
    refine J.ret ?_
    exact J.done hw0 (fun _ _ h => h) (rv2 rfl (RV.blkA 1 rfl rfl Tryd.isAgg198 Tryd.sizeOf198) rfl) (retOk () (by unfold parse; rw [if_pos (show bsum (s.take 56) = s.drop 56 from Decidable.not_not.1 h12)]) trivial [0] rfl (by decide))

theorem zero_part : (parse (List.replicate 64 0)).2 = false ∨ (parse (List.replicate 64 0)).1.turn = 0 := by
  unfold parse
  split
  · right
    show UInt64.ofNat (natB ((R0 (List.replicate 64 0)).out 4)) = 0
    decide
  · exact .inl rfl

theorem record0t_ct (F : Hp) (hK : Cells F ⟨4, 0, none⟩ (Sha.K.map W32)) (gh : Option Addr) (A : Option Addr) (n c : Nat) (ls : List (List UInt8)) (hl : Sl F 1 A n c (strsV ls)) (hn : 0 < n) (s : List UInt8) (hs : ls[0]? = some s) (h64 : s.length = 64) (hok : (parse s).2 = true) (ht : (parse s).1.turn = 0) :
    Ct Tryd.prog 138 [.pointer gh, .slice A n c] [F] (fun _ : Unit => .tuple #[.int .u64 0, Str [], I 0, .bool false]) (fun _ => True) (fun _ => [F]) := by
  refine Ct.walk Tryd.func138 rfl Tryd.ntmps138 rfl (fun w0 hw0 => ?_)
  change J _ [(0, _), (1, _)] _ _ _
  refine J.seq (fun K1 hK1 => ?_)
  refine J.region ?_
  refine J.y (op_assign rfl rfl) rfl rfl rfl ?_
  refine J.y (op_assign rfl rfl) rfl rfl rfl ?_
  refine J.y (op_assign rfl rfl) rfl rfl rfl ?_
  refine J.y (op_assign rfl rfl) rfl rfl rfl ?_
  refine J.nil ?_
  refine J.then_n (J.k hK1 ?_)
  refine J.keepE [(0, _), (1, _)] ⟨rfl, rfl, trivial⟩ ?_
  refine J.seq (fun K2 hK2 => ?_)
  refine J.region ?_
  refine J.y (op_move rfl rfl) rfl rfl rfl ?_
  refine J.y (op_indexAddr (i := 0) rfl rfl rfl Tryd.underlying36 Tryd.sizeOf9 hl hn) rfl rfl rfl ?_
  refine J.y (op_load rfl rfl Tryd.isAgg9 (m := F) (by simp) (hl.elem (strsV_get hs))) rfl rfl rfl ?_
  refine J.e (op_call rfl rfl ent166 (Ct.use0 (fun F' hF => parse_ct F' (hK.mono (hF _ (by simp))) s h64))) rfl rfl rfl ?_
  intro g18 _
  refine J.y (op_move rfl rfl) rfl rfl rfl ?_
  refine J.y (op_extract (v := .agg (parse s).1.cells.toArray) rfl rfl rfl) rfl rfl rfl ?_
  refine J.y ((op_extract (v := .bool (parse s).2) rfl rfl rfl).as (v' := .bool true) (by rw [hok])) rfl rfl rfl ?_
  refine J.e (op_alloc rfl Tryd.zeroValue198 rfl) rfl rfl rfl ?_
  intro g8 _
  change J _ _ _ [F, blk g8 _ 198] _
  refine J.s (op_storeAll (l := noPrt.cells) (i := 1) (vs := (parse s).1.cells) rfl rfl rfl rfl rfl Tryd.sizeOf198 rfl rfl) rfl rfl (fun _ _ => ?_)
  change J _ _ _ [F, blk g8 (parse s).1.cells 198] _
  refine J.y (op_assign rfl rfl) rfl rfl rfl ?_
  refine J.nil ?_
  refine J.then_n (J.k hK2 ?_)
  refine J.keepE [(0, _), (1, _), (8, _), (9, _)] ⟨rfl, rfl, rfl, rfl, trivial⟩ ?_
  refine J.seq (fun K3 hK3 => ?_)
  refine J.seq (fun K4 hK4 => ?_)
  refine J.draw [blk g8 (parse s).1.cells 198] [] (.y 0 (.y 1 (.y 2 (.y 3 (.y 4 (.y 5 (.y 6 (.y 7 (.y 8 (.y 9 (.y 10 (.y 11 (.y 12 (.y 13 (.y 14 (.y 15 (.y 16 (.y 17 (.y 18 (.y 19 (.y 20 (.y 21 (.y 22 (.y 23 (.y 24 (.y 25 (.y 26 (.y 27 (.y 28 (.y 29 (.y 30 (.y 31 (.y 32 (.y 33 (.y 34 (.y 35 (.y 36 (.y 37 (.y 38 (.y 39 (.y 40 (.y 41 (.y 42 (.y 43 (.y 44 (.y 45 (.y 46 .nil))))))))))))))))))))))))))))))))))))))))))))))) Tryd.wide (by decide +kernel) (by simp) ?_
  refine J.dy rfl (op_move rfl rfl) rfl rfl rfl rfl ?_
  refine J.dy rfl ((op_not rfl rfl).as (v' := .bool false) rfl) rfl rfl rfl rfl ?_
  refine J.dy rfl (op_move rfl rfl) rfl rfl rfl rfl ?_
  refine J.dyg rfl (op_fieldAddr (j := 2) rfl rfl Tryd.underlying198 rfl Tryd.sizeOf3 rfl) (Wan.is rfl rfl rfl rfl rfl) rfl rfl rfl ?_
  refine J.dyg rfl (op_loadB 0 rfl rfl rfl Tryd.isAgg3 rfl) (Wan.is rfl rfl rfl rfl rfl) rfl rfl rfl ?_
  refine J.dyg rfl (op_neq rfl rfl rfl) (Wan.is rfl rfl rfl rfl rfl) rfl rfl rfl ?_
  refine J.dy rfl (op_pickF rfl rfl rfl) rfl rfl rfl rfl ?_
  refine J.dy rfl (op_move rfl rfl) rfl rfl rfl rfl ?_
  refine J.split (d := 28) rfl (fun h28 => ?_) (fun h28 => ?_)
  ·
    refine J.dno rfl (Wan.is rfl rfl rfl rfl rfl) rfl rfl ?_
    refine J.dno rfl (Wan.is rfl rfl rfl rfl rfl) rfl rfl ?_
    refine J.dno rfl (Wan.is rfl rfl rfl rfl rfl) rfl rfl ?_
    refine J.dy rfl (op_pickT rfl rfl rfl) rfl rfl rfl rfl ?_
    refine J.dy rfl (op_move rfl rfl) rfl rfl rfl rfl ?_
    refine J.dno rfl (Wan.is rfl rfl rfl rfl rfl) rfl rfl ?_
    refine J.dno rfl (Wan.is rfl rfl rfl rfl rfl) rfl rfl ?_
    refine J.dno rfl (Wan.is rfl rfl rfl rfl rfl) rfl rfl ?_
    refine J.dno rfl (Wan.is rfl rfl rfl rfl rfl) rfl rfl ?_
    refine J.dno rfl (Wan.is rfl rfl rfl rfl rfl) rfl rfl ?_
    refine J.dno rfl (Wan.is rfl rfl rfl rfl rfl) rfl rfl ?_
    refine J.dno rfl (Wan.is rfl rfl rfl rfl rfl) rfl rfl ?_
    refine J.dno rfl (Wan.is rfl rfl rfl rfl rfl) rfl rfl ?_
    refine J.dno rfl (Wan.is rfl rfl rfl rfl rfl) rfl rfl ?_
    refine J.dy rfl (op_pickT rfl rfl rfl) rfl rfl rfl rfl ?_
    refine J.dy rfl (op_move rfl rfl) rfl rfl rfl rfl ?_
    refine J.dno rfl (Wan.is rfl rfl rfl rfl rfl) rfl rfl ?_
    refine J.dno rfl (Wan.is rfl rfl rfl rfl rfl) rfl rfl ?_
    refine J.dno rfl (Wan.is rfl rfl rfl rfl rfl) rfl rfl ?_
    refine J.dno rfl (Wan.is rfl rfl rfl rfl rfl) rfl rfl ?_
    refine J.dno rfl (Wan.is rfl rfl rfl rfl rfl) rfl rfl ?_
    refine J.dy rfl (op_pickT rfl rfl rfl) rfl rfl rfl rfl ?_
    refine J.dy rfl (op_move rfl rfl) rfl rfl rfl rfl ?_
    refine J.dno rfl (Wan.is rfl rfl rfl rfl rfl) rfl rfl ?_
    refine J.dno rfl (Wan.is rfl rfl rfl rfl rfl) rfl rfl ?_
    refine J.dno rfl (Wan.is rfl rfl rfl rfl rfl) rfl rfl ?_
    refine J.dno rfl (Wan.is rfl rfl rfl rfl rfl) rfl rfl ?_
    refine J.dno rfl (Wan.is rfl rfl rfl rfl rfl) rfl rfl ?_
    refine J.dno rfl (Wan.is rfl rfl rfl rfl rfl) rfl rfl ?_
    refine J.dno rfl (Wan.is rfl rfl rfl rfl rfl) rfl rfl ?_
    refine J.dno rfl (Wan.un rfl rfl rfl rfl) rfl rfl ?_
    refine J.dno rfl (Wan.un rfl rfl rfl rfl) rfl rfl ?_
    refine J.dno rfl (Wan.un rfl rfl rfl rfl) rfl rfl ?_
    refine J.dno rfl (Wan.un rfl rfl rfl rfl) rfl rfl ?_
    refine J.dno rfl (Wan.un rfl rfl rfl rfl) rfl rfl ?_
    refine J.dno rfl (Wan.un rfl rfl rfl rfl) rfl rfl ?_
    refine J.dno rfl (Wan.un rfl rfl rfl rfl) rfl rfl ?_
    refine J.dno rfl (Wan.is rfl rfl rfl rfl rfl) rfl rfl ?_
    refine J.dy rfl (op_pickT rfl rfl rfl) rfl rfl rfl rfl ?_
    refine J.dnil ?_
    refine J.then_n (J.k hK4 ?_)
    refine J.keepE [(1, _), (8, _), (67, _)] ⟨rfl, rfl, rfl, trivial⟩ ?_
    refine J.condT rfl rfl ?_
    refine J.seq (fun K5 hK5 => ?_)
    refine J.region ?_
    refine J.y (op_assign rfl rfl) rfl rfl rfl ?_
    refine J.y (op_assign rfl rfl) rfl rfl rfl ?_
    refine J.y (op_assign rfl rfl) rfl rfl rfl ?_
    refine J.y (op_assign rfl rfl) rfl rfl rfl ?_
    refine J.nil ?_
    refine J.then_n (J.k hK5 ?_)
    refine J.keepE [(4, _), (5, _), (6, _), (7, _)] ⟨rfl, rfl, rfl, rfl, trivial⟩ ?_
    refine J.ret ?_
    refine J.then_r ?_
    exact J.done hw0 (fun _ _ h => h) (res4 rfl rfl rfl rfl rfl) (retOk () rfl trivial [0] rfl (by decide))
  ·
    refine J.dyg rfl (op_fieldAddr (j := 0) rfl rfl Tryd.underlying198 rfl Tryd.sizeOf134 rfl) (Wan.is rfl rfl rfl rfl rfl) rfl rfl rfl ?_
    refine J.dyg rfl (op_loadB 0 rfl rfl rfl Tryd.isAgg134 rfl) (Wan.is rfl rfl rfl rfl rfl) rfl rfl rfl ?_
    refine J.dyg rfl ((op_eql rfl rfl rfl).as (v' := .bool true) (by rw [ht]; rfl)) (Wan.is rfl rfl rfl rfl rfl) rfl rfl rfl ?_
    refine J.dy rfl (op_pickF rfl rfl rfl) rfl rfl rfl rfl ?_
    refine J.dy rfl (op_move rfl rfl) rfl rfl rfl rfl ?_
    refine J.dno rfl (Wan.is rfl rfl rfl rfl rfl) rfl rfl ?_
    refine J.dno rfl (Wan.is rfl rfl rfl rfl rfl) rfl rfl ?_
    refine J.dno rfl (Wan.is rfl rfl rfl rfl rfl) rfl rfl ?_
    refine J.dno rfl (Wan.is rfl rfl rfl rfl rfl) rfl rfl ?_
    refine J.dno rfl (Wan.is rfl rfl rfl rfl rfl) rfl rfl ?_
    refine J.dno rfl (Wan.is rfl rfl rfl rfl rfl) rfl rfl ?_
    refine J.dno rfl (Wan.is rfl rfl rfl rfl rfl) rfl rfl ?_
    refine J.dno rfl (Wan.is rfl rfl rfl rfl rfl) rfl rfl ?_
    refine J.dno rfl (Wan.is rfl rfl rfl rfl rfl) rfl rfl ?_
    refine J.dy rfl (op_pickT rfl rfl rfl) rfl rfl rfl rfl ?_
    refine J.dy rfl (op_move rfl rfl) rfl rfl rfl rfl ?_
    refine J.dno rfl (Wan.is rfl rfl rfl rfl rfl) rfl rfl ?_
    refine J.dno rfl (Wan.is rfl rfl rfl rfl rfl) rfl rfl ?_
    refine J.dno rfl (Wan.is rfl rfl rfl rfl rfl) rfl rfl ?_
    refine J.dno rfl (Wan.is rfl rfl rfl rfl rfl) rfl rfl ?_
    refine J.dno rfl (Wan.is rfl rfl rfl rfl rfl) rfl rfl ?_
    refine J.dy rfl (op_pickT rfl rfl rfl) rfl rfl rfl rfl ?_
    refine J.dy rfl (op_move rfl rfl) rfl rfl rfl rfl ?_
    refine J.dno rfl (Wan.is rfl rfl rfl rfl rfl) rfl rfl ?_
    refine J.dno rfl (Wan.is rfl rfl rfl rfl rfl) rfl rfl ?_
    refine J.dno rfl (Wan.is rfl rfl rfl rfl rfl) rfl rfl ?_
    refine J.dno rfl (Wan.is rfl rfl rfl rfl rfl) rfl rfl ?_
    refine J.dno rfl (Wan.is rfl rfl rfl rfl rfl) rfl rfl ?_
    refine J.dno rfl (Wan.is rfl rfl rfl rfl rfl) rfl rfl ?_
    refine J.dno rfl (Wan.is rfl rfl rfl rfl rfl) rfl rfl ?_
    refine J.dno rfl (Wan.un rfl rfl rfl rfl) rfl rfl ?_
    refine J.dno rfl (Wan.un rfl rfl rfl rfl) rfl rfl ?_
    refine J.dno rfl (Wan.un rfl rfl rfl rfl) rfl rfl ?_
    refine J.dno rfl (Wan.un rfl rfl rfl rfl) rfl rfl ?_
    refine J.dno rfl (Wan.un rfl rfl rfl rfl) rfl rfl ?_
    refine J.dno rfl (Wan.un rfl rfl rfl rfl) rfl rfl ?_
    refine J.dno rfl (Wan.un rfl rfl rfl rfl) rfl rfl ?_
    refine J.dno rfl (Wan.is rfl rfl rfl rfl rfl) rfl rfl ?_
    refine J.dy rfl (op_pickT rfl rfl rfl) rfl rfl rfl rfl ?_
    refine J.dnil ?_
    refine J.then_n (J.k hK4 ?_)
    refine J.keepE [(1, _), (8, _), (67, _)] ⟨rfl, rfl, rfl, trivial⟩ ?_
    refine J.condT rfl rfl ?_
    refine J.seq (fun K6 hK6 => ?_)
    refine J.region ?_
    refine J.y (op_assign rfl rfl) rfl rfl rfl ?_
    refine J.y (op_assign rfl rfl) rfl rfl rfl ?_
    refine J.y (op_assign rfl rfl) rfl rfl rfl ?_
    refine J.y (op_assign rfl rfl) rfl rfl rfl ?_
    refine J.nil ?_
    refine J.then_n (J.k hK6 ?_)
    refine J.keepE [(4, _), (5, _), (6, _), (7, _)] ⟨rfl, rfl, rfl, rfl, trivial⟩ ?_
    refine J.ret ?_
    refine J.then_r ?_
    exact J.done hw0 (fun _ _ h => h) (res4 rfl rfl rfl rfl rfl) (retOk () rfl trivial [0] rfl (by decide))

theorem record0f_ct (F : Hp) (hK : Cells F ⟨4, 0, none⟩ (Sha.K.map W32)) (gh : Option Addr) (A : Option Addr) (n c : Nat) (ls : List (List UInt8)) (hl : Sl F 1 A n c (strsV ls)) (hn : 0 < n) (s : List UInt8) (hs : ls[0]? = some s) (h64 : s.length = 64) (hok : (parse s).2 = false) :
    Ct Tryd.prog 138 [.pointer gh, .slice A n c] [F] (fun _ : Unit => .tuple #[.int .u64 0, Str [], I 0, .bool false]) (fun _ => True) (fun _ => [F]) := by
  refine Ct.walk Tryd.func138 rfl Tryd.ntmps138 rfl (fun w0 hw0 => ?_)
  change J _ [(0, _), (1, _)] _ _ _
  refine J.seq (fun K1 hK1 => ?_)
  refine J.region ?_
  refine J.y (op_assign rfl rfl) rfl rfl rfl ?_
  refine J.y (op_assign rfl rfl) rfl rfl rfl ?_
  refine J.y (op_assign rfl rfl) rfl rfl rfl ?_
  refine J.y (op_assign rfl rfl) rfl rfl rfl ?_
  refine J.nil ?_
  refine J.then_n (J.k hK1 ?_)
  refine J.keepE [(0, _), (1, _)] ⟨rfl, rfl, trivial⟩ ?_
  refine J.seq (fun K2 hK2 => ?_)
  refine J.region ?_
  refine J.y (op_move rfl rfl) rfl rfl rfl ?_
  refine J.y (op_indexAddr (i := 0) rfl rfl rfl Tryd.underlying36 Tryd.sizeOf9 hl hn) rfl rfl rfl ?_
  refine J.y (op_load rfl rfl Tryd.isAgg9 (m := F) (by simp) (hl.elem (strsV_get hs))) rfl rfl rfl ?_
  refine J.e (op_call rfl rfl ent166 (Ct.use0 (fun F' hF => parse_ct F' (hK.mono (hF _ (by simp))) s h64))) rfl rfl rfl ?_
  intro g18 _
  refine J.y (op_move rfl rfl) rfl rfl rfl ?_
  refine J.y (op_extract (v := .agg (parse s).1.cells.toArray) rfl rfl rfl) rfl rfl rfl ?_
  refine J.y ((op_extract (v := .bool (parse s).2) rfl rfl rfl).as (v' := .bool false) (by rw [hok])) rfl rfl rfl ?_
  refine J.e (op_alloc rfl Tryd.zeroValue198 rfl) rfl rfl rfl ?_
  intro g8 _
  change J _ _ _ [F, blk g8 _ 198] _
  refine J.s (op_storeAll (l := noPrt.cells) (i := 1) (vs := (parse s).1.cells) rfl rfl rfl rfl rfl Tryd.sizeOf198 rfl rfl) rfl rfl (fun _ _ => ?_)
  change J _ _ _ [F, blk g8 (parse s).1.cells 198] _
  refine J.y (op_assign rfl rfl) rfl rfl rfl ?_
  refine J.nil ?_
  refine J.then_n (J.k hK2 ?_)
  refine J.keepE [(0, _), (1, _), (8, _), (9, _)] ⟨rfl, rfl, rfl, rfl, trivial⟩ ?_
  refine J.seq (fun K3 hK3 => ?_)
  refine J.seq (fun K4 hK4 => ?_)
  refine J.draw [blk g8 (parse s).1.cells 198] [] (.y 0 (.y 1 (.y 2 (.y 3 (.y 4 (.y 5 (.y 6 (.y 7 (.y 8 (.y 9 (.y 10 (.y 11 (.y 12 (.y 13 (.y 14 (.y 15 (.y 16 (.y 17 (.y 18 (.y 19 (.y 20 (.y 21 (.y 22 (.y 23 (.y 24 (.y 25 (.y 26 (.y 27 (.y 28 (.y 29 (.y 30 (.y 31 (.y 32 (.y 33 (.y 34 (.y 35 (.y 36 (.y 37 (.y 38 (.y 39 (.y 40 (.y 41 (.y 42 (.y 43 (.y 44 (.y 45 (.y 46 .nil))))))))))))))))))))))))))))))))))))))))))))))) Tryd.wide (by decide +kernel) (by simp) ?_
  refine J.dy rfl (op_move rfl rfl) rfl rfl rfl rfl ?_
  refine J.dy rfl ((op_not rfl rfl).as (v' := .bool true) rfl) rfl rfl rfl rfl ?_
  refine J.dy rfl (op_move rfl rfl) rfl rfl rfl rfl ?_
  refine J.dno rfl (Wan.is rfl rfl rfl rfl rfl) rfl rfl ?_
  refine J.dno rfl (Wan.is rfl rfl rfl rfl rfl) rfl rfl ?_
  refine J.dno rfl (Wan.is rfl rfl rfl rfl rfl) rfl rfl ?_
  refine J.dy rfl (op_pickT rfl rfl rfl) rfl rfl rfl rfl ?_
  refine J.dy rfl (op_move rfl rfl) rfl rfl rfl rfl ?_
  refine J.dno rfl (Wan.is rfl rfl rfl rfl rfl) rfl rfl ?_
  refine J.dno rfl (Wan.is rfl rfl rfl rfl rfl) rfl rfl ?_
  refine J.dno rfl (Wan.is rfl rfl rfl rfl rfl) rfl rfl ?_
  refine J.dy rfl (op_pickT rfl rfl rfl) rfl rfl rfl rfl ?_
  refine J.dy rfl (op_move rfl rfl) rfl rfl rfl rfl ?_
  refine J.dno rfl (Wan.is rfl rfl rfl rfl rfl) rfl rfl ?_
  refine J.dno rfl (Wan.is rfl rfl rfl rfl rfl) rfl rfl ?_
  refine J.dno rfl (Wan.is rfl rfl rfl rfl rfl) rfl rfl ?_
  refine J.dno rfl (Wan.is rfl rfl rfl rfl rfl) rfl rfl ?_
  refine J.dno rfl (Wan.is rfl rfl rfl rfl rfl) rfl rfl ?_
  refine J.dno rfl (Wan.is rfl rfl rfl rfl rfl) rfl rfl ?_
  refine J.dno rfl (Wan.is rfl rfl rfl rfl rfl) rfl rfl ?_
  refine J.dno rfl (Wan.is rfl rfl rfl rfl rfl) rfl rfl ?_
  refine J.dno rfl (Wan.is rfl rfl rfl rfl rfl) rfl rfl ?_
  refine J.dy rfl (op_pickT rfl rfl rfl) rfl rfl rfl rfl ?_
  refine J.dy rfl (op_move rfl rfl) rfl rfl rfl rfl ?_
  refine J.dno rfl (Wan.is rfl rfl rfl rfl rfl) rfl rfl ?_
  refine J.dno rfl (Wan.is rfl rfl rfl rfl rfl) rfl rfl ?_
  refine J.dno rfl (Wan.is rfl rfl rfl rfl rfl) rfl rfl ?_
  refine J.dno rfl (Wan.is rfl rfl rfl rfl rfl) rfl rfl ?_
  refine J.dno rfl (Wan.is rfl rfl rfl rfl rfl) rfl rfl ?_
  refine J.dy rfl (op_pickT rfl rfl rfl) rfl rfl rfl rfl ?_
  refine J.dy rfl (op_move rfl rfl) rfl rfl rfl rfl ?_
  refine J.dno rfl (Wan.is rfl rfl rfl rfl rfl) rfl rfl ?_
  refine J.dno rfl (Wan.is rfl rfl rfl rfl rfl) rfl rfl ?_
  refine J.dno rfl (Wan.is rfl rfl rfl rfl rfl) rfl rfl ?_
  refine J.dno rfl (Wan.is rfl rfl rfl rfl rfl) rfl rfl ?_
  refine J.dno rfl (Wan.is rfl rfl rfl rfl rfl) rfl rfl ?_
  refine J.dno rfl (Wan.is rfl rfl rfl rfl rfl) rfl rfl ?_
  refine J.dno rfl (Wan.is rfl rfl rfl rfl rfl) rfl rfl ?_
  refine J.dno rfl (Wan.un rfl rfl rfl rfl) rfl rfl ?_
  refine J.dno rfl (Wan.un rfl rfl rfl rfl) rfl rfl ?_
  refine J.dno rfl (Wan.un rfl rfl rfl rfl) rfl rfl ?_
  refine J.dno rfl (Wan.un rfl rfl rfl rfl) rfl rfl ?_
  refine J.dno rfl (Wan.un rfl rfl rfl rfl) rfl rfl ?_
  refine J.dno rfl (Wan.un rfl rfl rfl rfl) rfl rfl ?_
  refine J.dno rfl (Wan.un rfl rfl rfl rfl) rfl rfl ?_
  refine J.dno rfl (Wan.is rfl rfl rfl rfl rfl) rfl rfl ?_
  refine J.dy rfl (op_pickT rfl rfl rfl) rfl rfl rfl rfl ?_
  refine J.dnil ?_
  refine J.then_n (J.k hK4 ?_)
  refine J.keepE [(1, _), (8, _), (67, _)] ⟨rfl, rfl, rfl, trivial⟩ ?_
  refine J.condT rfl rfl ?_
  refine J.seq (fun K5 hK5 => ?_)
  refine J.region ?_
  refine J.y (op_assign rfl rfl) rfl rfl rfl ?_
  refine J.y (op_assign rfl rfl) rfl rfl rfl ?_
  refine J.y (op_assign rfl rfl) rfl rfl rfl ?_
  refine J.y (op_assign rfl rfl) rfl rfl rfl ?_
  refine J.nil ?_
  refine J.then_n (J.k hK5 ?_)
  refine J.keepE [(4, _), (5, _), (6, _), (7, _)] ⟨rfl, rfl, rfl, rfl, trivial⟩ ?_
  refine J.ret ?_
  refine J.then_r ?_
  exact J.done hw0 (fun _ _ h => h) (res4 rfl rfl rfl rfl rfl) (retOk () rfl trivial [0] rfl (by decide))

theorem record0_ct (F : Hp) (hK : Cells F ⟨4, 0, none⟩ (Sha.K.map W32)) (gh : Option Addr) (A : Option Addr) (n c : Nat) (ls : List (List UInt8)) (hl : Sl F 1 A n c (strsV ls)) (hn : 0 < n) (s : List UInt8) (hs : ls[0]? = some s) (h64 : s.length = 64) (hz : (parse s).2 = false ∨ (parse s).1.turn = 0) :
    Ct Tryd.prog 138 [.pointer gh, .slice A n c] [F] (fun _ : Unit => .tuple #[.int .u64 0, Str [], I 0, .bool false]) (fun _ => True) (fun _ => [F]) := by
  cases h : (parse s).2 with
  | false => exact record0f_ct F hK gh A n c ls hl hn s hs h64 h
  | true => exact record0t_ct F hK gh A n c ls hl hn s hs h64 h (hz.resolve_left (by rw [h]; decide))
def zS : List UInt8 := List.replicate 64 0
theorem zS_len : zS.length = 64 := List.length_replicate
theorem zS_part : (parse zS).2 = false ∨ (parse zS).1.turn = 0 := zero_part
theorem strsV_succ (n : Nat) (z : List UInt8) : strsV (List.replicate n z) ++ strsV [z] = strsV (List.replicate (n + 1) z) := by
  rw [List.replicate_succ', ← strsV_app9]

theorem bread0_ct (F : Hp) (hK : Cells F ⟨4, 0, none⟩ (Sha.K.map W32)) (gb gd : Nat) (first : Int) (size : Nat) (hat : Int) (hturn : UInt64) (hend : Int) (Ar : Option Addr) (nr cr : Nat) (bad : Bool) (hB : Cells F ⟨gb, 0, none⟩ [Ptr gd, I first, I (size : Nat), I hat, W64 hturn, I hend, .slice Ar nr cr, .bool bad]) (d : Dk) (A : Option Addr) (c : Nat) (B : Option Addr) (e : Nat) (C : Option Addr) (f : Nat) (hc : Cells F ⟨gd, 0, none⟩ (d.cells A c B e C f)) (hL : Sl F 1 A d.last.length c (strsV d.last)) (hW : Sl F 2 B d.wait.length e (writV d.wait)) (hn1 : d.last.length ≤ 1073741824) (hn2 : d.wait.length ≤ 1073741824)
    (at_ : Nat) (hs0 : 0 < size) (hs : at_ + size ≤ 1048576) (hz : ∀ i : Nat, i < size → d.ready ((at_ + i : Nat) : Int) = 0 ∧ d.read ((at_ + i : Nat) : Int) = zS) :
    Ct Tryd.prog 96 [Ptr gb, I (at_ : Nat)] [F] (fun _ : Unit => .tuple #[.agg #[I at_, W64 0, I 0, .slice none 0 0], I 0]) (fun _ => True) (fun _ => [F]) := by
  refine Ct.walk Tryd.func96 rfl Tryd.ntmps96 rfl (fun w0 hw0 => ?_)
  change J _ [(0, _), (1, _)] _ _ _
  refine J.seq (fun K1 hK1 => ?_)
  refine J.region ?_
  refine J.e (op_alloc rfl Tryd.zeroValue136 rfl) rfl rfl rfl ?_
  intro g4 _
  change J _ _ _ [F, blk g4 _ 136] _
  refine J.y (op_assign rfl rfl) rfl rfl rfl ?_
  refine J.nil ?_
  refine J.then_n (J.k hK1 ?_)
  refine J.keepE [(0, _), (1, _), (4, _)] ⟨rfl, rfl, rfl, trivial⟩ ?_
  refine J.seq (fun K2 hK2 => ?_)
  refine J.region ?_
  refine J.y (op_move rfl rfl) rfl rfl rfl ?_
  refine J.y (op_buildStruct (l := [(0, .tmp 15)]) (vs := [I (at_ : Nat)]) (places := [(0, 1), (1, 1), (2, 1), (3, 1)]) (r := [I at_, W64 0, I 0, .slice none 0 0]) rfl rfl rfl Tryd.underlying136 Tryd.zeroValue136 (fun _ => by kernel_rfl) rfl) rfl rfl rfl ?_
  refine J.e (op_alloc rfl Tryd.zeroValue136 rfl) rfl rfl rfl ?_
  intro g6 _
  change J _ _ _ [F, blk g4 _ 136, blk g6 _ 136] _
  refine J.s (op_storeAll (l := [I 0, W64 0, I 0, .slice none 0 0]) (i := 2) (vs := [I at_, W64 0, I 0, .slice none 0 0]) rfl rfl rfl rfl rfl Tryd.sizeOf136 rfl rfl) rfl rfl (fun _ _ => ?_)
  change J _ _ _ [F, blk g4 _ 136, blk g6 [I at_, W64 0, I 0, .slice none 0 0] 136] _
  refine J.nil ?_
  refine J.then_n (J.k hK2 ?_)
  refine J.keepE [(0, _), (1, _), (4, _), (6, _)] ⟨rfl, rfl, rfl, rfl, trivial⟩ ?_
  refine J.seq (fun K3 hK3 => ?_)
  refine J.region ?_
  refine J.y (op_assign rfl rfl) rfl rfl rfl ?_
  refine J.nil ?_
  refine J.then_n (J.k hK3 ?_)
  refine J.keepE [(0, _), (1, _), (4, _), (6, _), (7, _)] ⟨rfl, rfl, rfl, rfl, rfl, trivial⟩ ?_
  refine J.seq (fun K4 hK4 => ?_)
  refine J.seq (fun K5 hK5 => ?_)
  refine J.addEmpty [0, 1, 2, 3] [F, blk g4 _ 136, blk g6 [I at_, W64 0, I 0, .slice none 0 0] 136, (fun _ => none)] rfl (by decide) ?_
  refine J.region ?_
  refine J.y (op_move rfl rfl) rfl rfl rfl ?_
  refine J.y (op_nilCheck rfl rfl) rfl rfl rfl ?_
  refine J.y (op_fieldAddr (j := 2) rfl rfl Tryd.underlying138 rfl Tryd.sizeOf3 rfl) rfl rfl rfl ?_
  refine J.y (op_load rfl rfl Tryd.isAgg3 (m := F) (by simp) (hB.at (i := 2) rfl)) rfl rfl rfl ?_
  refine J.y (op_move rfl rfl) rfl rfl rfl ?_
  refine J.nil ?_
  refine J.then_n (J.k hK5 ?_)
  refine J.keepE [(0, _), (1, _), (4, _), (6, _), (7, _), (20, _), (21, _)] ⟨rfl, rfl, rfl, rfl, rfl, rfl, rfl, trivial⟩ ?_
  refine J.block ?_
  refine J.loop (X := Nat × Hp × Option Addr × Nat) (fun x => [(0, Ptr gb), (1, I (at_ : Nat)), (4, Ptr g4), (6, Ptr g6), (7, .slice x.2.2.1 x.1 x.2.2.2), (20, I (size : Nat)), (21, I x.1)]) (fun x => [F, blk g4 [I 0, W64 0, I 0, .slice none 0 0] 136, blk g6 [I at_, W64 0, I 0, .slice none 0 0] 136, x.2.1]) (fun x => x.1 ≤ size ∧ Row x.2.1 9 1 x.2.2.1 x.1 x.2.2.2 (strsV (List.replicate x.1 zS))) (fun x => size - x.1) (0, (fun _ => none), none, 0) (⟨Nat.zero_le _, RowQ.nil⟩) ⟨rfl, rfl, rfl, rfl, rfl, rfl, rfl, trivial⟩ (fun _ h => h) ?_
  rintro ⟨k, m, A7, c7⟩ ⟨hk, hr⟩ I0 hI0
  dsimp only at hk hr ⊢
  refine J.seq (fun K6 hK6 => ?_)
  refine J.region ?_
  refine J.y (op_lss rfl rfl rfl) rfl rfl rfl ?_
  refine J.nil ?_
  refine J.then_n (J.k hK6 ?_)
  refine J.keepE [(0, _), (1, _), (4, _), (6, _), (7, _), (20, _), (21, _), (22, _)] ⟨rfl, rfl, rfl, rfl, rfl, rfl, rfl, rfl, trivial⟩ ?_
  refine J.seq (fun K7 hK7 => ?_)
  refine J.ite rfl (fun h22 => ?_) (fun h22 => ?_)
  ·
    refine J.skip ?_
    refine J.then_n (J.k hK7 ?_)
    refine J.keepE [(0, _), (1, _), (4, _), (6, _), (7, _), (20, _), (21, _)] ⟨rfl, rfl, rfl, rfl, rfl, rfl, rfl, trivial⟩ ?_
    refine J.seq (fun K8 hK8 => ?_)
    refine J.block ?_
    refine J.seq (fun K9 hK9 => ?_)
    refine J.region ?_
    refine J.y (op_move rfl rfl) rfl rfl rfl ?_
    refine J.y (op_assign rfl rfl) rfl rfl rfl ?_
    refine J.nil ?_
    refine J.then_n (J.k hK9 ?_)
    refine J.keepE [(0, _), (1, _), (4, _), (6, _), (7, _), (8, _), (20, _), (21, _)] ⟨rfl, rfl, rfl, rfl, rfl, rfl, rfl, rfl, trivial⟩ ?_
    refine J.seq (fun K10 hK10 => ?_)
    refine J.region ?_
    refine J.y (op_move rfl rfl) rfl rfl rfl ?_
    refine J.y (op_nilCheck rfl rfl) rfl rfl rfl ?_
    refine J.y (op_fieldAddr (j := 0) rfl rfl Tryd.underlying138 rfl Tryd.sizeOf55 rfl) rfl rfl rfl ?_
    refine J.y (op_load rfl rfl Tryd.isAgg55 (m := F) (by simp) (hB.at (i := 0) rfl)) rfl rfl rfl ?_
    refine J.y (op_move rfl rfl) rfl rfl rfl ?_
    refine J.y (op_move rfl rfl) rfl rfl rfl ?_
    refine J.y ((op_add rfl rfl rfl (by omega)).as (v' := I ((at_ + k : Nat) : Int)) (congrArg I (by omega))) rfl rfl rfl ?_
    refine J.e (op_call rfl rfl ent137 (Ct.use0 (fun F' hF => sread_ct F' gd d A c B e C f (hc.mono (hF F (by simp))) (hL.mono (hF F (by simp))) (hW.mono (hF F (by simp))) ((at_ + k : Nat) : Int) hn1 hn2))) rfl rfl rfl ?_
    intro g32 _
    refine J.y (op_move rfl rfl) rfl rfl rfl ?_
    refine J.y ((op_extract (v := Str (d.read ((at_ + k : Nat) : Int))) rfl rfl rfl).as (v' := Str zS) (by rw [(hz k (by omega)).2])) rfl rfl rfl ?_
    refine J.y ((op_extract (v := I (d.ready ((at_ + k : Nat) : Int))) rfl rfl rfl).as (v' := I 0) (by rw [(hz k (by omega)).1])) rfl rfl rfl ?_
    refine J.y (op_assign rfl rfl) rfl rfl rfl ?_
    refine J.y (op_assign rfl rfl) rfl rfl rfl ?_
    refine J.nil ?_
    refine J.then_n (J.k hK10 ?_)
    refine J.keepE [(0, _), (1, _), (4, _), (6, _), (7, _), (9, _), (10, _), (20, _), (21, _)] ⟨rfl, rfl, rfl, rfl, rfl, rfl, rfl, rfl, rfl, trivial⟩ ?_
    refine J.seq (fun K11 hK11 => ?_)
    refine J.seq (fun K12 hK12 => ?_)
    refine J.region ?_
    refine J.y (op_move rfl rfl) rfl rfl rfl ?_
    refine J.y ((op_neq rfl rfl rfl).as (v' := .bool false) (congrArg Value.bool (decide_eq_false (by decide)))) rfl rfl rfl ?_
    refine J.nil ?_
    refine J.then_n (J.k hK12 ?_)
    refine J.keepE [(0, _), (1, _), (4, _), (6, _), (7, _), (9, _), (10, _), (20, _), (21, _), (36, _)] ⟨rfl, rfl, rfl, rfl, rfl, rfl, rfl, rfl, rfl, rfl, trivial⟩ ?_
    refine J.condF rfl rfl ?_
    refine J.skip ?_
    refine J.then_n (J.k hK11 ?_)
    refine J.keepE [(0, _), (1, _), (4, _), (6, _), (7, _), (9, _), (20, _), (21, _)] ⟨rfl, rfl, rfl, rfl, rfl, rfl, rfl, rfl, trivial⟩ ?_
    refine J.region ?_
    refine J.y (op_move rfl rfl) rfl rfl rfl ?_
    refine J.y (op_move rfl rfl) rfl rfl rfl ?_
    refine J.e (op_buildSlice (l := [.tmp 40]) (xs := [[Str zS]]) rfl rfl rfl rfl Tryd.underlying36 el9 rfl (by decide) (by decide) (by simp)) rfl rfl rfl ?_
    intro g41 _
    change J _ _ _ [F, blk g4 [I 0, W64 0, I 0, .slice none 0 0] 136, blk g6 [I at_, W64 0, I 0, .slice none 0 0] 136, m, blk g41 [Str zS] 9] _
    refine J.e (op_append (i := 3) (m2 := blk g41 [Str zS] 9) (xs := strsV (List.replicate k zS)) (ys := strsV [zS]) rfl rfl rfl Tryd.underlying36 Tryd.underlying36 el9 rfl hr (by simp) ((row_blk (q := True) (xs := strsV [zS]) rfl (by simp [strsV])).sl) (by simp [strsV, Value.oneCell']) (by omega) (by omega)) rfl rfl rfl ?_
    rintro ⟨A8, c8, m8⟩ h8
    try dsimp only at h8
    change J _ ((42, .slice A8 (k + 1) c8) :: _) _ [F, blk g4 [I 0, W64 0, I 0, .slice none 0 0] 136, blk g6 [I at_, W64 0, I 0, .slice none 0 0] 136, m8, blk g41 [Str zS] 9] _
    rw [strsV_succ] at h8
    refine J.y (op_assign rfl rfl) rfl rfl rfl ?_
    refine J.nil ?_
    refine J.blk_n ?_
    refine J.then_n (J.k hK8 ?_)
    refine J.keepE [(0, _), (1, _), (4, _), (6, _), (7, _), (20, _), (21, _)] ⟨rfl, rfl, rfl, rfl, rfl, rfl, rfl, trivial⟩ ?_
    refine J.region ?_
    refine J.y ((op_add rfl rfl rfl (by first | omega | (refine ⟨?_, ?_⟩ <;> omega))).as (v' := I ((k + 1 : Nat) : Int)) (congrArg I (by omega))) rfl rfl rfl ?_
    refine J.y (op_move rfl rfl) rfl rfl rfl ?_
    refine J.nil ?_
    refine J.then_n ?_
    exact J.kk (k + 1, m8, A8, c8) (fun y (hy : _ ∧ size - y.1 < size - k) => hI0 y hy.1 hy.2) ⟨⟨by dsimp only; omega, h8⟩, by dsimp only; omega⟩ ⟨rfl, rfl, rfl, rfl, rfl, rfl, rfl, trivial⟩ (fun _ h => h.pick [0, 1, 2, 3] (by decide))
  ·
    refine J.exit ?_
    refine J.then_x ?_
    refine J.then_x ?_
    refine J.blk_eq ?_
    refine J.then_n (J.k hK4 ?_)
    refine J.keepE [(4, _), (6, _), (7, _)] ⟨rfl, rfl, rfl, trivial⟩ ?_
    refine J.seq (fun K13 hK13 => ?_)
    refine J.block ?_
    refine J.loop (X := Unit) (fun _ => [(4, Ptr g4), (6, Ptr g6), (7, .slice A7 k c7)]) (fun _ => [F, blk g4 [I 0, W64 0, I 0, .slice none 0 0] 136, blk g6 [I at_, W64 0, I 0, .slice none 0 0] 136, m]) (fun _ => True) (fun _ => 0) () (trivial) ⟨rfl, rfl, rfl, trivial⟩ (fun _ h => h) ?_
    rintro _ _ I2 hI2
    refine J.seq (fun K14 hK14 => ?_)
    refine J.seq (fun K15 hK15 => ?_)
    refine J.region ?_
    refine J.y (op_move rfl rfl) rfl rfl rfl ?_
    refine J.y (op_len Tryd.underlying36 rfl rfl) rfl rfl rfl ?_
    refine J.y ((op_gtr rfl rfl rfl).as (v' := .bool true) (congrArg Value.bool (decide_eq_true (by omega)))) rfl rfl rfl ?_
    refine J.nil ?_
    refine J.then_n (J.k hK15 ?_)
    refine J.keepE [(4, _), (6, _), (7, _), (46, _)] ⟨rfl, rfl, rfl, rfl, trivial⟩ ?_
    refine J.condT rfl rfl ?_
    refine J.skip ?_
    refine J.then_n (J.k hK14 ?_)
    refine J.keepE [(4, _), (6, _), (7, _)] ⟨rfl, rfl, rfl, trivial⟩ ?_
    refine J.block ?_
    refine J.seq (fun K16 hK16 => ?_)
    refine J.region ?_
    refine J.y (op_move rfl rfl) rfl rfl rfl ?_
    refine J.e (op_call rfl rfl ent138 (Ct.use0 (fun F' hF => record0_ct F' (hK.mono (hF F (by simp))) (some ⟨g6, 0, none⟩) A7 k c7 (List.replicate k zS) (hr.sl.mono (hF m (by simp))) (by omega) zS (by rw [List.getElem?_replicate, if_pos (by omega)]) zS_len zS_part))) rfl rfl rfl ?_
    intro g49 _
    refine J.y (op_move rfl rfl) rfl rfl rfl ?_
    refine J.y (op_extract (v := .int .u64 0) rfl rfl rfl) rfl rfl rfl ?_
    refine J.y (op_extract (v := Str []) rfl rfl rfl) rfl rfl rfl ?_
    refine J.y (op_extract (v := I 0) rfl rfl rfl) rfl rfl rfl ?_
    refine J.y (op_extract (v := .bool false) rfl rfl rfl) rfl rfl rfl ?_
    refine J.y (op_assign rfl rfl) rfl rfl rfl ?_
    refine J.y (op_assign rfl rfl) rfl rfl rfl ?_
    refine J.y (op_assign rfl rfl) rfl rfl rfl ?_
    refine J.y (op_assign rfl rfl) rfl rfl rfl ?_
    refine J.nil ?_
    refine J.then_n (J.k hK16 ?_)
    refine J.keepE [(4, _), (6, _), (7, _), (11, _), (12, _), (13, _), (14, _)] ⟨rfl, rfl, rfl, rfl, rfl, rfl, rfl, trivial⟩ ?_
    refine J.seq (fun K17 hK17 => ?_)
    refine J.seq (fun K18 hK18 => ?_)
    refine J.region ?_
    refine J.y (op_move rfl rfl) rfl rfl rfl ?_
    refine J.y ((op_not rfl rfl).as (v' := .bool true) rfl) rfl rfl rfl ?_
    refine J.nil ?_
    refine J.then_n (J.k hK18 ?_)
    refine J.keepE [(4, _), (6, _), (7, _), (11, _), (12, _), (13, _), (55, _)] ⟨rfl, rfl, rfl, rfl, rfl, rfl, rfl, trivial⟩ ?_
    refine J.condT rfl rfl ?_
    refine J.exit ?_
    refine J.then_x ?_
    refine J.blk_ne rfl ?_
    refine J.then_x ?_
    refine J.blk_eq ?_
    refine J.then_n (J.k hK13 ?_)
    refine J.keepE [(4, _), (6, _)] ⟨rfl, rfl, trivial⟩ ?_
    refine J.seq (fun K19 hK19 => ?_)
    refine J.region ?_
    refine J.y (op_loadBA 2 rfl rfl rfl Tryd.isAgg136 Tryd.sizeOf136 rfl) rfl rfl rfl ?_
    refine J.s (op_storeAll (l := [I 0, W64 0, I 0, .slice none 0 0]) (i := 1) (vs := [I at_, W64 0, I 0, .slice none 0 0]) rfl rfl rfl rfl rfl Tryd.sizeOf136 rfl rfl) rfl rfl (fun _ _ => ?_)
    change J _ _ _ [F, blk g4 [I at_, W64 0, I 0, .slice none 0 0] 136, blk g6 [I at_, W64 0, I 0, .slice none 0 0] 136, m] _
    refine J.y (op_assign rfl rfl) rfl rfl rfl ?_
    refine J.nil ?_
    refine J.then_n (J.k hK19 ?_)
    refine J.keepE [(4, _), (5, _)] ⟨rfl, rfl, trivial⟩ ?_
    refine J.ret ?_
    exact J.done hw0 (fun _ _ h => h) (rv2 rfl (RV.blkA 1 rfl rfl Tryd.isAgg136 Tryd.sizeOf136) rfl) (retOk () rfl trivial [0] rfl (by decide))

def hatk (first : Nat) : Nat → Int
  | 0 => 0
  | _ + 1 => first

theorem open_nil_ct (F : Hp) (first count : Int) :
    Ct Tryd.prog 34 [.pointer none, I first, I count] [F] (fun _ : Unit => .tuple #[.pointer none, I 1]) (fun _ => True) (fun _ => [F]) := by
  refine Ct.walk Tryd.func34 rfl Tryd.ntmps34 rfl (fun w0 hw0 => ?_)
  change J _ [(0, _), (1, _), (2, _)] _ _ _
  refine J.seq (fun K1 hK1 => ?_)
  refine J.region ?_
  refine J.y (op_assign rfl rfl) rfl rfl rfl ?_
  refine J.y (op_assign rfl rfl) rfl rfl rfl ?_
  refine J.nil ?_
  refine J.then_n (J.k hK1 ?_)
  refine J.keepE [(0, _), (1, _), (2, _)] ⟨rfl, rfl, rfl, trivial⟩ ?_
  refine J.seq (fun K2 hK2 => ?_)
  refine J.seq (fun K3 hK3 => ?_)
  refine J.region ?_
  refine J.y (op_move rfl rfl) rfl rfl rfl ?_
  refine J.y ((op_peq Tryd.underlying55 rfl rfl rfl).as (v' := .bool true) rfl) rfl rfl rfl ?_
  refine J.y (op_move rfl rfl) rfl rfl rfl ?_
  refine J.no (Wan.is rfl rfl rfl rfl rfl) rfl rfl ?_
  refine J.no (Wan.is rfl rfl rfl rfl rfl) rfl rfl ?_
  refine J.y (op_pickT rfl rfl rfl) rfl rfl rfl ?_
  refine J.y (op_move rfl rfl) rfl rfl rfl ?_
  refine J.no (Wan.is rfl rfl rfl rfl rfl) rfl rfl ?_
  refine J.no (Wan.is rfl rfl rfl rfl rfl) rfl rfl ?_
  refine J.y (op_pickT rfl rfl rfl) rfl rfl rfl ?_
  refine J.y (op_move rfl rfl) rfl rfl rfl ?_
  refine J.no (Wan.is rfl rfl rfl rfl rfl) rfl rfl ?_
  refine J.no (Wan.is rfl rfl rfl rfl rfl) rfl rfl ?_
  refine J.no (Wan.is rfl rfl rfl rfl rfl) rfl rfl ?_
  refine J.no (Wan.is rfl rfl rfl rfl rfl) rfl rfl ?_
  refine J.y (op_pickT rfl rfl rfl) rfl rfl rfl ?_
  refine J.y (op_move rfl rfl) rfl rfl rfl ?_
  refine J.no (Wan.is rfl rfl rfl rfl rfl) rfl rfl ?_
  refine J.no (Wan.is rfl rfl rfl rfl rfl) rfl rfl ?_
  refine J.no (Wan.is rfl rfl rfl rfl rfl) rfl rfl ?_
  refine J.no (Wan.is rfl rfl rfl rfl rfl) rfl rfl ?_
  refine J.no (Wan.is rfl rfl rfl rfl rfl) rfl rfl ?_
  refine J.no (Wan.is rfl rfl rfl rfl rfl) rfl rfl ?_
  refine J.y (op_pickT rfl rfl rfl) rfl rfl rfl ?_
  refine J.nil ?_
  refine J.then_n (J.k hK3 ?_)
  refine J.keepE [(0, _), (1, _), (2, _), (35, _)] ⟨rfl, rfl, rfl, rfl, trivial⟩ ?_
  refine J.condT rfl rfl ?_
  refine J.seq (fun K4 hK4 => ?_)
  refine J.region ?_
  refine J.y (op_assign rfl rfl) rfl rfl rfl ?_
  refine J.y (op_assign rfl rfl) rfl rfl rfl ?_
  refine J.nil ?_
  refine J.then_n (J.k hK4 ?_)
  refine J.keepE [(6, _), (7, _)] ⟨rfl, rfl, trivial⟩ ?_
  refine J.ret ?_
  refine J.then_r ?_
  exact J.done hw0 (fun _ _ h => h) (res2 rfl rfl rfl) (retOk () rfl trivial [0] rfl (by decide))

theorem open_no_ct (F : Hp) (gd : Nat) (d : Dk) (A : Option Addr) (c : Nat) (B : Option Addr) (e : Nat) (C : Option Addr) (f : Nat) (hc : Cells F ⟨gd, 0, none⟩ (d.cells A c B e C f)) (first count : Int) (hf : -9223372036854775808 ≤ first ∧ first ≤ 9223372036854775807) (hcn : -9223372036854775808 ≤ count ∧ count ≤ 9223372036854775807) (hn1 : d.last.length ≤ 1024) (hno : ¬ (8 ≤ count ∧ 0 ≤ first ∧ count ≤ d.last.length ∧ first ≤ d.last.length - count)) :
    Ct Tryd.prog 34 [Ptr gd, I first, I count] [F] (fun _ : Unit => .tuple #[.pointer none, I 1]) (fun _ => True) (fun _ => [F]) := by
  refine Ct.walk Tryd.func34 rfl Tryd.ntmps34 rfl (fun w0 hw0 => ?_)
  change J _ [(0, _), (1, _), (2, _)] _ _ _
  refine J.seq (fun K1 hK1 => ?_)
  refine J.region ?_
  refine J.y (op_assign rfl rfl) rfl rfl rfl ?_
  refine J.y (op_assign rfl rfl) rfl rfl rfl ?_
  refine J.nil ?_
  refine J.then_n (J.k hK1 ?_)
  refine J.keepE [(0, _), (1, _), (2, _)] ⟨rfl, rfl, rfl, trivial⟩ ?_
  refine J.seq (fun K2 hK2 => ?_)
  refine J.seq (fun K3 hK3 => ?_)
  refine J.region ?_
  refine J.y (op_move rfl rfl) rfl rfl rfl ?_
  refine J.y ((op_peq Tryd.underlying55 rfl rfl rfl).as (v' := .bool false) rfl) rfl rfl rfl ?_
  refine J.y (op_move rfl rfl) rfl rfl rfl ?_
  refine J.yg (Wan.is rfl rfl rfl rfl rfl) (op_move rfl rfl) rfl rfl ?_
  refine J.yg (Wan.is rfl rfl rfl rfl rfl) (op_lss rfl rfl rfl) rfl rfl ?_
  refine J.y (op_pickF rfl rfl rfl) rfl rfl rfl ?_
  refine J.y (op_move rfl rfl) rfl rfl rfl ?_
  refine J.split (d := 18) rfl (fun h18 => ?_) (fun h18 => ?_)
  ·
    refine J.no (Wan.is rfl rfl rfl rfl rfl) rfl rfl ?_
    refine J.no (Wan.is rfl rfl rfl rfl rfl) rfl rfl ?_
    refine J.y (op_pickT rfl rfl rfl) rfl rfl rfl ?_
    refine J.y (op_move rfl rfl) rfl rfl rfl ?_
    refine J.no (Wan.is rfl rfl rfl rfl rfl) rfl rfl ?_
    refine J.no (Wan.is rfl rfl rfl rfl rfl) rfl rfl ?_
    refine J.no (Wan.is rfl rfl rfl rfl rfl) rfl rfl ?_
    refine J.no (Wan.is rfl rfl rfl rfl rfl) rfl rfl ?_
    refine J.y (op_pickT rfl rfl rfl) rfl rfl rfl ?_
    refine J.y (op_move rfl rfl) rfl rfl rfl ?_
    refine J.no (Wan.is rfl rfl rfl rfl rfl) rfl rfl ?_
    refine J.no (Wan.is rfl rfl rfl rfl rfl) rfl rfl ?_
    refine J.no (Wan.is rfl rfl rfl rfl rfl) rfl rfl ?_
    refine J.no (Wan.is rfl rfl rfl rfl rfl) rfl rfl ?_
    refine J.no (Wan.is rfl rfl rfl rfl rfl) rfl rfl ?_
    refine J.no (Wan.is rfl rfl rfl rfl rfl) rfl rfl ?_
    refine J.y (op_pickT rfl rfl rfl) rfl rfl rfl ?_
    refine J.nil ?_
    refine J.then_n (J.k hK3 ?_)
    refine J.keepE [(0, _), (1, _), (2, _), (35, _)] ⟨rfl, rfl, rfl, rfl, trivial⟩ ?_
    refine J.condT rfl rfl ?_
    refine J.seq (fun K4 hK4 => ?_)
    refine J.region ?_
    refine J.y (op_assign rfl rfl) rfl rfl rfl ?_
    refine J.y (op_assign rfl rfl) rfl rfl rfl ?_
    refine J.nil ?_
    refine J.then_n (J.k hK4 ?_)
    refine J.keepE [(6, _), (7, _)] ⟨rfl, rfl, trivial⟩ ?_
    refine J.ret ?_
    refine J.then_r ?_
    exact J.done hw0 (fun _ _ h => h) (res2 rfl rfl rfl) (retOk () rfl trivial [0] rfl (by decide))
  ·
    refine J.yg (Wan.is rfl rfl rfl rfl rfl) (op_move rfl rfl) rfl rfl ?_
    refine J.yg (Wan.is rfl rfl rfl rfl rfl) (op_lss rfl rfl rfl) rfl rfl ?_
    refine J.y (op_pickF rfl rfl rfl) rfl rfl rfl ?_
    refine J.y (op_move rfl rfl) rfl rfl rfl ?_
    refine J.split (d := 22) rfl (fun h22 => ?_) (fun h22 => ?_)
    ·
      refine J.no (Wan.is rfl rfl rfl rfl rfl) rfl rfl ?_
      refine J.no (Wan.is rfl rfl rfl rfl rfl) rfl rfl ?_
      refine J.no (Wan.is rfl rfl rfl rfl rfl) rfl rfl ?_
      refine J.no (Wan.is rfl rfl rfl rfl rfl) rfl rfl ?_
      refine J.y (op_pickT rfl rfl rfl) rfl rfl rfl ?_
      refine J.y (op_move rfl rfl) rfl rfl rfl ?_
      refine J.no (Wan.is rfl rfl rfl rfl rfl) rfl rfl ?_
      refine J.no (Wan.is rfl rfl rfl rfl rfl) rfl rfl ?_
      refine J.no (Wan.is rfl rfl rfl rfl rfl) rfl rfl ?_
      refine J.no (Wan.is rfl rfl rfl rfl rfl) rfl rfl ?_
      refine J.no (Wan.is rfl rfl rfl rfl rfl) rfl rfl ?_
      refine J.no (Wan.is rfl rfl rfl rfl rfl) rfl rfl ?_
      refine J.y (op_pickT rfl rfl rfl) rfl rfl rfl ?_
      refine J.nil ?_
      refine J.then_n (J.k hK3 ?_)
      refine J.keepE [(0, _), (1, _), (2, _), (35, _)] ⟨rfl, rfl, rfl, rfl, trivial⟩ ?_
      refine J.condT rfl rfl ?_
      refine J.seq (fun K5 hK5 => ?_)
      refine J.region ?_
      refine J.y (op_assign rfl rfl) rfl rfl rfl ?_
      refine J.y (op_assign rfl rfl) rfl rfl rfl ?_
      refine J.nil ?_
      refine J.then_n (J.k hK5 ?_)
      refine J.keepE [(6, _), (7, _)] ⟨rfl, rfl, trivial⟩ ?_
      refine J.ret ?_
      refine J.then_r ?_
      exact J.done hw0 (fun _ _ h => h) (res2 rfl rfl rfl) (retOk () rfl trivial [0] rfl (by decide))
    ·
      refine J.yg (Wan.is rfl rfl rfl rfl rfl) (op_move rfl rfl) rfl rfl ?_
      refine J.yg (Wan.is rfl rfl rfl rfl rfl) (op_move rfl rfl) rfl rfl ?_
      refine J.eg (Wan.is rfl rfl rfl rfl rfl) (op_call rfl rfl ent95 (Ct.use0 (fun F' hF => count_ct F' gd d A c B e C f (hc.mono (hF F (by simp)))))) rfl rfl ?_
      intro g25 _
      refine J.yg (Wan.is rfl rfl rfl rfl rfl) (op_gtr rfl rfl rfl) rfl rfl ?_
      refine J.y (op_pickF rfl rfl rfl) rfl rfl rfl ?_
      refine J.y (op_move rfl rfl) rfl rfl rfl ?_
      refine J.split (d := 28) rfl (fun h28 => ?_) (fun h28 => ?_)
      ·
        refine J.no (Wan.is rfl rfl rfl rfl rfl) rfl rfl ?_
        refine J.no (Wan.is rfl rfl rfl rfl rfl) rfl rfl ?_
        refine J.no (Wan.is rfl rfl rfl rfl rfl) rfl rfl ?_
        refine J.no (Wan.is rfl rfl rfl rfl rfl) rfl rfl ?_
        refine J.no (Wan.is rfl rfl rfl rfl rfl) rfl rfl ?_
        refine J.no (Wan.is rfl rfl rfl rfl rfl) rfl rfl ?_
        refine J.y (op_pickT rfl rfl rfl) rfl rfl rfl ?_
        refine J.nil ?_
        refine J.then_n (J.k hK3 ?_)
        refine J.keepE [(0, _), (1, _), (2, _), (35, _)] ⟨rfl, rfl, rfl, rfl, trivial⟩ ?_
        refine J.condT rfl rfl ?_
        refine J.seq (fun K6 hK6 => ?_)
        refine J.region ?_
        refine J.y (op_assign rfl rfl) rfl rfl rfl ?_
        refine J.y (op_assign rfl rfl) rfl rfl rfl ?_
        refine J.nil ?_
        refine J.then_n (J.k hK6 ?_)
        refine J.keepE [(6, _), (7, _)] ⟨rfl, rfl, trivial⟩ ?_
        refine J.ret ?_
        refine J.then_r ?_
        exact J.done hw0 (fun _ _ h => h) (res2 rfl rfl rfl) (retOk () rfl trivial [0] rfl (by decide))
      ·
        refine J.yg (Wan.is rfl rfl rfl rfl rfl) (op_move rfl rfl) rfl rfl ?_
        refine J.yg (Wan.is rfl rfl rfl rfl rfl) (op_move rfl rfl) rfl rfl ?_
        refine J.eg (Wan.is rfl rfl rfl rfl rfl) (op_call rfl rfl ent95 (Ct.use0 (fun F' hF => count_ct F' gd d A c B e C f (hc.mono (hF F (by simp)))))) rfl rfl ?_
        intro g31 _
        refine J.yg (Wan.is rfl rfl rfl rfl rfl) (op_move rfl rfl) rfl rfl ?_
        refine J.yg (Wan.is rfl rfl rfl rfl rfl) (op_sub rfl rfl rfl (by omega)) rfl rfl ?_
        refine J.yg (Wan.is rfl rfl rfl rfl rfl) ((op_gtr rfl rfl rfl).as (v' := .bool true) (congrArg Value.bool (decide_eq_true (by omega)))) rfl rfl ?_
        refine J.y (op_pickF rfl rfl rfl) rfl rfl rfl ?_
        refine J.nil ?_
        refine J.then_n (J.k hK3 ?_)
        refine J.keepE [(0, _), (1, _), (2, _), (35, _)] ⟨rfl, rfl, rfl, rfl, trivial⟩ ?_
        refine J.condT rfl rfl ?_
        refine J.seq (fun K7 hK7 => ?_)
        refine J.region ?_
        refine J.y (op_assign rfl rfl) rfl rfl rfl ?_
        refine J.y (op_assign rfl rfl) rfl rfl rfl ?_
        refine J.nil ?_
        refine J.then_n (J.k hK7 ?_)
        refine J.keepE [(6, _), (7, _)] ⟨rfl, rfl, trivial⟩ ?_
        refine J.ret ?_
        refine J.then_r ?_
        exact J.done hw0 (fun _ _ h => h) (res2 rfl rfl rfl) (retOk () rfl trivial [0] rfl (by decide))

theorem open_ok_ct (F : Hp) (hK : Cells F ⟨4, 0, none⟩ (Sha.K.map W32)) (gd : Nat) (d : Dk) (A : Option Addr) (c : Nat) (B : Option Addr) (e : Nat) (C : Option Addr) (f : Nat) (hc : Cells F ⟨gd, 0, none⟩ (d.cells A c B e C f)) (hL : Sl F 1 A d.last.length c (strsV d.last)) (hW : Sl F 2 B d.wait.length e (writV d.wait)) (hn1 : d.last.length ≤ 1024) (hn2 : d.wait.length ≤ 1073741824) (first count : Nat) (h8 : 8 ≤ count) (hfc : first + count ≤ d.last.length) (hz : ∀ i : Nat, i < d.last.length → d.ready (i : Int) = 0 ∧ d.read (i : Int) = zS) :
    Ct Tryd.prog 34 [Ptr gd, I (first : Nat), I (count : Nat)] [F] (fun g : Nat => .tuple #[Ptr g, I 0]) (fun _ => True) (fun g41 => [F, blk g41 [Ptr gd, I (first : Nat), I ((count / 2) : Nat), I (first : Nat), W64 0, I 0, .slice none 0 0, .bool false] 138]) := by
  refine Ct.walk Tryd.func34 rfl Tryd.ntmps34 rfl (fun w0 hw0 => ?_)
  change J _ [(0, _), (1, _), (2, _)] _ _ _
  refine J.seq (fun K1 hK1 => ?_)
  refine J.region ?_
  refine J.y (op_assign rfl rfl) rfl rfl rfl ?_
  refine J.y (op_assign rfl rfl) rfl rfl rfl ?_
  refine J.nil ?_
  refine J.then_n (J.k hK1 ?_)
  refine J.keepE [(0, _), (1, _), (2, _)] ⟨rfl, rfl, rfl, trivial⟩ ?_
  refine J.seq (fun K2 hK2 => ?_)
  refine J.seq (fun K3 hK3 => ?_)
  refine J.region ?_
  refine J.y (op_move rfl rfl) rfl rfl rfl ?_
  refine J.y ((op_peq Tryd.underlying55 rfl rfl rfl).as (v' := .bool false) rfl) rfl rfl rfl ?_
  refine J.y (op_move rfl rfl) rfl rfl rfl ?_
  refine J.yg (Wan.is rfl rfl rfl rfl rfl) (op_move rfl rfl) rfl rfl ?_
  refine J.yg (Wan.is rfl rfl rfl rfl rfl) ((op_lss rfl rfl rfl).as (v' := .bool false) (congrArg Value.bool (decide_eq_false (by omega)))) rfl rfl ?_
  refine J.y (op_pickF rfl rfl rfl) rfl rfl rfl ?_
  refine J.y (op_move rfl rfl) rfl rfl rfl ?_
  refine J.yg (Wan.is rfl rfl rfl rfl rfl) (op_move rfl rfl) rfl rfl ?_
  refine J.yg (Wan.is rfl rfl rfl rfl rfl) ((op_lss rfl rfl rfl).as (v' := .bool false) (congrArg Value.bool (decide_eq_false (by omega)))) rfl rfl ?_
  refine J.y (op_pickF rfl rfl rfl) rfl rfl rfl ?_
  refine J.y (op_move rfl rfl) rfl rfl rfl ?_
  refine J.yg (Wan.is rfl rfl rfl rfl rfl) (op_move rfl rfl) rfl rfl ?_
  refine J.yg (Wan.is rfl rfl rfl rfl rfl) (op_move rfl rfl) rfl rfl ?_
  refine J.eg (Wan.is rfl rfl rfl rfl rfl) (op_call rfl rfl ent95 (Ct.use0 (fun F' hF => count_ct F' gd d A c B e C f (hc.mono (hF F (by simp)))))) rfl rfl ?_
  intro g25 _
  refine J.yg (Wan.is rfl rfl rfl rfl rfl) ((op_gtr rfl rfl rfl).as (v' := .bool false) (congrArg Value.bool (decide_eq_false (by omega)))) rfl rfl ?_
  refine J.y (op_pickF rfl rfl rfl) rfl rfl rfl ?_
  refine J.y (op_move rfl rfl) rfl rfl rfl ?_
  refine J.yg (Wan.is rfl rfl rfl rfl rfl) (op_move rfl rfl) rfl rfl ?_
  refine J.yg (Wan.is rfl rfl rfl rfl rfl) (op_move rfl rfl) rfl rfl ?_
  refine J.eg (Wan.is rfl rfl rfl rfl rfl) (op_call rfl rfl ent95 (Ct.use0 (fun F' hF => count_ct F' gd d A c B e C f (hc.mono (hF F (by simp)))))) rfl rfl ?_
  intro g31 _
  refine J.yg (Wan.is rfl rfl rfl rfl rfl) (op_move rfl rfl) rfl rfl ?_
  refine J.yg (Wan.is rfl rfl rfl rfl rfl) (op_sub rfl rfl rfl (by omega)) rfl rfl ?_
  refine J.yg (Wan.is rfl rfl rfl rfl rfl) ((op_gtr rfl rfl rfl).as (v' := .bool false) (congrArg Value.bool (decide_eq_false (by omega)))) rfl rfl ?_
  refine J.y (op_pickF rfl rfl rfl) rfl rfl rfl ?_
  refine J.nil ?_
  refine J.then_n (J.k hK3 ?_)
  refine J.keepE [(0, _), (1, _), (2, _), (35, _)] ⟨rfl, rfl, rfl, rfl, trivial⟩ ?_
  refine J.condF rfl rfl ?_
  refine J.skip ?_
  refine J.then_n (J.k hK2 ?_)
  refine J.keepE [(0, _), (1, _), (2, _)] ⟨rfl, rfl, rfl, trivial⟩ ?_
  refine J.seq (fun K4 hK4 => ?_)
  refine J.region ?_
  refine J.y (op_move rfl rfl) rfl rfl rfl ?_
  refine J.y (op_move rfl rfl) rfl rfl rfl ?_
  refine J.y (op_move rfl rfl) rfl rfl rfl ?_
  refine J.y ((op_quo (a := ((count : Nat) : Int)) (b := ((2 : Nat) : Int)) rfl rfl rfl (by omega)).as (v' := I ((count / 2 : Nat) : Int)) (congrArg I (Int.ofNat_tdiv _ _).symm)) rfl rfl rfl ?_
  refine J.y (op_buildStruct (l := [(0, .tmp 36), (1, .tmp 37), (2, .tmp 39)]) (vs := [Ptr gd, I (first : Nat), I ((count / 2) : Nat)]) (places := [(0, 1), (1, 1), (2, 1), (3, 4), (7, 1)]) (r := [Ptr gd, I (first : Nat), I ((count / 2) : Nat), I 0, W64 0, I 0, .slice none 0 0, .bool false]) rfl rfl rfl Tryd.underlying138 Tryd.zeroValue138 (fun _ => by kernel_rfl) rfl) rfl rfl rfl ?_
  refine J.e (op_box (l := [Ptr gd, I (first : Nat), I ((count / 2) : Nat), I 0, W64 0, I 0, .slice none 0 0, .bool false]) rfl rfl rfl) rfl rfl rfl ?_
  rintro g41 _
  change J _ _ _ [F, blk g41 [Ptr gd, I (first : Nat), I ((count / 2) : Nat), I 0, W64 0, I 0, .slice none 0 0, .bool false] 138] _
  refine J.y (op_assign rfl rfl) rfl rfl rfl ?_
  refine J.nil ?_
  refine J.then_n (J.k hK4 ?_)
  refine J.keepE [(1, _), (8, _)] ⟨rfl, rfl, trivial⟩ ?_
  refine J.seq (fun K5 hK5 => ?_)
  refine J.seq (fun K6 hK6 => ?_)
  refine J.region ?_
  refine J.y (op_move rfl rfl) rfl rfl rfl ?_
  refine J.nil ?_
  refine J.then_n (J.k hK6 ?_)
  refine J.keepE [(1, _), (8, _), (42, _)] ⟨rfl, rfl, rfl, trivial⟩ ?_
  refine J.block ?_
  refine J.loop (X := Nat) (fun k => [(1, I (first : Nat)), (8, Ptr g41), (42, I k)]) (fun k => [F, blk g41 [Ptr gd, I (first : Nat), I ((count / 2) : Nat), I (hatk first k), W64 0, I 0, .slice none 0 0, .bool false] 138]) (fun k => k ≤ 2) (fun k => 2 - k) 0 (Nat.zero_le _) ⟨rfl, rfl, rfl, trivial⟩ (fun _ h => h) ?_
  intro k hk I0 hI0
  refine J.seq (fun K7 hK7 => ?_)
  refine J.region ?_
  refine J.y (op_lss rfl rfl rfl) rfl rfl rfl ?_
  refine J.nil ?_
  refine J.then_n (J.k hK7 ?_)
  refine J.keepE [(1, _), (8, _), (42, _), (43, _)] ⟨rfl, rfl, rfl, rfl, trivial⟩ ?_
  refine J.seq (fun K8 hK8 => ?_)
  refine J.ite rfl (fun h43 => ?_) (fun h43 => ?_)
  ·
    refine J.skip ?_
    refine J.then_n (J.k hK8 ?_)
    refine J.keepE [(1, _), (8, _), (42, _)] ⟨rfl, rfl, rfl, trivial⟩ ?_
    refine J.seq (fun K9 hK9 => ?_)
    refine J.block ?_
    refine J.seq (fun K10 hK10 => ?_)
    refine J.region ?_
    refine J.y (op_move rfl rfl) rfl rfl rfl ?_
    refine J.y (op_assign rfl rfl) rfl rfl rfl ?_
    refine J.nil ?_
    refine J.then_n (J.k hK10 ?_)
    refine J.keepE [(1, _), (8, _), (9, _), (42, _)] ⟨rfl, rfl, rfl, rfl, trivial⟩ ?_
    refine J.seq (fun K11 hK11 => ?_)
    obtain ⟨km, hkm⟩ : ∃ km, km = k * (count / 2) := ⟨_, rfl⟩
    have hk2 : k < 2 := by omega
    have hkm2 : km + (count / 2) ≤ count := by
      have : k = 0 ∨ k = 1 := by omega
      rcases this with e | e <;> rw [hkm, e] <;> omega
    refine J.region ?_
    refine J.y (op_move rfl rfl) rfl rfl rfl ?_
    refine J.y (op_move rfl rfl) rfl rfl rfl ?_
    refine J.y (op_move rfl rfl) rfl rfl rfl ?_
    refine J.y (op_move rfl rfl) rfl rfl rfl ?_
    refine J.y (op_nilCheck rfl rfl) rfl rfl rfl ?_
    refine J.y (op_fieldAddr (j := 2) rfl rfl Tryd.underlying138 rfl Tryd.sizeOf3 rfl) rfl rfl rfl ?_
    refine J.y (op_loadB 1 rfl rfl rfl Tryd.isAgg3 rfl) rfl rfl rfl ?_
    refine J.y ((op_mul rfl rfl rfl (by rw [← Int.natCast_mul, ← hkm]; omega)).as (v' := I (km : Nat)) (congrArg I (by rw [hkm, Int.natCast_mul]))) rfl rfl rfl ?_
    refine J.y ((op_add rfl rfl rfl (by omega)).as (v' := I ((first + km : Nat) : Int)) (congrArg I (by omega))) rfl rfl rfl ?_
    refine J.e (op_call rfl rfl ent96 (Ct.use0 (fun F' hF => bread0_ct F' (hK.mono (hF F (by simp))) g41 gd (first : Nat) (count / 2) (hatk first k) 0 0 none 0 0 false (Cells.blk0.mono (hF (blk g41 [Ptr gd, I (first : Nat), I ((count / 2) : Nat), I (hatk first k), W64 0, I 0, .slice none 0 0, .bool false] 138) (by simp))) d A c B e C f (hc.mono (hF F (by simp))) (hL.mono (hF F (by simp))) (hW.mono (hF F (by simp))) (by omega) hn2 (first + km) (by omega) (by omega) (fun i hi => hz (first + km + i) (by omega))))) rfl rfl rfl ?_
    intro g55 _
    refine J.y (op_move rfl rfl) rfl rfl rfl ?_
    refine J.y (op_extract (v := .agg #[I ((first + km : Nat) : Int), W64 0, I 0, .slice none 0 0]) rfl rfl rfl) rfl rfl rfl ?_
    refine J.y (op_extract (v := I 0) rfl rfl rfl) rfl rfl rfl ?_
    refine J.e (op_alloc rfl Tryd.zeroValue136 rfl) rfl rfl rfl ?_
    intro g10 _
    change J _ _ _ [F, blk g41 [Ptr gd, I (first : Nat), I ((count / 2) : Nat), I (hatk first k), W64 0, I 0, .slice none 0 0, .bool false] 138, blk g10 _ 136] _
    refine J.s (op_storeAll (l := [I 0, W64 0, I 0, .slice none 0 0]) (i := 2) (vs := [I ((first + km : Nat) : Int), W64 0, I 0, .slice none 0 0]) rfl rfl rfl rfl rfl Tryd.sizeOf136 rfl rfl) rfl rfl (fun _ _ => ?_)
    change J _ _ _ [F, blk g41 [Ptr gd, I (first : Nat), I ((count / 2) : Nat), I (hatk first k), W64 0, I 0, .slice none 0 0, .bool false] 138, blk g10 [I ((first + km : Nat) : Int), W64 0, I 0, .slice none 0 0] 136] _
    refine J.y (op_assign rfl rfl) rfl rfl rfl ?_
    refine J.nil ?_
    refine J.then_n (J.k hK11 ?_)
    refine J.keepE [(1, _), (8, _), (9, _), (10, _), (11, _), (42, _)] ⟨rfl, rfl, rfl, rfl, rfl, rfl, trivial⟩ ?_
    refine J.seq (fun K12 hK12 => ?_)
    refine J.seq (fun K13 hK13 => ?_)
    refine J.region ?_
    refine J.y (op_move rfl rfl) rfl rfl rfl ?_
    refine J.y ((op_neq rfl rfl rfl).as (v' := .bool false) (congrArg Value.bool (decide_eq_false (by decide)))) rfl rfl rfl ?_
    refine J.nil ?_
    refine J.then_n (J.k hK13 ?_)
    refine J.keepE [(1, _), (8, _), (9, _), (10, _), (11, _), (42, _), (59, _)] ⟨rfl, rfl, rfl, rfl, rfl, rfl, rfl, trivial⟩ ?_
    refine J.condF rfl rfl ?_
    refine J.skip ?_
    refine J.then_n (J.k hK12 ?_)
    refine J.keepE [(1, _), (8, _), (9, _), (10, _), (42, _)] ⟨rfl, rfl, rfl, rfl, rfl, trivial⟩ ?_
    refine J.seq (fun K14 hK14 => ?_)
    refine J.draw [F, blk g41 [Ptr gd, I (first : Nat), I ((count / 2) : Nat), I (hatk first k), W64 0, I 0, .slice none 0 0, .bool false] 138, blk g10 [I ((first + km : Nat) : Int), W64 0, I 0, .slice none 0 0] 136] [] (.y 0 (.y 1 (.y 2 (.y 3 (.y 4 (.y 5 (.y 6 (.y 7 (.y 8 (.y 9 (.y 10 (.y 11 (.y 12 (.y 13 (.y 14 (.y 15 (.y 16 (.y 17 (.y 18 (.y 19 (.y 20 (.y 21 (.y 22 (.y 23 (.y 24 (.y 25 (.y 26 .nil))))))))))))))))))))))))))) Tryd.wide (by decide +kernel) (by simp) ?_
    refine J.dy rfl (op_move rfl rfl) rfl rfl rfl rfl ?_
    refine J.dy rfl (op_eql rfl rfl rfl) rfl rfl rfl rfl ?_
    refine J.dy rfl (op_move rfl rfl) rfl rfl rfl rfl ?_
    refine J.split (d := 63) rfl (fun h63 => ?_) (fun h63 => ?_)
    ·
      refine J.dno rfl (Wan.is rfl rfl rfl rfl rfl) rfl rfl ?_
      refine J.dno rfl (Wan.is rfl rfl rfl rfl rfl) rfl rfl ?_
      refine J.dno rfl (Wan.is rfl rfl rfl rfl rfl) rfl rfl ?_
      refine J.dno rfl (Wan.is rfl rfl rfl rfl rfl) rfl rfl ?_
      refine J.dno rfl (Wan.is rfl rfl rfl rfl rfl) rfl rfl ?_
      refine J.dno rfl (Wan.un rfl rfl rfl rfl) rfl rfl ?_
      refine J.dno rfl (Wan.un rfl rfl rfl rfl) rfl rfl ?_
      refine J.dno rfl (Wan.un rfl rfl rfl rfl) rfl rfl ?_
      refine J.dno rfl (Wan.un rfl rfl rfl rfl) rfl rfl ?_
      refine J.dno rfl (Wan.un rfl rfl rfl rfl) rfl rfl ?_
      refine J.dno rfl (Wan.un rfl rfl rfl rfl) rfl rfl ?_
      refine J.dno rfl (Wan.un rfl rfl rfl rfl) rfl rfl ?_
      refine J.dno rfl (Wan.un rfl rfl rfl rfl) rfl rfl ?_
      refine J.dno rfl (Wan.un rfl rfl rfl rfl) rfl rfl ?_
      refine J.dno rfl (Wan.un rfl rfl rfl rfl) rfl rfl ?_
      refine J.dno rfl (Wan.un rfl rfl rfl rfl) rfl rfl ?_
      refine J.dno rfl (Wan.un rfl rfl rfl rfl) rfl rfl ?_
      refine J.dno rfl (Wan.un rfl rfl rfl rfl) rfl rfl ?_
      refine J.dno rfl (Wan.un rfl rfl rfl rfl) rfl rfl ?_
      refine J.dno rfl (Wan.un rfl rfl rfl rfl) rfl rfl ?_
      refine J.dno rfl (Wan.un rfl rfl rfl rfl) rfl rfl ?_
      refine J.dno rfl (Wan.un rfl rfl rfl rfl) rfl rfl ?_
      refine J.dno rfl (Wan.is rfl rfl rfl rfl rfl) rfl rfl ?_
      refine J.dy rfl (op_pickT rfl rfl rfl) rfl rfl rfl rfl ?_
      refine J.dnil ?_
      refine J.then_n (J.k hK14 ?_)
      refine J.keepE [(1, _), (8, _), (10, _), (42, _), (87, _)] ⟨rfl, rfl, rfl, rfl, rfl, trivial⟩ ?_
      refine J.condT rfl rfl ?_
      refine J.region ?_
      refine J.y (op_move rfl rfl) rfl rfl rfl ?_
      refine J.y (op_loadBA 2 rfl rfl rfl Tryd.isAgg136 Tryd.sizeOf136 rfl) rfl rfl rfl ?_
      refine J.y (op_nilCheck rfl rfl) rfl rfl rfl ?_
      refine J.y (op_fieldAddr (j := 3) rfl rfl Tryd.underlying138 rfl Tryd.sizeOf136 rfl) rfl rfl rfl ?_
      refine J.s (op_store (i := 1) (vs := [I ((first + km : Nat) : Int), W64 0, I 0, .slice none 0 0]) rfl rfl rfl rfl rfl Tryd.sizeOf136 rfl (by simp)) rfl rfl (fun _ _ => ?_)
      change J _ _ _ [F, blk g41 [Ptr gd, I (first : Nat), I ((count / 2) : Nat), I ((first + km : Nat) : Int), W64 0, I 0, .slice none 0 0, .bool false] 138, blk g10 [I ((first + km : Nat) : Int), W64 0, I 0, .slice none 0 0] 136] _
      refine J.nil ?_
      refine J.blk_n ?_
      refine J.then_n (J.k hK9 ?_)
      refine J.keepE [(1, _), (8, _), (42, _)] ⟨rfl, rfl, rfl, trivial⟩ ?_
      refine J.region ?_
      refine J.y ((op_add rfl rfl rfl (by first | omega | (refine ⟨?_, ?_⟩ <;> omega))).as (v' := I ((k + 1 : Nat) : Int)) (congrArg I (by omega))) rfl rfl rfl ?_
      refine J.y (op_move rfl rfl) rfl rfl rfl ?_
      refine J.nil ?_
      refine J.then_n ?_
      have hk0 : k = 0 := by omega
      subst hk0
      have hk0m : km = 0 := by omega
      subst hk0m
      exact J.kk 1 (fun y (hy : _ ∧ 2 - y < 2 - 0) => hI0 y hy.1 hy.2) ⟨by omega, by omega⟩ ⟨rfl, rfl, rfl, trivial⟩ (fun _ h => h.pick [0, 1] (by decide))
    ·
      refine J.dyg rfl (op_fieldAddr (j := 3) rfl rfl Tryd.underlying136 rfl Tryd.sizeOf36 rfl) (Wan.is rfl rfl rfl rfl rfl) rfl rfl rfl ?_
      refine J.dyg rfl (op_loadB 2 rfl rfl rfl Tryd.isAgg36 rfl) (Wan.is rfl rfl rfl rfl rfl) rfl rfl rfl ?_
      refine J.dyg rfl (op_len Tryd.underlying36 rfl rfl) (Wan.is rfl rfl rfl rfl rfl) rfl rfl rfl ?_
      refine J.dyg rfl ((op_gtr rfl rfl rfl).as (v' := .bool false) (congrArg Value.bool (decide_eq_false (by decide)))) (Wan.is rfl rfl rfl rfl rfl) rfl rfl rfl ?_
      refine J.dyg rfl (op_move rfl rfl) (Wan.is rfl rfl rfl rfl rfl) rfl rfl rfl ?_
      refine J.dno rfl (Wan.is rfl rfl rfl rfl rfl) rfl rfl ?_
      refine J.dno rfl (Wan.is rfl rfl rfl rfl rfl) rfl rfl ?_
      refine J.dno rfl (Wan.is rfl rfl rfl rfl rfl) rfl rfl ?_
      refine J.dno rfl (Wan.is rfl rfl rfl rfl rfl) rfl rfl ?_
      refine J.dno rfl (Wan.is rfl rfl rfl rfl rfl) rfl rfl ?_
      refine J.dno rfl (Wan.is rfl rfl rfl rfl rfl) rfl rfl ?_
      refine J.dno rfl (Wan.is rfl rfl rfl rfl rfl) rfl rfl ?_
      refine J.dno rfl (Wan.is rfl rfl rfl rfl rfl) rfl rfl ?_
      refine J.dno rfl (Wan.un rfl rfl rfl rfl) rfl rfl ?_
      refine J.dno rfl (Wan.un rfl rfl rfl rfl) rfl rfl ?_
      refine J.dno rfl (Wan.un rfl rfl rfl rfl) rfl rfl ?_
      refine J.dno rfl (Wan.un rfl rfl rfl rfl) rfl rfl ?_
      refine J.dno rfl (Wan.un rfl rfl rfl rfl) rfl rfl ?_
      refine J.dno rfl (Wan.un rfl rfl rfl rfl) rfl rfl ?_
      refine J.dno rfl (Wan.un rfl rfl rfl rfl) rfl rfl ?_
      refine J.dno rfl (Wan.un rfl rfl rfl rfl) rfl rfl ?_
      refine J.dno rfl (Wan.is rfl rfl rfl rfl rfl) rfl rfl ?_
      refine J.dyg rfl (op_pickF rfl rfl rfl) (Wan.is rfl rfl rfl rfl rfl) rfl rfl rfl ?_
      refine J.dy rfl (op_pickF rfl rfl rfl) rfl rfl rfl rfl ?_
      refine J.dnil ?_
      refine J.then_n (J.k hK14 ?_)
      refine J.keepE [(1, _), (8, _), (10, _), (42, _), (87, _)] ⟨rfl, rfl, rfl, rfl, rfl, trivial⟩ ?_
      refine J.condF rfl rfl ?_
      refine J.skip ?_
      refine J.blk_n ?_
      refine J.then_n (J.k hK9 ?_)
      refine J.keepE [(1, _), (8, _), (42, _)] ⟨rfl, rfl, rfl, trivial⟩ ?_
      refine J.region ?_
      refine J.y ((op_add rfl rfl rfl (by first | omega | (refine ⟨?_, ?_⟩ <;> omega))).as (v' := I ((k + 1 : Nat) : Int)) (congrArg I (by omega))) rfl rfl rfl ?_
      refine J.y (op_move rfl rfl) rfl rfl rfl ?_
      refine J.nil ?_
      refine J.then_n ?_
      have hk1 : k = 1 := by omega
      subst hk1
      exact J.kk 2 (fun y (hy : _ ∧ 2 - y < 2 - 1) => hI0 y hy.1 hy.2) ⟨by omega, by omega⟩ ⟨rfl, rfl, rfl, trivial⟩ (fun _ h => h.pick [0, 1] (by decide))
  ·
    refine J.exit ?_
    refine J.then_x ?_
    refine J.then_x ?_
    refine J.blk_eq ?_
    refine J.then_n (J.k hK5 ?_)
    refine J.keepE [(8, _)] ⟨rfl, trivial⟩ ?_
    refine J.seq (fun K15 hK15 => ?_)
    have hk2 : k = 2 := by omega
    subst hk2
    refine J.region ?_
    refine J.y (op_move rfl rfl) rfl rfl rfl ?_
    refine J.y (op_assign rfl rfl) rfl rfl rfl ?_
    refine J.y (op_assign rfl rfl) rfl rfl rfl ?_
    refine J.nil ?_
    refine J.then_n (J.k hK15 ?_)
    refine J.keepE [(6, _), (7, _)] ⟨rfl, rfl, trivial⟩ ?_
    refine J.ret ?_
    exact J.done hw0 (fun _ _ h => h) (res2 rfl rfl rfl) (retOk g41 rfl trivial [0, 1] rfl (by decide))

theorem may_ct (F : Hp) (gb gd : Nat) (first : Int) (size : Nat) (hat : Int) (hturn : UInt64) (hend : Int) (Ar : Option Addr) (nr cr : Nat) (bad : Bool) (hB : Cells F ⟨gb, 0, none⟩ [Ptr gd, I first, I (size : Nat), I hat, W64 hturn, I hend, .slice Ar nr cr, .bool bad]) (s : List UInt8) :
    Ct Tryd.prog 97 [Ptr gb, Str s] [F] (fun _ : Unit => I (if 900 < s.length then 2 else if bad = true then 21 else 0)) (fun _ => True) (fun _ => [F]) := by
  refine Ct.walk Tryd.func97 rfl Tryd.ntmps97 rfl (fun w0 hw0 => ?_)
  change J _ [(0, _), (1, _)] _ _ _
  refine J.seq (fun K1 hK1 => ?_)
  refine J.region ?_
  refine J.y (op_assign rfl rfl) rfl rfl rfl ?_
  refine J.nil ?_
  refine J.then_n (J.k hK1 ?_)
  refine J.keepE [(0, _), (1, _)] ⟨rfl, rfl, trivial⟩ ?_
  refine J.seq (fun K2 hK2 => ?_)
  refine J.block ?_
  refine J.seq (fun K3 hK3 => ?_)
  refine J.region ?_
  refine J.y (op_move rfl rfl) rfl rfl rfl ?_
  refine J.y ((op_peq Tryd.underlying58 rfl rfl rfl).as (v' := .bool false) rfl) rfl rfl rfl ?_
  refine J.y (op_assign rfl rfl) rfl rfl rfl ?_
  refine J.nil ?_
  refine J.then_n (J.k hK3 ?_)
  refine J.keepE [(0, _), (1, _), (5, _)] ⟨rfl, rfl, rfl, trivial⟩ ?_
  refine J.condF rfl rfl ?_
  refine J.seq (fun K4 hK4 => ?_)
  refine J.region ?_
  refine J.y (op_move rfl rfl) rfl rfl rfl ?_
  refine J.y (op_slen Tryd.underlying9 rfl rfl) rfl rfl rfl ?_
  refine J.y (op_gtr rfl rfl rfl) rfl rfl rfl ?_
  refine J.y (op_assign rfl rfl) rfl rfl rfl ?_
  refine J.nil ?_
  refine J.then_n (J.k hK4 ?_)
  refine J.keepE [(0, _), (8, _)] ⟨rfl, rfl, trivial⟩ ?_
  refine J.ite rfl (fun h8 => ?_) (fun h8 => ?_)
  ·
    refine J.seq (fun K5 hK5 => ?_)
    refine J.region ?_
    refine J.y (op_assign rfl rfl) rfl rfl rfl ?_
    refine J.nil ?_
    refine J.then_n (J.k hK5 ?_)
    refine J.keepE [(4, _)] ⟨rfl, trivial⟩ ?_
    refine J.ret ?_
    refine J.blk_r ?_
    refine J.then_r ?_
    exact J.done hw0 (fun _ _ h => h) (res1 rfl rfl) (retOk () (congrArg I (by rw [if_pos (by omega)])) trivial [0] rfl (by decide))
  ·
    refine J.seq (fun K6 hK6 => ?_)
    refine J.region ?_
    refine J.y (op_move rfl rfl) rfl rfl rfl ?_
    refine J.y (op_nilCheck rfl rfl) rfl rfl rfl ?_
    refine J.y (op_fieldAddr (j := 7) rfl rfl Tryd.underlying138 rfl Tryd.sizeOf4 rfl) rfl rfl rfl ?_
    refine J.y ((op_load rfl rfl Tryd.isAgg4 (m := F) (by simp) (hB.at (i := 7) rfl)).as (v' := .bool (decide (bad = true))) (by rw [Bool.decide_eq_true])) rfl rfl rfl ?_
    refine J.y (op_assign rfl rfl) rfl rfl rfl ?_
    refine J.nil ?_
    refine J.then_n (J.k hK6 ?_)
    refine J.keepE [(12, _)] ⟨rfl, trivial⟩ ?_
    refine J.ite rfl (fun h12 => ?_) (fun h12 => ?_)
    ·
      refine J.seq (fun K7 hK7 => ?_)
      refine J.region ?_
      refine J.y (op_assign rfl rfl) rfl rfl rfl ?_
      refine J.nil ?_
      refine J.then_n (J.k hK7 ?_)
      refine J.keepE [(4, _)] ⟨rfl, trivial⟩ ?_
      refine J.ret ?_
      refine J.blk_r ?_
      refine J.then_r ?_
      exact J.done hw0 (fun _ _ h => h) (res1 rfl rfl) (retOk () (congrArg I (by rw [if_neg (by omega), if_pos (by assumption)])) trivial [0] rfl (by decide))
    ·
      refine J.skip ?_
      refine J.blk_n ?_
      refine J.then_n (J.k hK2 ?_)
      refine J.keepE [] trivial ?_
      refine J.seq (fun K8 hK8 => ?_)
      refine J.region ?_
      refine J.y (op_assign rfl rfl) rfl rfl rfl ?_
      refine J.nil ?_
      refine J.then_n (J.k hK8 ?_)
      refine J.keepE [(4, _)] ⟨rfl, trivial⟩ ?_
      refine J.ret ?_
      exact J.done hw0 (fun _ _ h => h) (res1 rfl rfl) (retOk () (congrArg I (by rw [if_neg (by omega), if_neg (by assumption)])) trivial [0] rfl (by decide))

theorem may_nil_ct (F : Hp) (s : List UInt8) : Ct Tryd.prog 97 [.pointer none, Str s] [F] (fun _ : Unit => I 1) (fun _ => True) (fun _ => [F]) := by
  refine Ct.walk Tryd.func97 rfl Tryd.ntmps97 rfl (fun w0 hw0 => ?_)
  change J _ [(0, _), (1, _)] _ _ _
  refine J.seq (fun K1 hK1 => ?_)
  refine J.region ?_
  refine J.y (op_assign rfl rfl) rfl rfl rfl ?_
  refine J.nil ?_
  refine J.then_n (J.k hK1 ?_)
  refine J.keepE [(0, _), (1, _)] ⟨rfl, rfl, trivial⟩ ?_
  refine J.seq (fun K2 hK2 => ?_)
  refine J.block ?_
  refine J.seq (fun K3 hK3 => ?_)
  refine J.region ?_
  refine J.y (op_move rfl rfl) rfl rfl rfl ?_
  refine J.y ((op_peq Tryd.underlying58 rfl rfl rfl).as (v' := .bool true) rfl) rfl rfl rfl ?_
  refine J.y (op_assign rfl rfl) rfl rfl rfl ?_
  refine J.nil ?_
  refine J.then_n (J.k hK3 ?_)
  refine J.keepE [(0, _), (1, _), (5, _)] ⟨rfl, rfl, rfl, trivial⟩ ?_
  refine J.condT rfl rfl ?_
  refine J.seq (fun K4 hK4 => ?_)
  refine J.region ?_
  refine J.y (op_assign rfl rfl) rfl rfl rfl ?_
  refine J.nil ?_
  refine J.then_n (J.k hK4 ?_)
  refine J.keepE [(4, _)] ⟨rfl, trivial⟩ ?_
  refine J.ret ?_
  refine J.blk_r ?_
  refine J.then_r ?_
  exact J.done hw0 (fun _ _ h => h) (res1 rfl rfl) (retOk () rfl trivial [0] rfl (by decide))

theorem left_ct (F : Hp) (gb gd : Nat) (first : Int) (size : Nat) (hat : Int) (hturn : UInt64) (hend : Int) (Ar : Option Addr) (nr cr : Nat) (bad : Bool) (hB : Cells F ⟨gb, 0, none⟩ [Ptr gd, I first, I (size : Nat), I hat, W64 hturn, I hend, .slice Ar nr cr, .bool bad]) (hs : size ≤ 1048576) (he : 0 ≤ hend ∧ hend ≤ 1048576) :
    Ct Tryd.prog 37 [Ptr gb] [F] (fun _ : Unit => I ((size : Int) - hend)) (fun _ => True) (fun _ => [F]) := by
  refine Ct.walk Tryd.func37 rfl Tryd.ntmps37 rfl (fun w0 hw0 => ?_)
  change J _ [(0, _)] _ _ _
  refine J.seq (fun K1 hK1 => ?_)
  refine J.region ?_
  refine J.y (op_assign rfl rfl) rfl rfl rfl ?_
  refine J.nil ?_
  refine J.then_n (J.k hK1 ?_)
  refine J.keepE [(0, _)] ⟨rfl, trivial⟩ ?_
  refine J.seq (fun K2 hK2 => ?_)
  refine J.seq (fun K3 hK3 => ?_)
  refine J.region ?_
  refine J.y (op_move rfl rfl) rfl rfl rfl ?_
  refine J.y ((op_peq Tryd.underlying58 rfl rfl rfl).as (v' := .bool false) rfl) rfl rfl rfl ?_
  refine J.nil ?_
  refine J.then_n (J.k hK3 ?_)
  refine J.keepE [(0, _), (4, _)] ⟨rfl, rfl, trivial⟩ ?_
  refine J.condF rfl rfl ?_
  refine J.skip ?_
  refine J.then_n (J.k hK2 ?_)
  refine J.keepE [(0, _)] ⟨rfl, trivial⟩ ?_
  refine J.seq (fun K4 hK4 => ?_)
  refine J.draw [F] [] (.y 0 (.y 1 (.y 2 (.y 3 (.y 4 (.y 5 (.y 6 (.y 7 (.y 8 (.y 9 (.y 10 .nil))))))))))) Tryd.wide (by decide +kernel) (by simp) ?_
  refine J.dy rfl (op_move rfl rfl) rfl rfl rfl rfl ?_
  refine J.dy rfl (op_nilCheck rfl rfl) rfl rfl rfl rfl ?_
  refine J.dy rfl (op_fieldAddr (j := 2) rfl rfl Tryd.underlying138 rfl Tryd.sizeOf3 rfl) rfl rfl rfl rfl ?_
  refine J.dy rfl (op_load rfl rfl Tryd.isAgg3 (m := F) (by simp) (hB.at (i := 2) rfl)) rfl rfl rfl rfl ?_
  refine J.dy rfl (op_move rfl rfl) rfl rfl rfl rfl ?_
  refine J.dy rfl (op_nilCheck rfl rfl) rfl rfl rfl rfl ?_
  refine J.dy rfl (op_fieldAddr (j := 3) rfl rfl Tryd.underlying138 rfl Tryd.sizeOf136 rfl) rfl rfl rfl rfl ?_
  refine J.dy rfl (op_fieldAddr (j := 5) rfl rfl Tryd.underlying136 rfl Tryd.sizeOf3 rfl) rfl rfl rfl rfl ?_
  refine J.dy rfl (op_load rfl rfl Tryd.isAgg3 (m := F) (by simp) (hB.at (i := 5) rfl)) rfl rfl rfl rfl ?_
  refine J.dy rfl (op_sub rfl rfl rfl (by omega)) rfl rfl rfl rfl ?_
  refine J.dy rfl (op_assign rfl rfl) rfl rfl rfl rfl ?_
  refine J.dnil ?_
  refine J.then_n (J.k hK4 ?_)
  refine J.keepE [(2, _)] ⟨rfl, trivial⟩ ?_
  refine J.ret ?_
  exact J.done hw0 (fun _ _ h => h) (res1 rfl rfl) (retOk () rfl trivial [0] rfl (by decide))

theorem left_nil_ct (F : Hp) : Ct Tryd.prog 37 [.pointer none] [F] (fun _ : Unit => I 0) (fun _ => True) (fun _ => [F]) := by
  refine Ct.walk Tryd.func37 rfl Tryd.ntmps37 rfl (fun w0 hw0 => ?_)
  change J _ [(0, _)] _ _ _
  refine J.seq (fun K1 hK1 => ?_)
  refine J.region ?_
  refine J.y (op_assign rfl rfl) rfl rfl rfl ?_
  refine J.nil ?_
  refine J.then_n (J.k hK1 ?_)
  refine J.keepE [(0, _)] ⟨rfl, trivial⟩ ?_
  refine J.seq (fun K2 hK2 => ?_)
  refine J.seq (fun K3 hK3 => ?_)
  refine J.region ?_
  refine J.y (op_move rfl rfl) rfl rfl rfl ?_
  refine J.y ((op_peq Tryd.underlying58 rfl rfl rfl).as (v' := .bool true) rfl) rfl rfl rfl ?_
  refine J.nil ?_
  refine J.then_n (J.k hK3 ?_)
  refine J.keepE [(0, _), (4, _)] ⟨rfl, rfl, trivial⟩ ?_
  refine J.condT rfl rfl ?_
  refine J.seq (fun K4 hK4 => ?_)
  refine J.region ?_
  refine J.y (op_assign rfl rfl) rfl rfl rfl ?_
  refine J.nil ?_
  refine J.then_n (J.k hK4 ?_)
  refine J.keepE [(2, _)] ⟨rfl, trivial⟩ ?_
  refine J.ret ?_
  refine J.then_r ?_
  exact J.done hw0 (fun _ _ h => h) (res1 rfl rfl) (retOk () rfl trivial [0] rfl (by decide))

theorem records_nil_ct (F : Hp) : Ct Tryd.prog 38 [.pointer none] [F] (fun _ : Unit => .slice none 0 0) (fun _ => True) (fun _ => [F]) := by
  refine Ct.walk Tryd.func38 rfl Tryd.ntmps38 rfl (fun w0 hw0 => ?_)
  change J _ [(0, _)] _ _ _
  refine J.seq (fun K1 hK1 => ?_)
  refine J.region ?_
  refine J.y (op_assign rfl rfl) rfl rfl rfl ?_
  refine J.nil ?_
  refine J.then_n (J.k hK1 ?_)
  refine J.keepE [(0, _)] ⟨rfl, trivial⟩ ?_
  refine J.seq (fun K2 hK2 => ?_)
  refine J.seq (fun K3 hK3 => ?_)
  refine J.region ?_
  refine J.y (op_move rfl rfl) rfl rfl rfl ?_
  refine J.y ((op_peq Tryd.underlying58 rfl rfl rfl).as (v' := .bool true) rfl) rfl rfl rfl ?_
  refine J.nil ?_
  refine J.then_n (J.k hK3 ?_)
  refine J.keepE [(0, _), (4, _)] ⟨rfl, rfl, trivial⟩ ?_
  refine J.condT rfl rfl ?_
  refine J.seq (fun K4 hK4 => ?_)
  refine J.region ?_
  refine J.y (op_assign rfl rfl) rfl rfl rfl ?_
  refine J.nil ?_
  refine J.then_n (J.k hK4 ?_)
  refine J.keepE [(2, _)] ⟨rfl, trivial⟩ ?_
  refine J.ret ?_
  refine J.then_r ?_
  exact J.done hw0 (fun _ _ h => h) (res1 rfl rfl) (retOk () rfl trivial [0] rfl (by decide))

theorem records_ct (F : Hp) (gb gd : Nat) (first : Int) (size : Nat) (hat : Int) (hturn : UInt64) (hend : Int) (Ar : Option Addr) (nr cr : Nat) (bad : Bool) (hB : Cells F ⟨gb, 0, none⟩ [Ptr gd, I first, I (size : Nat), I hat, W64 hturn, I hend, .slice Ar nr cr, .bool bad]) (L : List (List UInt8)) (hLn : L.length = nr) (hL : Sl F 1 Ar nr cr (strsV L)) (hn : nr ≤ 1073741824) :
    Ct Tryd.prog 38 [Ptr gb] [F] (fun x : Option Addr × Nat × Hp => .slice x.1 L.length x.2.1) (fun x => Row x.2.2 9 1 x.1 L.length x.2.1 (strsV L)) (fun x => [F, x.2.2]) := by
  subst hLn
  refine Ct.walk Tryd.func38 rfl Tryd.ntmps38 rfl (fun w0 hw0 => ?_)
  change J _ [(0, _)] _ _ _
  refine J.seq (fun K1 hK1 => ?_)
  refine J.region ?_
  refine J.y (op_assign rfl rfl) rfl rfl rfl ?_
  refine J.nil ?_
  refine J.then_n (J.k hK1 ?_)
  refine J.keepE [(0, _)] ⟨rfl, trivial⟩ ?_
  refine J.seq (fun K2 hK2 => ?_)
  refine J.seq (fun K3 hK3 => ?_)
  refine J.region ?_
  refine J.y (op_move rfl rfl) rfl rfl rfl ?_
  refine J.y ((op_peq Tryd.underlying58 rfl rfl rfl).as (v' := .bool false) rfl) rfl rfl rfl ?_
  refine J.nil ?_
  refine J.then_n (J.k hK3 ?_)
  refine J.keepE [(0, _), (4, _)] ⟨rfl, rfl, trivial⟩ ?_
  refine J.condF rfl rfl ?_
  refine J.skip ?_
  refine J.then_n (J.k hK2 ?_)
  refine J.keepE [(0, _)] ⟨rfl, trivial⟩ ?_
  refine J.seq (fun K4 hK4 => ?_)
  refine J.region ?_
  refine J.y (op_move rfl rfl) rfl rfl rfl ?_
  refine J.y (op_nilCheck rfl rfl) rfl rfl rfl ?_
  refine J.y (op_fieldAddr (j := 3) rfl rfl Tryd.underlying138 rfl Tryd.sizeOf136 rfl) rfl rfl rfl ?_
  refine J.y (op_fieldAddr (j := 6) rfl rfl Tryd.underlying136 rfl Tryd.sizeOf36 rfl) rfl rfl rfl ?_
  refine J.y (op_load rfl rfl Tryd.isAgg36 (m := F) (by simp) (hB.at (i := 6) rfl)) rfl rfl rfl ?_
  refine J.e (op_call rfl rfl ent99 (Ct.use (new := fun x : Option Addr × Nat × Hp => [x.2.2]) (fun F' hF => cloneS_ct F' L Ar cr (hL.mono (hF F (by simp))) hn))) rfl rfl rfl ?_
  rintro ⟨A10, c10, m10⟩ h10
  try dsimp only at h10
  change J _ _ _ [F, m10] _
  refine J.y (op_assign rfl rfl) rfl rfl rfl ?_
  refine J.nil ?_
  refine J.then_n (J.k hK4 ?_)
  refine J.keepE [(2, _)] ⟨rfl, trivial⟩ ?_
  refine J.ret ?_
  exact J.done hw0 (fun _ _ h => h) (res1 rfl rfl) (retOk (A10, c10, m10) rfl h10 [0, 1] rfl (by decide))

theorem put_nil_ct (F : Hp) (s : List UInt8) : Ct Tryd.prog 35 [.pointer none, Str s] [F] (fun _ : Unit => I 1) (fun _ => True) (fun _ => [F]) := by
  refine Ct.walk Tryd.func35 rfl Tryd.ntmps35 rfl (fun w0 hw0 => ?_)
  change J _ [(0, _), (1, _)] _ _ _
  refine J.seq (fun K1 hK1 => ?_)
  refine J.region ?_
  refine J.y (op_assign rfl rfl) rfl rfl rfl ?_
  refine J.nil ?_
  refine J.then_n (J.k hK1 ?_)
  refine J.keepE [(0, _), (1, _)] ⟨rfl, rfl, trivial⟩ ?_
  refine J.seq (fun K2 hK2 => ?_)
  refine J.seq (fun K3 hK3 => ?_)
  refine J.region ?_
  refine J.y (op_move rfl rfl) rfl rfl rfl ?_
  refine J.y (op_move rfl rfl) rfl rfl rfl ?_
  refine J.e (op_call rfl rfl ent97 (Ct.use0 (fun F' hF => may_nil_ct F' s))) rfl rfl rfl ?_
  intro g9 _
  refine J.y (op_assign rfl rfl) rfl rfl rfl ?_
  refine J.nil ?_
  refine J.then_n (J.k hK3 ?_)
  refine J.keepE [(0, _), (1, _), (5, _)] ⟨rfl, rfl, rfl, trivial⟩ ?_
  refine J.seq (fun K4 hK4 => ?_)
  refine J.region ?_
  refine J.y (op_move rfl rfl) rfl rfl rfl ?_
  refine J.y ((op_neq rfl rfl rfl).as (v' := .bool true) (congrArg Value.bool (decide_eq_true (by decide)))) rfl rfl rfl ?_
  refine J.nil ?_
  refine J.then_n (J.k hK4 ?_)
  refine J.keepE [(0, _), (1, _), (5, _), (11, _)] ⟨rfl, rfl, rfl, rfl, trivial⟩ ?_
  refine J.condT rfl rfl ?_
  refine J.seq (fun K5 hK5 => ?_)
  refine J.region ?_
  refine J.y (op_move rfl rfl) rfl rfl rfl ?_
  refine J.y (op_assign rfl rfl) rfl rfl rfl ?_
  refine J.nil ?_
  refine J.then_n (J.k hK5 ?_)
  refine J.keepE [(4, _)] ⟨rfl, trivial⟩ ?_
  refine J.ret ?_
  refine J.then_r ?_
  exact J.done hw0 (fun _ _ h => h) (res1 rfl rfl) (retOk () rfl trivial [0] rfl (by decide))

theorem compact_nil_ct (F : Hp) (s : List UInt8) : Ct Tryd.prog 36 [.pointer none, Str s] [F] (fun _ : Unit => I 1) (fun _ => True) (fun _ => [F]) := by
  refine Ct.walk Tryd.func36 rfl Tryd.ntmps36 rfl (fun w0 hw0 => ?_)
  change J _ [(0, _), (1, _)] _ _ _
  refine J.seq (fun K1 hK1 => ?_)
  refine J.region ?_
  refine J.y (op_assign rfl rfl) rfl rfl rfl ?_
  refine J.nil ?_
  refine J.then_n (J.k hK1 ?_)
  refine J.keepE [(0, _), (1, _)] ⟨rfl, rfl, trivial⟩ ?_
  refine J.seq (fun K2 hK2 => ?_)
  refine J.seq (fun K3 hK3 => ?_)
  refine J.region ?_
  refine J.y (op_move rfl rfl) rfl rfl rfl ?_
  refine J.y (op_move rfl rfl) rfl rfl rfl ?_
  refine J.e (op_call rfl rfl ent97 (Ct.use0 (fun F' hF => may_nil_ct F' s))) rfl rfl rfl ?_
  intro g9 _
  refine J.y (op_assign rfl rfl) rfl rfl rfl ?_
  refine J.nil ?_
  refine J.then_n (J.k hK3 ?_)
  refine J.keepE [(0, _), (1, _), (5, _)] ⟨rfl, rfl, rfl, trivial⟩ ?_
  refine J.seq (fun K4 hK4 => ?_)
  refine J.region ?_
  refine J.y (op_move rfl rfl) rfl rfl rfl ?_
  refine J.y ((op_neq rfl rfl rfl).as (v' := .bool true) (congrArg Value.bool (decide_eq_true (by decide)))) rfl rfl rfl ?_
  refine J.nil ?_
  refine J.then_n (J.k hK4 ?_)
  refine J.keepE [(0, _), (1, _), (5, _), (11, _)] ⟨rfl, rfl, rfl, rfl, trivial⟩ ?_
  refine J.condT rfl rfl ?_
  refine J.seq (fun K5 hK5 => ?_)
  refine J.region ?_
  refine J.y (op_move rfl rfl) rfl rfl rfl ?_
  refine J.y (op_assign rfl rfl) rfl rfl rfl ?_
  refine J.nil ?_
  refine J.then_n (J.k hK5 ?_)
  refine J.keepE [(4, _)] ⟨rfl, trivial⟩ ?_
  refine J.ret ?_
  refine J.then_r ?_
  exact J.done hw0 (fun _ _ h => h) (res1 rfl rfl) (retOk () rfl trivial [0] rfl (by decide))

theorem Sha_take_min (s : List UInt8) (n : Nat) : (s.take (min s.length n)).drop 0 = s.take n := by
  rw [List.drop_zero]
  by_cases h : s.length ≤ n
  · rw [Nat.min_eq_left h, List.take_of_length_le (Nat.le_refl _), List.take_of_length_le h]
  · rw [Nat.min_eq_right (by omega)]
theorem drop_min (s : List UInt8) (n : Nat) : s.drop (min s.length n) = s.drop n := by
  by_cases h : s.length ≤ n
  · rw [Nat.min_eq_left h, List.drop_of_length_le (Nat.le_refl _), List.drop_of_length_le h]
  · rw [Nat.min_eq_right (by omega)]
def prtsV (l : List Prt) : List (List Value) := l.map Prt.cells
theorem prtsV_app (a b : List Prt) : prtsV (a ++ b) = prtsV a ++ prtsV b := by simp [prtsV]
def prt (turn num : UInt64) (s : List UInt8) (n i : Nat) : Prt := ⟨turn, num, i, n, bname turn num s, (s.drop (39 * i)).take 39⟩
/-- the first k parts of a record of n -/
def prts (turn num : UInt64) (s : List UInt8) (n k : Nat) : List Prt := (List.range k).map (prt turn num s n)
theorem prts_succ (turn num : UInt64) (s : List UInt8) (n k : Nat) : prts turn num s n (k + 1) = prts turn num s n k ++ [prt turn num s n k] := by unfold prts; rw [List.range_succ, List.map_append]; rfl
theorem prts_len (turn num : UInt64) (s : List UInt8) (n k : Nat) : (prts turn num s n k).length = k := by unfold prts; rw [List.length_map, List.length_range]
theorem prtsV_get {turn num : UInt64} {s : List UInt8} {n k i : Nat} (h : i < k) : (prtsV (prts turn num s n k))[i]? = some (prt turn num s n i).cells := by
  unfold prtsV prts
  rw [List.map_map, List.getElem?_map, List.getElem?_range h]; rfl
theorem partsN_pos (n : Nat) : 1 ≤ partsN n := by unfold partsN; split <;> omega
theorem partsN_le {n : Nat} (h : n ≤ 900) : partsN n ≤ 24 := by unfold partsN; split <;> omega

theorem parts_ct (F : Hp) (hK : Cells F ⟨4, 0, none⟩ (Sha.K.map W32)) (turn num : UInt64) (s : List UInt8) (ht : turn.toNat < 2 ^ (8 * 4)) (hnm : num.toNat < 2 ^ (8 * 2)) (hs : s.length ≤ 900) (n : Nat) (hn : n = partsN s.length) :
    Ct Tryd.prog 139 [W64 turn, W64 num, Str s] [F] (fun x : Option Addr × Nat × Hp => .slice x.1 n x.2.1) (fun x => Row x.2.2 198 6 x.1 n x.2.1 (prtsV (prts turn num s n n))) (fun x => [F, x.2.2]) := by
  have hn24 : n ≤ 24 := hn ▸ partsN_le hs
  refine Ct.walk Tryd.func139 rfl Tryd.ntmps139 rfl (fun w0 hw0 => ?_)
  change J _ [(0, _), (1, _), (2, _)] _ _ _
  refine J.seq (fun K1 hK1 => ?_)
  refine J.region ?_
  refine J.y (op_assign rfl rfl) rfl rfl rfl ?_
  refine J.nil ?_
  refine J.then_n (J.k hK1 ?_)
  refine J.keepE [(0, _), (1, _), (2, _)] ⟨rfl, rfl, rfl, trivial⟩ ?_
  refine J.seq (fun K2 hK2 => ?_)
  refine J.region ?_
  refine J.y (op_move rfl rfl) rfl rfl rfl ?_
  refine J.y (op_slen Tryd.underlying9 rfl rfl) rfl rfl rfl ?_
  refine J.e (op_call rfl rfl ent42 (Ct.use0 (fun F' hF => by have := partsN_ct F' s.length (by omega); rw [← hn] at this; exact this))) rfl rfl rfl ?_
  intro g13 _
  refine J.y (op_move rfl rfl) rfl rfl rfl ?_
  refine J.y (op_move rfl rfl) rfl rfl rfl ?_
  refine J.y (op_move rfl rfl) rfl rfl rfl ?_
  refine J.e (op_call rfl rfl ent167 (Ct.use0 (fun F' hF => bname_ct F' (hK.mono (hF _ (by simp))) turn num s ht hnm (by omega)))) rfl rfl rfl ?_
  intro g17 _
  refine J.y (op_assign rfl rfl) rfl rfl rfl ?_
  refine J.y (op_assign rfl rfl) rfl rfl rfl ?_
  refine J.nil ?_
  refine J.then_n (J.k hK2 ?_)
  refine J.keepE [(0, _), (1, _), (2, _), (7, _), (8, _)] ⟨rfl, rfl, rfl, rfl, rfl, trivial⟩ ?_
  refine J.seq (fun K3 hK3 => ?_)
  refine J.region ?_
  refine J.y (op_assign rfl rfl) rfl rfl rfl ?_
  refine J.nil ?_
  refine J.then_n (J.k hK3 ?_)
  refine J.keepE [(0, _), (1, _), (2, _), (7, _), (8, _), (9, _)] ⟨rfl, rfl, rfl, rfl, rfl, rfl, trivial⟩ ?_
  refine J.seq (fun K4 hK4 => ?_)
  refine J.seq (fun K5 hK5 => ?_)
  refine J.addEmpty [0, 1] [F, (fun _ => none)] rfl (by decide) ?_
  refine J.region ?_
  refine J.y (op_move rfl rfl) rfl rfl rfl ?_
  refine J.y (op_move rfl rfl) rfl rfl rfl ?_
  refine J.nil ?_
  refine J.then_n (J.k hK5 ?_)
  refine J.keepE [(0, _), (1, _), (2, _), (7, _), (8, _), (9, _), (18, _), (19, _)] ⟨rfl, rfl, rfl, rfl, rfl, rfl, rfl, rfl, trivial⟩ ?_
  refine J.block ?_
  refine J.loop (X := Nat × Hp × Option Addr × Nat) (fun x => [(0, W64 turn), (1, W64 num), (2, Str (s.drop (39 * x.1))), (7, I n), (8, Str (bname turn num s)), (9, .slice x.2.2.1 x.1 x.2.2.2), (18, I n), (19, I x.1)]) (fun x => [F, x.2.1]) (fun x => x.1 ≤ n ∧ Row x.2.1 198 6 x.2.2.1 x.1 x.2.2.2 (prtsV (prts turn num s n x.1))) (fun x => n - x.1) (0, (fun _ => none), none, 0) (⟨Nat.zero_le _, RowQ.nil⟩) ⟨rfl, rfl, rfl, rfl, rfl, rfl, rfl, rfl, trivial⟩ (fun _ h => h) ?_
  rintro ⟨k, m, A7, c7⟩ ⟨hk, hr⟩ I0 hI0
  dsimp only at hk hr ⊢
  refine J.seq (fun K6 hK6 => ?_)
  refine J.region ?_
  refine J.y (op_lss rfl rfl rfl) rfl rfl rfl ?_
  refine J.nil ?_
  refine J.then_n (J.k hK6 ?_)
  refine J.keepE [(0, _), (1, _), (2, _), (7, _), (8, _), (9, _), (18, _), (19, _), (20, _)] ⟨rfl, rfl, rfl, rfl, rfl, rfl, rfl, rfl, rfl, trivial⟩ ?_
  refine J.seq (fun K7 hK7 => ?_)
  refine J.ite rfl (fun h20 => ?_) (fun h20 => ?_)
  ·
    refine J.skip ?_
    refine J.then_n (J.k hK7 ?_)
    refine J.keepE [(0, _), (1, _), (2, _), (7, _), (8, _), (9, _), (18, _), (19, _)] ⟨rfl, rfl, rfl, rfl, rfl, rfl, rfl, rfl, trivial⟩ ?_
    refine J.seq (fun K8 hK8 => ?_)
    refine J.block ?_
    refine J.seq (fun K9 hK9 => ?_)
    refine J.region ?_
    refine J.y (op_move rfl rfl) rfl rfl rfl ?_
    refine J.y (op_assign rfl rfl) rfl rfl rfl ?_
    refine J.nil ?_
    refine J.then_n (J.k hK9 ?_)
    refine J.keepE [(0, _), (1, _), (2, _), (7, _), (8, _), (9, _), (10, _), (18, _), (19, _)] ⟨rfl, rfl, rfl, rfl, rfl, rfl, rfl, rfl, rfl, trivial⟩ ?_
    refine J.seq (fun K10 hK10 => ?_)
    refine J.region ?_
    refine J.y (op_move rfl rfl) rfl rfl rfl ?_
    refine J.y (op_move rfl rfl) rfl rfl rfl ?_
    refine J.y (op_move rfl rfl) rfl rfl rfl ?_
    refine J.y (op_move rfl rfl) rfl rfl rfl ?_
    refine J.y (op_move rfl rfl) rfl rfl rfl ?_
    refine J.y (op_move rfl rfl) rfl rfl rfl ?_
    refine J.y (op_move rfl rfl) rfl rfl rfl ?_
    refine J.y (op_move rfl rfl) rfl rfl rfl ?_
    refine J.y (op_slen Tryd.underlying9 rfl rfl) rfl rfl rfl ?_
    refine J.y ((op_min rfl rfl rfl).as (v' := I ((min (s.drop (39 * k)).length 39 : Nat) : Int)) (congrArg I (by omega))) rfl rfl rfl ?_
    refine J.y ((op_sslice (l := 0) (h := min (s.drop (39 * k)).length 39) Tryd.underlying9 rfl rfl rfl rfl ⟨by omega, by omega⟩).as (v' := Str ((s.drop (39 * k)).take 39)) (congrArg Str (Sha_take_min _ _))) rfl rfl rfl ?_
    refine J.y (op_buildStruct (l := [(0, .tmp 23), (1, .tmp 24), (2, .tmp 25), (3, .tmp 26), (4, .tmp 27), (5, .tmp 32)]) (vs := [W64 turn, W64 num, I k, I n, Str (bname turn num s), Str ((s.drop (39 * k)).take 39)]) (places := [(0, 1), (1, 1), (2, 1), (3, 1), (4, 1), (5, 1)]) (r := [W64 turn, W64 num, I k, I n, Str (bname turn num s), Str ((s.drop (39 * k)).take 39)]) rfl rfl rfl Tryd.underlying198 Tryd.zeroValue198 (fun _ => by kernel_rfl) rfl) rfl rfl rfl ?_
    refine J.e (op_buildSlice (l := [.tmp 33]) (xs := [(prt turn num s n k).cells]) rfl rfl rfl rfl Tryd.underlying194 el198 rfl (by decide) (by decide) (by simp [Prt.cells, prt])) rfl rfl rfl ?_
    intro g34 _
    change J _ _ _ [F, m, blk g34 (prt turn num s n k).cells 198] _
    refine J.e (op_append (i := 1) (m2 := blk g34 (prt turn num s n k).cells 198) (xs := prtsV (prts turn num s n k)) (ys := prtsV [(prt turn num s n k)]) rfl rfl rfl Tryd.underlying194 Tryd.underlying194 el198 rfl hr (by simp) ((row_blk (q := True) (xs := prtsV [(prt turn num s n k)]) rfl (by simp [prtsV, Prt.cells])).sl) (by simp [prtsV, Prt.cells, Value.oneCell']) (by omega) (by omega)) rfl rfl rfl ?_
    rintro ⟨A8, c8, m8⟩ h8
    try dsimp only at h8
    change J _ ((35, .slice A8 (k + 1) c8) :: _) _ [F, m8, blk g34 (prt turn num s n k).cells 198] _
    rw [← prtsV_app, ← prts_succ] at h8
    refine J.y (op_assign rfl rfl) rfl rfl rfl ?_
    refine J.nil ?_
    refine J.then_n (J.k hK10 ?_)
    refine J.keepE [(0, _), (1, _), (2, _), (7, _), (8, _), (9, _), (18, _), (19, _)] ⟨rfl, rfl, rfl, rfl, rfl, rfl, rfl, rfl, trivial⟩ ?_
    refine J.region ?_
    refine J.y (op_move rfl rfl) rfl rfl rfl ?_
    refine J.y (op_move rfl rfl) rfl rfl rfl ?_
    refine J.y (op_slen Tryd.underlying9 rfl rfl) rfl rfl rfl ?_
    refine J.y ((op_min rfl rfl rfl).as (v' := I ((min (s.drop (39 * k)).length 39 : Nat) : Int)) (congrArg I (by omega))) rfl rfl rfl ?_
    refine J.y ((op_sslice (l := min (s.drop (39 * k)).length 39) (h := (s.drop (39 * k)).length) Tryd.underlying9 rfl rfl rfl rfl ⟨by omega, by omega⟩).as (v' := Str (s.drop (39 * (k + 1)))) (congrArg Str (by rw [List.take_length, drop_min, List.drop_drop, Nat.mul_add, Nat.mul_one]))) rfl rfl rfl ?_
    refine J.y (op_assign rfl rfl) rfl rfl rfl ?_
    refine J.nil ?_
    refine J.blk_n ?_
    refine J.then_n (J.k hK8 ?_)
    refine J.keepE [(0, _), (1, _), (2, _), (7, _), (8, _), (9, _), (18, _), (19, _)] ⟨rfl, rfl, rfl, rfl, rfl, rfl, rfl, rfl, trivial⟩ ?_
    refine J.region ?_
    refine J.y ((op_add rfl rfl rfl (by first | omega | (refine ⟨?_, ?_⟩ <;> omega))).as (v' := I ((k + 1 : Nat) : Int)) (congrArg I (by omega))) rfl rfl rfl ?_
    refine J.y (op_move rfl rfl) rfl rfl rfl ?_
    refine J.nil ?_
    refine J.then_n ?_
    exact J.kk (k + 1, m8, A8, c8) (fun y (hy : _ ∧ n - y.1 < n - k) => hI0 y hy.1 hy.2) ⟨⟨by dsimp only; omega, h8⟩, by dsimp only; omega⟩ ⟨rfl, rfl, rfl, rfl, rfl, rfl, rfl, rfl, trivial⟩ (fun _ h => h.pick [0, 1] (by decide))
  ·
    refine J.exit ?_
    refine J.then_x ?_
    refine J.then_x ?_
    refine J.blk_eq ?_
    refine J.then_n (J.k hK4 ?_)
    refine J.keepE [(9, _)] ⟨rfl, trivial⟩ ?_
    refine J.seq (fun K11 hK11 => ?_)
    have hkn : k = n := by omega
    subst hkn
    refine J.region ?_
    refine J.y (op_move rfl rfl) rfl rfl rfl ?_
    refine J.y (op_assign rfl rfl) rfl rfl rfl ?_
    refine J.nil ?_
    refine J.then_n (J.k hK11 ?_)
    refine J.keepE [(6, _)] ⟨rfl, trivial⟩ ?_
    refine J.ret ?_
    exact J.done hw0 (fun _ _ h => h) (res1 rfl rfl) (retOk (A7, c7, m) rfl hr [0, 1] rfl (by decide))

end Go.Proofs.YtpcffgkmpmcobaaDoor
