/- A part of the proof: contracts of functions of the program, each for every state of the heaps that it names. -/
import Derived.Test.YtadckkaepngloaaDoorShaX
set_option linter.unusedSimpArgs false
set_option linter.unusedVariables false
namespace Go.Proofs.YtadckkaepngloaaDoor
open Go Go.Fw
set_option maxRecDepth 100000
set_option maxHeartbeats 1000000

namespace Sha
structure Strm where
  seed : List UInt8
  count : UInt64
  left : List UInt8
def Strm.cells (s : Strm) : List Value := [Str s.seed, W64 s.count, Str s.left]
def Strm.new (seed : List UInt8) : Strm := ⟨seed, 0, []⟩
def Strm.Ok (s : Strm) : Prop := s.left = [] ∨ 8 ≤ s.left.length
def Strm.fill (s : Strm) : Strm := if s.left = [] then ⟨s.seed, s.count + 1, sum (s.seed ++ numB s.count 4)⟩ else s
def val : List UInt8 → Nat → UInt64
  | _, 0 => 0
  | l, k + 1 => UInt64.ofNat ((val l k).toNat * 2 ^ min 8 64) ||| (l.getD k 0).toUInt64
def Strm.num (s : Strm) : UInt64 := val s.fill.left 8
def Strm.next (s : Strm) : Strm := ⟨s.fill.seed, s.fill.count, s.fill.left.drop 8⟩
def stop (n : UInt64) : UInt64 := 18446744073709551615 - 18446744073709551615 % n
def draw (e : UInt64) : Nat → Strm → Option (UInt64 × Strm)
  | 0, _ => none
  | f + 1, s => if s.num.toNat < e.toNat then some (s.num, s.next) else draw e f s.next
theorem Strm.fill_len {s : Strm} (h : s.Ok) : 8 ≤ s.fill.left.length := by
  unfold Strm.fill
  split
  · dsimp only; rw [sum_length]; decide
  · rcases h with h | h
    · contradiction
    · exact h
theorem Strm.fill_seed (s : Strm) : s.fill.seed = s.seed := by unfold Strm.fill; split <;> rfl
/-- what is left is a multiple of 8 -/
def Strm.Ok8 (s : Strm) : Prop := s.left.length % 8 = 0
theorem Strm.Ok8.ok {s : Strm} (h : s.Ok8) : s.Ok := by
  unfold Strm.Ok8 at h
  unfold Strm.Ok
  cases hl : s.left with
  | nil => exact .inl rfl
  | cons a l => rw [hl] at h; simp only [List.length_cons] at h ⊢; right; omega
theorem Strm.Ok8.next {s : Strm} (h : s.Ok8) : s.next.Ok8 := by
  unfold Strm.Ok8 Strm.next Strm.fill at *
  dsimp only
  rw [List.length_drop]
  split
  · dsimp only; rw [sum_length]
  · omega
theorem Strm.next_seed (s : Strm) : s.next.seed = s.seed := s.fill_seed
theorem draw_ok {e : UInt64} : ∀ {f : Nat} {s : Strm} {k : UInt64} {s' : Strm}, draw e f s = some (k, s') → s.Ok8 → s'.Ok8 ∧ s'.seed = s.seed
  | 0, _, _, _, h, _ => by simp [draw] at h
  | f + 1, s, k, s', h, ho => by
    unfold draw at h
    split at h
    · simp only [Option.some.injEq, Prod.mk.injEq] at h
      obtain ⟨_, rfl⟩ := h
      exact ⟨ho.next, s.next_seed⟩
    · have := draw_ok h ho.next
      exact ⟨this.1, this.2.trans s.next_seed⟩
end Sha
theorem ent20 : Enters Tryd.prog 20 := Enters.of Tryd.func20 rfl (by kernel_rfl)
theorem ent54 : Enters Tryd.prog 54 := Enters.of Tryd.func54 rfl (by kernel_rfl)
theorem ent21 : Enters Tryd.prog 21 := Enters.of Tryd.func21 rfl (by kernel_rfl)
attribute [local irreducible] Sha.val Sha.Strm.fill

theorem newStream_ct (F : Hp) (seed : List UInt8) :
    Ct Tryd.prog 20 [Str seed] [F] (fun g : Nat => Ptr g) (fun _ => True) (fun g => [F, blk g (Sha.Strm.new seed).cells 96]) := by
  refine Ct.walk Tryd.func20 rfl Tryd.ntmps20 rfl (fun w0 => ?_)
  change J _ [(0, _)] _ _ _
  refine J.seq (fun K1 hK1 => ?_)
  refine J.region ?_
  refine J.y (op_assign rfl rfl) rfl rfl rfl ?_
  refine J.nil ?_
  refine J.then_n (J.k hK1 ?_)
  refine J.keepE [(0, _)] ⟨rfl, trivial⟩ ?_
  refine J.seq (fun K2 hK2 => ?_)
  refine J.region ?_
  refine J.y (op_move rfl rfl) rfl rfl rfl ?_
  refine J.y (op_buildStruct (l := [(0, .tmp 3)]) (places := [(0, 1), (1, 1), (2, 1)]) (r := (Sha.Strm.new seed).cells) rfl rfl rfl Tryd.underlying96 Tryd.zeroValue96 (fun _ => by kernel_rfl) rfl) rfl rfl rfl ?_
  refine J.e (op_box rfl rfl rfl) rfl rfl rfl ?_
  intro g5 _
  change J _ _ _ [F, blk g5 (Sha.Strm.new seed).cells 96] _
  refine J.y (op_assign rfl rfl) rfl rfl rfl ?_
  refine J.nil ?_
  refine J.then_n (J.k hK2 ?_)
  refine J.keepE [(2, _)] ⟨rfl, trivial⟩ ?_
  refine J.ret ?_
  exact J.done (fun _ _ h => h) (res1 rfl rfl) (retOk g5 rfl trivial [0, 1] rfl (by decide))

theorem next_ct (F : Hp) (hK : Cells F ⟨0, 0, none⟩ (Sha.K.map W32)) (g : Nat) (s : Sha.Strm) (ho : s.Ok) (hs : s.seed.length ≤ 1048576) :
    Ct Tryd.prog 54 [Ptr g] [blk g s.cells 96, F] (fun _ : Unit => W64 s.num) (fun _ => True) (fun _ => [blk g s.next.cells 96, F]) := by
  have hfl := s.fill_len ho
  refine Ct.walk Tryd.func54 rfl Tryd.ntmps54 rfl (fun w0 => ?_)
  change J _ [(0, _)] _ _ _
  refine J.seq (fun K1 hK1 => ?_)
  refine J.region ?_
  refine J.y (op_assign rfl rfl) rfl rfl rfl ?_
  refine J.nil ?_
  refine J.then_n (J.k hK1 ?_)
  refine J.keepE [(0, _)] ⟨rfl, trivial⟩ ?_
  refine J.cut (fun _ : Unit => [(0, Ptr g)]) (fun _ => [blk g s.fill.cells 96, F]) (fun _ => True) (fun K2 hK2 => ?_) ?_
  ·
    refine J.seq (fun K3 hK3 => ?_)
    refine J.region ?_
    refine J.y (op_move rfl rfl) rfl rfl rfl ?_
    refine J.y (op_nilCheck rfl rfl) rfl rfl rfl ?_
    refine J.y (op_fieldAddr (j := 2) rfl rfl Tryd.underlying96 rfl Tryd.sizeOf9 rfl) rfl rfl rfl ?_
    refine J.y (op_loadB 0 rfl rfl rfl Tryd.isAgg9 rfl) rfl rfl rfl ?_
    refine J.y (op_seq rfl rfl rfl) rfl rfl rfl ?_
    refine J.nil ?_
    refine J.then_n (J.k hK3 ?_)
    refine J.keepE [(0, _), (9, _)] ⟨rfl, rfl, trivial⟩ ?_
    refine J.ite rfl (fun h9 => ?_) (fun h9 => ?_)
    ·
      refine J.seq (fun K4 hK4 => ?_)
      refine J.draw [blk g s.cells 96, F] [15] [(0, true), (1, true), (2, true), (3, true), (4, true), (5, true), (6, true), (7, true), (8, true), (9, false), (10, true), (11, false), (12, false), (13, true), (14, true), (15, false)] Tryd.wide (by decide +kernel) (by simp) ?_
      refine J.dy rfl (op_move rfl rfl) rfl rfl rfl rfl ?_
      refine J.dy rfl (op_move rfl rfl) rfl rfl rfl rfl ?_
      refine J.dy rfl (op_nilCheck rfl rfl) rfl rfl rfl rfl ?_
      refine J.dy rfl (op_fieldAddr (j := 0) rfl rfl Tryd.underlying96 rfl Tryd.sizeOf9 rfl) rfl rfl rfl rfl ?_
      refine J.dy rfl (op_loadB 0 rfl rfl rfl Tryd.isAgg9 rfl) rfl rfl rfl rfl ?_
      refine J.dy rfl (op_move rfl rfl) rfl rfl rfl rfl ?_
      refine J.dy rfl (op_nilCheck rfl rfl) rfl rfl rfl rfl ?_
      refine J.dy rfl (op_fieldAddr (j := 1) rfl rfl Tryd.underlying96 rfl Tryd.sizeOf34 rfl) rfl rfl rfl rfl ?_
      refine J.dy rfl (op_loadB 0 rfl rfl rfl Tryd.isAgg34 rfl) rfl rfl rfl rfl ?_
      refine J.deN (fun x => [blk g s.cells 96, F] ++ [x.2.2]) rfl (op_call rfl rfl ent47 (Ct.use (fun F' _ => number_ct F' s.count 4 (by decide)))) rfl rfl rfl (fun _ _ h => List.mem_append_left _ h) (by simp) ?_
      rintro ⟨A19, c19, m19⟩ h19
      try dsimp only at h19
      change J _ ((19, .slice A19 4 c19) :: _) _ [blk g s.cells 96, F, m19] _
      refine J.dy rfl (op_toStr rfl rfl Tryd.underlying24 Tryd.underlying5 Tryd.underlying9 (m := m19) (by simp) h19.sl) rfl rfl rfl rfl ?_
      refine J.de rfl (op_buildSlice (l := [.tmp 14, .tmp 20]) (xs := [[Str s.seed], [Str (Sha.numB s.count 4)]]) rfl rfl rfl rfl Tryd.underlying22 el9 rfl (by decide) (by decide) (by simp)) rfl rfl rfl (by simp) ?_
      intro g21 _
      change J _ _ _ [blk g s.cells 96, F, m19, blk g21 [Str s.seed, Str (Sha.numB s.count 4)] 9] _
      refine J.de rfl (op_call rfl rfl ent16 (Ct.use0 (fun F' hF => sum_ct F' (hK.mono (hF _ (by simp))) (some ⟨g21, 0, none⟩) 2 2 [s.seed, (Sha.numB s.count 4)] (((row_blk (q := True) (xs := strsV [s.seed, (Sha.numB s.count 4)]) rfl (by simp [strsV])).sl (m := blk g21 [Str s.seed, Str (Sha.numB s.count 4)] 9)).mono (hF _ (by simp))) (by simp [Sha.numB_length]; omega) (by decide)))) rfl rfl rfl (by simp) ?_
      intro g22 _
      change J _ _ _ [blk g s.cells 96, F, m19, blk g21 [Str s.seed, Str (Sha.numB s.count 4)] 9] _
      refine J.dy rfl (op_nilCheck rfl rfl) rfl rfl rfl rfl ?_
      refine J.dy rfl (op_fieldAddr (j := 2) rfl rfl Tryd.underlying96 rfl Tryd.sizeOf9 rfl) rfl rfl rfl rfl ?_
      refine J.ds rfl (op_store (i := 0) (vs := [Str (Sha.sum [s.seed, (Sha.numB s.count 4)].flatten)]) rfl rfl rfl rfl rfl Tryd.sizeOf9 rfl (by show 2 + 1 ≤ 3; decide)) rfl rfl rfl (fun _ _ => ?_)
      change J _ _ _ [blk g [Str s.seed, W64 s.count, Str (Sha.sum [s.seed, (Sha.numB s.count 4)].flatten)] 96, F, m19, blk g21 [Str s.seed, Str (Sha.numB s.count 4)] 9] _
      refine J.dnil ?_
      refine J.then_n (J.k hK4 ?_)
      refine J.keepE [(0, _)] ⟨rfl, trivial⟩ ?_
      refine J.region ?_
      refine J.y (op_move rfl rfl) rfl rfl rfl ?_
      refine J.y (op_nilCheck rfl rfl) rfl rfl rfl ?_
      refine J.y (op_fieldAddr (j := 1) rfl rfl Tryd.underlying96 rfl Tryd.sizeOf34 rfl) rfl rfl rfl ?_
      refine J.y (op_loadB 0 rfl rfl rfl Tryd.isAgg34 rfl) rfl rfl rfl ?_
      refine J.y (op_add64 (b := 1) rfl rfl rfl) rfl rfl rfl ?_
      refine J.y (op_nilCheck rfl rfl) rfl rfl rfl ?_
      refine J.y (op_fieldAddr (j := 1) rfl rfl Tryd.underlying96 rfl Tryd.sizeOf34 rfl) rfl rfl rfl ?_
      refine J.s (op_store (i := 0) (vs := [W64 (s.count + 1)]) rfl rfl rfl rfl rfl Tryd.sizeOf34 rfl (by show 1 + 1 ≤ 3; decide)) rfl rfl (fun _ _ => ?_)
      change J _ _ _ [blk g [Str s.seed, W64 (s.count + 1), Str (Sha.sum [s.seed, (Sha.numB s.count 4)].flatten)] 96, F, m19, blk g21 [Str s.seed, Str (Sha.numB s.count 4)] 9] _
      refine J.nil ?_
      refine J.then_n ?_
      have hf : s.fill.cells = [Str s.seed, W64 (s.count + 1), Str (Sha.sum [s.seed, (Sha.numB s.count 4)].flatten)] := by
        unfold Sha.Strm.fill Sha.Strm.cells
        rw [if_pos h9]
        simp
      exact J.kk () hK2 trivial ⟨rfl, trivial⟩ (fun _ h => by rw [hf]; exact h.pick [0, 1] (by decide))
    ·
      refine J.skip ?_
      refine J.then_n ?_
      have hf : s.fill = s := by unfold Sha.Strm.fill; rw [if_neg h9]
      exact J.kk () hK2 trivial ⟨rfl, trivial⟩ (fun _ h => by rw [hf]; exact h)
  rintro _ _
  refine J.seq (fun K5 hK5 => ?_)
  refine J.region ?_
  refine J.y (op_assign rfl rfl) rfl rfl rfl ?_
  refine J.nil ?_
  refine J.then_n (J.k hK5 ?_)
  refine J.keepE [(0, _), (3, _)] ⟨rfl, rfl, trivial⟩ ?_
  refine J.seq (fun K6 hK6 => ?_)
  refine J.seq (fun K7 hK7 => ?_)
  refine J.region ?_
  refine J.y (op_move rfl rfl) rfl rfl rfl ?_
  refine J.nil ?_
  refine J.then_n (J.k hK7 ?_)
  refine J.keepE [(0, _), (3, _), (32, _)] ⟨rfl, rfl, rfl, trivial⟩ ?_
  refine J.block ?_
  refine J.loop (fun k : Nat => [(0, Ptr g), (3, W64 (Sha.val s.fill.left k)), (32, I k)]) (fun _ => [blk g s.fill.cells 96, F]) (fun k => k ≤ 8) (fun k => 8 - k) 0 (Nat.zero_le _) ⟨rfl, by unfold Sha.val; rfl, rfl, trivial⟩ (fun _ h => h) ?_
  intro k hk I0 hI0
  refine J.seq (fun K8 hK8 => ?_)
  refine J.region ?_
  refine J.y (op_lss rfl rfl rfl) rfl rfl rfl ?_
  refine J.nil ?_
  refine J.then_n (J.k hK8 ?_)
  refine J.keepE [(0, _), (3, _), (32, _), (33, _)] ⟨rfl, rfl, rfl, rfl, trivial⟩ ?_
  refine J.seq (fun K9 hK9 => ?_)
  refine J.ite rfl (fun h33 => ?_) (fun h33 => ?_)
  ·
    refine J.skip ?_
    refine J.then_n (J.k hK9 ?_)
    refine J.keepE [(0, _), (3, _), (32, _)] ⟨rfl, rfl, rfl, trivial⟩ ?_
    refine J.seq (fun K10 hK10 => ?_)
    refine J.block ?_
    refine J.seq (fun K11 hK11 => ?_)
    refine J.region ?_
    refine J.y (op_move rfl rfl) rfl rfl rfl ?_
    refine J.y (op_assign rfl rfl) rfl rfl rfl ?_
    refine J.nil ?_
    refine J.then_n (J.k hK11 ?_)
    refine J.keepE [(0, _), (3, _), (4, _), (32, _)] ⟨rfl, rfl, rfl, rfl, trivial⟩ ?_
    have hk8 : k < 8 := by omega
    refine J.region ?_
    refine J.y (op_move rfl rfl) rfl rfl rfl ?_
    refine J.y (op_shl64 (m := 8) rfl rfl rfl) rfl rfl rfl ?_
    refine J.y (op_move rfl rfl) rfl rfl rfl ?_
    refine J.y (op_nilCheck rfl rfl) rfl rfl rfl ?_
    refine J.y (op_fieldAddr (j := 2) rfl rfl Tryd.underlying96 rfl Tryd.sizeOf9 rfl) rfl rfl rfl ?_
    refine J.y (op_loadB 0 rfl rfl rfl Tryd.isAgg9 rfl) rfl rfl rfl ?_
    refine J.y (op_move rfl rfl) rfl rfl rfl ?_
    refine J.y (op_sindex (i := k) Tryd.underlying9 rfl rfl rfl (getB (b := s.fill.left) (j := k) (by omega))) rfl rfl rfl ?_
    refine J.y (op_cv_u8_u64 rfl rfl Tryd.underlying5 Tryd.underlying34) rfl rfl rfl ?_
    refine J.y (op_or64 rfl rfl rfl) rfl rfl rfl ?_
    refine J.y (op_assign rfl rfl) rfl rfl rfl ?_
    refine J.nil ?_
    refine J.blk_n ?_
    refine J.then_n (J.k hK10 ?_)
    refine J.keepE [(0, _), (3, _), (32, _)] ⟨rfl, rfl, rfl, trivial⟩ ?_
    refine J.region ?_
    refine J.y (op_add rfl rfl rfl (by omega)) rfl rfl rfl ?_
    refine J.y (op_move rfl rfl) rfl rfl rfl ?_
    refine J.nil ?_
    refine J.then_n ?_
    exact J.kk (k + 1) (fun x (hx : x ≤ 8 ∧ 8 - x < 8 - k) => hI0 x hx.1 hx.2) ⟨by omega, by omega⟩ ⟨rfl, by rw [Sha.val]; rfl, rfl, trivial⟩ (fun _ h => h)
  ·
    refine J.exit ?_
    refine J.then_x ?_
    refine J.then_x ?_
    refine J.blk_eq ?_
    refine J.then_n (J.k hK6 ?_)
    refine J.keepE [(0, _), (3, _)] ⟨rfl, rfl, trivial⟩ ?_
    refine J.seq (fun K12 hK12 => ?_)
    have hk8 : k = 8 := by omega
    subst hk8
    refine J.region ?_
    refine J.y (op_move rfl rfl) rfl rfl rfl ?_
    refine J.y (op_move rfl rfl) rfl rfl rfl ?_
    refine J.y (op_nilCheck rfl rfl) rfl rfl rfl ?_
    refine J.y (op_fieldAddr (j := 2) rfl rfl Tryd.underlying96 rfl Tryd.sizeOf9 rfl) rfl rfl rfl ?_
    refine J.y (op_loadB 0 rfl rfl rfl Tryd.isAgg9 rfl) rfl rfl rfl ?_
    refine J.y ((op_sslice (l := 8) (h := s.fill.left.length) Tryd.underlying9 rfl rfl rfl rfl ⟨hfl, Nat.le_refl _⟩).as (v' := Str s.next.left) (by rw [List.take_length]; rfl)) rfl rfl rfl ?_
    refine J.y (op_nilCheck rfl rfl) rfl rfl rfl ?_
    refine J.y (op_fieldAddr (j := 2) rfl rfl Tryd.underlying96 rfl Tryd.sizeOf9 rfl) rfl rfl rfl ?_
    refine J.s (op_store (i := 0) (vs := [Str s.next.left]) rfl rfl rfl rfl rfl Tryd.sizeOf9 rfl (by show 2 + 1 ≤ 3; decide)) rfl rfl (fun _ _ => ?_)
    change J _ _ _ [blk g s.next.cells 96, F] _
    refine J.nil ?_
    refine J.then_n (J.k hK12 ?_)
    refine J.keepE [(3, _)] ⟨rfl, trivial⟩ ?_
    refine J.seq (fun K13 hK13 => ?_)
    refine J.region ?_
    refine J.y (op_move rfl rfl) rfl rfl rfl ?_
    refine J.y (op_assign rfl rfl) rfl rfl rfl ?_
    refine J.nil ?_
    refine J.then_n (J.k hK13 ?_)
    refine J.keepE [(2, _)] ⟨rfl, trivial⟩ ?_
    refine J.ret ?_
    exact J.done (fun _ _ h => h) (res1 rfl rfl) (retOk () rfl trivial [0, 1] (by simp only [Sha.Strm.next, Sha.Strm.cells]; rfl) (by decide))

theorem below_ct (F : Hp) (hK : Cells F ⟨0, 0, none⟩ (Sha.K.map W32)) (g : Nat) (s : Sha.Strm) (ho0 : s.Ok8) (hs : s.seed.length ≤ 1048576) (n : UInt64) (hn : 2 ≤ n.toNat) (fuel : Nat) (k : UInt64) (s' : Sha.Strm) (hd : Sha.draw (Sha.stop n) fuel s = some (k, s')) :
    Ct Tryd.prog 21 [Ptr g, W64 n] [blk g s.cells 96, F] (fun _ : Unit => W64 (k % n)) (fun _ => True) (fun _ => [blk g s'.cells 96, F]) := by
  have hn0 : n ≠ 0 := fun e => by rw [e] at hn; exact absurd hn (by decide)
  refine Ct.walk Tryd.func21 rfl Tryd.ntmps21 rfl (fun w0 => ?_)
  change J _ [(0, _), (1, _)] _ _ _
  refine J.seq (fun K1 hK1 => ?_)
  refine J.region ?_
  refine J.y (op_assign rfl rfl) rfl rfl rfl ?_
  refine J.nil ?_
  refine J.then_n (J.k hK1 ?_)
  refine J.keepE [(0, _), (1, _)] ⟨rfl, rfl, trivial⟩ ?_
  refine J.seq (fun K2 hK2 => ?_)
  refine J.seq (fun K3 hK3 => ?_)
  refine J.region ?_
  refine J.y (op_move rfl rfl) rfl rfl rfl ?_
  refine J.y ((op_peq Tryd.underlying32 rfl rfl rfl).as (v' := .bool false) rfl) rfl rfl rfl ?_
  refine J.y (op_move rfl rfl) rfl rfl rfl ?_
  refine J.yg (Wan.is rfl rfl rfl rfl rfl) (op_move rfl rfl) rfl rfl ?_
  refine J.yg (Wan.is rfl rfl rfl rfl rfl) ((op_lss rfl rfl rfl).as (v' := .bool false) (congrArg Value.bool (decide_eq_false (by omega)))) rfl rfl ?_
  refine J.y (op_pickF rfl rfl rfl) rfl rfl rfl ?_
  refine J.nil ?_
  refine J.then_n (J.k hK3 ?_)
  refine J.keepE [(0, _), (1, _), (12, _)] ⟨rfl, rfl, rfl, trivial⟩ ?_
  refine J.condF rfl rfl ?_
  refine J.skip ?_
  refine J.then_n (J.k hK2 ?_)
  refine J.keepE [(0, _), (1, _)] ⟨rfl, rfl, trivial⟩ ?_
  refine J.seq (fun K4 hK4 => ?_)
  refine J.region ?_
  refine J.y (op_move rfl rfl) rfl rfl rfl ?_
  refine J.y (op_rem64 (a := 18446744073709551615) rfl rfl rfl hn0) rfl rfl rfl ?_
  refine J.y (op_sub64 (a := 18446744073709551615) rfl rfl rfl) rfl rfl rfl ?_
  refine J.y (op_assign rfl rfl) rfl rfl rfl ?_
  refine J.nil ?_
  refine J.then_n (J.k hK4 ?_)
  refine J.keepE [(0, _), (1, _), (5, _)] ⟨rfl, rfl, rfl, trivial⟩ ?_
  refine J.block ?_
  refine J.loop (X := Nat × Sha.Strm) (fun _ => [(0, Ptr g), (1, W64 n), (5, W64 (Sha.stop n))]) (fun x => [blk g x.2.cells 96, F]) (fun x => Sha.draw (Sha.stop n) x.1 x.2 = some (k, s') ∧ x.2.Ok8 ∧ x.2.seed = s.seed) (fun x => x.1) (fuel, s) (⟨hd, ho0, rfl⟩) ⟨rfl, rfl, rfl, trivial⟩ (fun _ h => h) ?_
  rintro ⟨f, st⟩ ⟨hdr, ho, hsd⟩ I0 hI0
  dsimp only at hdr ho hsd ⊢
  obtain ⟨f, rfl⟩ : ∃ f', f = f' + 1 := by cases f with
    | zero => simp [Sha.draw] at hdr
    | succ f => exact ⟨f, rfl⟩
  unfold Sha.draw at hdr
  refine J.block ?_
  refine J.seq (fun K5 hK5 => ?_)
  refine J.region ?_
  refine J.y (op_move rfl rfl) rfl rfl rfl ?_
  refine J.e (op_call rfl rfl ent54 (next_ct F hK g st ho.ok (by rw [hsd]; exact hs))) rfl rfl rfl ?_
  intro g17 _
  change J _ _ _ [blk g st.next.cells 96, F] _
  refine J.y (op_assign rfl rfl) rfl rfl rfl ?_
  refine J.nil ?_
  refine J.then_n (J.k hK5 ?_)
  refine J.keepE [(0, _), (1, _), (5, _), (6, _)] ⟨rfl, rfl, rfl, rfl, trivial⟩ ?_
  refine J.seq (fun K6 hK6 => ?_)
  refine J.region ?_
  refine J.y (op_move rfl rfl) rfl rfl rfl ?_
  refine J.y (op_move rfl rfl) rfl rfl rfl ?_
  refine J.y (op_lss rfl rfl rfl) rfl rfl rfl ?_
  refine J.nil ?_
  refine J.then_n (J.k hK6 ?_)
  refine J.keepE [(0, _), (1, _), (5, _), (6, _), (20, _)] ⟨rfl, rfl, rfl, rfl, rfl, trivial⟩ ?_
  refine J.ite rfl (fun h20 => ?_) (fun h20 => ?_)
  ·
    refine J.seq (fun K7 hK7 => ?_)
    refine J.region ?_
    refine J.y (op_move rfl rfl) rfl rfl rfl ?_
    refine J.y (op_move rfl rfl) rfl rfl rfl ?_
    refine J.y (op_rem64 rfl rfl rfl hn0) rfl rfl rfl ?_
    refine J.y (op_assign rfl rfl) rfl rfl rfl ?_
    refine J.nil ?_
    refine J.then_n (J.k hK7 ?_)
    refine J.keepE [(4, _)] ⟨rfl, trivial⟩ ?_
    refine J.ret ?_
    refine J.blk_r ?_
    refine J.then_r ?_
    refine J.blk_r ?_
    rw [if_pos (by omega)] at hdr
    simp only [Option.some.injEq, Prod.mk.injEq] at hdr
    obtain ⟨hk1, hk2⟩ := hdr
    exact J.done (fun _ _ h => h) (res1 rfl rfl) (retOk () (by rw [← hk1]) trivial [0, 1] (by rw [← hk2]; rfl) (by decide))
  ·
    refine J.skip ?_
    refine J.blk_n ?_
    refine J.then_n ?_
    rw [if_neg (by omega)] at hdr
    exact J.kk (f, st.next) (fun x (hx : _ ∧ x.1 < f + 1) => hI0 x hx.1 hx.2) ⟨⟨hdr, ho.next, st.next_seed.trans hsd⟩, Nat.lt_succ_self f⟩ ⟨rfl, rfl, rfl, trivial⟩ (fun _ h => h)

theorem below_small (F : Hp) (g : Nat) (s : Sha.Strm) (n : UInt64) (hn : n.toNat < 2) :
    Ct Tryd.prog 21 [Ptr g, W64 n] [blk g s.cells 96, F] (fun _ : Unit => W64 0) (fun _ => True) (fun _ => [blk g s.cells 96, F]) := by
  refine Ct.walk Tryd.func21 rfl Tryd.ntmps21 rfl (fun w0 => ?_)
  change J _ [(0, _), (1, _)] _ _ _
  refine J.seq (fun K1 hK1 => ?_)
  refine J.region ?_
  refine J.y (op_assign rfl rfl) rfl rfl rfl ?_
  refine J.nil ?_
  refine J.then_n (J.k hK1 ?_)
  refine J.keepE [(0, _), (1, _)] ⟨rfl, rfl, trivial⟩ ?_
  refine J.seq (fun K2 hK2 => ?_)
  refine J.seq (fun K3 hK3 => ?_)
  refine J.region ?_
  refine J.y (op_move rfl rfl) rfl rfl rfl ?_
  refine J.y ((op_peq Tryd.underlying32 rfl rfl rfl).as (v' := .bool false) rfl) rfl rfl rfl ?_
  refine J.y (op_move rfl rfl) rfl rfl rfl ?_
  refine J.yg (Wan.is rfl rfl rfl rfl rfl) (op_move rfl rfl) rfl rfl ?_
  refine J.yg (Wan.is rfl rfl rfl rfl rfl) ((op_lss rfl rfl rfl).as (v' := .bool true) (congrArg Value.bool (decide_eq_true (by omega)))) rfl rfl ?_
  refine J.y (op_pickF rfl rfl rfl) rfl rfl rfl ?_
  refine J.nil ?_
  refine J.then_n (J.k hK3 ?_)
  refine J.keepE [(0, _), (1, _), (12, _)] ⟨rfl, rfl, rfl, trivial⟩ ?_
  refine J.condT rfl rfl ?_
  refine J.seq (fun K4 hK4 => ?_)
  refine J.region ?_
  refine J.y (op_assign rfl rfl) rfl rfl rfl ?_
  refine J.nil ?_
  refine J.then_n (J.k hK4 ?_)
  refine J.keepE [(4, _)] ⟨rfl, trivial⟩ ?_
  refine J.ret ?_
  refine J.then_r ?_
  exact J.done (fun _ _ h => h) (res1 rfl rfl) (retOk () rfl trivial [0, 1] rfl (by decide))

end Go.Proofs.YtadckkaepngloaaDoor
