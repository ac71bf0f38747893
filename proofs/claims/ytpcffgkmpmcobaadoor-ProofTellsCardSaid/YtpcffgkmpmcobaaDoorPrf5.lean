/- A part of the proof: contracts of functions of the program, each for every state of the heaps that it names. -/
import Derived.Test.YtpcffgkmpmcobaaDoorPrf3
set_option linter.unusedSimpArgs false
set_option linter.unusedVariables false
namespace Go.Proofs.YtpcffgkmpmcobaaDoor
open Go Go.Fw
set_option maxRecDepth 100000
set_option maxHeartbeats 1000000
theorem ent76 : Enters Tryd.prog 76 := Enters.of Tryd.func76 rfl (by kernel_rfl)

def bes (k : List UInt8) : Nat → List Sm.PR → List (List UInt8)
  | 0, _ => []
  | f + 1, l => if l.length < 2 then [] else Sm.nd f (Sm.side f (!decide (Sm.bit k (127 - f) = 0)) l) :: bes k f (Sm.side f (decide (Sm.bit k (127 - f) = 0)) l)
theorem bes_few {k : List UInt8} {l : List Sm.PR} (h : l.length < 2) : ∀ f, bes k f l = []
  | 0 => rfl
  | f + 1 => by rw [bes, if_pos h]
theorem bes_len (k : List UInt8) : ∀ (f : Nat) (l : List Sm.PR), (bes k f l).length ≤ f
  | 0, _ => Nat.le_refl _
  | f + 1, l => by
    rw [bes]
    split
    · exact Nat.zero_le _
    · rw [List.length_cons]; exact Nat.succ_le_succ (bes_len k f _)
theorem bes_bsd {kv : List Sm.PR} (hf : Fine kv) {k : List UInt8} (hk : k.length = 16) : ∀ (f d s : Nat), d + f = 128 → Stop kv k d s → bes k f (cur kv k d) = bsd kv k d (s - d)
  | 0, d, s, hd, h => by
    have h1 := h.ge
    have h2 := h.le
    rw [show s - d = 0 by omega]; rfl
  | f + 1, d, s, hd, h => by
    by_cases h2 : (cur kv k d).length < 2
    · have hs : s = d := h.uniq ⟨Nat.le_refl _, by omega, by omega, fun e h1 h3 => absurd h1 (by omega)⟩
      rw [bes_few h2, hs, Nat.sub_self]; rfl
    · have hds : d < s := by
        rcases Nat.lt_or_ge d s with q | q
        · exact q
        · have := h.ge; have := h.one; rw [show s = d by omega] at this; omega
      have hd8 : d < 128 := by omega
      have hb := Sm.bit_le k d
      have ht := turn_kv hk hd8
      have hs := self_kv hk hd8
      have e0 : 127 - f = d := by omega
      have e1 : 127 - d = f := by omega
      have hon : Sm.side f (decide (Sm.bit k d = 0)) (cur kv k d) = cur kv k (d + 1) := by
        have := Sm.bel_half hf.k16 hk hk hd8 (decide (Sm.bit k d = 0)) (by rw [hs]; by_cases q : Sm.bit k d = 0 <;> simp [q]; omega)
        rw [e1] at this
        exact this.symm
      have hoff : Sm.side f (!decide (Sm.bit k d = 0)) (cur kv k d) = Sm.bel kv (turn k d) (d + 1) := by
        have := Sm.bel_half hf.k16 hk ((turn_len k d).trans hk) hd8 (!decide (Sm.bit k d = 0)) (by rw [ht]; by_cases q : Sm.bit k d = 0 <;> simp [q]; omega)
        rw [e1] at this
        exact this.symm
      rw [bes, if_neg h2, e0, hon, hoff, bes_bsd hf hk f (d + 1) s (by omega) (h.from (by omega) hds), show s - d = (s - (d + 1)) + 1 by omega, bsd_cons]
      unfold Sm.ndB
      rw [show 128 - (d + 1) = f by omega]
theorem Pairs.fineM {m : List Pr} {kv : List Sm.PR} (h : Pairs m kv) : Fine (m.map toP) := ⟨h.once, h.k16, fun p q => h.fine.small p (h.perm.mem_iff.1 q), by rw [List.length_map, ← h.len]; exact h.fine.few⟩
theorem Pairs.curE {m : List Pr} {kv : List Sm.PR} (h : Pairs m kv) (k : List UInt8) (d : Nat) : (cur (m.map toP) k d).Perm (cur kv k d) := h.perm.filter _
theorem Pairs.stop {m : List Pr} {kv : List Sm.PR} (h : Pairs m kv) {k : List UInt8} {d s : Nat} (hs : Stop kv k d s) : Stop (m.map toP) k d s :=
  ⟨hs.ge, hs.le, by rw [(h.curE k s).length_eq]; exact hs.one, fun e h1 h2 => by rw [(h.curE k e).length_eq]; exact hs.two e h1 h2⟩
theorem Pairs.bsdE {m : List Pr} {kv : List Sm.PR} (h : Pairs m kv) {k : List UInt8} (hk : k.length = 16) {d n : Nat} (hd : d + n ≤ 128) : bsd (m.map toP) k d n = bsd kv k d n := by
  unfold bsd
  refine List.map_congr_left fun i hi => ?_
  have := List.mem_range.1 hi
  exact Sm.ndB_perm h.once h.k16 h.perm ((turn_len _ _).trans hk) (by omega)
theorem Pairs.besE {m : List Pr} {kv : List Sm.PR} (h : Pairs m kv) {k : List UInt8} (hk : k.length = 16) {d s : Nat} (hs : Stop kv k d s) : bes k (128 - d) ((belR m k d).map toP) = bsd kv k d (s - d) := by
  have h1 := hs.le
  have h2 := hs.ge
  rw [belR_map, ← h.bsdE hk (by omega)]
  exact bes_bsd h.fineM hk (128 - d) d s (by omega) (h.stop hs)
theorem sideR_on {f d : Nat} {m : List Pr} (hw : Sm.WF (f + 1) (m.map toP)) (hd : d + (f + 1) = 128) {i : Nat} (hi : i < m.length) {k : List UInt8} (h : Sm.bit (m.getD i noPr).k d = Sm.bit k d) :
    sideR f (decide (Sm.bit k d = 0)) (m.take (i + 1)) = sideR f (decide (Sm.bit k d = 0)) (m.take i) ++ [m.getD i noPr] ∧ sideR f (!decide (Sm.bit k d = 0)) (m.take (i + 1)) = sideR f (!decide (Sm.bit k d = 0)) (m.take i) := by
  constructor
  · rw [sideR_take hw hd hi, h, if_pos (by simp)]
  · rw [sideR_take hw hd hi, h, if_neg (by simp), List.append_nil]
theorem sideR_off {f d : Nat} {m : List Pr} (hw : Sm.WF (f + 1) (m.map toP)) (hd : d + (f + 1) = 128) {i : Nat} (hi : i < m.length) {k : List UInt8} (h : ¬ Sm.bit (m.getD i noPr).k d = Sm.bit k d) :
    sideR f (decide (Sm.bit k d = 0)) (m.take (i + 1)) = sideR f (decide (Sm.bit k d = 0)) (m.take i) ∧ sideR f (!decide (Sm.bit k d = 0)) (m.take (i + 1)) = sideR f (!decide (Sm.bit k d = 0)) (m.take i) ++ [m.getD i noPr] := by
  have h1 := Sm.bit_le (m.getD i noPr).k d
  have h2 := Sm.bit_le k d
  have e : decide (Sm.bit (m.getD i noPr).k d = 0) = !decide (Sm.bit k d = 0) := by
    by_cases q : Sm.bit k d = 0
    · rw [decide_eq_true q, decide_eq_false (by omega)]; rfl
    · rw [decide_eq_false q, decide_eq_true (by omega)]; rfl
  constructor
  · rw [sideR_take hw hd hi, e, if_neg (by simp), List.append_nil]
  · rw [sideR_take hw hd hi, e, if_pos (by simp)]

theorem starts_ct (F : Hp) (A : Option Addr) (n c : Nat) (m : List Pr) (hs : Sl F 2 A n c (prsV m)) (hn : n ≤ 1000000) (hkm : ∀ i : Nat, (m.getD i noPr).k.length ≤ 1000000) (k : List UInt8) (hk : k.length ≤ 1000000) (d : Nat) (hd : d ≤ 1000) : Ct Tryd.prog 75 [.slice A n c, Str (k), I ((d : Nat) : Int)] [F] (fun x : Option Addr × Nat × Hp => .slice x.1 (belR m k d).length x.2.1) (fun x => Row x.2.2 84 2 x.1 (belR m k d).length x.2.1 (prsV (belR m k d))) (fun x => [F, x.2.2]) := by
  have hkn : m.length = n := by have := hs.1; simpa [prsV] using this
  refine Ct.walk Tryd.func75 rfl Tryd.ntmps75 rfl (fun w0 hw0 => ?_)
  change J _ [(0, _), (1, _), (2, _)] _ _ _
  refine J.seq (fun K1 hK1 => ?_)
  refine J.region ?_
  refine J.y (op_assign rfl rfl) rfl rfl rfl ?_
  refine J.nil ?_
  refine J.then_n (J.k hK1 ?_)
  refine J.keepE [(0, _), (1, _), (2, _)] ⟨rfl, rfl, rfl, trivial⟩ ?_
  refine J.seq (fun K2 hK2 => ?_)
  refine J.region ?_
  refine J.y (op_assign rfl rfl) rfl rfl rfl ?_
  refine J.nil ?_
  refine J.then_n (J.k hK2 ?_)
  refine J.keepE [(0, _), (1, _), (2, _), (7, _)] ⟨rfl, rfl, rfl, rfl, trivial⟩ ?_
  refine J.seq (fun K3 hK3 => ?_)
  refine J.seq (fun K4 hK4 => ?_)
  refine J.region ?_
  refine J.y (op_assign rfl rfl) rfl rfl rfl ?_
  refine J.nil ?_
  refine J.then_n (J.k hK4 ?_)
  refine J.keepE [(0, _), (1, _), (2, _), (7, _), (8, _)] ⟨rfl, rfl, rfl, rfl, rfl, trivial⟩ ?_
  refine J.block ?_
  refine J.loop (X := Nat × Option Addr × Nat × Hp) (fun ζ => [(0, .slice A n c), (1, Str (k)), (2, I ((d : Nat) : Int)), (7, .slice ζ.2.1 ((belR (m.take ζ.1) k d).length) ζ.2.2.1), (8, I ((ζ.1 : Nat) : Int))]) (fun ζ => [F, ζ.2.2.2]) (fun ζ => ζ.1 ≤ n ∧ Row ζ.2.2.2 84 2 ζ.2.1 (belR (m.take ζ.1) k d).length ζ.2.2.1 (prsV (belR (m.take ζ.1) k d))) (fun ζ => n - ζ.1) (0, none, 0, (fun _ => none)) (⟨Nat.zero_le _, RowQ.nil⟩) ⟨rfl, rfl, rfl, rfl, rfl, trivial⟩ (fun _ h => h.empty.pick [0, 1] (by decide)) ?_
  rintro ⟨i, A7, c7, mq⟩ ⟨hi, hq⟩ I0 hI0
  dsimp only at hi hq ⊢
  have hki := hkm i
  have hla := belR_len (m.take i) k d
  rw [List.length_take] at hla
  refine J.seq (fun K5 hK5 => ?_)
  refine J.seq (fun K6 hK6 => ?_)
  refine J.region ?_
  refine J.y (op_move rfl rfl) rfl rfl rfl ?_
  refine J.y (op_move rfl rfl) rfl rfl rfl ?_
  refine J.y (op_len Tryd.underlying75 rfl rfl) rfl rfl rfl ?_
  refine J.y (op_lss rfl rfl rfl) rfl rfl rfl ?_
  refine J.nil ?_
  refine J.then_n (J.k hK6 ?_)
  refine J.keepE [(0, _), (1, _), (2, _), (7, _), (8, _), (14, _)] ⟨rfl, rfl, rfl, rfl, rfl, rfl, trivial⟩ ?_
  refine J.ite rfl (fun h14 => ?_) (fun h14 => ?_)
  ·
    refine J.skip ?_
    refine J.then_n (J.k hK5 ?_)
    refine J.keepE [(0, _), (1, _), (2, _), (7, _), (8, _)] ⟨rfl, rfl, rfl, rfl, rfl, trivial⟩ ?_
    refine J.seq (fun K7 hK7 => ?_)
    refine J.block ?_
    refine J.seq (fun K8 hK8 => ?_)
    refine J.region ?_
    refine J.y (op_assign rfl rfl) rfl rfl rfl ?_
    refine J.nil ?_
    refine J.then_n (J.k hK8 ?_)
    refine J.keepE [(0, _), (1, _), (2, _), (7, _), (8, _), (9, _)] ⟨rfl, rfl, rfl, rfl, rfl, rfl, trivial⟩ ?_
    refine J.seq (fun K9 hK9 => ?_)
    refine J.seq (fun K10 hK10 => ?_)
    refine J.region ?_
    refine J.y (op_assign rfl rfl) rfl rfl rfl ?_
    refine J.nil ?_
    refine J.then_n (J.k hK10 ?_)
    refine J.keepE [(0, _), (1, _), (2, _), (7, _), (8, _), (9, _), (10, _)] ⟨rfl, rfl, rfl, rfl, rfl, rfl, rfl, trivial⟩ ?_
    refine J.block ?_
    refine J.loop (X := Nat × Bool) (fun ζ => [(0, .slice A n c), (1, Str (k)), (2, I ((d : Nat) : Int)), (7, .slice A7 ((belR (m.take i) k d).length) c7), (8, I ((i : Nat) : Int)), (9, .bool (ζ.2)), (10, I ((ζ.1 : Nat) : Int))]) (fun ζ => [F, mq]) (fun ζ => ζ.1 ≤ d ∧ ζ.2 = Sm.belowB (m.getD i noPr).k k ζ.1) (fun ζ => d - ζ.1) (0, true) (⟨Nat.zero_le _, rfl⟩) ⟨rfl, rfl, rfl, rfl, rfl, rfl, rfl, trivial⟩ (fun _ h => h) ?_
    rintro ⟨j, t⟩ ⟨hj, ht⟩ I2 hI2
    dsimp only at hj ht ⊢
    refine J.seq (fun K11 hK11 => ?_)
    refine J.seq (fun K12 hK12 => ?_)
    refine J.region ?_
    refine J.y (op_move rfl rfl) rfl rfl rfl ?_
    refine J.y (op_move rfl rfl) rfl rfl rfl ?_
    refine J.y (op_lss rfl rfl rfl) rfl rfl rfl ?_
    refine J.nil ?_
    refine J.then_n (J.k hK12 ?_)
    refine J.keepE [(0, _), (1, _), (2, _), (7, _), (8, _), (9, _), (10, _), (19, _)] ⟨rfl, rfl, rfl, rfl, rfl, rfl, rfl, rfl, trivial⟩ ?_
    refine J.ite rfl (fun h19 => ?_) (fun h19 => ?_)
    ·
      refine J.skip ?_
      refine J.then_n (J.k hK11 ?_)
      refine J.keepE [(0, _), (1, _), (2, _), (7, _), (8, _), (9, _), (10, _)] ⟨rfl, rfl, rfl, rfl, rfl, rfl, rfl, trivial⟩ ?_
      refine J.seq (fun K13 hK13 => ?_)
      refine J.block ?_
      refine J.region ?_
      refine J.y (op_move rfl rfl) rfl rfl rfl ?_
      refine J.y (op_move rfl rfl) rfl rfl rfl ?_
      refine J.splitB (d := 23) rfl (fun h23 => ?_) (fun h23 => ?_)
      ·
        refine J.yg (Wan.is rfl rfl rfl rfl rfl) (op_move rfl rfl) rfl rfl ?_
        refine J.yg (Wan.is rfl rfl rfl rfl rfl) (op_move rfl rfl) rfl rfl ?_
        refine J.yg (Wan.is rfl rfl rfl rfl rfl) (op_indexAddr (i := i) rfl rfl rfl Tryd.underlying75 Tryd.sizeOf84 hs (by first | omega | (simp only [List.length_append, List.length_cons, List.length_nil, List.length_take, List.length_drop] at *; omega))) rfl rfl ?_
        refine J.yg (Wan.is rfl rfl rfl rfl rfl) (op_fieldAddrE (off := 0) rfl rfl Tryd.underlying84 rfl Tryd.sizeOf9 hs (by first | omega | (simp only [List.length_append, List.length_cons, List.length_nil, List.length_take, List.length_drop] at *; omega)) rfl) rfl rfl ?_
        refine J.yg (Wan.is rfl rfl rfl rfl rfl) (op_load (v := Str ((m.getD i noPr).k)) rfl rfl Tryd.isAgg9 (m := F) (by simp) (hs.part (prsV_get (by first | omega | (simp only [List.length_append, List.length_cons, List.length_nil, List.length_take, List.length_drop] at *; omega))) 0 1)) rfl rfl ?_
        refine J.yg (Wan.is rfl rfl rfl rfl rfl) (op_move rfl rfl) rfl rfl ?_
        refine J.eg (Wan.is rfl rfl rfl rfl rfl) (op_call rfl rfl ent70 (Ct.use0 (fun F' hF => bitr_ct F' ((m.getD i noPr).k) (by omega) j (by omega)))) rfl rfl ?_
        intro g30 _
        refine J.yg (Wan.is rfl rfl rfl rfl rfl) (op_move rfl rfl) rfl rfl ?_
        refine J.yg (Wan.is rfl rfl rfl rfl rfl) (op_move rfl rfl) rfl rfl ?_
        refine J.eg (Wan.is rfl rfl rfl rfl rfl) (op_call rfl rfl ent70 (Ct.use0 (fun F' hF => bitr_ct F' k (by omega) j (by omega)))) rfl rfl ?_
        intro g33 _
        refine J.yg (Wan.is rfl rfl rfl rfl rfl) ((op_eql rfl rfl rfl).as (v' := .bool (decide (Sm.bit (m.getD i noPr).k j = Sm.bit k j))) (congrArg Value.bool (decide_eq_decide.2 (by omega)))) rfl rfl ?_
        refine J.y (op_pickT rfl rfl rfl) rfl rfl rfl ?_
        refine J.y (op_assign rfl rfl) rfl rfl rfl ?_
        refine J.nil ?_
        refine J.blk_n ?_
        refine J.then_n (J.k hK13 ?_)
        refine J.keepE [(0, _), (1, _), (2, _), (7, _), (8, _), (9, _), (10, _)] ⟨rfl, rfl, rfl, rfl, rfl, rfl, rfl, trivial⟩ ?_
        refine J.region ?_
        refine J.y (op_move rfl rfl) rfl rfl rfl ?_
        refine J.y ((op_add rfl rfl rfl (by first | omega | (simp only [List.length_append, List.length_cons, List.length_nil, List.length_take, List.length_drop] at *; omega))).as (v' := I ((j + 1 : Nat) : Int)) (congrArg I (by omega))) rfl rfl rfl ?_
        refine J.y (op_assign rfl rfl) rfl rfl rfl ?_
        refine J.nil ?_
        refine J.then_n ?_
        exact J.kk (j + 1, decide (Sm.bit (m.getD i noPr).k j = Sm.bit k j)) (fun η (hη : _ ∧ d - η.1 < d - j) => hI2 η hη.1 hη.2) ⟨⟨by dsimp only; omega, by dsimp only; rw [Sm.belowB_succ, ← ht, h23]; first | rfl | rw [Bool.true_and]⟩, by first | omega | (dsimp only; omega)⟩ ⟨rfl, rfl, rfl, rfl, rfl, rfl, rfl, trivial⟩ (fun _ h => h)
      ·
        refine J.no (Wan.is rfl rfl rfl rfl rfl) rfl rfl ?_
        refine J.no (Wan.is rfl rfl rfl rfl rfl) rfl rfl ?_
        refine J.no (Wan.is rfl rfl rfl rfl rfl) rfl rfl ?_
        refine J.no (Wan.is rfl rfl rfl rfl rfl) rfl rfl ?_
        refine J.no (Wan.is rfl rfl rfl rfl rfl) rfl rfl ?_
        refine J.no (Wan.is rfl rfl rfl rfl rfl) rfl rfl ?_
        refine J.no (Wan.is rfl rfl rfl rfl rfl) rfl rfl ?_
        refine J.no (Wan.is rfl rfl rfl rfl rfl) rfl rfl ?_
        refine J.no (Wan.is rfl rfl rfl rfl rfl) rfl rfl ?_
        refine J.no (Wan.is rfl rfl rfl rfl rfl) rfl rfl ?_
        refine J.no (Wan.is rfl rfl rfl rfl rfl) rfl rfl ?_
        refine J.y (op_pickF rfl rfl rfl) rfl rfl rfl ?_
        refine J.y (op_assign rfl rfl) rfl rfl rfl ?_
        refine J.nil ?_
        refine J.blk_n ?_
        refine J.then_n (J.k hK13 ?_)
        refine J.keepE [(0, _), (1, _), (2, _), (7, _), (8, _), (9, _), (10, _)] ⟨rfl, rfl, rfl, rfl, rfl, rfl, rfl, trivial⟩ ?_
        refine J.region ?_
        refine J.y (op_move rfl rfl) rfl rfl rfl ?_
        refine J.y ((op_add rfl rfl rfl (by first | omega | (simp only [List.length_append, List.length_cons, List.length_nil, List.length_take, List.length_drop] at *; omega))).as (v' := I ((j + 1 : Nat) : Int)) (congrArg I (by omega))) rfl rfl rfl ?_
        refine J.y (op_assign rfl rfl) rfl rfl rfl ?_
        refine J.nil ?_
        refine J.then_n ?_
        exact J.kk (j + 1, false) (fun η (hη : _ ∧ d - η.1 < d - j) => hI2 η hη.1 hη.2) ⟨⟨by dsimp only; omega, by dsimp only; rw [Sm.belowB_succ, ← ht, h23]; first | rfl | rw [Bool.true_and]⟩, by first | omega | (dsimp only; omega)⟩ ⟨rfl, rfl, rfl, rfl, rfl, rfl, rfl, trivial⟩ (fun _ h => h)
    ·
      refine J.exit ?_
      refine J.then_x ?_
      refine J.then_x ?_
      refine J.blk_eq ?_
      refine J.then_n (J.k hK9 ?_)
      refine J.keepE [(0, _), (1, _), (2, _), (7, _), (8, _), (9, _)] ⟨rfl, rfl, rfl, rfl, rfl, rfl, trivial⟩ ?_
      refine J.seq (fun K14 hK14 => ?_)
      obtain rfl : d = j := by omega
      refine J.region ?_
      refine J.y (op_move rfl rfl) rfl rfl rfl ?_
      refine J.nil ?_
      refine J.then_n (J.k hK14 ?_)
      refine J.keepE [(0, _), (1, _), (2, _), (7, _), (8, _), (36, _)] ⟨rfl, rfl, rfl, rfl, rfl, rfl, trivial⟩ ?_
      refine J.cond rfl (fun h36 => ?_) (fun h36 => ?_)
      ·
        have hy := belR_yes (m := m) (i := i) (k := k) (d := d) (by omega) (by rw [← ht]; exact h36)
        refine J.region ?_
        refine J.y (op_move rfl rfl) rfl rfl rfl ?_
        refine J.y (op_move rfl rfl) rfl rfl rfl ?_
        refine J.y (op_move rfl rfl) rfl rfl rfl ?_
        refine J.y (op_indexAddr (i := i) rfl rfl rfl Tryd.underlying75 Tryd.sizeOf84 hs (by first | omega | (simp only [List.length_append, List.length_cons, List.length_nil, List.length_take, List.length_drop] at *; omega))) rfl rfl rfl ?_
        refine J.y (op_loadA (vs := [Str ((m.getD i noPr).k), Str ((m.getD i noPr).v)]) rfl rfl Tryd.isAgg84 Tryd.sizeOf84 (m := F) (by simp) (hs.elem (prsV_get (by first | omega | (simp only [List.length_append, List.length_cons, List.length_nil, List.length_take, List.length_drop] at *; omega)))) rfl) rfl rfl rfl ?_
        refine J.e (op_buildSlice (l := [.tmp 41]) (xs := [[Str ((m.getD i noPr).k), Str ((m.getD i noPr).v)]]) rfl rfl rfl rfl Tryd.underlying75 el84 rfl (by decide) (by decide) (by simp)) rfl rfl rfl ?_
        intro g42 _
        change J _ _ _ [F, mq, blk g42 [Str ((m.getD i noPr).k), Str ((m.getD i noPr).v)] 84] _
        refine J.e (op_append (i := 1) (xs := prsV (belR (m.take i) k d)) (m2 := blk g42 [Str ((m.getD i noPr).k), Str ((m.getD i noPr).v)] 84) (ys := [[Str ((m.getD i noPr).k), Str ((m.getD i noPr).v)]]) rfl rfl rfl Tryd.underlying75 Tryd.underlying75 el84 rfl hq (by simp) ((row_blk (q := True) (xs := prsV [(m.getD i noPr)]) rfl (by intro x hx; rw [List.mem_singleton.1 hx]; rfl)).sl) rfl (by first | omega | (simp only [List.length_append, List.length_cons, List.length_nil, List.length_take, List.length_drop] at *; omega)) (by first | omega | (simp only [List.length_append, List.length_cons, List.length_nil, List.length_take, List.length_drop] at *; omega))) rfl rfl rfl ?_
        rintro ⟨A43, c43, m43⟩ h43
        try dsimp only at h43
        change J _ ((43, .slice A43 (((belR (m.take i) k d).length) + 1) c43) :: _) _ [F, m43, blk g42 [Str ((m.getD i noPr).k), Str ((m.getD i noPr).v)] 84] _
        replace h43 : Row m43 84 2 A43 (((belR (m.take i) k d).length) + 1) c43 (prsV ((belR (m.take i) k d) ++ ([(m.getD i noPr)]))) := by rw [prsV_snoc]; exact h43
        refine J.y (op_assign rfl rfl) rfl rfl rfl ?_
        refine J.nil ?_
        refine J.blk_n ?_
        refine J.then_n (J.k hK7 ?_)
        refine J.keepE [(0, _), (1, _), (2, _), (7, _), (8, _)] ⟨rfl, rfl, rfl, rfl, rfl, trivial⟩ ?_
        refine J.region ?_
        refine J.y (op_move rfl rfl) rfl rfl rfl ?_
        refine J.y ((op_add rfl rfl rfl (by first | omega | (simp only [List.length_append, List.length_cons, List.length_nil, List.length_take, List.length_drop] at *; omega))).as (v' := I ((i + 1 : Nat) : Int)) (congrArg I (by omega))) rfl rfl rfl ?_
        refine J.y (op_assign rfl rfl) rfl rfl rfl ?_
        refine J.nil ?_
        refine J.then_n ?_
        exact J.kk (i + 1, A43, c43, m43) (fun η (hη : _ ∧ n - η.1 < n - i) => hI0 η hη.1 hη.2) ⟨⟨by dsimp only; omega, by dsimp only; rw [hy, List.length_append]; exact h43⟩, by first | omega | (dsimp only; omega)⟩ ⟨rfl, rfl, rfl, by dsimp only; first | rfl | (rw [hy, List.length_append]; rfl) | (rw [hy]; rfl), rfl, trivial⟩ (fun _ h => h.pick [0, 1] (by decide))
      ·
        have hy := belR_no (m := m) (i := i) (k := k) (d := d) (by omega) (by rw [← ht]; exact h36)
        refine J.skip ?_
        refine J.blk_n ?_
        refine J.then_n (J.k hK7 ?_)
        refine J.keepE [(0, _), (1, _), (2, _), (7, _), (8, _)] ⟨rfl, rfl, rfl, rfl, rfl, trivial⟩ ?_
        refine J.region ?_
        refine J.y (op_move rfl rfl) rfl rfl rfl ?_
        refine J.y ((op_add rfl rfl rfl (by first | omega | (simp only [List.length_append, List.length_cons, List.length_nil, List.length_take, List.length_drop] at *; omega))).as (v' := I ((i + 1 : Nat) : Int)) (congrArg I (by omega))) rfl rfl rfl ?_
        refine J.y (op_assign rfl rfl) rfl rfl rfl ?_
        refine J.nil ?_
        refine J.then_n ?_
        exact J.kk (i + 1, A7, c7, mq) (fun η (hη : _ ∧ n - η.1 < n - i) => hI0 η hη.1 hη.2) ⟨⟨by dsimp only; omega, by dsimp only; rw [hy]; exact hq⟩, by first | omega | (dsimp only; omega)⟩ ⟨rfl, rfl, rfl, by dsimp only; first | rfl | (rw [hy, List.length_append]; rfl) | (rw [hy]; rfl), rfl, trivial⟩ (fun _ h => h)
  ·
    refine J.exit ?_
    refine J.then_x ?_
    refine J.then_x ?_
    refine J.blk_eq ?_
    refine J.then_n (J.k hK3 ?_)
    refine J.keepE [(7, _)] ⟨rfl, trivial⟩ ?_
    refine J.seq (fun K15 hK15 => ?_)
    obtain rfl : i = m.length := by omega
    rw [List.take_length] at hq ⊢
    refine J.region ?_
    refine J.y (op_move rfl rfl) rfl rfl rfl ?_
    refine J.y (op_assign rfl rfl) rfl rfl rfl ?_
    refine J.nil ?_
    refine J.then_n (J.k hK15 ?_)
    refine J.keepE [(6, _)] ⟨rfl, trivial⟩ ?_
    refine J.ret ?_
    exact J.done hw0 (fun _ _ h => h) (res1 rfl rfl) (retOk (A7, c7, mq) rfl hq [0, 1] rfl (by decide))

def BesOk (f : Nat) : Prop := ∀ (F : Hp) (A : Option Addr) (n c : Nat) (m : List Pr) (hs : Sl F 2 A n c (prsV m)) (hn : n ≤ 1000000) (k : List UInt8) (hk : k.length ≤ 1000000) (hw : Sm.WF f (m.map toP)) (hv : ∀ p ∈ m, p.v.length ≤ 1000000) (d : Nat) (hd : d + f = 128), Ct Tryd.prog 76 [.slice A n c, Str k, I ((d : Nat) : Int)] [F] (fun x : Option Addr × Nat × Hp => .slice x.1 (bes k f (m.map toP)).length x.2.1) (fun x => Row x.2.2 9 1 x.1 (bes k f (m.map toP)).length x.2.1 (strsV (bes k f (m.map toP)))) (fun x => [F, x.2.2])

theorem bes_step (f : Nat) (ih : ∀ f', f = f' + 1 → BesOk f') (F : Hp) (A : Option Addr) (n c : Nat) (m : List Pr) (hs : Sl F 2 A n c (prsV m)) (hn : n ≤ 1000000) (k : List UInt8) (hk : k.length ≤ 1000000) (hw : Sm.WF f (m.map toP)) (hv : ∀ p ∈ m, p.v.length ≤ 1000000) (d : Nat) (hd : d + f = 128) :
    Ct Tryd.prog 76 [.slice A n c, Str k, I ((d : Nat) : Int)] [F] (fun x : Option Addr × Nat × Hp => .slice x.1 (bes k f (m.map toP)).length x.2.1) (fun x => Row x.2.2 9 1 x.1 (bes k f (m.map toP)).length x.2.1 (strsV (bes k f (m.map toP)))) (fun x => [F, x.2.2]) := by
  have hkn : m.length = n := by have := hs.1; simpa [prsV] using this
  have hsm := ref_small hw
  refine Ct.walk Tryd.func76 rfl Tryd.ntmps76 rfl (fun w0 hw0 => ?_)
  change J _ [(0, _), (1, _), (2, _)] _ _ _
  refine J.seq (fun K1 hK1 => ?_)
  refine J.region ?_
  refine J.y (op_assign rfl rfl) rfl rfl rfl ?_
  refine J.nil ?_
  refine J.then_n (J.k hK1 ?_)
  refine J.keepE [(0, _), (1, _), (2, _)] ⟨rfl, rfl, rfl, trivial⟩ ?_
  refine J.seq (fun K2 hK2 => ?_)
  refine J.seq (fun K3 hK3 => ?_)
  refine J.region ?_
  refine J.y (op_move rfl rfl) rfl rfl rfl ?_
  refine J.y (op_len Tryd.underlying75 rfl rfl) rfl rfl rfl ?_
  refine J.y (op_lss rfl rfl rfl) rfl rfl rfl ?_
  refine J.nil ?_
  refine J.then_n (J.k hK3 ?_)
  refine J.keepE [(0, _), (1, _), (2, _), (12, _)] ⟨rfl, rfl, rfl, rfl, trivial⟩ ?_
  refine J.ite rfl (fun h12 => ?_) (fun h12 => ?_)
  ·
    refine J.addEmpty [0, 1] [F, (fun _ => none)] rfl (by decide) ?_
    refine J.seq (fun K4 hK4 => ?_)
    refine J.region ?_
    refine J.y (op_assign rfl rfl) rfl rfl rfl ?_
    refine J.nil ?_
    refine J.then_n (J.k hK4 ?_)
    refine J.keepE [(6, _)] ⟨rfl, trivial⟩ ?_
    refine J.ret ?_
    refine J.then_r ?_
    exact J.done hw0 (fun _ _ h => h) (res1 rfl rfl) (retOk (none, 0, (fun _ => none)) (by rw [bes_few (by rw [List.length_map]; omega)]; rfl) (by rw [bes_few (by rw [List.length_map]; omega)]; exact RowQ.nil) [0, 1] rfl (by decide))
  ·
    obtain ⟨f', rfl⟩ : ∃ f', f = f' + 1 := Nat.exists_eq_succ_of_ne_zero (fun e => by subst e; have := hw.short; rw [List.length_map] at this; omega)
    refine J.skip ?_
    refine J.then_n (J.k hK2 ?_)
    refine J.keepE [(0, _), (1, _), (2, _)] ⟨rfl, rfl, rfl, trivial⟩ ?_
    refine J.seq (fun K5 hK5 => ?_)
    refine J.region ?_
    refine J.y (op_assign rfl rfl) rfl rfl rfl ?_
    refine J.y (op_assign rfl rfl) rfl rfl rfl ?_
    refine J.nil ?_
    refine J.then_n (J.k hK5 ?_)
    refine J.keepE [(0, _), (1, _), (2, _), (7, _), (8, _)] ⟨rfl, rfl, rfl, rfl, rfl, trivial⟩ ?_
    refine J.seq (fun K6 hK6 => ?_)
    refine J.seq (fun K7 hK7 => ?_)
    refine J.region ?_
    refine J.y (op_assign rfl rfl) rfl rfl rfl ?_
    refine J.nil ?_
    refine J.then_n (J.k hK7 ?_)
    refine J.keepE [(0, _), (1, _), (2, _), (7, _), (8, _), (9, _)] ⟨rfl, rfl, rfl, rfl, rfl, rfl, trivial⟩ ?_
    refine J.block ?_
    refine J.loop (X := Nat × Option Addr × Nat × Hp × Option Addr × Nat × Hp) (fun ζ => [(0, .slice A n c), (1, Str (k)), (2, I ((d : Nat) : Int)), (7, .slice ζ.2.1 ((sideR f' (decide (Sm.bit k d = 0)) (m.take ζ.1)).length) ζ.2.2.1), (8, .slice ζ.2.2.2.2.1 ((sideR f' (!decide (Sm.bit k d = 0)) (m.take ζ.1)).length) ζ.2.2.2.2.2.1), (9, I ((ζ.1 : Nat) : Int))]) (fun ζ => [F, ζ.2.2.2.1, ζ.2.2.2.2.2.2]) (fun ζ => ζ.1 ≤ n ∧ Row ζ.2.2.2.1 84 2 ζ.2.1 (sideR f' (decide (Sm.bit k d = 0)) (m.take ζ.1)).length ζ.2.2.1 (prsV (sideR f' (decide (Sm.bit k d = 0)) (m.take ζ.1))) ∧ Row ζ.2.2.2.2.2.2 84 2 ζ.2.2.2.2.1 (sideR f' (!decide (Sm.bit k d = 0)) (m.take ζ.1)).length ζ.2.2.2.2.2.1 (prsV (sideR f' (!decide (Sm.bit k d = 0)) (m.take ζ.1)))) (fun ζ => n - ζ.1) (0, none, 0, (fun _ => none), none, 0, (fun _ => none)) (⟨Nat.zero_le _, RowQ.nil, RowQ.nil⟩) ⟨rfl, rfl, rfl, rfl, rfl, rfl, trivial⟩ (fun _ h => h.empty.empty.pick [0, 1, 2] (by decide)) ?_
    rintro ⟨i, Aa, ca, ma, Ab, cb, mb⟩ ⟨hi, hra, hrb⟩ I0 hI0
    dsimp only at hi hra hrb ⊢
    have hsi := hsm i
    have hla := sideR_len f' (decide (Sm.bit k d = 0)) (m.take i)
    have hlb := sideR_len f' (!decide (Sm.bit k d = 0)) (m.take i)
    rw [List.length_take] at hla hlb
    refine J.seq (fun K8 hK8 => ?_)
    refine J.seq (fun K9 hK9 => ?_)
    refine J.region ?_
    refine J.y (op_move rfl rfl) rfl rfl rfl ?_
    refine J.y (op_move rfl rfl) rfl rfl rfl ?_
    refine J.y (op_len Tryd.underlying75 rfl rfl) rfl rfl rfl ?_
    refine J.y (op_lss rfl rfl rfl) rfl rfl rfl ?_
    refine J.nil ?_
    refine J.then_n (J.k hK9 ?_)
    refine J.keepE [(0, _), (1, _), (2, _), (7, _), (8, _), (9, _), (16, _)] ⟨rfl, rfl, rfl, rfl, rfl, rfl, rfl, trivial⟩ ?_
    refine J.ite rfl (fun h16 => ?_) (fun h16 => ?_)
    ·
      refine J.skip ?_
      refine J.then_n (J.k hK8 ?_)
      refine J.keepE [(0, _), (1, _), (2, _), (7, _), (8, _), (9, _)] ⟨rfl, rfl, rfl, rfl, rfl, rfl, trivial⟩ ?_
      refine J.seq (fun K10 hK10 => ?_)
      refine J.block ?_
      refine J.seq (fun K11 hK11 => ?_)
      refine J.region ?_
      refine J.y (op_move rfl rfl) rfl rfl rfl ?_
      refine J.y (op_move rfl rfl) rfl rfl rfl ?_
      refine J.y (op_indexAddr (i := i) rfl rfl rfl Tryd.underlying75 Tryd.sizeOf84 hs (by first | omega | (simp only [List.length_append, List.length_cons, List.length_nil, List.length_take, List.length_drop] at *; omega))) rfl rfl rfl ?_
      refine J.y (op_fieldAddrE (off := 0) rfl rfl Tryd.underlying84 rfl Tryd.sizeOf9 hs (by first | omega | (simp only [List.length_append, List.length_cons, List.length_nil, List.length_take, List.length_drop] at *; omega)) rfl) rfl rfl rfl ?_
      refine J.y (op_load (v := Str ((m.getD i noPr).k)) rfl rfl Tryd.isAgg9 (m := F) (by simp) (hs.part (prsV_get (by first | omega | (simp only [List.length_append, List.length_cons, List.length_nil, List.length_take, List.length_drop] at *; omega))) 0 1)) rfl rfl rfl ?_
      refine J.y (op_move rfl rfl) rfl rfl rfl ?_
      refine J.e (op_call rfl rfl ent70 (Ct.use0 (fun F' hF => bitr_ct F' ((m.getD i noPr).k) (by omega) d (by omega)))) rfl rfl rfl ?_
      intro g25 _
      refine J.y (op_move rfl rfl) rfl rfl rfl ?_
      refine J.y (op_move rfl rfl) rfl rfl rfl ?_
      refine J.e (op_call rfl rfl ent70 (Ct.use0 (fun F' hF => bitr_ct F' k (by omega) d (by omega)))) rfl rfl rfl ?_
      intro g28 _
      refine J.y (op_eql rfl rfl rfl) rfl rfl rfl ?_
      refine J.nil ?_
      refine J.then_n (J.k hK11 ?_)
      refine J.keepE [(0, _), (1, _), (2, _), (7, _), (8, _), (9, _), (29, _)] ⟨rfl, rfl, rfl, rfl, rfl, rfl, rfl, trivial⟩ ?_
      refine J.ite rfl (fun h29 => ?_) (fun h29 => ?_)
      ·
        obtain ⟨hy1, hy2⟩ := sideR_on hw hd (i := i) (by omega) (k := k) (by omega)
        refine J.region ?_
        refine J.y (op_move rfl rfl) rfl rfl rfl ?_
        refine J.y (op_move rfl rfl) rfl rfl rfl ?_
        refine J.y (op_move rfl rfl) rfl rfl rfl ?_
        refine J.y (op_indexAddr (i := i) rfl rfl rfl Tryd.underlying75 Tryd.sizeOf84 hs (by first | omega | (simp only [List.length_append, List.length_cons, List.length_nil, List.length_take, List.length_drop] at *; omega))) rfl rfl rfl ?_
        refine J.y (op_loadA (vs := [Str ((m.getD i noPr).k), Str ((m.getD i noPr).v)]) rfl rfl Tryd.isAgg84 Tryd.sizeOf84 (m := F) (by simp) (hs.elem (prsV_get (by first | omega | (simp only [List.length_append, List.length_cons, List.length_nil, List.length_take, List.length_drop] at *; omega)))) rfl) rfl rfl rfl ?_
        refine J.e (op_buildSlice (l := [.tmp 34]) (xs := [[Str ((m.getD i noPr).k), Str ((m.getD i noPr).v)]]) rfl rfl rfl rfl Tryd.underlying75 el84 rfl (by decide) (by decide) (by simp)) rfl rfl rfl ?_
        intro g35 _
        change J _ _ _ [F, ma, mb, blk g35 [Str ((m.getD i noPr).k), Str ((m.getD i noPr).v)] 84] _
        refine J.e (op_append (i := 1) (xs := prsV (sideR f' (decide (Sm.bit k d = 0)) (m.take i))) (m2 := blk g35 [Str ((m.getD i noPr).k), Str ((m.getD i noPr).v)] 84) (ys := [[Str ((m.getD i noPr).k), Str ((m.getD i noPr).v)]]) rfl rfl rfl Tryd.underlying75 Tryd.underlying75 el84 rfl hra (by simp) ((row_blk (q := True) (xs := prsV [(m.getD i noPr)]) rfl (by intro x hx; rw [List.mem_singleton.1 hx]; rfl)).sl) rfl (by first | omega | (simp only [List.length_append, List.length_cons, List.length_nil, List.length_take, List.length_drop] at *; omega)) (by first | omega | (simp only [List.length_append, List.length_cons, List.length_nil, List.length_take, List.length_drop] at *; omega))) rfl rfl rfl ?_
        rintro ⟨A36, c36, m36⟩ h36
        try dsimp only at h36
        change J _ ((36, .slice A36 (((sideR f' (decide (Sm.bit k d = 0)) (m.take i)).length) + 1) c36) :: _) _ [F, m36, mb, blk g35 [Str ((m.getD i noPr).k), Str ((m.getD i noPr).v)] 84] _
        replace h36 : Row m36 84 2 A36 (((sideR f' (decide (Sm.bit k d = 0)) (m.take i)).length) + 1) c36 (prsV ((sideR f' (decide (Sm.bit k d = 0)) (m.take i)) ++ ([(m.getD i noPr)]))) := by rw [prsV_snoc]; exact h36
        refine J.y (op_assign rfl rfl) rfl rfl rfl ?_
        refine J.nil ?_
        refine J.blk_n ?_
        refine J.then_n (J.k hK10 ?_)
        refine J.keepE [(0, _), (1, _), (2, _), (7, _), (8, _), (9, _)] ⟨rfl, rfl, rfl, rfl, rfl, rfl, trivial⟩ ?_
        refine J.region ?_
        refine J.y (op_move rfl rfl) rfl rfl rfl ?_
        refine J.y ((op_add rfl rfl rfl (by first | omega | (simp only [List.length_append, List.length_cons, List.length_nil, List.length_take, List.length_drop] at *; omega))).as (v' := I ((i + 1 : Nat) : Int)) (congrArg I (by omega))) rfl rfl rfl ?_
        refine J.y (op_assign rfl rfl) rfl rfl rfl ?_
        refine J.nil ?_
        refine J.then_n ?_
        exact J.kk (i + 1, A36, c36, m36, Ab, cb, mb) (fun η (hη : _ ∧ n - η.1 < n - i) => hI0 η hη.1 hη.2) ⟨⟨by dsimp only; omega, by dsimp only; rw [hy1, List.length_append]; exact h36, by dsimp only; rw [hy2]; exact hrb⟩, by first | omega | (dsimp only; omega)⟩ ⟨rfl, rfl, rfl, by dsimp only; first | rfl | (rw [hy1, List.length_append]; rfl) | (rw [hy1]; rfl), by dsimp only; first | rfl | (rw [hy2, List.length_append]; rfl) | (rw [hy2]; rfl), rfl, trivial⟩ (fun _ h => h.pick [0, 1, 2] (by decide))
      ·
        obtain ⟨hy1, hy2⟩ := sideR_off hw hd (i := i) (by omega) (k := k) (by omega)
        refine J.region ?_
        refine J.y (op_move rfl rfl) rfl rfl rfl ?_
        refine J.y (op_move rfl rfl) rfl rfl rfl ?_
        refine J.y (op_move rfl rfl) rfl rfl rfl ?_
        refine J.y (op_indexAddr (i := i) rfl rfl rfl Tryd.underlying75 Tryd.sizeOf84 hs (by first | omega | (simp only [List.length_append, List.length_cons, List.length_nil, List.length_take, List.length_drop] at *; omega))) rfl rfl rfl ?_
        refine J.y (op_loadA (vs := [Str ((m.getD i noPr).k), Str ((m.getD i noPr).v)]) rfl rfl Tryd.isAgg84 Tryd.sizeOf84 (m := F) (by simp) (hs.elem (prsV_get (by first | omega | (simp only [List.length_append, List.length_cons, List.length_nil, List.length_take, List.length_drop] at *; omega)))) rfl) rfl rfl rfl ?_
        refine J.e (op_buildSlice (l := [.tmp 41]) (xs := [[Str ((m.getD i noPr).k), Str ((m.getD i noPr).v)]]) rfl rfl rfl rfl Tryd.underlying75 el84 rfl (by decide) (by decide) (by simp)) rfl rfl rfl ?_
        intro g42 _
        change J _ _ _ [F, ma, mb, blk g42 [Str ((m.getD i noPr).k), Str ((m.getD i noPr).v)] 84] _
        refine J.e (op_append (i := 2) (xs := prsV (sideR f' (!decide (Sm.bit k d = 0)) (m.take i))) (m2 := blk g42 [Str ((m.getD i noPr).k), Str ((m.getD i noPr).v)] 84) (ys := [[Str ((m.getD i noPr).k), Str ((m.getD i noPr).v)]]) rfl rfl rfl Tryd.underlying75 Tryd.underlying75 el84 rfl hrb (by simp) ((row_blk (q := True) (xs := prsV [(m.getD i noPr)]) rfl (by intro x hx; rw [List.mem_singleton.1 hx]; rfl)).sl) rfl (by first | omega | (simp only [List.length_append, List.length_cons, List.length_nil, List.length_take, List.length_drop] at *; omega)) (by first | omega | (simp only [List.length_append, List.length_cons, List.length_nil, List.length_take, List.length_drop] at *; omega))) rfl rfl rfl ?_
        rintro ⟨A43, c43, m43⟩ h43
        try dsimp only at h43
        change J _ ((43, .slice A43 (((sideR f' (!decide (Sm.bit k d = 0)) (m.take i)).length) + 1) c43) :: _) _ [F, ma, m43, blk g42 [Str ((m.getD i noPr).k), Str ((m.getD i noPr).v)] 84] _
        replace h43 : Row m43 84 2 A43 (((sideR f' (!decide (Sm.bit k d = 0)) (m.take i)).length) + 1) c43 (prsV ((sideR f' (!decide (Sm.bit k d = 0)) (m.take i)) ++ ([(m.getD i noPr)]))) := by rw [prsV_snoc]; exact h43
        refine J.y (op_assign rfl rfl) rfl rfl rfl ?_
        refine J.nil ?_
        refine J.blk_n ?_
        refine J.then_n (J.k hK10 ?_)
        refine J.keepE [(0, _), (1, _), (2, _), (7, _), (8, _), (9, _)] ⟨rfl, rfl, rfl, rfl, rfl, rfl, trivial⟩ ?_
        refine J.region ?_
        refine J.y (op_move rfl rfl) rfl rfl rfl ?_
        refine J.y ((op_add rfl rfl rfl (by first | omega | (simp only [List.length_append, List.length_cons, List.length_nil, List.length_take, List.length_drop] at *; omega))).as (v' := I ((i + 1 : Nat) : Int)) (congrArg I (by omega))) rfl rfl rfl ?_
        refine J.y (op_assign rfl rfl) rfl rfl rfl ?_
        refine J.nil ?_
        refine J.then_n ?_
        exact J.kk (i + 1, Aa, ca, ma, A43, c43, m43) (fun η (hη : _ ∧ n - η.1 < n - i) => hI0 η hη.1 hη.2) ⟨⟨by dsimp only; omega, by dsimp only; rw [hy1]; exact hra, by dsimp only; rw [hy2, List.length_append]; exact h43⟩, by first | omega | (dsimp only; omega)⟩ ⟨rfl, rfl, rfl, by dsimp only; first | rfl | (rw [hy1, List.length_append]; rfl) | (rw [hy1]; rfl), by dsimp only; first | rfl | (rw [hy2, List.length_append]; rfl) | (rw [hy2]; rfl), rfl, trivial⟩ (fun _ h => h.pick [0, 1, 2] (by decide))
    ·
      refine J.exit ?_
      refine J.then_x ?_
      refine J.then_x ?_
      refine J.blk_eq ?_
      refine J.then_n (J.k hK6 ?_)
      refine J.keepE [(1, _), (2, _), (7, _), (8, _)] ⟨rfl, rfl, rfl, rfl, trivial⟩ ?_
      refine J.seq (fun K12 hK12 => ?_)
      obtain rfl : i = m.length := by omega
      rw [List.take_length] at hra hrb ⊢
      have hz1 := sideR_len f' (decide (Sm.bit k d = 0)) m
      have hz2 := sideR_len f' (!decide (Sm.bit k d = 0)) m
      have hwo : Sm.WF (128 - (d + 1)) ((sideR f' (!decide (Sm.bit k d = 0)) m).map toP) := by rw [show 128 - (d + 1) = f' by omega, sideR_map]; exact hw.side _
      have hvo : ∀ p ∈ sideR f' (!decide (Sm.bit k d = 0)) m, p.v.length ≤ 1000000 := fun p hp => hv p (List.mem_filter.1 hp).1
      have hbl := bes_len k f' ((sideR f' (decide (Sm.bit k d = 0)) m).map toP)
      have hfin : bes k (f' + 1) (m.map toP) = [Sm.nd (128 - (d + 1)) ((sideR f' (!decide (Sm.bit k d = 0)) m).map toP)] ++ bes k f' ((sideR f' (decide (Sm.bit k d = 0)) m).map toP) := by
        rw [bes, if_neg (by rw [List.length_map]; omega), show 127 - f' = d by omega, show 128 - (d + 1) = f' by omega, sideR_map, sideR_map]; rfl
      refine J.region ?_
      refine J.y (op_move rfl rfl) rfl rfl rfl ?_
      refine J.y (op_move rfl rfl) rfl rfl rfl ?_
      refine J.y ((op_add rfl rfl rfl (by first | omega | (simp only [List.length_append, List.length_cons, List.length_nil, List.length_take, List.length_drop] at *; omega))).as (v' := I ((d + 1 : Nat) : Int)) (congrArg I (by omega))) rfl rfl rfl ?_
      refine J.e (op_call rfl rfl ent49 (Ct.use0 (fun F' hF => rnode_ct F' Ab ((sideR f' (!decide (Sm.bit k d = 0)) (m)).length) cb (sideR f' (!decide (Sm.bit k d = 0)) (m)) (hrb.sl.mono (hF mb (by simp))) (by omega) (d + 1) (by omega) (by assumption) (by assumption)))) rfl rfl rfl ?_
      intro g47 _
      refine J.e (op_buildSlice (l := [.tmp 47]) (xs := [[Str (Sm.nd (128 - (d + 1)) ((sideR f' (!decide (Sm.bit k d = 0)) (m)).map toP))]]) rfl rfl rfl rfl Tryd.underlying36 el9 rfl (by decide) (by decide) (by simp)) rfl rfl rfl ?_
      intro g48 _
      change J _ _ _ [F, ma, mb, blk g48 [Str (Sm.nd (128 - (d + 1)) ((sideR f' (!decide (Sm.bit k d = 0)) (m)).map toP))] 9] _
      refine J.y (op_move rfl rfl) rfl rfl rfl ?_
      refine J.y (op_move rfl rfl) rfl rfl rfl ?_
      refine J.y (op_move rfl rfl) rfl rfl rfl ?_
      refine J.y ((op_add rfl rfl rfl (by first | omega | (simp only [List.length_append, List.length_cons, List.length_nil, List.length_take, List.length_drop] at *; omega))).as (v' := I ((d + 1 : Nat) : Int)) (congrArg I (by omega))) rfl rfl rfl ?_
      refine J.e (op_call rfl rfl ent76 (Ct.use (new := fun x : Option Addr × Nat × Hp => [x.2.2]) (fun F' hF => ih f' rfl F' Aa _ ca (sideR f' (decide (Sm.bit k d = 0)) m) (hra.sl.mono (hF ma (by simp))) (by omega) k hk (by rw [sideR_map]; exact hw.side _) (fun p hp => hv p (List.mem_filter.1 hp).1) (d + 1) (by omega)))) rfl rfl rfl ?_
      rintro ⟨A53, c53, m53⟩ h53
      try dsimp only at h53
      change J _ ((53, .slice A53 (bes k f' ((sideR f' (decide (Sm.bit k d = 0)) m).map toP)).length c53) :: _) _ [F, ma, mb, blk g48 [Str (Sm.nd (128 - (d + 1)) ((sideR f' (!decide (Sm.bit k d = 0)) (m)).map toP))] 9, m53] _
      refine J.e (op_append (i := 3) (xs := strsV ([Sm.nd (128 - (d + 1)) ((sideR f' (!decide (Sm.bit k d = 0)) (m)).map toP)])) (m2 := m53) (ys := strsV (bes k f' ((sideR f' (decide (Sm.bit k d = 0)) m).map toP))) rfl rfl rfl Tryd.underlying36 Tryd.underlying36 el9 rfl (row_lit (q := True) (strsV ([Sm.nd (128 - (d + 1)) ((sideR f' (!decide (Sm.bit k d = 0)) (m)).map toP)])) rfl (by simp [strsV]) rfl) (by simp) (h53.sl) (one_strs _) (by first | omega | (simp only [List.length_append, List.length_cons, List.length_nil, List.length_take, List.length_drop] at *; omega)) (by first | omega | (simp only [List.length_append, List.length_cons, List.length_nil, List.length_take, List.length_drop] at *; omega))) rfl rfl rfl ?_
      rintro ⟨A54, c54, m54⟩ h54
      try dsimp only at h54
      change J _ ((54, .slice A54 (1 + ((bes k f' ((sideR f' (decide (Sm.bit k d = 0)) m).map toP)).length)) c54) :: _) _ [F, ma, mb, m54, m53] _
      rw [← strsV_app] at h54
      refine J.y (op_assign rfl rfl) rfl rfl rfl ?_
      refine J.nil ?_
      refine J.then_n (J.k hK12 ?_)
      refine J.keepE [(6, _)] ⟨rfl, trivial⟩ ?_
      refine J.ret ?_
      exact J.done hw0 (fun _ _ h => h) (res1 rfl rfl) (retOk (A54, c54, m54) (by rw [hfin, List.length_append]; rfl) (by rw [hfin, List.length_append]; exact h54) [0, 3] rfl (by decide))

theorem bes_ok : ∀ f, BesOk f
  | 0 => fun F A n c m hs hn k hk hw hv d hd => bes_step 0 (fun f' h => absurd h (Nat.succ_ne_zero f').symm) F A n c m hs hn k hk hw hv d hd
  | f + 1 => fun F A n c m hs hn k hk hw hv d hd => bes_step (f + 1) (fun f' h => by injection h with h; subst h; exact bes_ok f) F A n c m hs hn k hk hw hv d hd

end Go.Proofs.YtpcffgkmpmcobaaDoor
