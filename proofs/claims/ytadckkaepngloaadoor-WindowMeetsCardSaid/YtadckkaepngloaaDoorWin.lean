/- A part of the proof: contracts of functions of the program, each for every state of the heaps that it names. -/
import Derived.Test.YtadckkaepngloaaDoorStrm
set_option linter.unusedSimpArgs false
set_option linter.unusedVariables false
namespace Go.Proofs.YtadckkaepngloaaDoor
open Go Go.Fw
set_option maxRecDepth 100000
set_option maxHeartbeats 1000000

theorem op_slice3 {P : Program} {env : Env} {rs : List Hp} {o : Oper} {t e x q r sz A n' c h m} (ho : o.op = .slice t x none (some q) (some r)) (hx : ev env x = some (.slice A n' c)) (hu : P.underlying t = some (.slice e)) (hz : ∀ w, (sizeOf e).run P w = .ok sz w)
    (hhi : ev env q = some (I ((h : Nat) : Int))) (hmx : ev env r = some (I ((m : Nat) : Int))) (hr : h ≤ m ∧ m ≤ c) : YOp P env rs o (.slice A h m) := fun n a w hk _ => by
  simp [execOp, ho, hk.ev hx, hk.ev hhi, hk.ev hmx, Instr.sliceAt, Instr.slice, run_underlying hu, Instr.sliceBounds, Instr.sliceBound, asIntOf, hr.1, hr.2, hz]
  intro _
  cases A <;> simp [Addr.add]
theorem el3 : Elem Tryd.prog 3 [.int .i64 0] 8 := Elem.of (by kernel_rfl) rfl
theorem ent30 : Enters Tryd.prog 30 := Enters.of Tryd.func30 rfl (by kernel_rfl)
theorem ent32 : Enters Tryd.prog 32 := Enters.of Tryd.func32 rfl (by kernel_rfl)
theorem ent33 : Enters Tryd.prog 33 := Enters.of Tryd.func33 rfl (by kernel_rfl)
theorem ent57 : Enters Tryd.prog 57 := Enters.of Tryd.func57 rfl (by kernel_rfl)
namespace Wd
open Sha
def drawN (fuel : Nat) (n : UInt64) (s : Strm) : Option (UInt64 × Strm) := if n.toNat < 2 then some (0, s) else (draw (stop n) fuel s).map fun x => (x.1 % n, x.2)
def start (a : Nat) : List Int := (List.range a).map fun i : Nat => (i : Int)
def wins (fuel a : Nat) (s0 : Strm) : Nat → Option (List Int × Strm)
  | 0 => some (start a, s0)
  | k + 1 => (wins fuel a s0 k).bind fun x => (drawN fuel (UInt64.ofNat (a - k)) x.2).map fun y =>
      ((x.1.set k (x.1.getD (k + y.1.toNat) 0)).set (k + y.1.toNat) (x.1.getD k 0), y.2)
def seedOf (seed : List UInt8) (band : Nat) : List UInt8 := Sha.tagged 17 [seed, [UInt8.ofNat band]]
theorem drawN_lt {fuel : Nat} {n : UInt64} {s : Strm} {v : UInt64} {s' : Strm} (h : drawN fuel n s = some (v, s')) (hn : 1 ≤ n.toNat) : v.toNat < n.toNat := by
  unfold drawN at h
  split at h
  · simp only [Option.some.injEq, Prod.mk.injEq] at h
    rw [← h.1]; exact hn
  · obtain ⟨x, _, h2⟩ := Option.map_eq_some_iff.1 h
    simp only [Prod.mk.injEq] at h2
    rw [← h2.1, UInt64.toNat_mod]
    exact Nat.mod_lt _ hn
theorem drawN_ok {fuel : Nat} {n : UInt64} {s : Strm} {v : UInt64} {s' : Strm} (h : drawN fuel n s = some (v, s')) (ho : s.Ok8) : s'.Ok8 ∧ s'.seed = s.seed := by
  unfold drawN at h
  split at h
  · simp only [Option.some.injEq, Prod.mk.injEq] at h
    rw [← h.2]; exact ⟨ho, rfl⟩
  · obtain ⟨x, h1, h2⟩ := Option.map_eq_some_iff.1 h
    obtain ⟨k, s1⟩ := x
    simp only [Prod.mk.injEq] at h2
    rw [← h2.2]; exact draw_ok h1 ho
theorem wins_pre {fuel a : Nat} {s0 : Strm} : ∀ {k j : Nat} {x : List Int × Strm}, wins fuel a s0 k = some x → j ≤ k → ∃ y, wins fuel a s0 j = some y
  | 0, j, x, h, hj => ⟨x, by rw [show j = 0 by omega]; exact h⟩
  | k + 1, j, x, h, hj => by
    by_cases e : j = k + 1
    · exact ⟨x, by rw [e]; exact h⟩
    · obtain ⟨z, hz, _⟩ := Option.bind_eq_some_iff.1 (show (wins fuel a s0 k).bind _ = some x from h)
      exact wins_pre hz (by omega)
def part (a k : Nat) : List Value := ((List.range k).map fun i => I ((i : Nat) : Int)) ++ List.replicate (a - k) (I 0)
theorem part_zero (a : Nat) : (List.replicate a [I 0]).flatten = part a 0 := by
  unfold part
  simp only [List.range_zero, List.map_nil, List.nil_append, Nat.sub_zero]
  induction a with
  | zero => rfl
  | succ a ih => simp only [List.replicate_succ, List.flatten_cons, ih]; rfl
theorem part_len (a k : Nat) (h : k ≤ a) : (part a k).length = a := by simp [part]; omega
theorem part_succ (a k : Nat) (h : k < a) : setAt (part a k) k [I k] = part a (k + 1) := by
  have e : a - k = (a - (k + 1)) + 1 := by omega
  have h2 := set_rep ((List.range k).map fun i => I ((i : Nat) : Int)) (I 0) (a - (k + 1)) (I k)
  rw [List.length_map, List.length_range] at h2
  unfold setAt part
  rw [e, List.length_singleton, h2, List.range_succ, List.map_append]
  rfl
theorem part_full (a : Nat) : part a a = (start a).map fun x => I x := by simp [part, start]
theorem setAt_ints (l : List Int) (k : Nat) (x : Int) (h : k < l.length) : setAt (l.map fun x => I x) k [I x] = (l.set k x).map fun x => I x := by
  unfold setAt
  rw [List.length_singleton, List.set_eq_take_append_cons_drop, if_pos h, List.map_append, List.map_cons, List.map_take, List.map_drop]
  simp
theorem getI {l : List Int} {j : Nat} (h : j < l.length) : (l.map fun x => I x)[j]? = some (I (l.getD j 0)) := by
  rw [List.getElem?_map, List.getElem?_eq_getElem h, List.getD_eq_getElem?_getD, List.getElem?_eq_getElem h]; rfl
def find : List Int → Int → Nat → Int
  | [], _, _ => -1
  | a :: r, v, k => if v = a then (k : Int) else find r v (k + 1)
end Wd
theorem belowN_ct (F : Hp) (hK : Cells F ⟨0, 0, none⟩ (Sha.K.map W32)) (g : Nat) (s : Sha.Strm) (ho : s.Ok8) (hs : s.seed.length ≤ 1048576) (n : UInt64) (fuel : Nat) (k : UInt64) (s' : Sha.Strm) (hd : Wd.drawN fuel n s = some (k, s')) :
    Ct Tryd.prog 21 [Ptr g, W64 n] [blk g s.cells 96, F] (fun _ : Unit => W64 k) (fun _ => True) (fun _ => [blk g s'.cells 96, F]) := by
  unfold Wd.drawN at hd
  split at hd
  · rename_i hn
    simp only [Option.some.injEq, Prod.mk.injEq] at hd
    obtain ⟨rfl, rfl⟩ := hd
    exact below_small F g s n hn
  · rename_i hn
    obtain ⟨x, h1, h2⟩ := Option.map_eq_some_iff.1 hd
    obtain ⟨y, s1⟩ := x
    simp only [Prod.mk.injEq] at h2
    obtain ⟨rfl, rfl⟩ := h2
    exact below_ct F hK g s ho hs n (by omega) fuel y s1 h1

theorem of_ct (F : Hp) (hK : Cells F ⟨0, 0, none⟩ (Sha.K.map W32)) (seed : List UInt8) (hseed : seed.length ≤ 1048576) (b a sl : Nat) (hb : b < 16) (ha : a ≤ 64) (h1 : 1 ≤ sl) (hsl : sl ≤ a) (fuel : Nat) (l : List Int) (st : Sha.Strm) (hw : Wd.wins fuel a (Sha.Strm.new (Wd.seedOf seed b)) sl = some (l, st)) :
    Ct Tryd.prog 30 [Str seed, I b, I a, I sl] [F] (fun g : Nat => .tuple #[.slice (some ⟨g, 0, none⟩) sl sl, I 0]) (fun _ => True) (fun g => [F, blk g (l.map fun x => I x) 3]) := by
  have hsd : (Wd.seedOf seed b).length ≤ 1048576 := by unfold Wd.seedOf; rw [Sha.tagged_length]; decide
  refine Ct.walk Tryd.func30 rfl Tryd.ntmps30 rfl (fun w0 => ?_)
  change J _ [(0, _), (1, _), (2, _), (3, _)] _ _ _
  refine J.seq (fun K1 hK1 => ?_)
  refine J.region ?_
  refine J.y (op_assign rfl rfl) rfl rfl rfl ?_
  refine J.y (op_assign rfl rfl) rfl rfl rfl ?_
  refine J.nil ?_
  refine J.then_n (J.k hK1 ?_)
  refine J.keepE [(0, _), (1, _), (2, _), (3, _)] ⟨rfl, rfl, rfl, rfl, trivial⟩ ?_
  refine J.seq (fun K2 hK2 => ?_)
  refine J.block ?_
  refine J.seq (fun K3 hK3 => ?_)
  refine J.region ?_
  refine J.y (op_move rfl rfl) rfl rfl rfl ?_
  refine J.y ((op_lss rfl rfl rfl).as (v' := .bool false) (congrArg Value.bool (decide_eq_false (by omega)))) rfl rfl rfl ?_
  refine J.y (op_move rfl rfl) rfl rfl rfl ?_
  refine J.yg (Wan.is rfl rfl rfl rfl rfl) (op_move rfl rfl) rfl rfl ?_
  refine J.yg (Wan.is rfl rfl rfl rfl rfl) ((op_geq rfl rfl rfl).as (v' := .bool false) (congrArg Value.bool (decide_eq_false (by omega)))) rfl rfl ?_
  refine J.y (op_pickF rfl rfl rfl) rfl rfl rfl ?_
  refine J.y (op_move rfl rfl) rfl rfl rfl ?_
  refine J.yg (Wan.is rfl rfl rfl rfl rfl) (op_move rfl rfl) rfl rfl ?_
  refine J.yg (Wan.is rfl rfl rfl rfl rfl) ((op_lss rfl rfl rfl).as (v' := .bool false) (congrArg Value.bool (decide_eq_false (by omega)))) rfl rfl ?_
  refine J.y (op_pickF rfl rfl rfl) rfl rfl rfl ?_
  refine J.y (op_move rfl rfl) rfl rfl rfl ?_
  refine J.yg (Wan.is rfl rfl rfl rfl rfl) (op_move rfl rfl) rfl rfl ?_
  refine J.yg (Wan.is rfl rfl rfl rfl rfl) ((op_gtr rfl rfl rfl).as (v' := .bool false) (congrArg Value.bool (decide_eq_false (by omega)))) rfl rfl ?_
  refine J.y (op_pickF rfl rfl rfl) rfl rfl rfl ?_
  refine J.y (op_move rfl rfl) rfl rfl rfl ?_
  refine J.yg (Wan.is rfl rfl rfl rfl rfl) (op_move rfl rfl) rfl rfl ?_
  refine J.yg (Wan.is rfl rfl rfl rfl rfl) ((op_lss rfl rfl rfl).as (v' := .bool false) (congrArg Value.bool (decide_eq_false (by omega)))) rfl rfl ?_
  refine J.y (op_pickF rfl rfl rfl) rfl rfl rfl ?_
  refine J.y (op_assign rfl rfl) rfl rfl rfl ?_
  refine J.nil ?_
  refine J.then_n (J.k hK3 ?_)
  refine J.keepE [(0, _), (1, _), (2, _), (3, _), (15, _)] ⟨rfl, rfl, rfl, rfl, rfl, trivial⟩ ?_
  refine J.condF rfl rfl ?_
  refine J.seq (fun K4 hK4 => ?_)
  refine J.region ?_
  refine J.y (op_move rfl rfl) rfl rfl rfl ?_
  refine J.y (op_move rfl rfl) rfl rfl rfl ?_
  refine J.y ((op_gtr rfl rfl rfl).as (v' := .bool false) (congrArg Value.bool (decide_eq_false (by omega)))) rfl rfl rfl ?_
  refine J.y (op_assign rfl rfl) rfl rfl rfl ?_
  refine J.nil ?_
  refine J.then_n (J.k hK4 ?_)
  refine J.keepE [(0, _), (1, _), (2, _), (3, _), (34, _)] ⟨rfl, rfl, rfl, rfl, rfl, trivial⟩ ?_
  refine J.condF rfl rfl ?_
  refine J.skip ?_
  refine J.blk_n ?_
  refine J.then_n (J.k hK2 ?_)
  refine J.keepE [(0, _), (1, _), (2, _), (3, _)] ⟨rfl, rfl, rfl, rfl, trivial⟩ ?_
  refine J.seq (fun K5 hK5 => ?_)
  refine J.region ?_
  refine J.y (op_move rfl rfl) rfl rfl rfl ?_
  refine J.y (op_move rfl rfl) rfl rfl rfl ?_
  refine J.y (op_cv_i64_u8 rfl rfl Tryd.underlying3 Tryd.underlying5) rfl rfl rfl ?_
  refine J.e (op_buildSlice (l := [.tmp 40]) (xs := [[B8 (UInt8.ofNat b)]]) rfl rfl rfl rfl Tryd.underlying24 el5 rfl (by decide) (by decide) (by simp)) rfl rfl rfl ?_
  intro g41 _
  change J _ _ _ [F, blk g41 [B8 (UInt8.ofNat b)] 5] _
  refine J.y (op_toStr (l := [UInt8.ofNat b]) rfl rfl Tryd.underlying24 Tryd.underlying5 Tryd.underlying9 (m := blk g41 [B8 (UInt8.ofNat b)] 5) (by simp) (row_blk (q := True) (xs := [[B8 (UInt8.ofNat b)]]) rfl (by simp)).sl) rfl rfl rfl ?_
  refine J.e (op_buildSlice (l := [.tmp 38, .tmp 42]) (xs := [[Str seed], [Str [UInt8.ofNat b]]]) rfl rfl rfl rfl Tryd.underlying22 el9 rfl (by decide) (by decide) (by simp)) rfl rfl rfl ?_
  intro g43 _
  change J _ _ _ [F, blk g41 [B8 (UInt8.ofNat b)] 5, blk g43 [Str seed, Str [UInt8.ofNat b]] 9] _
  refine J.e (op_call rfl rfl ent18 (Ct.use0 (fun F' hF => tagged_ct F' (hK.mono (hF _ (by simp))) 17 (some ⟨g43, 0, none⟩) 2 2 [seed, [UInt8.ofNat b]] (((row_blk (q := True) (xs := strsV [seed, [UInt8.ofNat b]]) rfl (by simp [strsV])).sl (m := blk g43 [Str seed, Str [UInt8.ofNat b]] 9)).mono (hF _ (by simp))) (by simp; omega) (by decide)))) rfl rfl rfl ?_
  intro g44 _
  refine J.e (op_call rfl rfl ent20 (Ct.use (fun F' _ => newStream_ct F' (Wd.seedOf seed b)))) rfl rfl rfl ?_
  intro g45 _
  change J _ _ _ [F, blk g41 [B8 (UInt8.ofNat b)] 5, blk g43 [Str seed, Str [UInt8.ofNat b]] 9, blk g45 (Sha.Strm.new (Wd.seedOf seed b)).cells 96] _
  refine J.y (op_assign rfl rfl) rfl rfl rfl ?_
  refine J.nil ?_
  refine J.then_n (J.k hK5 ?_)
  refine J.keepE [(2, _), (3, _), (10, _)] ⟨rfl, rfl, rfl, trivial⟩ ?_
  refine J.seq (fun K6 hK6 => ?_)
  refine J.region ?_
  refine J.y (op_move rfl rfl) rfl rfl rfl ?_
  refine J.e (op_makeSlice (n' := a) rfl rfl Tryd.underlying50 el3 (by omega) (by omega)) rfl rfl rfl ?_
  intro g47 _
  change J _ _ _ [F, blk g41 [B8 (UInt8.ofNat b)] 5, blk g43 [Str seed, Str [UInt8.ofNat b]] 9, blk g45 (Sha.Strm.new (Wd.seedOf seed b)).cells 96, blk g47 (List.replicate a [I 0]).flatten 3] _
  refine J.perm [0, 3, 4] [F, blk g45 (Sha.Strm.new (Wd.seedOf seed b)).cells 96, blk g47 (List.replicate a [I 0]).flatten 3] rfl (by decide) ?_
  refine J.y (op_assign rfl rfl) rfl rfl rfl ?_
  refine J.nil ?_
  refine J.then_n (J.k hK6 ?_)
  refine J.keepE [(2, _), (3, _), (10, _), (11, _)] ⟨rfl, rfl, rfl, rfl, trivial⟩ ?_
  refine J.seq (fun K7 hK7 => ?_)
  refine J.seq (fun K8 hK8 => ?_)
  refine J.region ?_
  refine J.y (op_move rfl rfl) rfl rfl rfl ?_
  refine J.y (op_len Tryd.underlying50 rfl rfl) rfl rfl rfl ?_
  refine J.y (op_move rfl rfl) rfl rfl rfl ?_
  refine J.nil ?_
  refine J.then_n (J.k hK8 ?_)
  refine J.keepE [(2, _), (3, _), (10, _), (11, _), (49, _), (50, _)] ⟨rfl, rfl, rfl, rfl, rfl, rfl, trivial⟩ ?_
  refine J.block ?_
  refine J.loop (fun k : Nat => [(2, I a), (3, I sl), (10, Ptr g45), (11, .slice (some ⟨g47, 0, none⟩) a a), (49, I a), (50, I k)]) (fun k => [F, blk g45 (Sha.Strm.new (Wd.seedOf seed b)).cells 96, blk g47 (Wd.part a k) 3]) (fun k => k ≤ a) (fun k => a - k) 0 (Nat.zero_le _) ⟨rfl, rfl, rfl, rfl, rfl, rfl, trivial⟩ (fun _ h => by rw [← Wd.part_zero]; exact h) ?_
  intro k hk I1 hI1
  refine J.seq (fun K9 hK9 => ?_)
  refine J.region ?_
  refine J.y (op_lss rfl rfl rfl) rfl rfl rfl ?_
  refine J.nil ?_
  refine J.then_n (J.k hK9 ?_)
  refine J.keepE [(2, _), (3, _), (10, _), (11, _), (49, _), (50, _), (51, _)] ⟨rfl, rfl, rfl, rfl, rfl, rfl, rfl, trivial⟩ ?_
  refine J.seq (fun K10 hK10 => ?_)
  refine J.ite rfl (fun h51 => ?_) (fun h51 => ?_)
  ·
    refine J.skip ?_
    refine J.then_n (J.k hK10 ?_)
    refine J.keepE [(2, _), (3, _), (10, _), (11, _), (49, _), (50, _)] ⟨rfl, rfl, rfl, rfl, rfl, rfl, trivial⟩ ?_
    refine J.seq (fun K11 hK11 => ?_)
    refine J.block ?_
    refine J.seq (fun K12 hK12 => ?_)
    refine J.region ?_
    refine J.y (op_move rfl rfl) rfl rfl rfl ?_
    refine J.y (op_assign rfl rfl) rfl rfl rfl ?_
    refine J.nil ?_
    refine J.then_n (J.k hK12 ?_)
    refine J.keepE [(2, _), (3, _), (10, _), (11, _), (12, _), (49, _), (50, _)] ⟨rfl, rfl, rfl, rfl, rfl, rfl, rfl, trivial⟩ ?_
    refine J.region ?_
    refine J.y (op_move rfl rfl) rfl rfl rfl ?_
    refine J.y (op_move rfl rfl) rfl rfl rfl ?_
    refine J.y (op_move rfl rfl) rfl rfl rfl ?_
    refine J.y (op_indexAddrS (i := k) (j := k) rfl rfl rfl Tryd.underlying50 Tryd.sizeOf3 (by omega) (by omega)) rfl rfl rfl ?_
    refine J.s (op_store (i := 2) (vs := [I k]) rfl rfl rfl rfl rfl Tryd.sizeOf3 rfl (by rw [Wd.part_len a k (by omega)]; show k + 1 ≤ a; omega)) rfl rfl (fun _ _ => ?_)
    change J _ _ _ [F, blk g45 (Sha.Strm.new (Wd.seedOf seed b)).cells 96, blk g47 (setAt (Wd.part a k) k [I k]) 3] _
    refine J.nil ?_
    refine J.blk_n ?_
    refine J.then_n (J.k hK11 ?_)
    refine J.keepE [(2, _), (3, _), (10, _), (11, _), (49, _), (50, _)] ⟨rfl, rfl, rfl, rfl, rfl, rfl, trivial⟩ ?_
    refine J.region ?_
    refine J.y (op_add rfl rfl rfl (by omega)) rfl rfl rfl ?_
    refine J.y (op_move rfl rfl) rfl rfl rfl ?_
    refine J.nil ?_
    refine J.then_n ?_
    exact J.kk (k + 1) (fun x (hx : x ≤ a ∧ a - x < a - k) => hI1 x hx.1 hx.2) ⟨by omega, by omega⟩ ⟨rfl, rfl, rfl, rfl, rfl, rfl, trivial⟩ (fun _ h => by rw [← Wd.part_succ a k (by omega)]; exact h)
  ·
    refine J.exit ?_
    refine J.then_x ?_
    refine J.then_x ?_
    refine J.blk_eq ?_
    refine J.then_n (J.k hK7 ?_)
    refine J.keepE [(2, _), (3, _), (10, _), (11, _)] ⟨rfl, rfl, rfl, rfl, trivial⟩ ?_
    refine J.seq (fun K13 hK13 => ?_)
    refine J.seq (fun K14 hK14 => ?_)
    have hka : a = k := by omega
    subst hka
    refine J.region ?_
    refine J.y (op_move rfl rfl) rfl rfl rfl ?_
    refine J.y (op_move rfl rfl) rfl rfl rfl ?_
    refine J.nil ?_
    refine J.then_n (J.k hK14 ?_)
    refine J.keepE [(2, _), (3, _), (10, _), (11, _), (58, _), (59, _)] ⟨rfl, rfl, rfl, rfl, rfl, rfl, trivial⟩ ?_
    refine J.block ?_
    refine J.loop (X := Nat × List Int × Sha.Strm) (fun x => [(2, I a), (3, I sl), (10, Ptr g45), (11, .slice (some ⟨g47, 0, none⟩) a a), (58, I sl), (59, I x.1)]) (fun x => [F, blk g45 x.2.2.cells 96, blk g47 (x.2.1.map fun x => I x) 3]) (fun x => x.1 ≤ sl ∧ Wd.wins fuel a (Sha.Strm.new (Wd.seedOf seed b)) x.1 = some (x.2.1, x.2.2) ∧ x.2.1.length = a ∧ x.2.2.Ok8 ∧ x.2.2.seed = Wd.seedOf seed b) (fun x => sl - x.1) (0, Wd.start a, (Sha.Strm.new (Wd.seedOf seed b))) (⟨Nat.zero_le _, rfl, by simp [Wd.start], rfl, rfl⟩) ⟨rfl, rfl, rfl, rfl, rfl, rfl, trivial⟩ (fun _ h => by rw [← Wd.part_full]; exact h) ?_
    rintro ⟨k, li, s1⟩ ⟨hk, hwk, hll, ho, hse⟩ I3 hI3
    dsimp only at hk hwk hll ho hse ⊢
    refine J.seq (fun K15 hK15 => ?_)
    refine J.region ?_
    refine J.y (op_lss rfl rfl rfl) rfl rfl rfl ?_
    refine J.nil ?_
    refine J.then_n (J.k hK15 ?_)
    refine J.keepE [(2, _), (3, _), (10, _), (11, _), (58, _), (59, _), (60, _)] ⟨rfl, rfl, rfl, rfl, rfl, rfl, rfl, trivial⟩ ?_
    refine J.seq (fun K16 hK16 => ?_)
    refine J.ite rfl (fun h60 => ?_) (fun h60 => ?_)
    ·
      refine J.skip ?_
      refine J.then_n (J.k hK16 ?_)
      refine J.keepE [(2, _), (3, _), (10, _), (11, _), (58, _), (59, _)] ⟨rfl, rfl, rfl, rfl, rfl, rfl, trivial⟩ ?_
      refine J.seq (fun K17 hK17 => ?_)
      refine J.block ?_
      refine J.seq (fun K18 hK18 => ?_)
      refine J.region ?_
      refine J.y (op_move rfl rfl) rfl rfl rfl ?_
      refine J.y (op_assign rfl rfl) rfl rfl rfl ?_
      refine J.nil ?_
      refine J.then_n (J.k hK18 ?_)
      refine J.keepE [(2, _), (3, _), (10, _), (11, _), (13, _), (58, _), (59, _)] ⟨rfl, rfl, rfl, rfl, rfl, rfl, rfl, trivial⟩ ?_
      refine J.seq (fun K19 hK19 => ?_)
      have hks : k < sl := by omega
      obtain ⟨y, hy⟩ := Wd.wins_pre hw (show k + 1 ≤ sl by omega)
      have hy2 := hy
      rw [Wd.wins, hwk] at hy2
      obtain ⟨⟨v, s2⟩, hdr, hy3⟩ := Option.map_eq_some_iff.1 (show (Wd.drawN fuel (UInt64.ofNat (a - k)) s1).map _ = some y from hy2)
      have hak : (UInt64.ofNat (a - k)).toNat = a - k := by rw [UInt64.toNat_ofNat']; exact Nat.mod_eq_of_lt (by omega)
      have hv := Wd.drawN_lt hdr (by omega)
      have hok2 := Wd.drawN_ok hdr ho
      rw [hak] at hv
      refine J.region ?_
      refine J.y (op_move rfl rfl) rfl rfl rfl ?_
      refine J.y (op_move rfl rfl) rfl rfl rfl ?_
      refine J.y (op_move rfl rfl) rfl rfl rfl ?_
      refine J.y (op_move rfl rfl) rfl rfl rfl ?_
      refine J.y ((op_sub rfl rfl rfl (by omega)).as (v' := I ((a - k : Nat) : Int)) (congrArg I (by omega))) rfl rfl rfl ?_
      refine J.y (op_cv_i64_u64 rfl rfl Tryd.underlying3 Tryd.underlying34 (by omega)) rfl rfl rfl ?_
      refine J.e (op_call rfl rfl ent21 (Ct.use1 1 (m' := fun _ : Unit => blk g45 s2.cells 96) (new := fun _ => []) rfl (fun F' hF => belowN_ct F' (hK.mono (hF _ (by simp))) g45 s1 ho (by rw [hse]; exact hsd) (UInt64.ofNat (a - k)) fuel v s2 hdr))) rfl rfl rfl ?_
      intro g68 _
      change J _ _ _ [F, blk g45 s2.cells 96, blk g47 (li.map fun x => I x) 3] _
      refine J.y (op_cv_u64_i64 rfl rfl Tryd.underlying34 Tryd.underlying3 (by omega)) rfl rfl rfl ?_
      refine J.y ((op_add rfl rfl rfl (by omega)).as (v' := I ((k + v.toNat : Nat) : Int)) (congrArg I (by omega))) rfl rfl rfl ?_
      refine J.y (op_assign rfl rfl) rfl rfl rfl ?_
      refine J.nil ?_
      refine J.then_n (J.k hK19 ?_)
      refine J.keepE [(2, _), (3, _), (10, _), (11, _), (13, _), (14, _), (58, _), (59, _)] ⟨rfl, rfl, rfl, rfl, rfl, rfl, rfl, rfl, trivial⟩ ?_
      refine J.draw [blk g47 (li.map fun x => I x) 3] [13, 14, 15, 100002, 100003] [(0, true), (1, true), (2, true), (3, true), (4, true), (5, true), (6, true), (7, true), (8, true), (9, true), (10, true), (11, true), (12, true), (13, false), (14, false), (15, false)] Tryd.wide (by decide +kernel) (by simp) ?_
      refine J.dy rfl (op_move rfl rfl) rfl rfl rfl rfl ?_
      refine J.dy rfl (op_move rfl rfl) rfl rfl rfl rfl ?_
      refine J.dyF rfl (op_move rfl rfl) rfl rfl rfl ?_
      refine J.dyF rfl (op_move rfl rfl) rfl rfl rfl ?_
      refine J.dy rfl (op_move rfl rfl) rfl rfl rfl rfl ?_
      refine J.dy rfl (op_move rfl rfl) rfl rfl rfl rfl ?_
      refine J.dy rfl (op_indexAddrS (i := k + v.toNat) (j := k + v.toNat) rfl rfl rfl Tryd.underlying50 Tryd.sizeOf3 (by omega) (by omega)) rfl rfl rfl rfl ?_
      refine J.dy rfl (op_loadB 0 rfl rfl rfl Tryd.isAgg3 (Wd.getI (l := li) (j := k + v.toNat) (by omega))) rfl rfl rfl rfl ?_
      refine J.dy rfl (op_move rfl rfl) rfl rfl rfl rfl ?_
      refine J.dy rfl (op_move rfl rfl) rfl rfl rfl rfl ?_
      refine J.dy rfl (op_indexAddrS (i := k) (j := k) rfl rfl rfl Tryd.underlying50 Tryd.sizeOf3 (by omega) (by omega)) rfl rfl rfl rfl ?_
      refine J.dy rfl (op_loadB 0 rfl rfl rfl Tryd.isAgg3 (Wd.getI (l := li) (j := k) (by omega))) rfl rfl rfl rfl ?_
      refine J.dy rfl (op_indexAddrS (i := k) (j := k) rfl rfl rfl Tryd.underlying50 Tryd.sizeOf3 (by omega) (by omega)) rfl rfl rfl rfl ?_
      refine J.ds rfl (op_store (i := 2) (vs := [I (li.getD (k + v.toNat) 0)]) rfl rfl rfl rfl rfl Tryd.sizeOf3 rfl (by rw [List.length_map]; show k + 1 ≤ _; omega)) rfl rfl rfl (fun _ _ => ?_)
      change J _ _ _ [F, blk g45 s2.cells 96, blk g47 (setAt (li.map fun x => I x) k [I (li.getD (k + v.toNat) 0)]) 3] _
      refine J.dt rfl (YOp.eop (op_indexAddrS (i := k + v.toNat) (j := k + v.toNat) rfl rfl rfl Tryd.underlying50 Tryd.sizeOf3 (by omega) (by omega))) rfl rfl rfl rfl ?_
      intro _ _
      refine J.ds rfl (op_store (i := 2) (vs := [I (li.getD k 0)]) rfl rfl rfl rfl rfl Tryd.sizeOf3 rfl (by rw [setAt_len (by rw [List.length_map]; omega), List.length_map]; show k + v.toNat + 1 ≤ _; omega)) rfl rfl rfl (fun _ _ => ?_)
      change J _ _ _ [F, blk g45 s2.cells 96, blk g47 (setAt (setAt (li.map fun x => I x) k [I (li.getD (k + v.toNat) 0)]) (k + v.toNat) [I (li.getD k 0)]) 3] _
      refine J.dnil ?_
      refine J.blk_n ?_
      refine J.then_n (J.k hK17 ?_)
      refine J.keepE [(2, _), (3, _), (10, _), (11, _), (58, _), (59, _)] ⟨rfl, rfl, rfl, rfl, rfl, rfl, trivial⟩ ?_
      refine J.region ?_
      refine J.y (op_add rfl rfl rfl (by omega)) rfl rfl rfl ?_
      refine J.y (op_move rfl rfl) rfl rfl rfl ?_
      refine J.nil ?_
      refine J.then_n ?_
      rw [Wd.setAt_ints _ _ _ (by omega), Wd.setAt_ints _ _ _ (by rw [List.length_set]; omega)]
      exact J.kk (k + 1, (li.set k (li.getD (k + v.toNat) 0)).set (k + v.toNat) (li.getD k 0), s2) (fun x (hx : _ ∧ sl - x.1 < sl - k) => hI3 x hx.1 hx.2) ⟨⟨by dsimp only; omega, by dsimp only; rw [hy]; exact congrArg some hy3.symm, by dsimp only; rw [List.length_set, List.length_set]; exact hll, hok2.1, hok2.2.trans hse⟩, by dsimp only; omega⟩ ⟨rfl, rfl, rfl, rfl, rfl, rfl, trivial⟩ (fun _ h => h)
    ·
      refine J.exit ?_
      refine J.then_x ?_
      refine J.then_x ?_
      refine J.blk_eq ?_
      refine J.then_n (J.k hK13 ?_)
      refine J.keepE [(3, _), (11, _)] ⟨rfl, rfl, trivial⟩ ?_
      refine J.seq (fun K20 hK20 => ?_)
      have hks : sl = k := by omega
      subst hks
      rw [hwk] at hw
      simp only [Option.some.injEq, Prod.mk.injEq] at hw
      refine J.region ?_
      refine J.y (op_move rfl rfl) rfl rfl rfl ?_
      refine J.y (op_move rfl rfl) rfl rfl rfl ?_
      refine J.y (op_move rfl rfl) rfl rfl rfl ?_
      refine J.y (op_slice3 (h := sl) (m := sl) rfl rfl Tryd.underlying50 Tryd.sizeOf3 rfl rfl (by omega)) rfl rfl rfl ?_
      refine J.y (op_assign rfl rfl) rfl rfl rfl ?_
      refine J.y (op_assign rfl rfl) rfl rfl rfl ?_
      refine J.nil ?_
      refine J.then_n (J.k hK20 ?_)
      refine J.keepE [(8, _), (9, _)] ⟨rfl, rfl, trivial⟩ ?_
      refine J.ret ?_
      exact J.done (fun _ _ h => h) (res2 rfl rfl rfl) (retOk g47 rfl trivial [0, 2] (by rw [← hw.1]; rfl) (by decide))

theorem index_ct (F : Hp) (A : Option Addr) (n c : Nat) (l : List Int) (hl : Sl F 1 A n c (intsV l)) (v : Int) (hn : n < 4611686018427387904) :
    Ct Tryd.prog 57 [.slice A n c, I v] [F] (fun _ : Unit => I (Wd.find l v 0)) (fun _ => True) (fun _ => [F]) := by
  have hlen : l.length = n := by have := hl.1; simpa [intsV] using this
  refine Ct.walk Tryd.func57 rfl Tryd.ntmps57 rfl (fun w0 => ?_)
  change J _ [(0, _), (1, _)] _ _ _
  refine J.seq (fun K1 hK1 => ?_)
  refine J.region ?_
  refine J.y (op_assign rfl rfl) rfl rfl rfl ?_
  refine J.nil ?_
  refine J.then_n (J.k hK1 ?_)
  refine J.keepE [(0, _), (1, _)] ⟨rfl, rfl, trivial⟩ ?_
  refine J.seq (fun K2 hK2 => ?_)
  refine J.seq (fun K3 hK3 => ?_)
  refine J.region ?_
  refine J.y (op_move rfl rfl) rfl rfl rfl ?_
  refine J.y (op_len Tryd.underlying50 rfl rfl) rfl rfl rfl ?_
  refine J.y (op_move rfl rfl) rfl rfl rfl ?_
  refine J.nil ?_
  refine J.then_n (J.k hK3 ?_)
  refine J.keepE [(0, _), (1, _), (7, _), (8, _)] ⟨rfl, rfl, rfl, rfl, trivial⟩ ?_
  refine J.block ?_
  refine J.loop (fun k : Nat => [(0, .slice A n c), (1, I v), (7, I n), (8, I k)]) (fun _ => [F]) (fun k => k ≤ n ∧ Wd.find (l.drop k) v k = Wd.find l v 0) (fun k => n - k) 0 (⟨Nat.zero_le _, rfl⟩) ⟨rfl, rfl, rfl, rfl, trivial⟩ (fun _ h => h) ?_
  rintro k ⟨hk, hc⟩ I0 hI0
  refine J.seq (fun K4 hK4 => ?_)
  refine J.region ?_
  refine J.y (op_lss rfl rfl rfl) rfl rfl rfl ?_
  refine J.nil ?_
  refine J.then_n (J.k hK4 ?_)
  refine J.keepE [(0, _), (1, _), (7, _), (8, _), (9, _)] ⟨rfl, rfl, rfl, rfl, rfl, trivial⟩ ?_
  refine J.seq (fun K5 hK5 => ?_)
  refine J.ite rfl (fun h9 => ?_) (fun h9 => ?_)
  ·
    refine J.skip ?_
    refine J.then_n (J.k hK5 ?_)
    refine J.keepE [(0, _), (1, _), (7, _), (8, _)] ⟨rfl, rfl, rfl, rfl, trivial⟩ ?_
    refine J.seq (fun K6 hK6 => ?_)
    refine J.block ?_
    refine J.seq (fun K7 hK7 => ?_)
    refine J.region ?_
    refine J.y (op_move rfl rfl) rfl rfl rfl ?_
    refine J.y (op_assign rfl rfl) rfl rfl rfl ?_
    refine J.nil ?_
    refine J.then_n (J.k hK7 ?_)
    refine J.keepE [(0, _), (1, _), (5, _), (7, _), (8, _)] ⟨rfl, rfl, rfl, rfl, rfl, trivial⟩ ?_
    refine J.seq (fun K8 hK8 => ?_)
    have hkn : k < n := by omega
    obtain ⟨s, hs⟩ : ∃ s, l[k]? = some s := ⟨_, List.getElem?_eq_getElem (by omega)⟩
    have hdr : l.drop k = s :: l.drop (k + 1) := by
      obtain ⟨hk2, rfl⟩ := List.getElem?_eq_some_iff.1 hs
      exact List.drop_eq_getElem_cons hk2
    rw [hdr, Wd.find] at hc
    refine J.region ?_
    refine J.y (op_move rfl rfl) rfl rfl rfl ?_
    refine J.y (op_move rfl rfl) rfl rfl rfl ?_
    refine J.y (op_move rfl rfl) rfl rfl rfl ?_
    refine J.y (op_indexAddr (i := k) rfl rfl rfl Tryd.underlying50 Tryd.sizeOf3 hl (by omega)) rfl rfl rfl ?_
    refine J.y (op_load rfl rfl Tryd.isAgg3 (m := F) (by simp) (hl.elem (intsV_get hs))) rfl rfl rfl ?_
    refine J.y (op_eql rfl rfl rfl) rfl rfl rfl ?_
    refine J.nil ?_
    refine J.then_n (J.k hK8 ?_)
    refine J.keepE [(0, _), (1, _), (5, _), (7, _), (8, _), (16, _)] ⟨rfl, rfl, rfl, rfl, rfl, rfl, trivial⟩ ?_
    refine J.ite rfl (fun h16 => ?_) (fun h16 => ?_)
    ·
      refine J.seq (fun K9 hK9 => ?_)
      refine J.region ?_
      refine J.y (op_move rfl rfl) rfl rfl rfl ?_
      refine J.y (op_assign rfl rfl) rfl rfl rfl ?_
      refine J.nil ?_
      refine J.then_n (J.k hK9 ?_)
      refine J.keepE [(4, _)] ⟨rfl, trivial⟩ ?_
      refine J.ret ?_
      refine J.blk_r ?_
      refine J.then_r ?_
      refine J.then_r ?_
      refine J.blk_r ?_
      refine J.then_r ?_
      rw [if_pos h16] at hc
      exact J.done (fun _ _ h => h) (res1 rfl rfl) (retOk () (by rw [← hc]) trivial [0] rfl (by decide))
    ·
      refine J.skip ?_
      refine J.blk_n ?_
      refine J.then_n (J.k hK6 ?_)
      refine J.keepE [(0, _), (1, _), (7, _), (8, _)] ⟨rfl, rfl, rfl, rfl, trivial⟩ ?_
      refine J.region ?_
      refine J.y (op_add rfl rfl rfl (by omega)) rfl rfl rfl ?_
      refine J.y (op_move rfl rfl) rfl rfl rfl ?_
      refine J.nil ?_
      refine J.then_n ?_
      rw [if_neg h16] at hc
      exact J.kk (k + 1) (fun x (hx : _ ∧ n - x < n - k) => hI0 x hx.1 hx.2) ⟨⟨by omega, hc⟩, by omega⟩ ⟨rfl, rfl, rfl, rfl, trivial⟩ (fun _ h => h)
  ·
    refine J.exit ?_
    refine J.then_x ?_
    refine J.then_x ?_
    refine J.blk_eq ?_
    refine J.then_n (J.k hK2 ?_)
    refine J.keepE [] trivial ?_
    refine J.seq (fun K10 hK10 => ?_)
    rw [List.drop_of_length_le (by omega)] at hc
    refine J.region ?_
    refine J.y (op_assign rfl rfl) rfl rfl rfl ?_
    refine J.nil ?_
    refine J.then_n (J.k hK10 ?_)
    refine J.keepE [(4, _)] ⟨rfl, trivial⟩ ?_
    refine J.ret ?_
    exact J.done (fun _ _ h => h) (res1 rfl rfl) (retOk () (by rw [← hc]; rfl) trivial [0] rfl (by decide))

theorem slot_ct (F : Hp) (A : Option Addr) (n c : Nat) (l : List Int) (hl : Sl F 1 A n c (intsV l)) (v : Int) (hn : n < 4611686018427387904) :
    Ct Tryd.prog 32 [.slice A n c, I v] [F] (fun _ : Unit => .tuple #[I (max (Wd.find l v 0) 0), .bool (decide (0 ≤ Wd.find l v 0))]) (fun _ => True) (fun _ => [F]) := by
  refine Ct.walk Tryd.func32 rfl Tryd.ntmps32 rfl (fun w0 => ?_)
  change J _ [(0, _), (1, _)] _ _ _
  refine J.seq (fun K1 hK1 => ?_)
  refine J.region ?_
  refine J.y (op_assign rfl rfl) rfl rfl rfl ?_
  refine J.y (op_assign rfl rfl) rfl rfl rfl ?_
  refine J.nil ?_
  refine J.then_n (J.k hK1 ?_)
  refine J.keepE [(0, _), (1, _)] ⟨rfl, rfl, trivial⟩ ?_
  refine J.seq (fun K2 hK2 => ?_)
  refine J.region ?_
  refine J.y (op_move rfl rfl) rfl rfl rfl ?_
  refine J.y (op_move rfl rfl) rfl rfl rfl ?_
  refine J.e (op_call rfl rfl ent57 (index_ct F A n c l hl v hn)) rfl rfl rfl ?_
  intro g9 _
  refine J.y (op_assign rfl rfl) rfl rfl rfl ?_
  refine J.nil ?_
  refine J.then_n (J.k hK2 ?_)
  refine J.keepE [(6, _)] ⟨rfl, trivial⟩ ?_
  refine J.seq (fun K3 hK3 => ?_)
  refine J.region ?_
  refine J.y (op_move rfl rfl) rfl rfl rfl ?_
  refine J.y (op_max rfl rfl rfl) rfl rfl rfl ?_
  refine J.y (op_move rfl rfl) rfl rfl rfl ?_
  refine J.y (op_geq rfl rfl rfl) rfl rfl rfl ?_
  refine J.y (op_assign rfl rfl) rfl rfl rfl ?_
  refine J.y (op_assign rfl rfl) rfl rfl rfl ?_
  refine J.nil ?_
  refine J.then_n (J.k hK3 ?_)
  refine J.keepE [(4, _), (5, _)] ⟨rfl, rfl, trivial⟩ ?_
  refine J.ret ?_
  exact J.done (fun _ _ h => h) (res2 rfl rfl rfl) (retOk () rfl trivial [0] rfl (by decide))

theorem needed_ct (F : Hp) (s f : Nat) (hs : s ≤ 1048576) (hf : f ≤ 1048576) :
    Ct Tryd.prog 33 [I s, I f] [F] (fun _ : Unit => I (((s + f) / 2 + 1 : Nat) : Int)) (fun _ => True) (fun _ => [F]) := by
  refine Ct.walk Tryd.func33 rfl Tryd.ntmps33 rfl (fun w0 => ?_)
  change J _ [(0, _), (1, _)] _ _ _
  refine J.seq (fun K1 hK1 => ?_)
  refine J.region ?_
  refine J.y (op_assign rfl rfl) rfl rfl rfl ?_
  refine J.nil ?_
  refine J.then_n (J.k hK1 ?_)
  refine J.keepE [(0, _), (1, _)] ⟨rfl, rfl, trivial⟩ ?_
  refine J.seq (fun K2 hK2 => ?_)
  refine J.region ?_
  refine J.y (op_move rfl rfl) rfl rfl rfl ?_
  refine J.y ((op_max rfl rfl rfl).as (v' := I s) (congrArg I (by omega))) rfl rfl rfl ?_
  refine J.y ((op_min rfl rfl rfl).as (v' := I s) (congrArg I (by omega))) rfl rfl rfl ?_
  refine J.y (op_move rfl rfl) rfl rfl rfl ?_
  refine J.y ((op_max rfl rfl rfl).as (v' := I f) (congrArg I (by omega))) rfl rfl rfl ?_
  refine J.y ((op_min rfl rfl rfl).as (v' := I f) (congrArg I (by omega))) rfl rfl rfl ?_
  refine J.y (op_add rfl rfl rfl (by omega)) rfl rfl rfl ?_
  refine J.y (op_quo rfl rfl rfl (by omega)) rfl rfl rfl ?_
  refine J.y ((op_add rfl rfl rfl (by omega)).as (v' := I (((s + f) / 2 + 1 : Nat) : Int)) (congrArg I (by omega))) rfl rfl rfl ?_
  refine J.y (op_assign rfl rfl) rfl rfl rfl ?_
  refine J.nil ?_
  refine J.then_n (J.k hK2 ?_)
  refine J.keepE [(4, _)] ⟨rfl, trivial⟩ ?_
  refine J.ret ?_
  exact J.done (fun _ _ h => h) (res1 rfl rfl) (retOk () rfl trivial [0] rfl (by decide))

end Go.Proofs.YtadckkaepngloaaDoor
