/- A part of the proof: contracts of functions of the program, each for every state of the heaps that it names. -/
import Derived.Test.YtnkfapecbmmpeaaGreatDoorKym
import Derived.Test.YtnkfapecbmmpeaaGreatDoorEnz
import Derived.Test.YtnkfapecbmmpeaaGreatDoorRdt
set_option linter.unusedSimpArgs false
set_option linter.unusedVariables false
namespace Go.Proofs.YtnkfapecbmmpeaaGreatDoor
open Go Go.Fw
set_option maxRecDepth 100000
set_option maxHeartbeats 1000000
theorem ent8 : Enters Tryz.prog 8 := Enters.of Tryz.func8 rfl (by kernel_rfl)
theorem ent18 : Enters Tryz.prog 18 := Enters.of Tryz.func18 rfl (by kernel_rfl)

attribute [local irreducible] Sha.tagged Wo.pub Wo.publicOf Wo.signs Wo.ends Wo.digs Wo.walk Wo.opn Mk.root Mk.path Mk.climb Xm.root sgC sgP enEnc enErr
def entV (l : List En) : List (List Value) := l.map En.cells
theorem eencT_ct (F : Hp) (v : Nat) (o r : List UInt8) (h : Int) (p : List UInt8) (hv : v < 18446744073709551616) (ho : o.length ≤ 1048576) (hr : r.length ≤ 1048576) (hp : p.length ≤ 1048576) : Ct Tryz.prog 17 [.agg #[N64 (v), Str (o), Str (r), I (h), Str (p)]] [F] (fun _ : Unit => .tuple #[Str (enEnc v o r h p), I (enErr v o r h p)]) (fun _ => True) (fun _ => [F]) := eencode_ct F v o r h p hv ho hr hp
def pmsg (s : List UInt8) (v : Nat) (o r : List UInt8) (h : Int) (p : List UInt8) : List UInt8 := Sha.tagged 13 [s, enEnc v o r h p]
theorem pmsg_len (s : List UInt8) (v : Nat) (o r : List UInt8) (h : Int) (p : List UInt8) : (pmsg s v o r h p).length = 16 := Sha.tagged_length _ _

theorem pmsg_ct (F : Hp) (hK : Cells F ⟨0, 0, none⟩ (Sha.K.map W32)) (s : List UInt8) (hsl : s.length ≤ 1000000) (v : Nat) (o r : List UInt8) (h : Int) (p : List UInt8) (hE : enErr v o r h p = 0) : Ct Tryz.prog 8 [Str (s), .agg #[N64 (v), Str (o), Str (r), I (h), Str (p)]] [F] (fun _ : Unit => Str (pmsg (s) (v) (o) (r) (h) (p))) (fun _ => True) (fun _ => [F]) := by
  obtain ⟨e1, e2, ⟨e3, e4⟩, e5, e6, e7⟩ := en_inv hE
  have el := enEnc_len hE
  refine Ct.walk Tryz.func8 rfl Tryz.ntmps8 rfl (fun w0 hw0 => ?_)
  change J _ [(0, _), (1, _)] _ _ _
  refine J.seq (fun K1 hK1 => ?_)
  refine J.region ?_
  refine J.e (op_box (l := [N64 (v), Str (o), Str (r), I (h), Str (p)]) rfl rfl rfl) rfl rfl rfl ?_
  intro g3 _
  change J _ _ _ [F, blk g3 [N64 (v), Str (o), Str (r), I (h), Str (p)] 34] _
  refine J.y (op_assign rfl rfl) rfl rfl rfl ?_
  refine J.nil ?_
  refine J.then_n (J.k hK1 ?_)
  refine J.keepE [(0, _), (3, _)] ⟨rfl, rfl, trivial⟩ ?_
  refine J.seq (fun K2 hK2 => ?_)
  refine J.region ?_
  refine J.y (op_loadBA 1 rfl rfl rfl Tryz.isAgg34 Tryz.sizeOf34 rfl) rfl rfl rfl ?_
  refine J.e (op_call rfl rfl ent17 (Ct.use0 (fun F' hF => eencT_ct F' v o r h p (by first | assumption | omega) (by first | assumption | omega) (by first | assumption | omega) (by first | assumption | omega)))) rfl rfl rfl ?_
  intro g9 _
  refine J.y (op_move rfl rfl) rfl rfl rfl ?_
  refine J.y (op_extract (v := Str (enEnc (v) (o) (r) (h) (p))) rfl rfl rfl) rfl rfl rfl ?_
  refine J.y (op_extract (v := I (enErr (v) (o) (r) (h) (p))) rfl rfl rfl) rfl rfl rfl ?_
  refine J.y (op_assign rfl rfl) rfl rfl rfl ?_
  refine J.y (op_assign rfl rfl) rfl rfl rfl ?_
  refine J.nil ?_
  refine J.then_n (J.k hK2 ?_)
  refine J.keepE [(0, _), (5, _), (6, _)] ⟨rfl, rfl, rfl, trivial⟩ ?_
  refine J.seq (fun K3 hK3 => ?_)
  refine J.seq (fun K4 hK4 => ?_)
  refine J.region ?_
  refine J.y (op_move rfl rfl) rfl rfl rfl ?_
  refine J.y ((op_neq rfl rfl rfl).as (v' := .bool false) (congrArg Value.bool (decide_eq_false (by omega)))) rfl rfl rfl ?_
  refine J.nil ?_
  refine J.then_n (J.k hK4 ?_)
  refine J.keepE [(0, _), (5, _), (13, _)] ⟨rfl, rfl, rfl, trivial⟩ ?_
  refine J.condF rfl rfl ?_
  refine J.skip ?_
  refine J.then_n (J.k hK3 ?_)
  refine J.keepE [(0, _), (5, _)] ⟨rfl, rfl, trivial⟩ ?_
  refine J.seq (fun K5 hK5 => ?_)
  refine J.region ?_
  refine J.y (op_move rfl rfl) rfl rfl rfl ?_
  refine J.y (op_move rfl rfl) rfl rfl rfl ?_
  refine J.e (op_buildSlice (l := [.tmp 14, .tmp 15]) (xs := [[Str (s)], [Str (enEnc (v) (o) (r) (h) (p))]]) rfl rfl rfl rfl Tryz.underlying35 el9 rfl (by decide) (by decide) (by simp)) rfl rfl rfl ?_
  intro g16 _
  change J _ _ _ [F, blk g3 [N64 (v), Str (o), Str (r), I (h), Str (p)] 34, blk g16 [Str (s), Str (enEnc (v) (o) (r) (h) (p))] 9] _
  refine J.e (op_call rfl rfl ent19 (Ct.use0 (fun F' hF => tagged_ct F' (hK.mono (hF F (by simp))) 13 (some ⟨g16, 0, none⟩) 2 2 ([s, enEnc (v) (o) (r) (h) (p)]) (((row_lit (q := True) (strsV [s, enEnc (v) (o) (r) (h) (p)]) rfl (by simp [strsV]) rfl).sl).mono (hF (blk g16 [Str (s), Str (enEnc (v) (o) (r) (h) (p))] 9) (by simp))) (by first | (simp; omega) | (simp; done) | decide) (by omega)))) rfl rfl rfl ?_
  intro g17 _
  refine J.y (op_assign rfl rfl) rfl rfl rfl ?_
  refine J.nil ?_
  refine J.then_n (J.k hK5 ?_)
  refine J.keepE [(4, _)] ⟨rfl, trivial⟩ ?_
  refine J.ret ?_
  exact J.done hw0 (fun _ _ h => h) (res1 rfl rfl) (retOk () (by unfold pmsg; rfl) trivial [0] rfl (by decide))

theorem pmsgE_ct (F : Hp) (s : List UInt8) (v : Nat) (o r : List UInt8) (h : Int) (p : List UInt8) (hv : v < 18446744073709551616) (ho : o.length ≤ 1048576) (hr : r.length ≤ 1048576) (hp : p.length ≤ 1048576) (hE : enErr v o r h p ≠ 0) : Ct Tryz.prog 8 [Str (s), .agg #[N64 (v), Str (o), Str (r), I (h), Str (p)]] [F] (fun _ : Unit => Str ([])) (fun _ => True) (fun _ => [F]) := by
  refine Ct.walk Tryz.func8 rfl Tryz.ntmps8 rfl (fun w0 hw0 => ?_)
  change J _ [(0, _), (1, _)] _ _ _
  refine J.seq (fun K1 hK1 => ?_)
  refine J.region ?_
  refine J.e (op_box (l := [N64 (v), Str (o), Str (r), I (h), Str (p)]) rfl rfl rfl) rfl rfl rfl ?_
  intro g3 _
  change J _ _ _ [F, blk g3 [N64 (v), Str (o), Str (r), I (h), Str (p)] 34] _
  refine J.y (op_assign rfl rfl) rfl rfl rfl ?_
  refine J.nil ?_
  refine J.then_n (J.k hK1 ?_)
  refine J.keepE [(0, _), (3, _)] ⟨rfl, rfl, trivial⟩ ?_
  refine J.seq (fun K2 hK2 => ?_)
  refine J.region ?_
  refine J.y (op_loadBA 1 rfl rfl rfl Tryz.isAgg34 Tryz.sizeOf34 rfl) rfl rfl rfl ?_
  refine J.e (op_call rfl rfl ent17 (Ct.use0 (fun F' hF => eencT_ct F' v o r h p (by first | assumption | omega) (by first | assumption | omega) (by first | assumption | omega) (by first | assumption | omega)))) rfl rfl rfl ?_
  intro g9 _
  refine J.y (op_move rfl rfl) rfl rfl rfl ?_
  refine J.y (op_extract (v := Str (enEnc (v) (o) (r) (h) (p))) rfl rfl rfl) rfl rfl rfl ?_
  refine J.y (op_extract (v := I (enErr (v) (o) (r) (h) (p))) rfl rfl rfl) rfl rfl rfl ?_
  refine J.y (op_assign rfl rfl) rfl rfl rfl ?_
  refine J.y (op_assign rfl rfl) rfl rfl rfl ?_
  refine J.nil ?_
  refine J.then_n (J.k hK2 ?_)
  refine J.keepE [(0, _), (5, _), (6, _)] ⟨rfl, rfl, rfl, trivial⟩ ?_
  refine J.seq (fun K3 hK3 => ?_)
  refine J.seq (fun K4 hK4 => ?_)
  refine J.region ?_
  refine J.y (op_move rfl rfl) rfl rfl rfl ?_
  refine J.y ((op_neq rfl rfl rfl).as (v' := .bool true) (congrArg Value.bool (decide_eq_true (hE)))) rfl rfl rfl ?_
  refine J.nil ?_
  refine J.then_n (J.k hK4 ?_)
  refine J.keepE [(0, _), (5, _), (13, _)] ⟨rfl, rfl, rfl, trivial⟩ ?_
  refine J.condT rfl rfl ?_
  refine J.seq (fun K5 hK5 => ?_)
  refine J.region ?_
  refine J.y (op_assign rfl rfl) rfl rfl rfl ?_
  refine J.nil ?_
  refine J.then_n (J.k hK5 ?_)
  refine J.keepE [(4, _)] ⟨rfl, trivial⟩ ?_
  refine J.ret ?_
  refine J.then_r ?_
  exact J.done hw0 (fun _ _ h => h) (res1 rfl rfl) (retOk () rfl trivial [0] rfl (by decide))

theorem psignE_ct (F : Hp) (g : Nat) (z : Int) (s : List UInt8) (v : Nat) (o r : List UInt8) (h : Int) (p : List UInt8) (hv : v < 18446744073709551616) (ho : o.length ≤ 1048576) (hr : r.length ≤ 1048576) (hp : p.length ≤ 1048576) (hE : enErr v o r h p ≠ 0) : Ct Tryz.prog 7 [Ptr g, I (z), Str (s), .agg #[N64 (v), Str (o), Str (r), I (h), Str (p)]] [F] (fun _ : Unit => .tuple #[.agg #[Str [], N64 (0), Str [], Str [], I ((0 : Nat) : Int), Str [], I ((0 : Nat) : Int), .slice none 0 0, .slice none 0 0], I (enErr (v) (o) (r) (h) (p))]) (fun _ => True) (fun _ => [F]) := by
  refine Ct.walk Tryz.func7 rfl Tryz.ntmps7 rfl (fun w0 hw0 => ?_)
  change J _ [(0, _), (1, _), (2, _), (3, _)] _ _ _
  refine J.seq (fun K1 hK1 => ?_)
  refine J.region ?_
  refine J.e (op_box (l := [N64 (v), Str (o), Str (r), I (h), Str (p)]) rfl rfl rfl) rfl rfl rfl ?_
  intro g7 _
  change J _ _ _ [F, blk g7 [N64 (v), Str (o), Str (r), I (h), Str (p)] 34] _
  refine J.e (op_alloc (l := [Str [], .int .u64 0, Str [], Str [], I 0, Str [], I 0, .slice none 0 0, .slice none 0 0]) rfl Tryz.zeroValue39 rfl) rfl rfl rfl ?_
  intro g8 _
  change J _ _ _ [F, blk g7 [N64 (v), Str (o), Str (r), I (h), Str (p)] 34, blk g8 [Str [], .int .u64 0, Str [], Str [], I 0, Str [], I 0, .slice none 0 0, .slice none 0 0] 39] _
  refine J.y (op_assign rfl rfl) rfl rfl rfl ?_
  refine J.nil ?_
  refine J.then_n (J.k hK1 ?_)
  refine J.keepE [(0, _), (1, _), (2, _), (7, _), (8, _)] ⟨rfl, rfl, rfl, rfl, rfl, trivial⟩ ?_
  refine J.seq (fun K2 hK2 => ?_)
  refine J.seq (fun K3 hK3 => ?_)
  refine J.region ?_
  refine J.y (op_loadBA 1 rfl rfl rfl Tryz.isAgg34 Tryz.sizeOf34 rfl) rfl rfl rfl ?_
  refine J.e (op_call rfl rfl ent17 (Ct.use0 (fun F' hF => eencT_ct F' v o r h p (by first | assumption | omega) (by first | assumption | omega) (by first | assumption | omega) (by first | assumption | omega)))) rfl rfl rfl ?_
  intro g16 _
  refine J.y (op_move rfl rfl) rfl rfl rfl ?_
  refine J.y (op_extract (v := Str (enEnc (v) (o) (r) (h) (p))) rfl rfl rfl) rfl rfl rfl ?_
  refine J.y (op_extract (v := I (enErr (v) (o) (r) (h) (p))) rfl rfl rfl) rfl rfl rfl ?_
  refine J.y (op_assign rfl rfl) rfl rfl rfl ?_
  refine J.y (op_assign rfl rfl) rfl rfl rfl ?_
  refine J.nil ?_
  refine J.then_n (J.k hK3 ?_)
  refine J.keepE [(0, _), (1, _), (2, _), (7, _), (8, _), (11, _)] ⟨rfl, rfl, rfl, rfl, rfl, rfl, trivial⟩ ?_
  refine J.seq (fun K4 hK4 => ?_)
  refine J.region ?_
  refine J.y (op_move rfl rfl) rfl rfl rfl ?_
  refine J.y ((op_neq rfl rfl rfl).as (v' := .bool true) (congrArg Value.bool (decide_eq_true (hE)))) rfl rfl rfl ?_
  refine J.nil ?_
  refine J.then_n (J.k hK4 ?_)
  refine J.keepE [(0, _), (1, _), (2, _), (7, _), (8, _), (11, _), (20, _)] ⟨rfl, rfl, rfl, rfl, rfl, rfl, rfl, trivial⟩ ?_
  refine J.condT rfl rfl ?_
  refine J.seq (fun K5 hK5 => ?_)
  refine J.region ?_
  refine J.y (op_buildStruct (l := []) (vs := []) (places := [(0, 1), (1, 5), (6, 3)]) (r := [Str [], .int .u64 0, Str [], Str [], I 0, Str [], I 0, .slice none 0 0, .slice none 0 0]) rfl rfl rfl Tryz.underlying39 Tryz.zeroValue39 (fun _ => by kernel_rfl) (by kernel_rfl)) rfl rfl rfl ?_
  refine J.y (op_move rfl rfl) rfl rfl rfl ?_
  refine J.s (op_storeAll (i := 2) (l := [Str [], .int .u64 0, Str [], Str [], I 0, Str [], I 0, .slice none 0 0, .slice none 0 0]) (vs := [Str [], .int .u64 0, Str [], Str [], I 0, Str [], I 0, .slice none 0 0, .slice none 0 0]) rfl rfl rfl rfl rfl Tryz.sizeOf39 rfl rfl) rfl rfl (fun _ _ => ?_)
  change J _ _ _ [F, blk g7 [N64 (v), Str (o), Str (r), I (h), Str (p)] 34, blk g8 [Str [], .int .u64 0, Str [], Str [], I 0, Str [], I 0, .slice none 0 0, .slice none 0 0] 39] _
  refine J.y (op_assign rfl rfl) rfl rfl rfl ?_
  refine J.nil ?_
  refine J.then_n (J.k hK5 ?_)
  refine J.keepE [(8, _), (9, _)] ⟨rfl, rfl, trivial⟩ ?_
  refine J.ret ?_
  refine J.then_r ?_
  exact J.done hw0 (fun _ _ h => h) (rv2 rfl (RV.blkA 2 rfl rfl Tryz.isAgg39 Tryz.sizeOf39) rfl) (retOk () rfl trivial [0] rfl (by decide))

theorem psign_ct (F : Hp) (hK : Cells F ⟨0, 0, none⟩ (Sha.K.map W32)) (g : Nat) (seed : List UInt8) (kh : Nat) (hk : KeyA F g seed kh) (hs6 : seed.length ≤ 1048576) (h6 : kh ≤ 6) (i : Nat) (hi : i < 2 ^ kh) (s : List UInt8) (hsl : s.length ≤ 1000000) (v : Nat) (o r : List UInt8) (h : Int) (p : List UInt8) (hE : enErr v o r h p = 0) : Ct Tryz.prog 7 [Ptr g, I ((i : Nat) : Int), Str s, .agg #[N64 (v), Str (o), Str (r), I (h), Str (p)]] [F] (fun x : (Option Addr × Nat × Hp) × (Option Addr × Nat × Hp) => .tuple #[.agg #[Str s, N64 v, Str o, Str r, I h, Str p, I ((i : Nat) : Int), .slice x.1.1 (sgC seed i (pmsg (s) (v) (o) (r) (h) (p))).length x.1.2.1, .slice x.2.1 (sgP seed kh i).length x.2.2.1], I ((0 : Nat) : Int)]) (fun x => Row x.1.2.2 9 1 x.1.1 (sgC seed i (pmsg (s) (v) (o) (r) (h) (p))).length x.1.2.1 (strsV (sgC seed i (pmsg (s) (v) (o) (r) (h) (p)))) ∧ Row x.2.2.2 9 1 x.2.1 (sgP seed kh i).length x.2.2.1 (strsV (sgP seed kh i))) (fun x => [F, x.1.2.2, x.2.2.2]) := by
  obtain ⟨e1, e2, ⟨e3, e4⟩, e5, e6, e7⟩ := en_inv hE
  have el := enEnc_len hE
  have eml := pmsg_len s v o r h p
  refine Ct.walk Tryz.func7 rfl Tryz.ntmps7 rfl (fun w0 hw0 => ?_)
  change J _ [(0, _), (1, _), (2, _), (3, _)] _ _ _
  refine J.seq (fun K1 hK1 => ?_)
  refine J.region ?_
  refine J.e (op_box (l := [N64 (v), Str (o), Str (r), I (h), Str (p)]) rfl rfl rfl) rfl rfl rfl ?_
  intro g7 _
  change J _ _ _ [F, blk g7 [N64 (v), Str (o), Str (r), I (h), Str (p)] 34] _
  refine J.e (op_alloc (l := [Str [], .int .u64 0, Str [], Str [], I 0, Str [], I 0, .slice none 0 0, .slice none 0 0]) rfl Tryz.zeroValue39 rfl) rfl rfl rfl ?_
  intro g8 _
  change J _ _ _ [F, blk g7 [N64 (v), Str (o), Str (r), I (h), Str (p)] 34, blk g8 [Str [], .int .u64 0, Str [], Str [], I 0, Str [], I 0, .slice none 0 0, .slice none 0 0] 39] _
  refine J.y (op_assign rfl rfl) rfl rfl rfl ?_
  refine J.nil ?_
  refine J.then_n (J.k hK1 ?_)
  refine J.keepE [(0, _), (1, _), (2, _), (7, _), (8, _)] ⟨rfl, rfl, rfl, rfl, rfl, trivial⟩ ?_
  refine J.seq (fun K2 hK2 => ?_)
  refine J.seq (fun K3 hK3 => ?_)
  refine J.region ?_
  refine J.y (op_loadBA 1 rfl rfl rfl Tryz.isAgg34 Tryz.sizeOf34 rfl) rfl rfl rfl ?_
  refine J.e (op_call rfl rfl ent17 (Ct.use0 (fun F' hF => eencT_ct F' v o r h p (by first | assumption | omega) (by first | assumption | omega) (by first | assumption | omega) (by first | assumption | omega)))) rfl rfl rfl ?_
  intro g16 _
  refine J.y (op_move rfl rfl) rfl rfl rfl ?_
  refine J.y (op_extract (v := Str (enEnc (v) (o) (r) (h) (p))) rfl rfl rfl) rfl rfl rfl ?_
  refine J.y (op_extract (v := I (enErr (v) (o) (r) (h) (p))) rfl rfl rfl) rfl rfl rfl ?_
  refine J.y (op_assign rfl rfl) rfl rfl rfl ?_
  refine J.y (op_assign rfl rfl) rfl rfl rfl ?_
  refine J.nil ?_
  refine J.then_n (J.k hK3 ?_)
  refine J.keepE [(0, _), (1, _), (2, _), (7, _), (8, _), (11, _)] ⟨rfl, rfl, rfl, rfl, rfl, rfl, trivial⟩ ?_
  refine J.seq (fun K4 hK4 => ?_)
  refine J.region ?_
  refine J.y (op_move rfl rfl) rfl rfl rfl ?_
  refine J.y ((op_neq rfl rfl rfl).as (v' := .bool false) (congrArg Value.bool (decide_eq_false (by omega)))) rfl rfl rfl ?_
  refine J.nil ?_
  refine J.then_n (J.k hK4 ?_)
  refine J.keepE [(0, _), (1, _), (2, _), (7, _), (8, _), (11, _), (20, _)] ⟨rfl, rfl, rfl, rfl, rfl, rfl, rfl, trivial⟩ ?_
  refine J.condF rfl rfl ?_
  refine J.skip ?_
  refine J.then_n (J.k hK2 ?_)
  refine J.keepE [(0, _), (1, _), (2, _), (7, _), (8, _)] ⟨rfl, rfl, rfl, rfl, rfl, trivial⟩ ?_
  refine J.seq (fun K5 hK5 => ?_)
  refine J.region ?_
  refine J.y (op_move rfl rfl) rfl rfl rfl ?_
  refine J.y (op_move rfl rfl) rfl rfl rfl ?_
  refine J.y (op_move rfl rfl) rfl rfl rfl ?_
  refine J.y (op_loadBA 1 rfl rfl rfl Tryz.isAgg34 Tryz.sizeOf34 rfl) rfl rfl rfl ?_
  refine J.e (op_call rfl rfl ent8 (Ct.use0 (fun F' hF => pmsg_ct F' (hK.mono (hF F (by simp))) s (by first | assumption | omega) v o r h p (by first | assumption | omega)))) rfl rfl rfl ?_
  intro g28 _
  refine J.e (op_call rfl rfl ent18 (Ct.use (new := fun x : (Option Addr × Nat × Hp) × (Option Addr × Nat × Hp) => [x.1.2.2, x.2.2.2]) (fun F' hF => xsignK_ct F' (hK.mono (hF F (by simp))) g seed kh (hk.mono (hF F (by simp))) (by first | assumption | decide) (by first | assumption | decide) i (by omega) (pmsg (s) (v) (o) (r) (h) (p)) (by omega)))) rfl rfl rfl ?_
  rintro ⟨⟨A29, c29, m29⟩, ⟨B29, d29, n29⟩⟩ ⟨h29, k29⟩
  change J _ ((29, .tuple #[.agg #[I ((i : Nat) : Int), .slice A29 (sgC seed i (pmsg (s) (v) (o) (r) (h) (p))).length c29, .slice B29 (sgP seed kh i).length d29], I 0]) :: _) _ [F, blk g7 [N64 (v), Str (o), Str (r), I (h), Str (p)] 34, blk g8 [Str [], .int .u64 0, Str [], Str [], I 0, Str [], I 0, .slice none 0 0, .slice none 0 0] 39, m29, n29] _
  refine J.y (op_move rfl rfl) rfl rfl rfl ?_
  refine J.y (op_extract (v := .agg #[I ((i : Nat) : Int), .slice A29 ((sgC seed i (pmsg (s) (v) (o) (r) (h) (p))).length) c29, .slice B29 ((sgP seed kh i).length) d29]) rfl rfl rfl) rfl rfl rfl ?_
  refine J.y (op_extract (v := I ((0 : Nat) : Int)) rfl rfl rfl) rfl rfl rfl ?_
  refine J.e (op_alloc (l := [I 0, .slice none 0 0, .slice none 0 0]) rfl Tryz.zeroValue37 rfl) rfl rfl rfl ?_
  intro g12 _
  change J _ _ _ [F, blk g7 [N64 (v), Str (o), Str (r), I (h), Str (p)] 34, blk g8 [Str [], .int .u64 0, Str [], Str [], I 0, Str [], I 0, .slice none 0 0, .slice none 0 0] 39, m29, n29, blk g12 [I 0, .slice none 0 0, .slice none 0 0] 37] _
  refine J.s (op_storeAll (i := 5) (l := [I 0, .slice none 0 0, .slice none 0 0]) (vs := [I ((i : Nat) : Int), .slice A29 ((sgC seed i (pmsg (s) (v) (o) (r) (h) (p))).length) c29, .slice B29 ((sgP seed kh i).length) d29]) rfl rfl rfl rfl rfl Tryz.sizeOf37 rfl rfl) rfl rfl (fun _ _ => ?_)
  change J _ _ _ [F, blk g7 [N64 (v), Str (o), Str (r), I (h), Str (p)] 34, blk g8 [Str [], .int .u64 0, Str [], Str [], I 0, Str [], I 0, .slice none 0 0, .slice none 0 0] 39, m29, n29, blk g12 [I ((i : Nat) : Int), .slice A29 ((sgC seed i (pmsg (s) (v) (o) (r) (h) (p))).length) c29, .slice B29 ((sgP seed kh i).length) d29] 37] _
  refine J.y (op_assign rfl rfl) rfl rfl rfl ?_
  refine J.nil ?_
  refine J.then_n (J.k hK5 ?_)
  refine J.keepE [(2, _), (7, _), (8, _), (12, _), (13, _)] ⟨rfl, rfl, rfl, rfl, rfl, trivial⟩ ?_
  refine J.seq (fun K6 hK6 => ?_)
  refine J.seq (fun K7 hK7 => ?_)
  refine J.region ?_
  refine J.y (op_move rfl rfl) rfl rfl rfl ?_
  refine J.y ((op_neq rfl rfl rfl).as (v' := .bool false) (congrArg Value.bool (decide_eq_false (by decide)))) rfl rfl rfl ?_
  refine J.nil ?_
  refine J.then_n (J.k hK7 ?_)
  refine J.keepE [(2, _), (7, _), (8, _), (12, _), (13, _), (33, _)] ⟨rfl, rfl, rfl, rfl, rfl, rfl, trivial⟩ ?_
  refine J.condF rfl rfl ?_
  refine J.skip ?_
  refine J.then_n (J.k hK6 ?_)
  refine J.keepE [(2, _), (7, _), (8, _), (12, _)] ⟨rfl, rfl, rfl, rfl, trivial⟩ ?_
  refine J.seq (fun K8 hK8 => ?_)
  refine J.region ?_
  refine J.y (op_move rfl rfl) rfl rfl rfl ?_
  refine J.y (op_loadBA 1 rfl rfl rfl Tryz.isAgg34 Tryz.sizeOf34 rfl) rfl rfl rfl ?_
  refine J.y (op_loadBA 5 rfl rfl rfl Tryz.isAgg37 Tryz.sizeOf37 rfl) rfl rfl rfl ?_
  refine J.y (op_buildStruct (l := [(0, .tmp 36), (1, .tmp 37), (2, .tmp 38)]) (vs := [Str (s), .agg #[N64 (v), Str (o), Str (r), I (h), Str (p)], .agg #[I ((i : Nat) : Int), .slice A29 ((sgC seed i (pmsg (s) (v) (o) (r) (h) (p))).length) c29, .slice B29 ((sgP seed kh i).length) d29]]) (places := [(0, 1), (1, 5), (6, 3)]) (r := [Str (s), N64 (v), Str (o), Str (r), I (h), Str (p), I ((i : Nat) : Int), .slice A29 ((sgC seed i (pmsg (s) (v) (o) (r) (h) (p))).length) c29, .slice B29 ((sgP seed kh i).length) d29]) rfl rfl rfl Tryz.underlying39 Tryz.zeroValue39 (fun _ => by kernel_rfl) (by kernel_rfl)) rfl rfl rfl ?_
  refine J.s (op_storeAll (i := 2) (l := [Str [], .int .u64 0, Str [], Str [], I 0, Str [], I 0, .slice none 0 0, .slice none 0 0]) (vs := [Str (s), N64 (v), Str (o), Str (r), I (h), Str (p), I ((i : Nat) : Int), .slice A29 ((sgC seed i (pmsg (s) (v) (o) (r) (h) (p))).length) c29, .slice B29 ((sgP seed kh i).length) d29]) rfl rfl rfl rfl rfl Tryz.sizeOf39 rfl rfl) rfl rfl (fun _ _ => ?_)
  change J _ _ _ [F, blk g7 [N64 (v), Str (o), Str (r), I (h), Str (p)] 34, blk g8 [Str (s), N64 (v), Str (o), Str (r), I (h), Str (p), I ((i : Nat) : Int), .slice A29 ((sgC seed i (pmsg (s) (v) (o) (r) (h) (p))).length) c29, .slice B29 ((sgP seed kh i).length) d29] 39, m29, n29, blk g12 [I ((i : Nat) : Int), .slice A29 ((sgC seed i (pmsg (s) (v) (o) (r) (h) (p))).length) c29, .slice B29 ((sgP seed kh i).length) d29] 37] _
  refine J.y (op_assign rfl rfl) rfl rfl rfl ?_
  refine J.nil ?_
  refine J.then_n (J.k hK8 ?_)
  refine J.keepE [(8, _), (9, _)] ⟨rfl, rfl, trivial⟩ ?_
  refine J.ret ?_
  exact J.done hw0 (fun _ _ h => h) (rv2 rfl (RV.blkA 2 rfl rfl Tryz.isAgg39 Tryz.sizeOf39) rfl) (retOk ((A29, c29, m29), (B29, d29, n29)) rfl ⟨h29, k29⟩ [0, 3, 4] rfl (by decide))

theorem psignH_ct (F : Hp) (hK : Cells F ⟨0, 0, none⟩ (Sha.K.map W32)) (g : Nat) (seed : List UInt8) (kh : Nat) (hk : KeyA F g seed kh) (hs6 : seed.length ≤ 1048576) (h6 : kh ≤ 6) (i : Nat) (hi : 2 ^ kh ≤ i) (s : List UInt8) (hsl : s.length ≤ 1000000) (v : Nat) (o r : List UInt8) (h : Int) (p : List UInt8) (hE : enErr v o r h p = 0) : Ct Tryz.prog 7 [Ptr g, I ((i : Nat) : Int), Str (s), .agg #[N64 (v), Str (o), Str (r), I (h), Str (p)]] [F] (fun _ : Unit => .tuple #[.agg #[Str [], N64 (0), Str [], Str [], I ((0 : Nat) : Int), Str [], I ((0 : Nat) : Int), .slice none 0 0, .slice none 0 0], I ((11 : Nat) : Int)]) (fun _ => True) (fun _ => [F]) := by
  obtain ⟨e1, e2, ⟨e3, e4⟩, e5, e6, e7⟩ := en_inv hE
  have el := enEnc_len hE
  have eml := pmsg_len s v o r h p
  refine Ct.walk Tryz.func7 rfl Tryz.ntmps7 rfl (fun w0 hw0 => ?_)
  change J _ [(0, _), (1, _), (2, _), (3, _)] _ _ _
  refine J.seq (fun K1 hK1 => ?_)
  refine J.region ?_
  refine J.e (op_box (l := [N64 (v), Str (o), Str (r), I (h), Str (p)]) rfl rfl rfl) rfl rfl rfl ?_
  intro g7 _
  change J _ _ _ [F, blk g7 [N64 (v), Str (o), Str (r), I (h), Str (p)] 34] _
  refine J.e (op_alloc (l := [Str [], .int .u64 0, Str [], Str [], I 0, Str [], I 0, .slice none 0 0, .slice none 0 0]) rfl Tryz.zeroValue39 rfl) rfl rfl rfl ?_
  intro g8 _
  change J _ _ _ [F, blk g7 [N64 (v), Str (o), Str (r), I (h), Str (p)] 34, blk g8 [Str [], .int .u64 0, Str [], Str [], I 0, Str [], I 0, .slice none 0 0, .slice none 0 0] 39] _
  refine J.y (op_assign rfl rfl) rfl rfl rfl ?_
  refine J.nil ?_
  refine J.then_n (J.k hK1 ?_)
  refine J.keepE [(0, _), (1, _), (2, _), (7, _), (8, _)] ⟨rfl, rfl, rfl, rfl, rfl, trivial⟩ ?_
  refine J.seq (fun K2 hK2 => ?_)
  refine J.seq (fun K3 hK3 => ?_)
  refine J.region ?_
  refine J.y (op_loadBA 1 rfl rfl rfl Tryz.isAgg34 Tryz.sizeOf34 rfl) rfl rfl rfl ?_
  refine J.e (op_call rfl rfl ent17 (Ct.use0 (fun F' hF => eencT_ct F' v o r h p (by first | assumption | omega) (by first | assumption | omega) (by first | assumption | omega) (by first | assumption | omega)))) rfl rfl rfl ?_
  intro g16 _
  refine J.y (op_move rfl rfl) rfl rfl rfl ?_
  refine J.y (op_extract (v := Str (enEnc (v) (o) (r) (h) (p))) rfl rfl rfl) rfl rfl rfl ?_
  refine J.y (op_extract (v := I (enErr (v) (o) (r) (h) (p))) rfl rfl rfl) rfl rfl rfl ?_
  refine J.y (op_assign rfl rfl) rfl rfl rfl ?_
  refine J.y (op_assign rfl rfl) rfl rfl rfl ?_
  refine J.nil ?_
  refine J.then_n (J.k hK3 ?_)
  refine J.keepE [(0, _), (1, _), (2, _), (7, _), (8, _), (11, _)] ⟨rfl, rfl, rfl, rfl, rfl, rfl, trivial⟩ ?_
  refine J.seq (fun K4 hK4 => ?_)
  refine J.region ?_
  refine J.y (op_move rfl rfl) rfl rfl rfl ?_
  refine J.y ((op_neq rfl rfl rfl).as (v' := .bool false) (congrArg Value.bool (decide_eq_false (by omega)))) rfl rfl rfl ?_
  refine J.nil ?_
  refine J.then_n (J.k hK4 ?_)
  refine J.keepE [(0, _), (1, _), (2, _), (7, _), (8, _), (11, _), (20, _)] ⟨rfl, rfl, rfl, rfl, rfl, rfl, rfl, trivial⟩ ?_
  refine J.condF rfl rfl ?_
  refine J.skip ?_
  refine J.then_n (J.k hK2 ?_)
  refine J.keepE [(0, _), (1, _), (2, _), (7, _), (8, _)] ⟨rfl, rfl, rfl, rfl, rfl, trivial⟩ ?_
  refine J.seq (fun K5 hK5 => ?_)
  refine J.region ?_
  refine J.y (op_move rfl rfl) rfl rfl rfl ?_
  refine J.y (op_move rfl rfl) rfl rfl rfl ?_
  refine J.y (op_move rfl rfl) rfl rfl rfl ?_
  refine J.y (op_loadBA 1 rfl rfl rfl Tryz.isAgg34 Tryz.sizeOf34 rfl) rfl rfl rfl ?_
  refine J.e (op_call rfl rfl ent8 (Ct.use0 (fun F' hF => pmsg_ct F' (hK.mono (hF F (by simp))) s (by first | assumption | omega) v o r h p (by first | assumption | omega)))) rfl rfl rfl ?_
  intro g28 _
  refine J.e (op_call rfl rfl ent18 (Ct.use0 (fun F' hF => xsignH_ct F' (hK.mono (hF F (by simp))) g seed kh (hk.mono (hF F (by simp))) (by first | assumption | omega | decide | exact Nat.le_of_ble_eq_true rfl) (by first | assumption | omega | decide | exact Nat.le_of_ble_eq_true rfl) i (by first | assumption | omega | decide | exact Nat.le_of_ble_eq_true rfl) (pmsg (s) (v) (o) (r) (h) (p)) (by first | assumption | omega | decide | exact Nat.le_of_ble_eq_true rfl)))) rfl rfl rfl ?_
  intro g29 _
  refine J.y (op_move rfl rfl) rfl rfl rfl ?_
  refine J.y (op_extract (v := .agg #[I ((0 : Nat) : Int), .slice none 0 0, .slice none 0 0]) rfl rfl rfl) rfl rfl rfl ?_
  refine J.y (op_extract (v := I ((11 : Nat) : Int)) rfl rfl rfl) rfl rfl rfl ?_
  refine J.e (op_alloc (l := [I 0, .slice none 0 0, .slice none 0 0]) rfl Tryz.zeroValue37 rfl) rfl rfl rfl ?_
  intro g12 _
  change J _ _ _ [F, blk g7 [N64 (v), Str (o), Str (r), I (h), Str (p)] 34, blk g8 [Str [], .int .u64 0, Str [], Str [], I 0, Str [], I 0, .slice none 0 0, .slice none 0 0] 39, blk g12 [I 0, .slice none 0 0, .slice none 0 0] 37] _
  refine J.s (op_storeAll (i := 3) (l := [I 0, .slice none 0 0, .slice none 0 0]) (vs := [I ((0 : Nat) : Int), .slice none 0 0, .slice none 0 0]) rfl rfl rfl rfl rfl Tryz.sizeOf37 rfl rfl) rfl rfl (fun _ _ => ?_)
  change J _ _ _ [F, blk g7 [N64 (v), Str (o), Str (r), I (h), Str (p)] 34, blk g8 [Str [], .int .u64 0, Str [], Str [], I 0, Str [], I 0, .slice none 0 0, .slice none 0 0] 39, blk g12 [I ((0 : Nat) : Int), .slice none 0 0, .slice none 0 0] 37] _
  refine J.y (op_assign rfl rfl) rfl rfl rfl ?_
  refine J.nil ?_
  refine J.then_n (J.k hK5 ?_)
  refine J.keepE [(2, _), (7, _), (8, _), (12, _), (13, _)] ⟨rfl, rfl, rfl, rfl, rfl, trivial⟩ ?_
  refine J.seq (fun K6 hK6 => ?_)
  refine J.seq (fun K7 hK7 => ?_)
  refine J.region ?_
  refine J.y (op_move rfl rfl) rfl rfl rfl ?_
  refine J.y ((op_neq rfl rfl rfl).as (v' := .bool true) (congrArg Value.bool (decide_eq_true (by decide)))) rfl rfl rfl ?_
  refine J.nil ?_
  refine J.then_n (J.k hK7 ?_)
  refine J.keepE [(2, _), (7, _), (8, _), (12, _), (13, _), (33, _)] ⟨rfl, rfl, rfl, rfl, rfl, rfl, trivial⟩ ?_
  refine J.condT rfl rfl ?_
  refine J.seq (fun K8 hK8 => ?_)
  refine J.region ?_
  refine J.y (op_buildStruct (l := []) (vs := []) (places := [(0, 1), (1, 5), (6, 3)]) (r := [Str [], .int .u64 0, Str [], Str [], I 0, Str [], I 0, .slice none 0 0, .slice none 0 0]) rfl rfl rfl Tryz.underlying39 Tryz.zeroValue39 (fun _ => by kernel_rfl) (by kernel_rfl)) rfl rfl rfl ?_
  refine J.y (op_move rfl rfl) rfl rfl rfl ?_
  refine J.s (op_storeAll (i := 2) (l := [Str [], .int .u64 0, Str [], Str [], I 0, Str [], I 0, .slice none 0 0, .slice none 0 0]) (vs := [Str [], .int .u64 0, Str [], Str [], I 0, Str [], I 0, .slice none 0 0, .slice none 0 0]) rfl rfl rfl rfl rfl Tryz.sizeOf39 rfl rfl) rfl rfl (fun _ _ => ?_)
  change J _ _ _ [F, blk g7 [N64 (v), Str (o), Str (r), I (h), Str (p)] 34, blk g8 [Str [], .int .u64 0, Str [], Str [], I 0, Str [], I 0, .slice none 0 0, .slice none 0 0] 39, blk g12 [I ((0 : Nat) : Int), .slice none 0 0, .slice none 0 0] 37] _
  refine J.y (op_assign rfl rfl) rfl rfl rfl ?_
  refine J.nil ?_
  refine J.then_n (J.k hK8 ?_)
  refine J.keepE [(8, _), (9, _)] ⟨rfl, rfl, trivial⟩ ?_
  refine J.ret ?_
  refine J.then_r ?_
  exact J.done hw0 (fun _ _ h => h) (rv2 rfl (RV.blkA 2 rfl rfl Tryz.isAgg39 Tryz.sizeOf39) rfl) (retOk () rfl trivial [0] rfl (by decide))

end Go.Proofs.YtnkfapecbmmpeaaGreatDoor
