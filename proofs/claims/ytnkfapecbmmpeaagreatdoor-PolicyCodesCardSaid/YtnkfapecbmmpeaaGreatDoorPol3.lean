/- A part of the proof: contracts of functions of the program, each for every state of the heaps that it names. -/
import Derived.Test.YtnkfapecbmmpeaaGreatDoorPol2
import Derived.Test.YtnkfapecbmmpeaaGreatDoorNrm
set_option linter.unusedSimpArgs false
set_option linter.unusedVariables false
namespace Go.Proofs.YtnkfapecbmmpeaaGreatDoor
open Go Go.Fw
set_option maxRecDepth 100000
set_option maxHeartbeats 1000000
theorem ent11 : Enters Tryz.prog 11 := Enters.of Tryz.func11 rfl (by kernel_rfl)
theorem ent31 : Enters Tryz.prog 31 := Enters.of Tryz.func31 rfl (by kernel_rfl)
theorem ent32 : Enters Tryz.prog 32 := Enters.of Tryz.func32 rfl (by kernel_rfl)
theorem ent57 : Enters Tryz.prog 57 := Enters.of Tryz.func57 rfl (by kernel_rfl)
theorem el34 : Elem Tryz.prog 34 [.int .u64 0, Str [], Str [], .int .i64 0, Str []] 64 := Elem.of (by kernel_rfl) rfl
attribute [local irreducible] Sha.tagged Wo.pub Wo.publicOf Wo.signs Wo.ends Wo.digs Wo.walk Wo.opn Mk.root Mk.path Mk.climb Xm.root sgC sgP enEnc enErr sgB normal

theorem En.hist1 (x : En) (hv : x.v = 1) (hp : x.p = noughts) : En.hist [x] = 0 := by
  show (if x.v ≠ 1 then (13 : Int) else if x.p ≠ noughts then 15 else En.chain [x]) = 0
  rw [if_neg (fun h => h hv), if_neg (fun h => h hp)]; rfl
theorem En.hist13 (x : En) (hv : x.v ≠ 1) : En.hist [x] = 13 := by
  show (if x.v ≠ 1 then (13 : Int) else if x.p ≠ noughts then 15 else En.chain [x]) = 13
  rw [if_pos hv]

theorem pnamed_ct (F : Hp) (hA : Cells F ⟨1, 0, none⟩ alphaV) (hT : TabsF F) (s : List UInt8) (hsl : s.length ≤ 1000000) (hN : normal s = (s, 0)) : Ct Tryz.prog 31 [Str (s)] [F] (fun _ : Unit => I ((0 : Nat) : Int)) (fun _ => True) (fun _ => [F]) := by
  refine Ct.walk Tryz.func31 rfl Tryz.ntmps31 rfl (fun w0 hw0 => ?_)
  change J _ [(0, _)] _ _ _
  refine J.seq (fun K1 hK1 => ?_)
  refine J.region ?_
  refine J.y (op_assign rfl rfl) rfl rfl rfl ?_
  refine J.nil ?_
  refine J.then_n (J.k hK1 ?_)
  refine J.keepE [(0, _)] ⟨rfl, trivial⟩ ?_
  refine J.seq (fun K2 hK2 => ?_)
  refine J.region ?_
  refine J.y (op_move rfl rfl) rfl rfl rfl ?_
  refine J.e (op_call rfl rfl ent57 (Ct.use0 (fun F' hF => normal_ct F' (hA.mono (hF F (by simp))) (hT.mono (hF F (by simp))) s (by first | omega | decide)))) rfl rfl rfl ?_
  intro g7 _
  refine J.y (op_move rfl rfl) rfl rfl rfl ?_
  refine J.y (op_extract (v := Str ((normal s).1)) rfl rfl rfl) rfl rfl rfl ?_
  refine J.y (op_extract (v := I (((normal s).2 : Nat) : Int)) rfl rfl rfl) rfl rfl rfl ?_
  refine J.y (op_assign rfl rfl) rfl rfl rfl ?_
  refine J.y (op_assign rfl rfl) rfl rfl rfl ?_
  refine J.nil ?_
  refine J.then_n (J.k hK2 ?_)
  refine J.keepE [(0, _), (3, _), (4, _)] ⟨rfl, rfl, rfl, trivial⟩ ?_
  refine J.seq (fun K3 hK3 => ?_)
  refine J.block ?_
  refine J.seq (fun K4 hK4 => ?_)
  refine J.region ?_
  refine J.y (op_move rfl rfl) rfl rfl rfl ?_
  refine J.y ((op_neq rfl rfl rfl).as (v' := .bool false) (congrArg Value.bool (decide_eq_false (by rw [hN]; exact fun h => h rfl)))) rfl rfl rfl ?_
  refine J.y (op_assign rfl rfl) rfl rfl rfl ?_
  refine J.nil ?_
  refine J.then_n (J.k hK4 ?_)
  refine J.keepE [(0, _), (3, _), (4, _), (10, _)] ⟨rfl, rfl, rfl, rfl, trivial⟩ ?_
  refine J.condF rfl rfl ?_
  refine J.seq (fun K5 hK5 => ?_)
  refine J.region ?_
  refine J.y (op_move rfl rfl) rfl rfl rfl ?_
  refine J.y (op_move rfl rfl) rfl rfl rfl ?_
  refine J.y ((op_sne rfl rfl rfl).as (v' := .bool false) (congrArg Value.bool (decide_eq_false (by rw [hN]; exact fun h => h rfl)))) rfl rfl rfl ?_
  refine J.y (op_assign rfl rfl) rfl rfl rfl ?_
  refine J.nil ?_
  refine J.then_n (J.k hK5 ?_)
  refine J.keepE [(14, _)] ⟨rfl, trivial⟩ ?_
  refine J.condF rfl rfl ?_
  refine J.skip ?_
  refine J.blk_n ?_
  refine J.then_n (J.k hK3 ?_)
  refine J.keepE [] trivial ?_
  refine J.seq (fun K6 hK6 => ?_)
  refine J.region ?_
  refine J.y (op_assign rfl rfl) rfl rfl rfl ?_
  refine J.nil ?_
  refine J.then_n (J.k hK6 ?_)
  refine J.keepE [(2, _)] ⟨rfl, trivial⟩ ?_
  refine J.ret ?_
  exact J.done hw0 (fun _ _ h => h) (res1 rfl rfl) (retOk () rfl trivial [0] rfl (by decide))

theorem judge_new (F : Hp) (hK : Cells F ⟨0, 0, none⟩ (Sha.K.map W32)) (hA : Cells F ⟨1, 0, none⟩ alphaV) (hT : TabsF F) (seed : List UInt8) (kh : Nat) (h6 : kh ≤ 6) (i : Nat) (hi : i < 2 ^ kh) (s : List UInt8) (hsl : s.length ≤ 1000000) (hN : normal s = (s, 0)) (v : Nat) (p : List UInt8) (hE : enErr v (Wo.opn seed) (Xm.root seed kh) ((kh : Nat) : Int) p = 0) (A1 : Option Addr) (n1 c1 : Nat) (hch : Sl F 1 A1 n1 c1 (strsV (sgC seed i (pmsg s v (Wo.opn seed) (Xm.root seed kh) ((kh : Nat) : Int) p)))) (A2 : Option Addr) (n2 c2 : Nat) (hpt : Sl F 1 A2 n2 c2 (strsV (sgP seed kh i))) (hx : En.hist [(⟨v, Wo.opn seed, Xm.root seed kh, ((kh : Nat) : Int), p⟩ : En)] = 0) : Ct Tryz.prog 13 [.agg #[Str (s), N64 (v), Str (Wo.opn seed), Str (Xm.root seed kh), I ((kh : Nat) : Int), Str (p), I ((i : Nat) : Int), .slice A1 n1 c1, .slice A2 n2 c2], .bool false, .agg #[.int .u64 0, Str [], Str [], I 0, Str []]] [F] (fun _ : Unit => I ((0 : Nat) : Int)) (fun _ => True) (fun _ => [F]) := by
  obtain ⟨e1, e2, ⟨e3, e4⟩, e5, e6, e7⟩ := en_inv hE
  have el := enEnc_len hE
  have eml := pmsg_len s v (Wo.opn seed) (Xm.root seed kh) ((kh : Nat) : Int) p
  have hgy : (⟨v, Wo.opn seed, Xm.root seed kh, ((kh : Nat) : Int), p⟩ : En).good := ⟨by show v < _; omega, by show (Wo.opn seed).length ≤ _; omega, by show (Xm.root seed kh).length ≤ _; omega, by show p.length ≤ _; omega⟩
  refine Ct.walk Tryz.func13 rfl Tryz.ntmps13 rfl (fun w0 hw0 => ?_)
  change J _ [(0, _), (1, _), (2, _)] _ _ _
  refine J.seq (fun K1 hK1 => ?_)
  refine J.region ?_
  refine J.e (op_box (l := [Str (s), N64 (v), Str (Wo.opn seed), Str (Xm.root seed kh), I ((kh : Nat) : Int), Str (p), I ((i : Nat) : Int), .slice A1 n1 c1, .slice A2 n2 c2]) rfl rfl rfl) rfl rfl rfl ?_
  intro g3 _
  change J _ _ _ [F, blk g3 [Str (s), N64 (v), Str (Wo.opn seed), Str (Xm.root seed kh), I ((kh : Nat) : Int), Str (p), I ((i : Nat) : Int), .slice A1 n1 c1, .slice A2 n2 c2] 39] _
  refine J.e (op_box (l := [.int .u64 0, Str [], Str [], I 0, Str []]) rfl rfl rfl) rfl rfl rfl ?_
  intro g5 _
  change J _ _ _ [F, blk g3 [Str (s), N64 (v), Str (Wo.opn seed), Str (Xm.root seed kh), I ((kh : Nat) : Int), Str (p), I ((i : Nat) : Int), .slice A1 n1 c1, .slice A2 n2 c2] 39, blk g5 [.int .u64 0, Str [], Str [], I 0, Str []] 34] _
  refine J.y (op_assign rfl rfl) rfl rfl rfl ?_
  refine J.nil ?_
  refine J.then_n (J.k hK1 ?_)
  refine J.keepE [(1, _), (3, _), (5, _)] ⟨rfl, rfl, rfl, trivial⟩ ?_
  refine J.seq (fun K2 hK2 => ?_)
  refine J.seq (fun K3 hK3 => ?_)
  refine J.region ?_
  refine J.y (op_fieldAddr (j := 0) rfl rfl Tryz.underlying39 rfl Tryz.sizeOf9 rfl) rfl rfl rfl ?_
  refine J.y (op_loadB 1 (v := Str (s)) rfl rfl rfl Tryz.isAgg9 rfl) rfl rfl rfl ?_
  refine J.e (op_call rfl rfl ent31 (Ct.use0 (fun F' hF => pnamed_ct F' (hA.mono (hF F (by simp))) (hT.mono (hF F (by simp))) s (by first | assumption | omega) (by assumption)))) rfl rfl rfl ?_
  intro g14 _
  refine J.y (op_assign rfl rfl) rfl rfl rfl ?_
  refine J.nil ?_
  refine J.then_n (J.k hK3 ?_)
  refine J.keepE [(1, _), (3, _), (5, _), (7, _)] ⟨rfl, rfl, rfl, rfl, trivial⟩ ?_
  refine J.seq (fun K4 hK4 => ?_)
  refine J.region ?_
  refine J.y (op_move rfl rfl) rfl rfl rfl ?_
  refine J.y ((op_neq rfl rfl rfl).as (v' := .bool false) (congrArg Value.bool (decide_eq_false (by decide)))) rfl rfl rfl ?_
  refine J.nil ?_
  refine J.then_n (J.k hK4 ?_)
  refine J.keepE [(1, _), (3, _), (5, _), (7, _), (16, _)] ⟨rfl, rfl, rfl, rfl, rfl, trivial⟩ ?_
  refine J.condF rfl rfl ?_
  refine J.skip ?_
  refine J.then_n (J.k hK2 ?_)
  refine J.keepE [(1, _), (3, _), (5, _)] ⟨rfl, rfl, rfl, trivial⟩ ?_
  refine J.seq (fun K5 hK5 => ?_)
  refine J.seq (fun K6 hK6 => ?_)
  refine J.region ?_
  refine J.y (op_fieldAddr (j := 1) rfl rfl Tryz.underlying39 rfl Tryz.sizeOf34 rfl) rfl rfl rfl ?_
  refine J.y (op_loadA (vs := [N64 (v), Str (Wo.opn seed), Str (Xm.root seed kh), I ((kh : Nat) : Int), Str (p)]) rfl rfl Tryz.isAgg34 Tryz.sizeOf34 (m := blk g3 [Str (s), N64 (v), Str (Wo.opn seed), Str (Xm.root seed kh), I ((kh : Nat) : Int), Str (p), I ((i : Nat) : Int), .slice A1 n1 c1, .slice A2 n2 c2] 39) (by simp) (Cells.blk0.sub 1 5) rfl) rfl rfl rfl ?_
  refine J.e (op_call rfl rfl ent17 (Ct.use0 (fun F' hF => eencT_ct F' v (Wo.opn seed) (Xm.root seed kh) ((kh : Nat) : Int) p (by first | assumption | omega) (by first | assumption | omega) (by first | assumption | omega) (by first | assumption | omega)))) rfl rfl rfl ?_
  intro g21 _
  refine J.y (op_move rfl rfl) rfl rfl rfl ?_
  refine J.y (op_extract (v := Str (enEnc (v) ((Wo.opn seed)) ((Xm.root seed kh)) (((kh : Nat) : Int)) (p))) rfl rfl rfl) rfl rfl rfl ?_
  refine J.y (op_extract (v := I (enErr (v) ((Wo.opn seed)) ((Xm.root seed kh)) (((kh : Nat) : Int)) (p))) rfl rfl rfl) rfl rfl rfl ?_
  refine J.y (op_assign rfl rfl) rfl rfl rfl ?_
  refine J.y (op_assign rfl rfl) rfl rfl rfl ?_
  refine J.nil ?_
  refine J.then_n (J.k hK6 ?_)
  refine J.keepE [(1, _), (3, _), (5, _), (9, _)] ⟨rfl, rfl, rfl, rfl, trivial⟩ ?_
  refine J.seq (fun K7 hK7 => ?_)
  refine J.region ?_
  refine J.y (op_move rfl rfl) rfl rfl rfl ?_
  refine J.y ((op_neq rfl rfl rfl).as (v' := .bool false) (congrArg Value.bool (decide_eq_false (by omega)))) rfl rfl rfl ?_
  refine J.nil ?_
  refine J.then_n (J.k hK7 ?_)
  refine J.keepE [(1, _), (3, _), (5, _), (9, _), (25, _)] ⟨rfl, rfl, rfl, rfl, rfl, trivial⟩ ?_
  refine J.condF rfl rfl ?_
  refine J.skip ?_
  refine J.then_n (J.k hK5 ?_)
  refine J.keepE [(1, _), (3, _), (5, _)] ⟨rfl, rfl, rfl, trivial⟩ ?_
  refine J.seq (fun K8 hK8 => ?_)
  refine J.draw [blk g3 [Str (s), N64 (v), Str (Wo.opn seed), Str (Xm.root seed kh), I ((kh : Nat) : Int), Str (p), I ((i : Nat) : Int), .slice A1 n1 c1, .slice A2 n2 c2] 39] [9] (.y 0 (.y 1 (.y 4 (.y 5 (.y 6 (.br (.e 2 (.br (.e 3 (.e 7 (.y 8 (.e 9 .nil)))) (.e 7 (.e 3 (.y 8 (.e 9 .nil)))))) (.e 7 (.e 2 (.e 3 (.y 8 (.e 9 .nil))))))))))) Tryz.wide (by decide +kernel) (by simp) ?_
  refine J.dy rfl (op_fieldAddr (j := 1) rfl rfl Tryz.underlying39 rfl Tryz.sizeOf34 rfl) rfl rfl rfl rfl ?_
  refine J.dy rfl (op_loadA (vs := [N64 (v), Str (Wo.opn seed), Str (Xm.root seed kh), I ((kh : Nat) : Int), Str (p)]) rfl rfl Tryz.isAgg34 Tryz.sizeOf34 (m := blk g3 [Str (s), N64 (v), Str (Wo.opn seed), Str (Xm.root seed kh), I ((kh : Nat) : Int), Str (p), I ((i : Nat) : Int), .slice A1 n1 c1, .slice A2 n2 c2] 39) (by simp) (Cells.blk0.sub 1 5) rfl) rfl rfl rfl rfl ?_
  refine J.dy rfl (op_fieldAddr (j := 1) rfl rfl Tryz.underlying39 rfl Tryz.sizeOf34 rfl) rfl rfl rfl rfl ?_
  refine J.dy rfl (op_fieldAddr (j := 2) rfl rfl Tryz.underlying34 rfl Tryz.sizeOf31 rfl) rfl rfl rfl rfl ?_
  refine J.dy rfl (op_loadA (vs := [Str (Wo.opn seed), Str (Xm.root seed kh), I ((kh : Nat) : Int)]) rfl rfl Tryz.isAgg31 Tryz.sizeOf31 (m := blk g3 [Str (s), N64 (v), Str (Wo.opn seed), Str (Xm.root seed kh), I ((kh : Nat) : Int), Str (p), I ((i : Nat) : Int), .slice A1 n1 c1, .slice A2 n2 c2] 39) (by simp) (Cells.blk0.sub 2 3) rfl) rfl rfl rfl rfl ?_
  refine J.dbr ?_ ?_
  ·
    refine J.de rfl (op_buildSlice (l := [.tmp 28]) (xs := [[N64 (v), Str (Wo.opn seed), Str (Xm.root seed kh), I ((kh : Nat) : Int), Str (p)]]) rfl rfl rfl rfl Tryz.underlying108 el34 rfl (by decide) (by decide) (by simp)) rfl rfl rfl (by simp) ?_
    intro g29 _
    change J _ _ _ [F, blk g3 [Str (s), N64 (v), Str (Wo.opn seed), Str (Xm.root seed kh), I ((kh : Nat) : Int), Str (p), I ((i : Nat) : Int), .slice A1 n1 c1, .slice A2 n2 c2] 39, blk g5 [.int .u64 0, Str [], Str [], I 0, Str []] 34, blk g29 [N64 (v), Str (Wo.opn seed), Str (Xm.root seed kh), I ((kh : Nat) : Int), Str (p)] 34] _
    refine J.dbr ?_ ?_
    ·
      refine J.de rfl (op_call rfl rfl ent32 (Ct.use0 (fun F' hF => ehistory_cons F' (hK.mono (hF F (by simp))) [(⟨v, Wo.opn seed, Xm.root seed kh, ((kh : Nat) : Int), p⟩ : En)] (by intro x hx; rw [List.mem_singleton.1 hx]; exact hgy) g29 0 1 ((row_blk (q := True) (xs := [(⟨v, Wo.opn seed, Xm.root seed kh, ((kh : Nat) : Int), p⟩ : En).cells]) rfl (by intro x hx; rw [List.mem_singleton.1 hx]; rfl)).sl.mono (hF (blk g29 [N64 (v), Str (Wo.opn seed), Str (Xm.root seed kh), I ((kh : Nat) : Int), Str (p)] 34) (by simp))) (Nat.succ_pos _) (show 1 ≤ 1073741824 by decide)))) rfl rfl rfl (by simp) ?_
      intro g30 _
      refine J.de rfl (op_alloc (l := [Str [], Str [], I 0]) rfl Tryz.zeroValue31 rfl) rfl rfl rfl (by simp) ?_
      intro g11 _
      change J _ _ _ [F, blk g3 [Str (s), N64 (v), Str (Wo.opn seed), Str (Xm.root seed kh), I ((kh : Nat) : Int), Str (p), I ((i : Nat) : Int), .slice A1 n1 c1, .slice A2 n2 c2] 39, blk g5 [.int .u64 0, Str [], Str [], I 0, Str []] 34, blk g29 [N64 (v), Str (Wo.opn seed), Str (Xm.root seed kh), I ((kh : Nat) : Int), Str (p)] 34, blk g11 [Str [], Str [], I 0] 31] _
      refine J.dy rfl (op_assign rfl rfl) rfl rfl rfl rfl ?_
      refine J.ds rfl (op_storeAll (i := 4) (l := [Str [], Str [], I 0]) (vs := [Str (Wo.opn seed), Str (Xm.root seed kh), I ((kh : Nat) : Int)]) rfl rfl rfl rfl rfl Tryz.sizeOf31 rfl rfl) rfl rfl rfl (fun _ _ => ?_)
      change J _ _ _ [F, blk g3 [Str (s), N64 (v), Str (Wo.opn seed), Str (Xm.root seed kh), I ((kh : Nat) : Int), Str (p), I ((i : Nat) : Int), .slice A1 n1 c1, .slice A2 n2 c2] 39, blk g5 [.int .u64 0, Str [], Str [], I 0, Str []] 34, blk g29 [N64 (v), Str (Wo.opn seed), Str (Xm.root seed kh), I ((kh : Nat) : Int), Str (p)] 34, blk g11 [Str (Wo.opn seed), Str (Xm.root seed kh), I ((kh : Nat) : Int)] 31] _
      refine J.dnil ?_
      refine J.then_n (J.k hK8 ?_)
      refine J.keepE [(1, _), (3, _), (5, _), (10, _), (11, _)] ⟨rfl, rfl, rfl, rfl, rfl, trivial⟩ ?_
      refine J.seq (fun K9 hK9 => ?_)
      refine J.seq (fun K10 hK10 => ?_)
      refine J.region ?_
      refine J.y (op_move rfl rfl) rfl rfl rfl ?_
      refine J.nil ?_
      refine J.then_n (J.k hK10 ?_)
      refine J.keepE [(3, _), (5, _), (10, _), (11, _), (34, _)] ⟨rfl, rfl, rfl, rfl, rfl, trivial⟩ ?_
      refine J.condF rfl rfl ?_
      refine J.skip ?_
      refine J.then_n (J.k hK9 ?_)
      refine J.keepE [(3, _), (10, _), (11, _)] ⟨rfl, rfl, rfl, trivial⟩ ?_
      refine J.seq (fun K11 hK11 => ?_)
      refine J.block ?_
      refine J.seq (fun K12 hK12 => ?_)
      refine J.region ?_
      refine J.y (op_move rfl rfl) rfl rfl rfl ?_
      refine J.y ((op_neq rfl rfl rfl).as (v' := .bool false) (congrArg Value.bool (decide_eq_false (by rw [hx]; exact fun h => h rfl)))) rfl rfl rfl ?_
      refine J.y (op_assign rfl rfl) rfl rfl rfl ?_
      refine J.nil ?_
      refine J.then_n (J.k hK12 ?_)
      refine J.keepE [(3, _), (10, _), (11, _), (41, _)] ⟨rfl, rfl, rfl, rfl, trivial⟩ ?_
      refine J.condF rfl rfl ?_
      refine J.seq (fun K13 hK13 => ?_)
      refine J.draw [blk g3 [Str (s), N64 (v), Str (Wo.opn seed), Str (Xm.root seed kh), I ((kh : Nat) : Int), Str (p), I ((i : Nat) : Int), .slice A1 n1 c1, .slice A2 n2 c2] 39, blk g11 [Str (Wo.opn seed), Str (Xm.root seed kh), I ((kh : Nat) : Int)] 31] [] (.y 0 (.y 1 (.y 2 (.y 3 (.y 4 (.y 6 (.y 7 (.e 5 (.e 8 (.y 9 (.y 10 .nil))))))))))) Tryz.wide (by decide +kernel) (by simp) ?_
      refine J.dy rfl (op_loadBA 1 rfl rfl rfl Tryz.isAgg31 Tryz.sizeOf31 rfl) rfl rfl rfl rfl ?_
      refine J.dy rfl (op_fieldAddr (j := 0) rfl rfl Tryz.underlying39 rfl Tryz.sizeOf9 rfl) rfl rfl rfl rfl ?_
      refine J.dy rfl (op_loadB 0 (v := Str (s)) rfl rfl rfl Tryz.isAgg9 rfl) rfl rfl rfl rfl ?_
      refine J.dy rfl (op_fieldAddr (j := 1) rfl rfl Tryz.underlying39 rfl Tryz.sizeOf34 rfl) rfl rfl rfl rfl ?_
      refine J.dy rfl (op_loadA (vs := [N64 (v), Str (Wo.opn seed), Str (Xm.root seed kh), I ((kh : Nat) : Int), Str (p)]) rfl rfl Tryz.isAgg34 Tryz.sizeOf34 (m := blk g3 [Str (s), N64 (v), Str (Wo.opn seed), Str (Xm.root seed kh), I ((kh : Nat) : Int), Str (p), I ((i : Nat) : Int), .slice A1 n1 c1, .slice A2 n2 c2] 39) (by simp) (Cells.blk0.sub 1 5) rfl) rfl rfl rfl rfl ?_
      refine J.dy rfl (op_fieldAddr (j := 6) rfl rfl Tryz.underlying39 rfl Tryz.sizeOf37 rfl) rfl rfl rfl rfl ?_
      refine J.dy rfl (op_loadA (vs := [I ((i : Nat) : Int), .slice A1 n1 c1, .slice A2 n2 c2]) rfl rfl Tryz.isAgg37 Tryz.sizeOf37 (m := blk g3 [Str (s), N64 (v), Str (Wo.opn seed), Str (Xm.root seed kh), I ((kh : Nat) : Int), Str (p), I ((i : Nat) : Int), .slice A1 n1 c1, .slice A2 n2 c2] 39) (by simp) (Cells.blk0.sub 6 3) rfl) rfl rfl rfl rfl ?_
      refine J.de rfl (op_call rfl rfl ent8 (Ct.use0 (fun F' hF => pmsg_ct F' (hK.mono (hF F (by simp))) s (by first | assumption | omega) v (Wo.opn seed) (Xm.root seed kh) ((kh : Nat) : Int) p (by first | assumption | omega)))) rfl rfl rfl (by simp) ?_
      intro g51 _
      refine J.de rfl (op_call rfl rfl ent11 (Ct.use0 (fun F' hF => xverK_ct F' (hK.mono (hF F (by simp))) seed kh i (pmsg s v (Wo.opn seed) (Xm.root seed kh) ((kh : Nat) : Int) p) A1 n1 c1 (hch.mono (hF F (by simp))) A2 n2 c2 (hpt.mono (hF F (by simp))) (by omega) h6 hi))) rfl rfl rfl (by simp) ?_
      intro g54 _
      refine J.dy rfl (op_not rfl rfl) rfl rfl rfl rfl ?_
      refine J.dy rfl (op_assign rfl rfl) rfl rfl rfl rfl ?_
      refine J.dnil ?_
      refine J.then_n (J.k hK13 ?_)
      refine J.keepE [(45, _)] ⟨rfl, trivial⟩ ?_
      refine J.condF rfl rfl ?_
      refine J.skip ?_
      refine J.blk_n ?_
      refine J.then_n (J.k hK11 ?_)
      refine J.keepE [] trivial ?_
      refine J.seq (fun K14 hK14 => ?_)
      refine J.region ?_
      refine J.y (op_assign rfl rfl) rfl rfl rfl ?_
      refine J.nil ?_
      refine J.then_n (J.k hK14 ?_)
      refine J.keepE [(6, _)] ⟨rfl, trivial⟩ ?_
      refine J.ret ?_
      exact J.done hw0 (fun _ _ h => h) (res1 rfl rfl) (retOk () rfl trivial [0] rfl (by decide))
    ·
      refine J.de rfl (op_alloc (l := [Str [], Str [], I 0]) rfl Tryz.zeroValue31 rfl) rfl rfl rfl (by simp) ?_
      intro g11 _
      change J _ _ _ [F, blk g3 [Str (s), N64 (v), Str (Wo.opn seed), Str (Xm.root seed kh), I ((kh : Nat) : Int), Str (p), I ((i : Nat) : Int), .slice A1 n1 c1, .slice A2 n2 c2] 39, blk g5 [.int .u64 0, Str [], Str [], I 0, Str []] 34, blk g29 [N64 (v), Str (Wo.opn seed), Str (Xm.root seed kh), I ((kh : Nat) : Int), Str (p)] 34, blk g11 [Str [], Str [], I 0] 31] _
      refine J.de rfl (op_call rfl rfl ent32 (Ct.use0 (fun F' hF => ehistory_cons F' (hK.mono (hF F (by simp))) [(⟨v, Wo.opn seed, Xm.root seed kh, ((kh : Nat) : Int), p⟩ : En)] (by intro x hx; rw [List.mem_singleton.1 hx]; exact hgy) g29 0 1 ((row_blk (q := True) (xs := [(⟨v, Wo.opn seed, Xm.root seed kh, ((kh : Nat) : Int), p⟩ : En).cells]) rfl (by intro x hx; rw [List.mem_singleton.1 hx]; rfl)).sl.mono (hF (blk g29 [N64 (v), Str (Wo.opn seed), Str (Xm.root seed kh), I ((kh : Nat) : Int), Str (p)] 34) (by simp))) (Nat.succ_pos _) (show 1 ≤ 1073741824 by decide)))) rfl rfl rfl (by simp) ?_
      intro g30 _
      refine J.dy rfl (op_assign rfl rfl) rfl rfl rfl rfl ?_
      refine J.ds rfl (op_storeAll (i := 4) (l := [Str [], Str [], I 0]) (vs := [Str (Wo.opn seed), Str (Xm.root seed kh), I ((kh : Nat) : Int)]) rfl rfl rfl rfl rfl Tryz.sizeOf31 rfl rfl) rfl rfl rfl (fun _ _ => ?_)
      change J _ _ _ [F, blk g3 [Str (s), N64 (v), Str (Wo.opn seed), Str (Xm.root seed kh), I ((kh : Nat) : Int), Str (p), I ((i : Nat) : Int), .slice A1 n1 c1, .slice A2 n2 c2] 39, blk g5 [.int .u64 0, Str [], Str [], I 0, Str []] 34, blk g29 [N64 (v), Str (Wo.opn seed), Str (Xm.root seed kh), I ((kh : Nat) : Int), Str (p)] 34, blk g11 [Str (Wo.opn seed), Str (Xm.root seed kh), I ((kh : Nat) : Int)] 31] _
      refine J.dnil ?_
      refine J.then_n (J.k hK8 ?_)
      refine J.keepE [(1, _), (3, _), (5, _), (10, _), (11, _)] ⟨rfl, rfl, rfl, rfl, rfl, trivial⟩ ?_
      refine J.seq (fun K15 hK15 => ?_)
      refine J.seq (fun K16 hK16 => ?_)
      refine J.region ?_
      refine J.y (op_move rfl rfl) rfl rfl rfl ?_
      refine J.nil ?_
      refine J.then_n (J.k hK16 ?_)
      refine J.keepE [(3, _), (5, _), (10, _), (11, _), (34, _)] ⟨rfl, rfl, rfl, rfl, rfl, trivial⟩ ?_
      refine J.condF rfl rfl ?_
      refine J.skip ?_
      refine J.then_n (J.k hK15 ?_)
      refine J.keepE [(3, _), (10, _), (11, _)] ⟨rfl, rfl, rfl, trivial⟩ ?_
      refine J.seq (fun K17 hK17 => ?_)
      refine J.block ?_
      refine J.seq (fun K18 hK18 => ?_)
      refine J.region ?_
      refine J.y (op_move rfl rfl) rfl rfl rfl ?_
      refine J.y ((op_neq rfl rfl rfl).as (v' := .bool false) (congrArg Value.bool (decide_eq_false (by rw [hx]; exact fun h => h rfl)))) rfl rfl rfl ?_
      refine J.y (op_assign rfl rfl) rfl rfl rfl ?_
      refine J.nil ?_
      refine J.then_n (J.k hK18 ?_)
      refine J.keepE [(3, _), (10, _), (11, _), (41, _)] ⟨rfl, rfl, rfl, rfl, trivial⟩ ?_
      refine J.condF rfl rfl ?_
      refine J.seq (fun K19 hK19 => ?_)
      refine J.draw [blk g3 [Str (s), N64 (v), Str (Wo.opn seed), Str (Xm.root seed kh), I ((kh : Nat) : Int), Str (p), I ((i : Nat) : Int), .slice A1 n1 c1, .slice A2 n2 c2] 39, blk g11 [Str (Wo.opn seed), Str (Xm.root seed kh), I ((kh : Nat) : Int)] 31] [] (.y 0 (.y 1 (.y 2 (.y 3 (.y 4 (.y 6 (.y 7 (.e 5 (.e 8 (.y 9 (.y 10 .nil))))))))))) Tryz.wide (by decide +kernel) (by simp) ?_
      refine J.dy rfl (op_loadBA 1 rfl rfl rfl Tryz.isAgg31 Tryz.sizeOf31 rfl) rfl rfl rfl rfl ?_
      refine J.dy rfl (op_fieldAddr (j := 0) rfl rfl Tryz.underlying39 rfl Tryz.sizeOf9 rfl) rfl rfl rfl rfl ?_
      refine J.dy rfl (op_loadB 0 (v := Str (s)) rfl rfl rfl Tryz.isAgg9 rfl) rfl rfl rfl rfl ?_
      refine J.dy rfl (op_fieldAddr (j := 1) rfl rfl Tryz.underlying39 rfl Tryz.sizeOf34 rfl) rfl rfl rfl rfl ?_
      refine J.dy rfl (op_loadA (vs := [N64 (v), Str (Wo.opn seed), Str (Xm.root seed kh), I ((kh : Nat) : Int), Str (p)]) rfl rfl Tryz.isAgg34 Tryz.sizeOf34 (m := blk g3 [Str (s), N64 (v), Str (Wo.opn seed), Str (Xm.root seed kh), I ((kh : Nat) : Int), Str (p), I ((i : Nat) : Int), .slice A1 n1 c1, .slice A2 n2 c2] 39) (by simp) (Cells.blk0.sub 1 5) rfl) rfl rfl rfl rfl ?_
      refine J.dy rfl (op_fieldAddr (j := 6) rfl rfl Tryz.underlying39 rfl Tryz.sizeOf37 rfl) rfl rfl rfl rfl ?_
      refine J.dy rfl (op_loadA (vs := [I ((i : Nat) : Int), .slice A1 n1 c1, .slice A2 n2 c2]) rfl rfl Tryz.isAgg37 Tryz.sizeOf37 (m := blk g3 [Str (s), N64 (v), Str (Wo.opn seed), Str (Xm.root seed kh), I ((kh : Nat) : Int), Str (p), I ((i : Nat) : Int), .slice A1 n1 c1, .slice A2 n2 c2] 39) (by simp) (Cells.blk0.sub 6 3) rfl) rfl rfl rfl rfl ?_
      refine J.de rfl (op_call rfl rfl ent8 (Ct.use0 (fun F' hF => pmsg_ct F' (hK.mono (hF F (by simp))) s (by first | assumption | omega) v (Wo.opn seed) (Xm.root seed kh) ((kh : Nat) : Int) p (by first | assumption | omega)))) rfl rfl rfl (by simp) ?_
      intro g51 _
      refine J.de rfl (op_call rfl rfl ent11 (Ct.use0 (fun F' hF => xverK_ct F' (hK.mono (hF F (by simp))) seed kh i (pmsg s v (Wo.opn seed) (Xm.root seed kh) ((kh : Nat) : Int) p) A1 n1 c1 (hch.mono (hF F (by simp))) A2 n2 c2 (hpt.mono (hF F (by simp))) (by omega) h6 hi))) rfl rfl rfl (by simp) ?_
      intro g54 _
      refine J.dy rfl (op_not rfl rfl) rfl rfl rfl rfl ?_
      refine J.dy rfl (op_assign rfl rfl) rfl rfl rfl rfl ?_
      refine J.dnil ?_
      refine J.then_n (J.k hK19 ?_)
      refine J.keepE [(45, _)] ⟨rfl, trivial⟩ ?_
      refine J.condF rfl rfl ?_
      refine J.skip ?_
      refine J.blk_n ?_
      refine J.then_n (J.k hK17 ?_)
      refine J.keepE [] trivial ?_
      refine J.seq (fun K20 hK20 => ?_)
      refine J.region ?_
      refine J.y (op_assign rfl rfl) rfl rfl rfl ?_
      refine J.nil ?_
      refine J.then_n (J.k hK20 ?_)
      refine J.keepE [(6, _)] ⟨rfl, trivial⟩ ?_
      refine J.ret ?_
      exact J.done hw0 (fun _ _ h => h) (res1 rfl rfl) (retOk () rfl trivial [0] rfl (by decide))
  ·
    refine J.de rfl (op_alloc (l := [Str [], Str [], I 0]) rfl Tryz.zeroValue31 rfl) rfl rfl rfl (by simp) ?_
    intro g11 _
    change J _ _ _ [F, blk g3 [Str (s), N64 (v), Str (Wo.opn seed), Str (Xm.root seed kh), I ((kh : Nat) : Int), Str (p), I ((i : Nat) : Int), .slice A1 n1 c1, .slice A2 n2 c2] 39, blk g5 [.int .u64 0, Str [], Str [], I 0, Str []] 34, blk g11 [Str [], Str [], I 0] 31] _
    refine J.de rfl (op_buildSlice (l := [.tmp 28]) (xs := [[N64 (v), Str (Wo.opn seed), Str (Xm.root seed kh), I ((kh : Nat) : Int), Str (p)]]) rfl rfl rfl rfl Tryz.underlying108 el34 rfl (by decide) (by decide) (by simp)) rfl rfl rfl (by simp) ?_
    intro g29 _
    change J _ _ _ [F, blk g3 [Str (s), N64 (v), Str (Wo.opn seed), Str (Xm.root seed kh), I ((kh : Nat) : Int), Str (p), I ((i : Nat) : Int), .slice A1 n1 c1, .slice A2 n2 c2] 39, blk g5 [.int .u64 0, Str [], Str [], I 0, Str []] 34, blk g11 [Str [], Str [], I 0] 31, blk g29 [N64 (v), Str (Wo.opn seed), Str (Xm.root seed kh), I ((kh : Nat) : Int), Str (p)] 34] _
    refine J.de rfl (op_call rfl rfl ent32 (Ct.use0 (fun F' hF => ehistory_cons F' (hK.mono (hF F (by simp))) [(⟨v, Wo.opn seed, Xm.root seed kh, ((kh : Nat) : Int), p⟩ : En)] (by intro x hx; rw [List.mem_singleton.1 hx]; exact hgy) g29 0 1 ((row_blk (q := True) (xs := [(⟨v, Wo.opn seed, Xm.root seed kh, ((kh : Nat) : Int), p⟩ : En).cells]) rfl (by intro x hx; rw [List.mem_singleton.1 hx]; rfl)).sl.mono (hF (blk g29 [N64 (v), Str (Wo.opn seed), Str (Xm.root seed kh), I ((kh : Nat) : Int), Str (p)] 34) (by simp))) (Nat.succ_pos _) (show 1 ≤ 1073741824 by decide)))) rfl rfl rfl (by simp) ?_
    intro g30 _
    refine J.dy rfl (op_assign rfl rfl) rfl rfl rfl rfl ?_
    refine J.ds rfl (op_storeAll (i := 3) (l := [Str [], Str [], I 0]) (vs := [Str (Wo.opn seed), Str (Xm.root seed kh), I ((kh : Nat) : Int)]) rfl rfl rfl rfl rfl Tryz.sizeOf31 rfl rfl) rfl rfl rfl (fun _ _ => ?_)
    change J _ _ _ [F, blk g3 [Str (s), N64 (v), Str (Wo.opn seed), Str (Xm.root seed kh), I ((kh : Nat) : Int), Str (p), I ((i : Nat) : Int), .slice A1 n1 c1, .slice A2 n2 c2] 39, blk g5 [.int .u64 0, Str [], Str [], I 0, Str []] 34, blk g11 [Str (Wo.opn seed), Str (Xm.root seed kh), I ((kh : Nat) : Int)] 31, blk g29 [N64 (v), Str (Wo.opn seed), Str (Xm.root seed kh), I ((kh : Nat) : Int), Str (p)] 34] _
    refine J.dnil ?_
    refine J.then_n (J.k hK8 ?_)
    refine J.keepE [(1, _), (3, _), (5, _), (10, _), (11, _)] ⟨rfl, rfl, rfl, rfl, rfl, trivial⟩ ?_
    refine J.seq (fun K21 hK21 => ?_)
    refine J.seq (fun K22 hK22 => ?_)
    refine J.region ?_
    refine J.y (op_move rfl rfl) rfl rfl rfl ?_
    refine J.nil ?_
    refine J.then_n (J.k hK22 ?_)
    refine J.keepE [(3, _), (5, _), (10, _), (11, _), (34, _)] ⟨rfl, rfl, rfl, rfl, rfl, trivial⟩ ?_
    refine J.condF rfl rfl ?_
    refine J.skip ?_
    refine J.then_n (J.k hK21 ?_)
    refine J.keepE [(3, _), (10, _), (11, _)] ⟨rfl, rfl, rfl, trivial⟩ ?_
    refine J.seq (fun K23 hK23 => ?_)
    refine J.block ?_
    refine J.seq (fun K24 hK24 => ?_)
    refine J.region ?_
    refine J.y (op_move rfl rfl) rfl rfl rfl ?_
    refine J.y ((op_neq rfl rfl rfl).as (v' := .bool false) (congrArg Value.bool (decide_eq_false (by rw [hx]; exact fun h => h rfl)))) rfl rfl rfl ?_
    refine J.y (op_assign rfl rfl) rfl rfl rfl ?_
    refine J.nil ?_
    refine J.then_n (J.k hK24 ?_)
    refine J.keepE [(3, _), (10, _), (11, _), (41, _)] ⟨rfl, rfl, rfl, rfl, trivial⟩ ?_
    refine J.condF rfl rfl ?_
    refine J.seq (fun K25 hK25 => ?_)
    refine J.draw [blk g3 [Str (s), N64 (v), Str (Wo.opn seed), Str (Xm.root seed kh), I ((kh : Nat) : Int), Str (p), I ((i : Nat) : Int), .slice A1 n1 c1, .slice A2 n2 c2] 39, blk g11 [Str (Wo.opn seed), Str (Xm.root seed kh), I ((kh : Nat) : Int)] 31] [] (.y 0 (.y 1 (.y 2 (.y 3 (.y 4 (.y 6 (.y 7 (.e 5 (.e 8 (.y 9 (.y 10 .nil))))))))))) Tryz.wide (by decide +kernel) (by simp) ?_
    refine J.dy rfl (op_loadBA 1 rfl rfl rfl Tryz.isAgg31 Tryz.sizeOf31 rfl) rfl rfl rfl rfl ?_
    refine J.dy rfl (op_fieldAddr (j := 0) rfl rfl Tryz.underlying39 rfl Tryz.sizeOf9 rfl) rfl rfl rfl rfl ?_
    refine J.dy rfl (op_loadB 0 (v := Str (s)) rfl rfl rfl Tryz.isAgg9 rfl) rfl rfl rfl rfl ?_
    refine J.dy rfl (op_fieldAddr (j := 1) rfl rfl Tryz.underlying39 rfl Tryz.sizeOf34 rfl) rfl rfl rfl rfl ?_
    refine J.dy rfl (op_loadA (vs := [N64 (v), Str (Wo.opn seed), Str (Xm.root seed kh), I ((kh : Nat) : Int), Str (p)]) rfl rfl Tryz.isAgg34 Tryz.sizeOf34 (m := blk g3 [Str (s), N64 (v), Str (Wo.opn seed), Str (Xm.root seed kh), I ((kh : Nat) : Int), Str (p), I ((i : Nat) : Int), .slice A1 n1 c1, .slice A2 n2 c2] 39) (by simp) (Cells.blk0.sub 1 5) rfl) rfl rfl rfl rfl ?_
    refine J.dy rfl (op_fieldAddr (j := 6) rfl rfl Tryz.underlying39 rfl Tryz.sizeOf37 rfl) rfl rfl rfl rfl ?_
    refine J.dy rfl (op_loadA (vs := [I ((i : Nat) : Int), .slice A1 n1 c1, .slice A2 n2 c2]) rfl rfl Tryz.isAgg37 Tryz.sizeOf37 (m := blk g3 [Str (s), N64 (v), Str (Wo.opn seed), Str (Xm.root seed kh), I ((kh : Nat) : Int), Str (p), I ((i : Nat) : Int), .slice A1 n1 c1, .slice A2 n2 c2] 39) (by simp) (Cells.blk0.sub 6 3) rfl) rfl rfl rfl rfl ?_
    refine J.de rfl (op_call rfl rfl ent8 (Ct.use0 (fun F' hF => pmsg_ct F' (hK.mono (hF F (by simp))) s (by first | assumption | omega) v (Wo.opn seed) (Xm.root seed kh) ((kh : Nat) : Int) p (by first | assumption | omega)))) rfl rfl rfl (by simp) ?_
    intro g51 _
    refine J.de rfl (op_call rfl rfl ent11 (Ct.use0 (fun F' hF => xverK_ct F' (hK.mono (hF F (by simp))) seed kh i (pmsg s v (Wo.opn seed) (Xm.root seed kh) ((kh : Nat) : Int) p) A1 n1 c1 (hch.mono (hF F (by simp))) A2 n2 c2 (hpt.mono (hF F (by simp))) (by omega) h6 hi))) rfl rfl rfl (by simp) ?_
    intro g54 _
    refine J.dy rfl (op_not rfl rfl) rfl rfl rfl rfl ?_
    refine J.dy rfl (op_assign rfl rfl) rfl rfl rfl rfl ?_
    refine J.dnil ?_
    refine J.then_n (J.k hK25 ?_)
    refine J.keepE [(45, _)] ⟨rfl, trivial⟩ ?_
    refine J.condF rfl rfl ?_
    refine J.skip ?_
    refine J.blk_n ?_
    refine J.then_n (J.k hK23 ?_)
    refine J.keepE [] trivial ?_
    refine J.seq (fun K26 hK26 => ?_)
    refine J.region ?_
    refine J.y (op_assign rfl rfl) rfl rfl rfl ?_
    refine J.nil ?_
    refine J.then_n (J.k hK26 ?_)
    refine J.keepE [(6, _)] ⟨rfl, trivial⟩ ?_
    refine J.ret ?_
    exact J.done hw0 (fun _ _ h => h) (res1 rfl rfl) (retOk () rfl trivial [0] rfl (by decide))

theorem judge_next (F : Hp) (hK : Cells F ⟨0, 0, none⟩ (Sha.K.map W32)) (hA : Cells F ⟨1, 0, none⟩ alphaV) (hT : TabsF F) (seed : List UInt8) (kh : Nat) (h6 : kh ≤ 6) (i : Nat) (hi : i < 2 ^ kh) (s : List UInt8) (hsl : s.length ≤ 1000000) (hN : normal s = (s, 0)) (v : Nat) (p : List UInt8) (hE : enErr v (Wo.opn seed) (Xm.root seed kh) ((kh : Nat) : Int) p = 0) (A1 : Option Addr) (n1 c1 : Nat) (hch : Sl F 1 A1 n1 c1 (strsV (sgC seed i (pmsg s v (Wo.opn seed) (Xm.root seed kh) ((kh : Nat) : Int) p)))) (A2 : Option Addr) (n2 c2 : Nat) (hpt : Sl F 1 A2 n2 c2 (strsV (sgP seed kh i))) (v2 : Nat) (p2 : List UInt8) (hE2 : enErr v2 (Wo.opn seed) (Xm.root seed kh) ((kh : Nat) : Int) p2 = 0) (hx : (⟨v2, Wo.opn seed, Xm.root seed kh, ((kh : Nat) : Int), p2⟩ : En).next (⟨v, Wo.opn seed, Xm.root seed kh, ((kh : Nat) : Int), p⟩ : En) = 0) : Ct Tryz.prog 13 [.agg #[Str (s), N64 (v), Str (Wo.opn seed), Str (Xm.root seed kh), I ((kh : Nat) : Int), Str (p), I ((i : Nat) : Int), .slice A1 n1 c1, .slice A2 n2 c2], .bool true, .agg #[N64 (v2), Str (Wo.opn seed), Str (Xm.root seed kh), I ((kh : Nat) : Int), Str (p2)]] [F] (fun _ : Unit => I ((0 : Nat) : Int)) (fun _ => True) (fun _ => [F]) := by
  obtain ⟨e1, e2, ⟨e3, e4⟩, e5, e6, e7⟩ := en_inv hE
  have el := enEnc_len hE
  have eml := pmsg_len s v (Wo.opn seed) (Xm.root seed kh) ((kh : Nat) : Int) p
  have hgy : (⟨v, Wo.opn seed, Xm.root seed kh, ((kh : Nat) : Int), p⟩ : En).good := ⟨by show v < _; omega, by show (Wo.opn seed).length ≤ _; omega, by show (Xm.root seed kh).length ≤ _; omega, by show p.length ≤ _; omega⟩
  obtain ⟨d1, d2, _, _, _, d7⟩ := en_inv hE2
  have hgx : (⟨v2, Wo.opn seed, Xm.root seed kh, ((kh : Nat) : Int), p2⟩ : En).good := ⟨by show v2 < _; omega, by show (Wo.opn seed).length ≤ _; omega, by show (Xm.root seed kh).length ≤ _; omega, by show p2.length ≤ _; omega⟩
  refine Ct.walk Tryz.func13 rfl Tryz.ntmps13 rfl (fun w0 hw0 => ?_)
  change J _ [(0, _), (1, _), (2, _)] _ _ _
  refine J.seq (fun K1 hK1 => ?_)
  refine J.region ?_
  refine J.e (op_box (l := [Str (s), N64 (v), Str (Wo.opn seed), Str (Xm.root seed kh), I ((kh : Nat) : Int), Str (p), I ((i : Nat) : Int), .slice A1 n1 c1, .slice A2 n2 c2]) rfl rfl rfl) rfl rfl rfl ?_
  intro g3 _
  change J _ _ _ [F, blk g3 [Str (s), N64 (v), Str (Wo.opn seed), Str (Xm.root seed kh), I ((kh : Nat) : Int), Str (p), I ((i : Nat) : Int), .slice A1 n1 c1, .slice A2 n2 c2] 39] _
  refine J.e (op_box (l := [N64 (v2), Str (Wo.opn seed), Str (Xm.root seed kh), I ((kh : Nat) : Int), Str (p2)]) rfl rfl rfl) rfl rfl rfl ?_
  intro g5 _
  change J _ _ _ [F, blk g3 [Str (s), N64 (v), Str (Wo.opn seed), Str (Xm.root seed kh), I ((kh : Nat) : Int), Str (p), I ((i : Nat) : Int), .slice A1 n1 c1, .slice A2 n2 c2] 39, blk g5 [N64 (v2), Str (Wo.opn seed), Str (Xm.root seed kh), I ((kh : Nat) : Int), Str (p2)] 34] _
  refine J.y (op_assign rfl rfl) rfl rfl rfl ?_
  refine J.nil ?_
  refine J.then_n (J.k hK1 ?_)
  refine J.keepE [(1, _), (3, _), (5, _)] ⟨rfl, rfl, rfl, trivial⟩ ?_
  refine J.seq (fun K2 hK2 => ?_)
  refine J.seq (fun K3 hK3 => ?_)
  refine J.region ?_
  refine J.y (op_fieldAddr (j := 0) rfl rfl Tryz.underlying39 rfl Tryz.sizeOf9 rfl) rfl rfl rfl ?_
  refine J.y (op_loadB 1 (v := Str (s)) rfl rfl rfl Tryz.isAgg9 rfl) rfl rfl rfl ?_
  refine J.e (op_call rfl rfl ent31 (Ct.use0 (fun F' hF => pnamed_ct F' (hA.mono (hF F (by simp))) (hT.mono (hF F (by simp))) s (by first | assumption | omega) (by assumption)))) rfl rfl rfl ?_
  intro g14 _
  refine J.y (op_assign rfl rfl) rfl rfl rfl ?_
  refine J.nil ?_
  refine J.then_n (J.k hK3 ?_)
  refine J.keepE [(1, _), (3, _), (5, _), (7, _)] ⟨rfl, rfl, rfl, rfl, trivial⟩ ?_
  refine J.seq (fun K4 hK4 => ?_)
  refine J.region ?_
  refine J.y (op_move rfl rfl) rfl rfl rfl ?_
  refine J.y ((op_neq rfl rfl rfl).as (v' := .bool false) (congrArg Value.bool (decide_eq_false (by decide)))) rfl rfl rfl ?_
  refine J.nil ?_
  refine J.then_n (J.k hK4 ?_)
  refine J.keepE [(1, _), (3, _), (5, _), (7, _), (16, _)] ⟨rfl, rfl, rfl, rfl, rfl, trivial⟩ ?_
  refine J.condF rfl rfl ?_
  refine J.skip ?_
  refine J.then_n (J.k hK2 ?_)
  refine J.keepE [(1, _), (3, _), (5, _)] ⟨rfl, rfl, rfl, trivial⟩ ?_
  refine J.seq (fun K5 hK5 => ?_)
  refine J.seq (fun K6 hK6 => ?_)
  refine J.region ?_
  refine J.y (op_fieldAddr (j := 1) rfl rfl Tryz.underlying39 rfl Tryz.sizeOf34 rfl) rfl rfl rfl ?_
  refine J.y (op_loadA (vs := [N64 (v), Str (Wo.opn seed), Str (Xm.root seed kh), I ((kh : Nat) : Int), Str (p)]) rfl rfl Tryz.isAgg34 Tryz.sizeOf34 (m := blk g3 [Str (s), N64 (v), Str (Wo.opn seed), Str (Xm.root seed kh), I ((kh : Nat) : Int), Str (p), I ((i : Nat) : Int), .slice A1 n1 c1, .slice A2 n2 c2] 39) (by simp) (Cells.blk0.sub 1 5) rfl) rfl rfl rfl ?_
  refine J.e (op_call rfl rfl ent17 (Ct.use0 (fun F' hF => eencT_ct F' v (Wo.opn seed) (Xm.root seed kh) ((kh : Nat) : Int) p (by first | assumption | omega) (by first | assumption | omega) (by first | assumption | omega) (by first | assumption | omega)))) rfl rfl rfl ?_
  intro g21 _
  refine J.y (op_move rfl rfl) rfl rfl rfl ?_
  refine J.y (op_extract (v := Str (enEnc (v) ((Wo.opn seed)) ((Xm.root seed kh)) (((kh : Nat) : Int)) (p))) rfl rfl rfl) rfl rfl rfl ?_
  refine J.y (op_extract (v := I (enErr (v) ((Wo.opn seed)) ((Xm.root seed kh)) (((kh : Nat) : Int)) (p))) rfl rfl rfl) rfl rfl rfl ?_
  refine J.y (op_assign rfl rfl) rfl rfl rfl ?_
  refine J.y (op_assign rfl rfl) rfl rfl rfl ?_
  refine J.nil ?_
  refine J.then_n (J.k hK6 ?_)
  refine J.keepE [(1, _), (3, _), (5, _), (9, _)] ⟨rfl, rfl, rfl, rfl, trivial⟩ ?_
  refine J.seq (fun K7 hK7 => ?_)
  refine J.region ?_
  refine J.y (op_move rfl rfl) rfl rfl rfl ?_
  refine J.y ((op_neq rfl rfl rfl).as (v' := .bool false) (congrArg Value.bool (decide_eq_false (by omega)))) rfl rfl rfl ?_
  refine J.nil ?_
  refine J.then_n (J.k hK7 ?_)
  refine J.keepE [(1, _), (3, _), (5, _), (9, _), (25, _)] ⟨rfl, rfl, rfl, rfl, rfl, trivial⟩ ?_
  refine J.condF rfl rfl ?_
  refine J.skip ?_
  refine J.then_n (J.k hK5 ?_)
  refine J.keepE [(1, _), (3, _), (5, _)] ⟨rfl, rfl, rfl, trivial⟩ ?_
  refine J.seq (fun K8 hK8 => ?_)
  refine J.draw [blk g3 [Str (s), N64 (v), Str (Wo.opn seed), Str (Xm.root seed kh), I ((kh : Nat) : Int), Str (p), I ((i : Nat) : Int), .slice A1 n1 c1, .slice A2 n2 c2] 39] [9] (.y 0 (.y 1 (.y 4 (.y 5 (.y 6 (.br (.e 2 (.br (.e 3 (.e 7 (.y 8 (.e 9 .nil)))) (.e 7 (.e 3 (.y 8 (.e 9 .nil)))))) (.e 7 (.e 2 (.e 3 (.y 8 (.e 9 .nil))))))))))) Tryz.wide (by decide +kernel) (by simp) ?_
  refine J.dy rfl (op_fieldAddr (j := 1) rfl rfl Tryz.underlying39 rfl Tryz.sizeOf34 rfl) rfl rfl rfl rfl ?_
  refine J.dy rfl (op_loadA (vs := [N64 (v), Str (Wo.opn seed), Str (Xm.root seed kh), I ((kh : Nat) : Int), Str (p)]) rfl rfl Tryz.isAgg34 Tryz.sizeOf34 (m := blk g3 [Str (s), N64 (v), Str (Wo.opn seed), Str (Xm.root seed kh), I ((kh : Nat) : Int), Str (p), I ((i : Nat) : Int), .slice A1 n1 c1, .slice A2 n2 c2] 39) (by simp) (Cells.blk0.sub 1 5) rfl) rfl rfl rfl rfl ?_
  refine J.dy rfl (op_fieldAddr (j := 1) rfl rfl Tryz.underlying39 rfl Tryz.sizeOf34 rfl) rfl rfl rfl rfl ?_
  refine J.dy rfl (op_fieldAddr (j := 2) rfl rfl Tryz.underlying34 rfl Tryz.sizeOf31 rfl) rfl rfl rfl rfl ?_
  refine J.dy rfl (op_loadA (vs := [Str (Wo.opn seed), Str (Xm.root seed kh), I ((kh : Nat) : Int)]) rfl rfl Tryz.isAgg31 Tryz.sizeOf31 (m := blk g3 [Str (s), N64 (v), Str (Wo.opn seed), Str (Xm.root seed kh), I ((kh : Nat) : Int), Str (p), I ((i : Nat) : Int), .slice A1 n1 c1, .slice A2 n2 c2] 39) (by simp) (Cells.blk0.sub 2 3) rfl) rfl rfl rfl rfl ?_
  refine J.dbr ?_ ?_
  ·
    refine J.de rfl (op_buildSlice (l := [.tmp 28]) (xs := [[N64 (v), Str (Wo.opn seed), Str (Xm.root seed kh), I ((kh : Nat) : Int), Str (p)]]) rfl rfl rfl rfl Tryz.underlying108 el34 rfl (by decide) (by decide) (by simp)) rfl rfl rfl (by simp) ?_
    intro g29 _
    change J _ _ _ [F, blk g3 [Str (s), N64 (v), Str (Wo.opn seed), Str (Xm.root seed kh), I ((kh : Nat) : Int), Str (p), I ((i : Nat) : Int), .slice A1 n1 c1, .slice A2 n2 c2] 39, blk g5 [N64 (v2), Str (Wo.opn seed), Str (Xm.root seed kh), I ((kh : Nat) : Int), Str (p2)] 34, blk g29 [N64 (v), Str (Wo.opn seed), Str (Xm.root seed kh), I ((kh : Nat) : Int), Str (p)] 34] _
    refine J.dbr ?_ ?_
    ·
      refine J.de rfl (op_call rfl rfl ent32 (Ct.use0 (fun F' hF => ehistory_cons F' (hK.mono (hF F (by simp))) [(⟨v, Wo.opn seed, Xm.root seed kh, ((kh : Nat) : Int), p⟩ : En)] (by intro x hx; rw [List.mem_singleton.1 hx]; exact hgy) g29 0 1 ((row_blk (q := True) (xs := [(⟨v, Wo.opn seed, Xm.root seed kh, ((kh : Nat) : Int), p⟩ : En).cells]) rfl (by intro x hx; rw [List.mem_singleton.1 hx]; rfl)).sl.mono (hF (blk g29 [N64 (v), Str (Wo.opn seed), Str (Xm.root seed kh), I ((kh : Nat) : Int), Str (p)] 34) (by simp))) (Nat.succ_pos _) (show 1 ≤ 1073741824 by decide)))) rfl rfl rfl (by simp) ?_
      intro g30 _
      refine J.de rfl (op_alloc (l := [Str [], Str [], I 0]) rfl Tryz.zeroValue31 rfl) rfl rfl rfl (by simp) ?_
      intro g11 _
      change J _ _ _ [F, blk g3 [Str (s), N64 (v), Str (Wo.opn seed), Str (Xm.root seed kh), I ((kh : Nat) : Int), Str (p), I ((i : Nat) : Int), .slice A1 n1 c1, .slice A2 n2 c2] 39, blk g5 [N64 (v2), Str (Wo.opn seed), Str (Xm.root seed kh), I ((kh : Nat) : Int), Str (p2)] 34, blk g29 [N64 (v), Str (Wo.opn seed), Str (Xm.root seed kh), I ((kh : Nat) : Int), Str (p)] 34, blk g11 [Str [], Str [], I 0] 31] _
      refine J.dy rfl (op_assign rfl rfl) rfl rfl rfl rfl ?_
      refine J.ds rfl (op_storeAll (i := 4) (l := [Str [], Str [], I 0]) (vs := [Str (Wo.opn seed), Str (Xm.root seed kh), I ((kh : Nat) : Int)]) rfl rfl rfl rfl rfl Tryz.sizeOf31 rfl rfl) rfl rfl rfl (fun _ _ => ?_)
      change J _ _ _ [F, blk g3 [Str (s), N64 (v), Str (Wo.opn seed), Str (Xm.root seed kh), I ((kh : Nat) : Int), Str (p), I ((i : Nat) : Int), .slice A1 n1 c1, .slice A2 n2 c2] 39, blk g5 [N64 (v2), Str (Wo.opn seed), Str (Xm.root seed kh), I ((kh : Nat) : Int), Str (p2)] 34, blk g29 [N64 (v), Str (Wo.opn seed), Str (Xm.root seed kh), I ((kh : Nat) : Int), Str (p)] 34, blk g11 [Str (Wo.opn seed), Str (Xm.root seed kh), I ((kh : Nat) : Int)] 31] _
      refine J.dnil ?_
      refine J.then_n (J.k hK8 ?_)
      refine J.keepE [(1, _), (3, _), (5, _), (10, _), (11, _)] ⟨rfl, rfl, rfl, rfl, rfl, trivial⟩ ?_
      refine J.seq (fun K9 hK9 => ?_)
      refine J.seq (fun K10 hK10 => ?_)
      refine J.region ?_
      refine J.y (op_move rfl rfl) rfl rfl rfl ?_
      refine J.nil ?_
      refine J.then_n (J.k hK10 ?_)
      refine J.keepE [(3, _), (5, _), (10, _), (11, _), (34, _)] ⟨rfl, rfl, rfl, rfl, rfl, trivial⟩ ?_
      refine J.condT rfl rfl ?_
      refine J.draw [blk g5 [N64 (v2), Str (Wo.opn seed), Str (Xm.root seed kh), I ((kh : Nat) : Int), Str (p2)] 34, blk g3 [Str (s), N64 (v), Str (Wo.opn seed), Str (Xm.root seed kh), I ((kh : Nat) : Int), Str (p), I ((i : Nat) : Int), .slice A1 n1 c1, .slice A2 n2 c2] 39] [7] (.y 0 (.y 1 (.y 2 (.y 4 (.y 5 (.e 3 (.y 6 (.e 7 .nil)))))))) Tryz.wide (by decide +kernel) (by simp) ?_
      refine J.dy rfl (op_loadBA 0 rfl rfl rfl Tryz.isAgg34 Tryz.sizeOf34 rfl) rfl rfl rfl rfl ?_
      refine J.dy rfl (op_fieldAddr (j := 1) rfl rfl Tryz.underlying39 rfl Tryz.sizeOf34 rfl) rfl rfl rfl rfl ?_
      refine J.dy rfl (op_loadA (vs := [N64 (v), Str (Wo.opn seed), Str (Xm.root seed kh), I ((kh : Nat) : Int), Str (p)]) rfl rfl Tryz.isAgg34 Tryz.sizeOf34 (m := blk g3 [Str (s), N64 (v), Str (Wo.opn seed), Str (Xm.root seed kh), I ((kh : Nat) : Int), Str (p), I ((i : Nat) : Int), .slice A1 n1 c1, .slice A2 n2 c2] 39) (by simp) (Cells.blk0.sub 1 5) rfl) rfl rfl rfl rfl ?_
      refine J.dy rfl (op_fieldAddr (j := 1) rfl rfl Tryz.underlying34 rfl Tryz.sizeOf31 rfl) rfl rfl rfl rfl ?_
      refine J.dy rfl (op_loadA (vs := [Str (Wo.opn seed), Str (Xm.root seed kh), I ((kh : Nat) : Int)]) rfl rfl Tryz.isAgg31 Tryz.sizeOf31 (m := blk g5 [N64 (v2), Str (Wo.opn seed), Str (Xm.root seed kh), I ((kh : Nat) : Int), Str (p2)] 34) (by simp) (Cells.blk0.sub 1 3) rfl) rfl rfl rfl rfl ?_
      refine J.de rfl (op_call rfl rfl ent33 (Ct.use0 (fun F' hF => enext_ct F' (hK.mono (hF F (by simp))) (⟨v2, Wo.opn seed, Xm.root seed kh, ((kh : Nat) : Int), p2⟩ : En) (⟨v, Wo.opn seed, Xm.root seed kh, ((kh : Nat) : Int), p⟩ : En) hgx hgy))) rfl rfl rfl (by simp) ?_
      intro g38 _
      refine J.dy rfl (op_assign rfl rfl) rfl rfl rfl rfl ?_
      refine J.ds rfl (op_storeAll (i := 4) (l := [Str (Wo.opn seed), Str (Xm.root seed kh), I ((kh : Nat) : Int)]) (vs := [Str (Wo.opn seed), Str (Xm.root seed kh), I ((kh : Nat) : Int)]) rfl rfl rfl rfl rfl Tryz.sizeOf31 rfl rfl) rfl rfl rfl (fun _ _ => ?_)
      change J _ _ _ [F, blk g3 [Str (s), N64 (v), Str (Wo.opn seed), Str (Xm.root seed kh), I ((kh : Nat) : Int), Str (p), I ((i : Nat) : Int), .slice A1 n1 c1, .slice A2 n2 c2] 39, blk g5 [N64 (v2), Str (Wo.opn seed), Str (Xm.root seed kh), I ((kh : Nat) : Int), Str (p2)] 34, blk g29 [N64 (v), Str (Wo.opn seed), Str (Xm.root seed kh), I ((kh : Nat) : Int), Str (p)] 34, blk g11 [Str (Wo.opn seed), Str (Xm.root seed kh), I ((kh : Nat) : Int)] 31] _
      refine J.dnil ?_
      refine J.then_n (J.k hK9 ?_)
      refine J.keepE [(3, _), (10, _), (11, _)] ⟨rfl, rfl, rfl, trivial⟩ ?_
      refine J.seq (fun K11 hK11 => ?_)
      refine J.block ?_
      refine J.seq (fun K12 hK12 => ?_)
      refine J.region ?_
      refine J.y (op_move rfl rfl) rfl rfl rfl ?_
      refine J.y ((op_neq rfl rfl rfl).as (v' := .bool false) (congrArg Value.bool (decide_eq_false (by rw [hx]; exact fun h => h rfl)))) rfl rfl rfl ?_
      refine J.y (op_assign rfl rfl) rfl rfl rfl ?_
      refine J.nil ?_
      refine J.then_n (J.k hK12 ?_)
      refine J.keepE [(3, _), (10, _), (11, _), (41, _)] ⟨rfl, rfl, rfl, rfl, trivial⟩ ?_
      refine J.condF rfl rfl ?_
      refine J.seq (fun K13 hK13 => ?_)
      refine J.draw [blk g3 [Str (s), N64 (v), Str (Wo.opn seed), Str (Xm.root seed kh), I ((kh : Nat) : Int), Str (p), I ((i : Nat) : Int), .slice A1 n1 c1, .slice A2 n2 c2] 39, blk g11 [Str (Wo.opn seed), Str (Xm.root seed kh), I ((kh : Nat) : Int)] 31] [] (.y 0 (.y 1 (.y 2 (.y 3 (.y 4 (.y 6 (.y 7 (.e 5 (.e 8 (.y 9 (.y 10 .nil))))))))))) Tryz.wide (by decide +kernel) (by simp) ?_
      refine J.dy rfl (op_loadBA 1 rfl rfl rfl Tryz.isAgg31 Tryz.sizeOf31 rfl) rfl rfl rfl rfl ?_
      refine J.dy rfl (op_fieldAddr (j := 0) rfl rfl Tryz.underlying39 rfl Tryz.sizeOf9 rfl) rfl rfl rfl rfl ?_
      refine J.dy rfl (op_loadB 0 (v := Str (s)) rfl rfl rfl Tryz.isAgg9 rfl) rfl rfl rfl rfl ?_
      refine J.dy rfl (op_fieldAddr (j := 1) rfl rfl Tryz.underlying39 rfl Tryz.sizeOf34 rfl) rfl rfl rfl rfl ?_
      refine J.dy rfl (op_loadA (vs := [N64 (v), Str (Wo.opn seed), Str (Xm.root seed kh), I ((kh : Nat) : Int), Str (p)]) rfl rfl Tryz.isAgg34 Tryz.sizeOf34 (m := blk g3 [Str (s), N64 (v), Str (Wo.opn seed), Str (Xm.root seed kh), I ((kh : Nat) : Int), Str (p), I ((i : Nat) : Int), .slice A1 n1 c1, .slice A2 n2 c2] 39) (by simp) (Cells.blk0.sub 1 5) rfl) rfl rfl rfl rfl ?_
      refine J.dy rfl (op_fieldAddr (j := 6) rfl rfl Tryz.underlying39 rfl Tryz.sizeOf37 rfl) rfl rfl rfl rfl ?_
      refine J.dy rfl (op_loadA (vs := [I ((i : Nat) : Int), .slice A1 n1 c1, .slice A2 n2 c2]) rfl rfl Tryz.isAgg37 Tryz.sizeOf37 (m := blk g3 [Str (s), N64 (v), Str (Wo.opn seed), Str (Xm.root seed kh), I ((kh : Nat) : Int), Str (p), I ((i : Nat) : Int), .slice A1 n1 c1, .slice A2 n2 c2] 39) (by simp) (Cells.blk0.sub 6 3) rfl) rfl rfl rfl rfl ?_
      refine J.de rfl (op_call rfl rfl ent8 (Ct.use0 (fun F' hF => pmsg_ct F' (hK.mono (hF F (by simp))) s (by first | assumption | omega) v (Wo.opn seed) (Xm.root seed kh) ((kh : Nat) : Int) p (by first | assumption | omega)))) rfl rfl rfl (by simp) ?_
      intro g51 _
      refine J.de rfl (op_call rfl rfl ent11 (Ct.use0 (fun F' hF => xverK_ct F' (hK.mono (hF F (by simp))) seed kh i (pmsg s v (Wo.opn seed) (Xm.root seed kh) ((kh : Nat) : Int) p) A1 n1 c1 (hch.mono (hF F (by simp))) A2 n2 c2 (hpt.mono (hF F (by simp))) (by omega) h6 hi))) rfl rfl rfl (by simp) ?_
      intro g54 _
      refine J.dy rfl (op_not rfl rfl) rfl rfl rfl rfl ?_
      refine J.dy rfl (op_assign rfl rfl) rfl rfl rfl rfl ?_
      refine J.dnil ?_
      refine J.then_n (J.k hK13 ?_)
      refine J.keepE [(45, _)] ⟨rfl, trivial⟩ ?_
      refine J.condF rfl rfl ?_
      refine J.skip ?_
      refine J.blk_n ?_
      refine J.then_n (J.k hK11 ?_)
      refine J.keepE [] trivial ?_
      refine J.seq (fun K14 hK14 => ?_)
      refine J.region ?_
      refine J.y (op_assign rfl rfl) rfl rfl rfl ?_
      refine J.nil ?_
      refine J.then_n (J.k hK14 ?_)
      refine J.keepE [(6, _)] ⟨rfl, trivial⟩ ?_
      refine J.ret ?_
      exact J.done hw0 (fun _ _ h => h) (res1 rfl rfl) (retOk () rfl trivial [0] rfl (by decide))
    ·
      refine J.de rfl (op_alloc (l := [Str [], Str [], I 0]) rfl Tryz.zeroValue31 rfl) rfl rfl rfl (by simp) ?_
      intro g11 _
      change J _ _ _ [F, blk g3 [Str (s), N64 (v), Str (Wo.opn seed), Str (Xm.root seed kh), I ((kh : Nat) : Int), Str (p), I ((i : Nat) : Int), .slice A1 n1 c1, .slice A2 n2 c2] 39, blk g5 [N64 (v2), Str (Wo.opn seed), Str (Xm.root seed kh), I ((kh : Nat) : Int), Str (p2)] 34, blk g29 [N64 (v), Str (Wo.opn seed), Str (Xm.root seed kh), I ((kh : Nat) : Int), Str (p)] 34, blk g11 [Str [], Str [], I 0] 31] _
      refine J.de rfl (op_call rfl rfl ent32 (Ct.use0 (fun F' hF => ehistory_cons F' (hK.mono (hF F (by simp))) [(⟨v, Wo.opn seed, Xm.root seed kh, ((kh : Nat) : Int), p⟩ : En)] (by intro x hx; rw [List.mem_singleton.1 hx]; exact hgy) g29 0 1 ((row_blk (q := True) (xs := [(⟨v, Wo.opn seed, Xm.root seed kh, ((kh : Nat) : Int), p⟩ : En).cells]) rfl (by intro x hx; rw [List.mem_singleton.1 hx]; rfl)).sl.mono (hF (blk g29 [N64 (v), Str (Wo.opn seed), Str (Xm.root seed kh), I ((kh : Nat) : Int), Str (p)] 34) (by simp))) (Nat.succ_pos _) (show 1 ≤ 1073741824 by decide)))) rfl rfl rfl (by simp) ?_
      intro g30 _
      refine J.dy rfl (op_assign rfl rfl) rfl rfl rfl rfl ?_
      refine J.ds rfl (op_storeAll (i := 4) (l := [Str [], Str [], I 0]) (vs := [Str (Wo.opn seed), Str (Xm.root seed kh), I ((kh : Nat) : Int)]) rfl rfl rfl rfl rfl Tryz.sizeOf31 rfl rfl) rfl rfl rfl (fun _ _ => ?_)
      change J _ _ _ [F, blk g3 [Str (s), N64 (v), Str (Wo.opn seed), Str (Xm.root seed kh), I ((kh : Nat) : Int), Str (p), I ((i : Nat) : Int), .slice A1 n1 c1, .slice A2 n2 c2] 39, blk g5 [N64 (v2), Str (Wo.opn seed), Str (Xm.root seed kh), I ((kh : Nat) : Int), Str (p2)] 34, blk g29 [N64 (v), Str (Wo.opn seed), Str (Xm.root seed kh), I ((kh : Nat) : Int), Str (p)] 34, blk g11 [Str (Wo.opn seed), Str (Xm.root seed kh), I ((kh : Nat) : Int)] 31] _
      refine J.dnil ?_
      refine J.then_n (J.k hK8 ?_)
      refine J.keepE [(1, _), (3, _), (5, _), (10, _), (11, _)] ⟨rfl, rfl, rfl, rfl, rfl, trivial⟩ ?_
      refine J.seq (fun K15 hK15 => ?_)
      refine J.seq (fun K16 hK16 => ?_)
      refine J.region ?_
      refine J.y (op_move rfl rfl) rfl rfl rfl ?_
      refine J.nil ?_
      refine J.then_n (J.k hK16 ?_)
      refine J.keepE [(3, _), (5, _), (10, _), (11, _), (34, _)] ⟨rfl, rfl, rfl, rfl, rfl, trivial⟩ ?_
      refine J.condT rfl rfl ?_
      refine J.draw [blk g5 [N64 (v2), Str (Wo.opn seed), Str (Xm.root seed kh), I ((kh : Nat) : Int), Str (p2)] 34, blk g3 [Str (s), N64 (v), Str (Wo.opn seed), Str (Xm.root seed kh), I ((kh : Nat) : Int), Str (p), I ((i : Nat) : Int), .slice A1 n1 c1, .slice A2 n2 c2] 39] [7] (.y 0 (.y 1 (.y 2 (.y 4 (.y 5 (.e 3 (.y 6 (.e 7 .nil)))))))) Tryz.wide (by decide +kernel) (by simp) ?_
      refine J.dy rfl (op_loadBA 0 rfl rfl rfl Tryz.isAgg34 Tryz.sizeOf34 rfl) rfl rfl rfl rfl ?_
      refine J.dy rfl (op_fieldAddr (j := 1) rfl rfl Tryz.underlying39 rfl Tryz.sizeOf34 rfl) rfl rfl rfl rfl ?_
      refine J.dy rfl (op_loadA (vs := [N64 (v), Str (Wo.opn seed), Str (Xm.root seed kh), I ((kh : Nat) : Int), Str (p)]) rfl rfl Tryz.isAgg34 Tryz.sizeOf34 (m := blk g3 [Str (s), N64 (v), Str (Wo.opn seed), Str (Xm.root seed kh), I ((kh : Nat) : Int), Str (p), I ((i : Nat) : Int), .slice A1 n1 c1, .slice A2 n2 c2] 39) (by simp) (Cells.blk0.sub 1 5) rfl) rfl rfl rfl rfl ?_
      refine J.dy rfl (op_fieldAddr (j := 1) rfl rfl Tryz.underlying34 rfl Tryz.sizeOf31 rfl) rfl rfl rfl rfl ?_
      refine J.dy rfl (op_loadA (vs := [Str (Wo.opn seed), Str (Xm.root seed kh), I ((kh : Nat) : Int)]) rfl rfl Tryz.isAgg31 Tryz.sizeOf31 (m := blk g5 [N64 (v2), Str (Wo.opn seed), Str (Xm.root seed kh), I ((kh : Nat) : Int), Str (p2)] 34) (by simp) (Cells.blk0.sub 1 3) rfl) rfl rfl rfl rfl ?_
      refine J.de rfl (op_call rfl rfl ent33 (Ct.use0 (fun F' hF => enext_ct F' (hK.mono (hF F (by simp))) (⟨v2, Wo.opn seed, Xm.root seed kh, ((kh : Nat) : Int), p2⟩ : En) (⟨v, Wo.opn seed, Xm.root seed kh, ((kh : Nat) : Int), p⟩ : En) hgx hgy))) rfl rfl rfl (by simp) ?_
      intro g38 _
      refine J.dy rfl (op_assign rfl rfl) rfl rfl rfl rfl ?_
      refine J.ds rfl (op_storeAll (i := 4) (l := [Str (Wo.opn seed), Str (Xm.root seed kh), I ((kh : Nat) : Int)]) (vs := [Str (Wo.opn seed), Str (Xm.root seed kh), I ((kh : Nat) : Int)]) rfl rfl rfl rfl rfl Tryz.sizeOf31 rfl rfl) rfl rfl rfl (fun _ _ => ?_)
      change J _ _ _ [F, blk g3 [Str (s), N64 (v), Str (Wo.opn seed), Str (Xm.root seed kh), I ((kh : Nat) : Int), Str (p), I ((i : Nat) : Int), .slice A1 n1 c1, .slice A2 n2 c2] 39, blk g5 [N64 (v2), Str (Wo.opn seed), Str (Xm.root seed kh), I ((kh : Nat) : Int), Str (p2)] 34, blk g29 [N64 (v), Str (Wo.opn seed), Str (Xm.root seed kh), I ((kh : Nat) : Int), Str (p)] 34, blk g11 [Str (Wo.opn seed), Str (Xm.root seed kh), I ((kh : Nat) : Int)] 31] _
      refine J.dnil ?_
      refine J.then_n (J.k hK15 ?_)
      refine J.keepE [(3, _), (10, _), (11, _)] ⟨rfl, rfl, rfl, trivial⟩ ?_
      refine J.seq (fun K17 hK17 => ?_)
      refine J.block ?_
      refine J.seq (fun K18 hK18 => ?_)
      refine J.region ?_
      refine J.y (op_move rfl rfl) rfl rfl rfl ?_
      refine J.y ((op_neq rfl rfl rfl).as (v' := .bool false) (congrArg Value.bool (decide_eq_false (by rw [hx]; exact fun h => h rfl)))) rfl rfl rfl ?_
      refine J.y (op_assign rfl rfl) rfl rfl rfl ?_
      refine J.nil ?_
      refine J.then_n (J.k hK18 ?_)
      refine J.keepE [(3, _), (10, _), (11, _), (41, _)] ⟨rfl, rfl, rfl, rfl, trivial⟩ ?_
      refine J.condF rfl rfl ?_
      refine J.seq (fun K19 hK19 => ?_)
      refine J.draw [blk g3 [Str (s), N64 (v), Str (Wo.opn seed), Str (Xm.root seed kh), I ((kh : Nat) : Int), Str (p), I ((i : Nat) : Int), .slice A1 n1 c1, .slice A2 n2 c2] 39, blk g11 [Str (Wo.opn seed), Str (Xm.root seed kh), I ((kh : Nat) : Int)] 31] [] (.y 0 (.y 1 (.y 2 (.y 3 (.y 4 (.y 6 (.y 7 (.e 5 (.e 8 (.y 9 (.y 10 .nil))))))))))) Tryz.wide (by decide +kernel) (by simp) ?_
      refine J.dy rfl (op_loadBA 1 rfl rfl rfl Tryz.isAgg31 Tryz.sizeOf31 rfl) rfl rfl rfl rfl ?_
      refine J.dy rfl (op_fieldAddr (j := 0) rfl rfl Tryz.underlying39 rfl Tryz.sizeOf9 rfl) rfl rfl rfl rfl ?_
      refine J.dy rfl (op_loadB 0 (v := Str (s)) rfl rfl rfl Tryz.isAgg9 rfl) rfl rfl rfl rfl ?_
      refine J.dy rfl (op_fieldAddr (j := 1) rfl rfl Tryz.underlying39 rfl Tryz.sizeOf34 rfl) rfl rfl rfl rfl ?_
      refine J.dy rfl (op_loadA (vs := [N64 (v), Str (Wo.opn seed), Str (Xm.root seed kh), I ((kh : Nat) : Int), Str (p)]) rfl rfl Tryz.isAgg34 Tryz.sizeOf34 (m := blk g3 [Str (s), N64 (v), Str (Wo.opn seed), Str (Xm.root seed kh), I ((kh : Nat) : Int), Str (p), I ((i : Nat) : Int), .slice A1 n1 c1, .slice A2 n2 c2] 39) (by simp) (Cells.blk0.sub 1 5) rfl) rfl rfl rfl rfl ?_
      refine J.dy rfl (op_fieldAddr (j := 6) rfl rfl Tryz.underlying39 rfl Tryz.sizeOf37 rfl) rfl rfl rfl rfl ?_
      refine J.dy rfl (op_loadA (vs := [I ((i : Nat) : Int), .slice A1 n1 c1, .slice A2 n2 c2]) rfl rfl Tryz.isAgg37 Tryz.sizeOf37 (m := blk g3 [Str (s), N64 (v), Str (Wo.opn seed), Str (Xm.root seed kh), I ((kh : Nat) : Int), Str (p), I ((i : Nat) : Int), .slice A1 n1 c1, .slice A2 n2 c2] 39) (by simp) (Cells.blk0.sub 6 3) rfl) rfl rfl rfl rfl ?_
      refine J.de rfl (op_call rfl rfl ent8 (Ct.use0 (fun F' hF => pmsg_ct F' (hK.mono (hF F (by simp))) s (by first | assumption | omega) v (Wo.opn seed) (Xm.root seed kh) ((kh : Nat) : Int) p (by first | assumption | omega)))) rfl rfl rfl (by simp) ?_
      intro g51 _
      refine J.de rfl (op_call rfl rfl ent11 (Ct.use0 (fun F' hF => xverK_ct F' (hK.mono (hF F (by simp))) seed kh i (pmsg s v (Wo.opn seed) (Xm.root seed kh) ((kh : Nat) : Int) p) A1 n1 c1 (hch.mono (hF F (by simp))) A2 n2 c2 (hpt.mono (hF F (by simp))) (by omega) h6 hi))) rfl rfl rfl (by simp) ?_
      intro g54 _
      refine J.dy rfl (op_not rfl rfl) rfl rfl rfl rfl ?_
      refine J.dy rfl (op_assign rfl rfl) rfl rfl rfl rfl ?_
      refine J.dnil ?_
      refine J.then_n (J.k hK19 ?_)
      refine J.keepE [(45, _)] ⟨rfl, trivial⟩ ?_
      refine J.condF rfl rfl ?_
      refine J.skip ?_
      refine J.blk_n ?_
      refine J.then_n (J.k hK17 ?_)
      refine J.keepE [] trivial ?_
      refine J.seq (fun K20 hK20 => ?_)
      refine J.region ?_
      refine J.y (op_assign rfl rfl) rfl rfl rfl ?_
      refine J.nil ?_
      refine J.then_n (J.k hK20 ?_)
      refine J.keepE [(6, _)] ⟨rfl, trivial⟩ ?_
      refine J.ret ?_
      exact J.done hw0 (fun _ _ h => h) (res1 rfl rfl) (retOk () rfl trivial [0] rfl (by decide))
  ·
    refine J.de rfl (op_alloc (l := [Str [], Str [], I 0]) rfl Tryz.zeroValue31 rfl) rfl rfl rfl (by simp) ?_
    intro g11 _
    change J _ _ _ [F, blk g3 [Str (s), N64 (v), Str (Wo.opn seed), Str (Xm.root seed kh), I ((kh : Nat) : Int), Str (p), I ((i : Nat) : Int), .slice A1 n1 c1, .slice A2 n2 c2] 39, blk g5 [N64 (v2), Str (Wo.opn seed), Str (Xm.root seed kh), I ((kh : Nat) : Int), Str (p2)] 34, blk g11 [Str [], Str [], I 0] 31] _
    refine J.de rfl (op_buildSlice (l := [.tmp 28]) (xs := [[N64 (v), Str (Wo.opn seed), Str (Xm.root seed kh), I ((kh : Nat) : Int), Str (p)]]) rfl rfl rfl rfl Tryz.underlying108 el34 rfl (by decide) (by decide) (by simp)) rfl rfl rfl (by simp) ?_
    intro g29 _
    change J _ _ _ [F, blk g3 [Str (s), N64 (v), Str (Wo.opn seed), Str (Xm.root seed kh), I ((kh : Nat) : Int), Str (p), I ((i : Nat) : Int), .slice A1 n1 c1, .slice A2 n2 c2] 39, blk g5 [N64 (v2), Str (Wo.opn seed), Str (Xm.root seed kh), I ((kh : Nat) : Int), Str (p2)] 34, blk g11 [Str [], Str [], I 0] 31, blk g29 [N64 (v), Str (Wo.opn seed), Str (Xm.root seed kh), I ((kh : Nat) : Int), Str (p)] 34] _
    refine J.de rfl (op_call rfl rfl ent32 (Ct.use0 (fun F' hF => ehistory_cons F' (hK.mono (hF F (by simp))) [(⟨v, Wo.opn seed, Xm.root seed kh, ((kh : Nat) : Int), p⟩ : En)] (by intro x hx; rw [List.mem_singleton.1 hx]; exact hgy) g29 0 1 ((row_blk (q := True) (xs := [(⟨v, Wo.opn seed, Xm.root seed kh, ((kh : Nat) : Int), p⟩ : En).cells]) rfl (by intro x hx; rw [List.mem_singleton.1 hx]; rfl)).sl.mono (hF (blk g29 [N64 (v), Str (Wo.opn seed), Str (Xm.root seed kh), I ((kh : Nat) : Int), Str (p)] 34) (by simp))) (Nat.succ_pos _) (show 1 ≤ 1073741824 by decide)))) rfl rfl rfl (by simp) ?_
    intro g30 _
    refine J.dy rfl (op_assign rfl rfl) rfl rfl rfl rfl ?_
    refine J.ds rfl (op_storeAll (i := 3) (l := [Str [], Str [], I 0]) (vs := [Str (Wo.opn seed), Str (Xm.root seed kh), I ((kh : Nat) : Int)]) rfl rfl rfl rfl rfl Tryz.sizeOf31 rfl rfl) rfl rfl rfl (fun _ _ => ?_)
    change J _ _ _ [F, blk g3 [Str (s), N64 (v), Str (Wo.opn seed), Str (Xm.root seed kh), I ((kh : Nat) : Int), Str (p), I ((i : Nat) : Int), .slice A1 n1 c1, .slice A2 n2 c2] 39, blk g5 [N64 (v2), Str (Wo.opn seed), Str (Xm.root seed kh), I ((kh : Nat) : Int), Str (p2)] 34, blk g11 [Str (Wo.opn seed), Str (Xm.root seed kh), I ((kh : Nat) : Int)] 31, blk g29 [N64 (v), Str (Wo.opn seed), Str (Xm.root seed kh), I ((kh : Nat) : Int), Str (p)] 34] _
    refine J.dnil ?_
    refine J.then_n (J.k hK8 ?_)
    refine J.keepE [(1, _), (3, _), (5, _), (10, _), (11, _)] ⟨rfl, rfl, rfl, rfl, rfl, trivial⟩ ?_
    refine J.seq (fun K21 hK21 => ?_)
    refine J.seq (fun K22 hK22 => ?_)
    refine J.region ?_
    refine J.y (op_move rfl rfl) rfl rfl rfl ?_
    refine J.nil ?_
    refine J.then_n (J.k hK22 ?_)
    refine J.keepE [(3, _), (5, _), (10, _), (11, _), (34, _)] ⟨rfl, rfl, rfl, rfl, rfl, trivial⟩ ?_
    refine J.condT rfl rfl ?_
    refine J.draw [blk g5 [N64 (v2), Str (Wo.opn seed), Str (Xm.root seed kh), I ((kh : Nat) : Int), Str (p2)] 34, blk g3 [Str (s), N64 (v), Str (Wo.opn seed), Str (Xm.root seed kh), I ((kh : Nat) : Int), Str (p), I ((i : Nat) : Int), .slice A1 n1 c1, .slice A2 n2 c2] 39] [7] (.y 0 (.y 1 (.y 2 (.y 4 (.y 5 (.e 3 (.y 6 (.e 7 .nil)))))))) Tryz.wide (by decide +kernel) (by simp) ?_
    refine J.dy rfl (op_loadBA 0 rfl rfl rfl Tryz.isAgg34 Tryz.sizeOf34 rfl) rfl rfl rfl rfl ?_
    refine J.dy rfl (op_fieldAddr (j := 1) rfl rfl Tryz.underlying39 rfl Tryz.sizeOf34 rfl) rfl rfl rfl rfl ?_
    refine J.dy rfl (op_loadA (vs := [N64 (v), Str (Wo.opn seed), Str (Xm.root seed kh), I ((kh : Nat) : Int), Str (p)]) rfl rfl Tryz.isAgg34 Tryz.sizeOf34 (m := blk g3 [Str (s), N64 (v), Str (Wo.opn seed), Str (Xm.root seed kh), I ((kh : Nat) : Int), Str (p), I ((i : Nat) : Int), .slice A1 n1 c1, .slice A2 n2 c2] 39) (by simp) (Cells.blk0.sub 1 5) rfl) rfl rfl rfl rfl ?_
    refine J.dy rfl (op_fieldAddr (j := 1) rfl rfl Tryz.underlying34 rfl Tryz.sizeOf31 rfl) rfl rfl rfl rfl ?_
    refine J.dy rfl (op_loadA (vs := [Str (Wo.opn seed), Str (Xm.root seed kh), I ((kh : Nat) : Int)]) rfl rfl Tryz.isAgg31 Tryz.sizeOf31 (m := blk g5 [N64 (v2), Str (Wo.opn seed), Str (Xm.root seed kh), I ((kh : Nat) : Int), Str (p2)] 34) (by simp) (Cells.blk0.sub 1 3) rfl) rfl rfl rfl rfl ?_
    refine J.de rfl (op_call rfl rfl ent33 (Ct.use0 (fun F' hF => enext_ct F' (hK.mono (hF F (by simp))) (⟨v2, Wo.opn seed, Xm.root seed kh, ((kh : Nat) : Int), p2⟩ : En) (⟨v, Wo.opn seed, Xm.root seed kh, ((kh : Nat) : Int), p⟩ : En) hgx hgy))) rfl rfl rfl (by simp) ?_
    intro g38 _
    refine J.dy rfl (op_assign rfl rfl) rfl rfl rfl rfl ?_
    refine J.ds rfl (op_storeAll (i := 3) (l := [Str (Wo.opn seed), Str (Xm.root seed kh), I ((kh : Nat) : Int)]) (vs := [Str (Wo.opn seed), Str (Xm.root seed kh), I ((kh : Nat) : Int)]) rfl rfl rfl rfl rfl Tryz.sizeOf31 rfl rfl) rfl rfl rfl (fun _ _ => ?_)
    change J _ _ _ [F, blk g3 [Str (s), N64 (v), Str (Wo.opn seed), Str (Xm.root seed kh), I ((kh : Nat) : Int), Str (p), I ((i : Nat) : Int), .slice A1 n1 c1, .slice A2 n2 c2] 39, blk g5 [N64 (v2), Str (Wo.opn seed), Str (Xm.root seed kh), I ((kh : Nat) : Int), Str (p2)] 34, blk g11 [Str (Wo.opn seed), Str (Xm.root seed kh), I ((kh : Nat) : Int)] 31, blk g29 [N64 (v), Str (Wo.opn seed), Str (Xm.root seed kh), I ((kh : Nat) : Int), Str (p)] 34] _
    refine J.dnil ?_
    refine J.then_n (J.k hK21 ?_)
    refine J.keepE [(3, _), (10, _), (11, _)] ⟨rfl, rfl, rfl, trivial⟩ ?_
    refine J.seq (fun K23 hK23 => ?_)
    refine J.block ?_
    refine J.seq (fun K24 hK24 => ?_)
    refine J.region ?_
    refine J.y (op_move rfl rfl) rfl rfl rfl ?_
    refine J.y ((op_neq rfl rfl rfl).as (v' := .bool false) (congrArg Value.bool (decide_eq_false (by rw [hx]; exact fun h => h rfl)))) rfl rfl rfl ?_
    refine J.y (op_assign rfl rfl) rfl rfl rfl ?_
    refine J.nil ?_
    refine J.then_n (J.k hK24 ?_)
    refine J.keepE [(3, _), (10, _), (11, _), (41, _)] ⟨rfl, rfl, rfl, rfl, trivial⟩ ?_
    refine J.condF rfl rfl ?_
    refine J.seq (fun K25 hK25 => ?_)
    refine J.draw [blk g3 [Str (s), N64 (v), Str (Wo.opn seed), Str (Xm.root seed kh), I ((kh : Nat) : Int), Str (p), I ((i : Nat) : Int), .slice A1 n1 c1, .slice A2 n2 c2] 39, blk g11 [Str (Wo.opn seed), Str (Xm.root seed kh), I ((kh : Nat) : Int)] 31] [] (.y 0 (.y 1 (.y 2 (.y 3 (.y 4 (.y 6 (.y 7 (.e 5 (.e 8 (.y 9 (.y 10 .nil))))))))))) Tryz.wide (by decide +kernel) (by simp) ?_
    refine J.dy rfl (op_loadBA 1 rfl rfl rfl Tryz.isAgg31 Tryz.sizeOf31 rfl) rfl rfl rfl rfl ?_
    refine J.dy rfl (op_fieldAddr (j := 0) rfl rfl Tryz.underlying39 rfl Tryz.sizeOf9 rfl) rfl rfl rfl rfl ?_
    refine J.dy rfl (op_loadB 0 (v := Str (s)) rfl rfl rfl Tryz.isAgg9 rfl) rfl rfl rfl rfl ?_
    refine J.dy rfl (op_fieldAddr (j := 1) rfl rfl Tryz.underlying39 rfl Tryz.sizeOf34 rfl) rfl rfl rfl rfl ?_
    refine J.dy rfl (op_loadA (vs := [N64 (v), Str (Wo.opn seed), Str (Xm.root seed kh), I ((kh : Nat) : Int), Str (p)]) rfl rfl Tryz.isAgg34 Tryz.sizeOf34 (m := blk g3 [Str (s), N64 (v), Str (Wo.opn seed), Str (Xm.root seed kh), I ((kh : Nat) : Int), Str (p), I ((i : Nat) : Int), .slice A1 n1 c1, .slice A2 n2 c2] 39) (by simp) (Cells.blk0.sub 1 5) rfl) rfl rfl rfl rfl ?_
    refine J.dy rfl (op_fieldAddr (j := 6) rfl rfl Tryz.underlying39 rfl Tryz.sizeOf37 rfl) rfl rfl rfl rfl ?_
    refine J.dy rfl (op_loadA (vs := [I ((i : Nat) : Int), .slice A1 n1 c1, .slice A2 n2 c2]) rfl rfl Tryz.isAgg37 Tryz.sizeOf37 (m := blk g3 [Str (s), N64 (v), Str (Wo.opn seed), Str (Xm.root seed kh), I ((kh : Nat) : Int), Str (p), I ((i : Nat) : Int), .slice A1 n1 c1, .slice A2 n2 c2] 39) (by simp) (Cells.blk0.sub 6 3) rfl) rfl rfl rfl rfl ?_
    refine J.de rfl (op_call rfl rfl ent8 (Ct.use0 (fun F' hF => pmsg_ct F' (hK.mono (hF F (by simp))) s (by first | assumption | omega) v (Wo.opn seed) (Xm.root seed kh) ((kh : Nat) : Int) p (by first | assumption | omega)))) rfl rfl rfl (by simp) ?_
    intro g51 _
    refine J.de rfl (op_call rfl rfl ent11 (Ct.use0 (fun F' hF => xverK_ct F' (hK.mono (hF F (by simp))) seed kh i (pmsg s v (Wo.opn seed) (Xm.root seed kh) ((kh : Nat) : Int) p) A1 n1 c1 (hch.mono (hF F (by simp))) A2 n2 c2 (hpt.mono (hF F (by simp))) (by omega) h6 hi))) rfl rfl rfl (by simp) ?_
    intro g54 _
    refine J.dy rfl (op_not rfl rfl) rfl rfl rfl rfl ?_
    refine J.dy rfl (op_assign rfl rfl) rfl rfl rfl rfl ?_
    refine J.dnil ?_
    refine J.then_n (J.k hK25 ?_)
    refine J.keepE [(45, _)] ⟨rfl, trivial⟩ ?_
    refine J.condF rfl rfl ?_
    refine J.skip ?_
    refine J.blk_n ?_
    refine J.then_n (J.k hK23 ?_)
    refine J.keepE [] trivial ?_
    refine J.seq (fun K26 hK26 => ?_)
    refine J.region ?_
    refine J.y (op_assign rfl rfl) rfl rfl rfl ?_
    refine J.nil ?_
    refine J.then_n (J.k hK26 ?_)
    refine J.keepE [(6, _)] ⟨rfl, trivial⟩ ?_
    refine J.ret ?_
    exact J.done hw0 (fun _ _ h => h) (res1 rfl rfl) (retOk () rfl trivial [0] rfl (by decide))

theorem judge_newE (F : Hp) (hK : Cells F ⟨0, 0, none⟩ (Sha.K.map W32)) (hA : Cells F ⟨1, 0, none⟩ alphaV) (hT : TabsF F) (seed : List UInt8) (kh : Nat) (h6 : kh ≤ 6) (i : Nat) (hi : i < 2 ^ kh) (s : List UInt8) (hsl : s.length ≤ 1000000) (hN : normal s = (s, 0)) (v : Nat) (p : List UInt8) (hE : enErr v (Wo.opn seed) (Xm.root seed kh) ((kh : Nat) : Int) p = 0) (A1 : Option Addr) (n1 c1 : Nat) (hch : Sl F 1 A1 n1 c1 (strsV (sgC seed i (pmsg s v (Wo.opn seed) (Xm.root seed kh) ((kh : Nat) : Int) p)))) (A2 : Option Addr) (n2 c2 : Nat) (hpt : Sl F 1 A2 n2 c2 (strsV (sgP seed kh i))) (hx : En.hist [(⟨v, Wo.opn seed, Xm.root seed kh, ((kh : Nat) : Int), p⟩ : En)] = 13) : Ct Tryz.prog 13 [.agg #[Str (s), N64 (v), Str (Wo.opn seed), Str (Xm.root seed kh), I ((kh : Nat) : Int), Str (p), I ((i : Nat) : Int), .slice A1 n1 c1, .slice A2 n2 c2], .bool false, .agg #[.int .u64 0, Str [], Str [], I 0, Str []]] [F] (fun _ : Unit => I ((13 : Nat) : Int)) (fun _ => True) (fun _ => [F]) := by
  obtain ⟨e1, e2, ⟨e3, e4⟩, e5, e6, e7⟩ := en_inv hE
  have el := enEnc_len hE
  have eml := pmsg_len s v (Wo.opn seed) (Xm.root seed kh) ((kh : Nat) : Int) p
  have hgy : (⟨v, Wo.opn seed, Xm.root seed kh, ((kh : Nat) : Int), p⟩ : En).good := ⟨by show v < _; omega, by show (Wo.opn seed).length ≤ _; omega, by show (Xm.root seed kh).length ≤ _; omega, by show p.length ≤ _; omega⟩
  refine Ct.walk Tryz.func13 rfl Tryz.ntmps13 rfl (fun w0 hw0 => ?_)
  change J _ [(0, _), (1, _), (2, _)] _ _ _
  refine J.seq (fun K1 hK1 => ?_)
  refine J.region ?_
  refine J.e (op_box (l := [Str (s), N64 (v), Str (Wo.opn seed), Str (Xm.root seed kh), I ((kh : Nat) : Int), Str (p), I ((i : Nat) : Int), .slice A1 n1 c1, .slice A2 n2 c2]) rfl rfl rfl) rfl rfl rfl ?_
  intro g3 _
  change J _ _ _ [F, blk g3 [Str (s), N64 (v), Str (Wo.opn seed), Str (Xm.root seed kh), I ((kh : Nat) : Int), Str (p), I ((i : Nat) : Int), .slice A1 n1 c1, .slice A2 n2 c2] 39] _
  refine J.e (op_box (l := [.int .u64 0, Str [], Str [], I 0, Str []]) rfl rfl rfl) rfl rfl rfl ?_
  intro g5 _
  change J _ _ _ [F, blk g3 [Str (s), N64 (v), Str (Wo.opn seed), Str (Xm.root seed kh), I ((kh : Nat) : Int), Str (p), I ((i : Nat) : Int), .slice A1 n1 c1, .slice A2 n2 c2] 39, blk g5 [.int .u64 0, Str [], Str [], I 0, Str []] 34] _
  refine J.y (op_assign rfl rfl) rfl rfl rfl ?_
  refine J.nil ?_
  refine J.then_n (J.k hK1 ?_)
  refine J.keepE [(1, _), (3, _), (5, _)] ⟨rfl, rfl, rfl, trivial⟩ ?_
  refine J.seq (fun K2 hK2 => ?_)
  refine J.seq (fun K3 hK3 => ?_)
  refine J.region ?_
  refine J.y (op_fieldAddr (j := 0) rfl rfl Tryz.underlying39 rfl Tryz.sizeOf9 rfl) rfl rfl rfl ?_
  refine J.y (op_loadB 1 (v := Str (s)) rfl rfl rfl Tryz.isAgg9 rfl) rfl rfl rfl ?_
  refine J.e (op_call rfl rfl ent31 (Ct.use0 (fun F' hF => pnamed_ct F' (hA.mono (hF F (by simp))) (hT.mono (hF F (by simp))) s (by first | assumption | omega) (by assumption)))) rfl rfl rfl ?_
  intro g14 _
  refine J.y (op_assign rfl rfl) rfl rfl rfl ?_
  refine J.nil ?_
  refine J.then_n (J.k hK3 ?_)
  refine J.keepE [(1, _), (3, _), (5, _), (7, _)] ⟨rfl, rfl, rfl, rfl, trivial⟩ ?_
  refine J.seq (fun K4 hK4 => ?_)
  refine J.region ?_
  refine J.y (op_move rfl rfl) rfl rfl rfl ?_
  refine J.y ((op_neq rfl rfl rfl).as (v' := .bool false) (congrArg Value.bool (decide_eq_false (by decide)))) rfl rfl rfl ?_
  refine J.nil ?_
  refine J.then_n (J.k hK4 ?_)
  refine J.keepE [(1, _), (3, _), (5, _), (7, _), (16, _)] ⟨rfl, rfl, rfl, rfl, rfl, trivial⟩ ?_
  refine J.condF rfl rfl ?_
  refine J.skip ?_
  refine J.then_n (J.k hK2 ?_)
  refine J.keepE [(1, _), (3, _), (5, _)] ⟨rfl, rfl, rfl, trivial⟩ ?_
  refine J.seq (fun K5 hK5 => ?_)
  refine J.seq (fun K6 hK6 => ?_)
  refine J.region ?_
  refine J.y (op_fieldAddr (j := 1) rfl rfl Tryz.underlying39 rfl Tryz.sizeOf34 rfl) rfl rfl rfl ?_
  refine J.y (op_loadA (vs := [N64 (v), Str (Wo.opn seed), Str (Xm.root seed kh), I ((kh : Nat) : Int), Str (p)]) rfl rfl Tryz.isAgg34 Tryz.sizeOf34 (m := blk g3 [Str (s), N64 (v), Str (Wo.opn seed), Str (Xm.root seed kh), I ((kh : Nat) : Int), Str (p), I ((i : Nat) : Int), .slice A1 n1 c1, .slice A2 n2 c2] 39) (by simp) (Cells.blk0.sub 1 5) rfl) rfl rfl rfl ?_
  refine J.e (op_call rfl rfl ent17 (Ct.use0 (fun F' hF => eencT_ct F' v (Wo.opn seed) (Xm.root seed kh) ((kh : Nat) : Int) p (by first | assumption | omega) (by first | assumption | omega) (by first | assumption | omega) (by first | assumption | omega)))) rfl rfl rfl ?_
  intro g21 _
  refine J.y (op_move rfl rfl) rfl rfl rfl ?_
  refine J.y (op_extract (v := Str (enEnc (v) ((Wo.opn seed)) ((Xm.root seed kh)) (((kh : Nat) : Int)) (p))) rfl rfl rfl) rfl rfl rfl ?_
  refine J.y (op_extract (v := I (enErr (v) ((Wo.opn seed)) ((Xm.root seed kh)) (((kh : Nat) : Int)) (p))) rfl rfl rfl) rfl rfl rfl ?_
  refine J.y (op_assign rfl rfl) rfl rfl rfl ?_
  refine J.y (op_assign rfl rfl) rfl rfl rfl ?_
  refine J.nil ?_
  refine J.then_n (J.k hK6 ?_)
  refine J.keepE [(1, _), (3, _), (5, _), (9, _)] ⟨rfl, rfl, rfl, rfl, trivial⟩ ?_
  refine J.seq (fun K7 hK7 => ?_)
  refine J.region ?_
  refine J.y (op_move rfl rfl) rfl rfl rfl ?_
  refine J.y ((op_neq rfl rfl rfl).as (v' := .bool false) (congrArg Value.bool (decide_eq_false (by omega)))) rfl rfl rfl ?_
  refine J.nil ?_
  refine J.then_n (J.k hK7 ?_)
  refine J.keepE [(1, _), (3, _), (5, _), (9, _), (25, _)] ⟨rfl, rfl, rfl, rfl, rfl, trivial⟩ ?_
  refine J.condF rfl rfl ?_
  refine J.skip ?_
  refine J.then_n (J.k hK5 ?_)
  refine J.keepE [(1, _), (3, _), (5, _)] ⟨rfl, rfl, rfl, trivial⟩ ?_
  refine J.seq (fun K8 hK8 => ?_)
  refine J.draw [blk g3 [Str (s), N64 (v), Str (Wo.opn seed), Str (Xm.root seed kh), I ((kh : Nat) : Int), Str (p), I ((i : Nat) : Int), .slice A1 n1 c1, .slice A2 n2 c2] 39] [9] (.y 0 (.y 1 (.y 4 (.y 5 (.y 6 (.br (.e 2 (.br (.e 3 (.e 7 (.y 8 (.e 9 .nil)))) (.e 7 (.e 3 (.y 8 (.e 9 .nil)))))) (.e 7 (.e 2 (.e 3 (.y 8 (.e 9 .nil))))))))))) Tryz.wide (by decide +kernel) (by simp) ?_
  refine J.dy rfl (op_fieldAddr (j := 1) rfl rfl Tryz.underlying39 rfl Tryz.sizeOf34 rfl) rfl rfl rfl rfl ?_
  refine J.dy rfl (op_loadA (vs := [N64 (v), Str (Wo.opn seed), Str (Xm.root seed kh), I ((kh : Nat) : Int), Str (p)]) rfl rfl Tryz.isAgg34 Tryz.sizeOf34 (m := blk g3 [Str (s), N64 (v), Str (Wo.opn seed), Str (Xm.root seed kh), I ((kh : Nat) : Int), Str (p), I ((i : Nat) : Int), .slice A1 n1 c1, .slice A2 n2 c2] 39) (by simp) (Cells.blk0.sub 1 5) rfl) rfl rfl rfl rfl ?_
  refine J.dy rfl (op_fieldAddr (j := 1) rfl rfl Tryz.underlying39 rfl Tryz.sizeOf34 rfl) rfl rfl rfl rfl ?_
  refine J.dy rfl (op_fieldAddr (j := 2) rfl rfl Tryz.underlying34 rfl Tryz.sizeOf31 rfl) rfl rfl rfl rfl ?_
  refine J.dy rfl (op_loadA (vs := [Str (Wo.opn seed), Str (Xm.root seed kh), I ((kh : Nat) : Int)]) rfl rfl Tryz.isAgg31 Tryz.sizeOf31 (m := blk g3 [Str (s), N64 (v), Str (Wo.opn seed), Str (Xm.root seed kh), I ((kh : Nat) : Int), Str (p), I ((i : Nat) : Int), .slice A1 n1 c1, .slice A2 n2 c2] 39) (by simp) (Cells.blk0.sub 2 3) rfl) rfl rfl rfl rfl ?_
  refine J.dbr ?_ ?_
  ·
    refine J.de rfl (op_buildSlice (l := [.tmp 28]) (xs := [[N64 (v), Str (Wo.opn seed), Str (Xm.root seed kh), I ((kh : Nat) : Int), Str (p)]]) rfl rfl rfl rfl Tryz.underlying108 el34 rfl (by decide) (by decide) (by simp)) rfl rfl rfl (by simp) ?_
    intro g29 _
    change J _ _ _ [F, blk g3 [Str (s), N64 (v), Str (Wo.opn seed), Str (Xm.root seed kh), I ((kh : Nat) : Int), Str (p), I ((i : Nat) : Int), .slice A1 n1 c1, .slice A2 n2 c2] 39, blk g5 [.int .u64 0, Str [], Str [], I 0, Str []] 34, blk g29 [N64 (v), Str (Wo.opn seed), Str (Xm.root seed kh), I ((kh : Nat) : Int), Str (p)] 34] _
    refine J.dbr ?_ ?_
    ·
      refine J.de rfl (op_call rfl rfl ent32 (Ct.use0 (fun F' hF => ehistory_cons F' (hK.mono (hF F (by simp))) [(⟨v, Wo.opn seed, Xm.root seed kh, ((kh : Nat) : Int), p⟩ : En)] (by intro x hx; rw [List.mem_singleton.1 hx]; exact hgy) g29 0 1 ((row_blk (q := True) (xs := [(⟨v, Wo.opn seed, Xm.root seed kh, ((kh : Nat) : Int), p⟩ : En).cells]) rfl (by intro x hx; rw [List.mem_singleton.1 hx]; rfl)).sl.mono (hF (blk g29 [N64 (v), Str (Wo.opn seed), Str (Xm.root seed kh), I ((kh : Nat) : Int), Str (p)] 34) (by simp))) (Nat.succ_pos _) (show 1 ≤ 1073741824 by decide)))) rfl rfl rfl (by simp) ?_
      intro g30 _
      refine J.de rfl (op_alloc (l := [Str [], Str [], I 0]) rfl Tryz.zeroValue31 rfl) rfl rfl rfl (by simp) ?_
      intro g11 _
      change J _ _ _ [F, blk g3 [Str (s), N64 (v), Str (Wo.opn seed), Str (Xm.root seed kh), I ((kh : Nat) : Int), Str (p), I ((i : Nat) : Int), .slice A1 n1 c1, .slice A2 n2 c2] 39, blk g5 [.int .u64 0, Str [], Str [], I 0, Str []] 34, blk g29 [N64 (v), Str (Wo.opn seed), Str (Xm.root seed kh), I ((kh : Nat) : Int), Str (p)] 34, blk g11 [Str [], Str [], I 0] 31] _
      refine J.dy rfl (op_assign rfl rfl) rfl rfl rfl rfl ?_
      refine J.ds rfl (op_storeAll (i := 4) (l := [Str [], Str [], I 0]) (vs := [Str (Wo.opn seed), Str (Xm.root seed kh), I ((kh : Nat) : Int)]) rfl rfl rfl rfl rfl Tryz.sizeOf31 rfl rfl) rfl rfl rfl (fun _ _ => ?_)
      change J _ _ _ [F, blk g3 [Str (s), N64 (v), Str (Wo.opn seed), Str (Xm.root seed kh), I ((kh : Nat) : Int), Str (p), I ((i : Nat) : Int), .slice A1 n1 c1, .slice A2 n2 c2] 39, blk g5 [.int .u64 0, Str [], Str [], I 0, Str []] 34, blk g29 [N64 (v), Str (Wo.opn seed), Str (Xm.root seed kh), I ((kh : Nat) : Int), Str (p)] 34, blk g11 [Str (Wo.opn seed), Str (Xm.root seed kh), I ((kh : Nat) : Int)] 31] _
      refine J.dnil ?_
      refine J.then_n (J.k hK8 ?_)
      refine J.keepE [(1, _), (3, _), (5, _), (10, _), (11, _)] ⟨rfl, rfl, rfl, rfl, rfl, trivial⟩ ?_
      refine J.seq (fun K9 hK9 => ?_)
      refine J.seq (fun K10 hK10 => ?_)
      refine J.region ?_
      refine J.y (op_move rfl rfl) rfl rfl rfl ?_
      refine J.nil ?_
      refine J.then_n (J.k hK10 ?_)
      refine J.keepE [(3, _), (5, _), (10, _), (11, _), (34, _)] ⟨rfl, rfl, rfl, rfl, rfl, trivial⟩ ?_
      refine J.condF rfl rfl ?_
      refine J.skip ?_
      refine J.then_n (J.k hK9 ?_)
      refine J.keepE [(3, _), (10, _), (11, _)] ⟨rfl, rfl, rfl, trivial⟩ ?_
      refine J.seq (fun K11 hK11 => ?_)
      refine J.block ?_
      refine J.seq (fun K12 hK12 => ?_)
      refine J.region ?_
      refine J.y (op_move rfl rfl) rfl rfl rfl ?_
      refine J.y ((op_neq rfl rfl rfl).as (v' := .bool true) (congrArg Value.bool (decide_eq_true (by rw [hx]; decide)))) rfl rfl rfl ?_
      refine J.y (op_assign rfl rfl) rfl rfl rfl ?_
      refine J.nil ?_
      refine J.then_n (J.k hK12 ?_)
      refine J.keepE [(3, _), (10, _), (11, _), (41, _)] ⟨rfl, rfl, rfl, rfl, trivial⟩ ?_
      refine J.condT rfl rfl ?_
      refine J.seq (fun K13 hK13 => ?_)
      refine J.region ?_
      refine J.y (op_move rfl rfl) rfl rfl rfl ?_
      refine J.y (op_assign rfl rfl) rfl rfl rfl ?_
      refine J.nil ?_
      refine J.then_n (J.k hK13 ?_)
      refine J.keepE [(6, _)] ⟨rfl, trivial⟩ ?_
      refine J.ret ?_
      refine J.blk_r ?_
      refine J.then_r ?_
      exact J.done hw0 (fun _ _ h => h) (res1 rfl rfl) (retOk () (by rw [hx]; rfl) trivial [0] rfl (by decide))
    ·
      refine J.de rfl (op_alloc (l := [Str [], Str [], I 0]) rfl Tryz.zeroValue31 rfl) rfl rfl rfl (by simp) ?_
      intro g11 _
      change J _ _ _ [F, blk g3 [Str (s), N64 (v), Str (Wo.opn seed), Str (Xm.root seed kh), I ((kh : Nat) : Int), Str (p), I ((i : Nat) : Int), .slice A1 n1 c1, .slice A2 n2 c2] 39, blk g5 [.int .u64 0, Str [], Str [], I 0, Str []] 34, blk g29 [N64 (v), Str (Wo.opn seed), Str (Xm.root seed kh), I ((kh : Nat) : Int), Str (p)] 34, blk g11 [Str [], Str [], I 0] 31] _
      refine J.de rfl (op_call rfl rfl ent32 (Ct.use0 (fun F' hF => ehistory_cons F' (hK.mono (hF F (by simp))) [(⟨v, Wo.opn seed, Xm.root seed kh, ((kh : Nat) : Int), p⟩ : En)] (by intro x hx; rw [List.mem_singleton.1 hx]; exact hgy) g29 0 1 ((row_blk (q := True) (xs := [(⟨v, Wo.opn seed, Xm.root seed kh, ((kh : Nat) : Int), p⟩ : En).cells]) rfl (by intro x hx; rw [List.mem_singleton.1 hx]; rfl)).sl.mono (hF (blk g29 [N64 (v), Str (Wo.opn seed), Str (Xm.root seed kh), I ((kh : Nat) : Int), Str (p)] 34) (by simp))) (Nat.succ_pos _) (show 1 ≤ 1073741824 by decide)))) rfl rfl rfl (by simp) ?_
      intro g30 _
      refine J.dy rfl (op_assign rfl rfl) rfl rfl rfl rfl ?_
      refine J.ds rfl (op_storeAll (i := 4) (l := [Str [], Str [], I 0]) (vs := [Str (Wo.opn seed), Str (Xm.root seed kh), I ((kh : Nat) : Int)]) rfl rfl rfl rfl rfl Tryz.sizeOf31 rfl rfl) rfl rfl rfl (fun _ _ => ?_)
      change J _ _ _ [F, blk g3 [Str (s), N64 (v), Str (Wo.opn seed), Str (Xm.root seed kh), I ((kh : Nat) : Int), Str (p), I ((i : Nat) : Int), .slice A1 n1 c1, .slice A2 n2 c2] 39, blk g5 [.int .u64 0, Str [], Str [], I 0, Str []] 34, blk g29 [N64 (v), Str (Wo.opn seed), Str (Xm.root seed kh), I ((kh : Nat) : Int), Str (p)] 34, blk g11 [Str (Wo.opn seed), Str (Xm.root seed kh), I ((kh : Nat) : Int)] 31] _
      refine J.dnil ?_
      refine J.then_n (J.k hK8 ?_)
      refine J.keepE [(1, _), (3, _), (5, _), (10, _), (11, _)] ⟨rfl, rfl, rfl, rfl, rfl, trivial⟩ ?_
      refine J.seq (fun K14 hK14 => ?_)
      refine J.seq (fun K15 hK15 => ?_)
      refine J.region ?_
      refine J.y (op_move rfl rfl) rfl rfl rfl ?_
      refine J.nil ?_
      refine J.then_n (J.k hK15 ?_)
      refine J.keepE [(3, _), (5, _), (10, _), (11, _), (34, _)] ⟨rfl, rfl, rfl, rfl, rfl, trivial⟩ ?_
      refine J.condF rfl rfl ?_
      refine J.skip ?_
      refine J.then_n (J.k hK14 ?_)
      refine J.keepE [(3, _), (10, _), (11, _)] ⟨rfl, rfl, rfl, trivial⟩ ?_
      refine J.seq (fun K16 hK16 => ?_)
      refine J.block ?_
      refine J.seq (fun K17 hK17 => ?_)
      refine J.region ?_
      refine J.y (op_move rfl rfl) rfl rfl rfl ?_
      refine J.y ((op_neq rfl rfl rfl).as (v' := .bool true) (congrArg Value.bool (decide_eq_true (by rw [hx]; decide)))) rfl rfl rfl ?_
      refine J.y (op_assign rfl rfl) rfl rfl rfl ?_
      refine J.nil ?_
      refine J.then_n (J.k hK17 ?_)
      refine J.keepE [(3, _), (10, _), (11, _), (41, _)] ⟨rfl, rfl, rfl, rfl, trivial⟩ ?_
      refine J.condT rfl rfl ?_
      refine J.seq (fun K18 hK18 => ?_)
      refine J.region ?_
      refine J.y (op_move rfl rfl) rfl rfl rfl ?_
      refine J.y (op_assign rfl rfl) rfl rfl rfl ?_
      refine J.nil ?_
      refine J.then_n (J.k hK18 ?_)
      refine J.keepE [(6, _)] ⟨rfl, trivial⟩ ?_
      refine J.ret ?_
      refine J.blk_r ?_
      refine J.then_r ?_
      exact J.done hw0 (fun _ _ h => h) (res1 rfl rfl) (retOk () (by rw [hx]; rfl) trivial [0] rfl (by decide))
  ·
    refine J.de rfl (op_alloc (l := [Str [], Str [], I 0]) rfl Tryz.zeroValue31 rfl) rfl rfl rfl (by simp) ?_
    intro g11 _
    change J _ _ _ [F, blk g3 [Str (s), N64 (v), Str (Wo.opn seed), Str (Xm.root seed kh), I ((kh : Nat) : Int), Str (p), I ((i : Nat) : Int), .slice A1 n1 c1, .slice A2 n2 c2] 39, blk g5 [.int .u64 0, Str [], Str [], I 0, Str []] 34, blk g11 [Str [], Str [], I 0] 31] _
    refine J.de rfl (op_buildSlice (l := [.tmp 28]) (xs := [[N64 (v), Str (Wo.opn seed), Str (Xm.root seed kh), I ((kh : Nat) : Int), Str (p)]]) rfl rfl rfl rfl Tryz.underlying108 el34 rfl (by decide) (by decide) (by simp)) rfl rfl rfl (by simp) ?_
    intro g29 _
    change J _ _ _ [F, blk g3 [Str (s), N64 (v), Str (Wo.opn seed), Str (Xm.root seed kh), I ((kh : Nat) : Int), Str (p), I ((i : Nat) : Int), .slice A1 n1 c1, .slice A2 n2 c2] 39, blk g5 [.int .u64 0, Str [], Str [], I 0, Str []] 34, blk g11 [Str [], Str [], I 0] 31, blk g29 [N64 (v), Str (Wo.opn seed), Str (Xm.root seed kh), I ((kh : Nat) : Int), Str (p)] 34] _
    refine J.de rfl (op_call rfl rfl ent32 (Ct.use0 (fun F' hF => ehistory_cons F' (hK.mono (hF F (by simp))) [(⟨v, Wo.opn seed, Xm.root seed kh, ((kh : Nat) : Int), p⟩ : En)] (by intro x hx; rw [List.mem_singleton.1 hx]; exact hgy) g29 0 1 ((row_blk (q := True) (xs := [(⟨v, Wo.opn seed, Xm.root seed kh, ((kh : Nat) : Int), p⟩ : En).cells]) rfl (by intro x hx; rw [List.mem_singleton.1 hx]; rfl)).sl.mono (hF (blk g29 [N64 (v), Str (Wo.opn seed), Str (Xm.root seed kh), I ((kh : Nat) : Int), Str (p)] 34) (by simp))) (Nat.succ_pos _) (show 1 ≤ 1073741824 by decide)))) rfl rfl rfl (by simp) ?_
    intro g30 _
    refine J.dy rfl (op_assign rfl rfl) rfl rfl rfl rfl ?_
    refine J.ds rfl (op_storeAll (i := 3) (l := [Str [], Str [], I 0]) (vs := [Str (Wo.opn seed), Str (Xm.root seed kh), I ((kh : Nat) : Int)]) rfl rfl rfl rfl rfl Tryz.sizeOf31 rfl rfl) rfl rfl rfl (fun _ _ => ?_)
    change J _ _ _ [F, blk g3 [Str (s), N64 (v), Str (Wo.opn seed), Str (Xm.root seed kh), I ((kh : Nat) : Int), Str (p), I ((i : Nat) : Int), .slice A1 n1 c1, .slice A2 n2 c2] 39, blk g5 [.int .u64 0, Str [], Str [], I 0, Str []] 34, blk g11 [Str (Wo.opn seed), Str (Xm.root seed kh), I ((kh : Nat) : Int)] 31, blk g29 [N64 (v), Str (Wo.opn seed), Str (Xm.root seed kh), I ((kh : Nat) : Int), Str (p)] 34] _
    refine J.dnil ?_
    refine J.then_n (J.k hK8 ?_)
    refine J.keepE [(1, _), (3, _), (5, _), (10, _), (11, _)] ⟨rfl, rfl, rfl, rfl, rfl, trivial⟩ ?_
    refine J.seq (fun K19 hK19 => ?_)
    refine J.seq (fun K20 hK20 => ?_)
    refine J.region ?_
    refine J.y (op_move rfl rfl) rfl rfl rfl ?_
    refine J.nil ?_
    refine J.then_n (J.k hK20 ?_)
    refine J.keepE [(3, _), (5, _), (10, _), (11, _), (34, _)] ⟨rfl, rfl, rfl, rfl, rfl, trivial⟩ ?_
    refine J.condF rfl rfl ?_
    refine J.skip ?_
    refine J.then_n (J.k hK19 ?_)
    refine J.keepE [(3, _), (10, _), (11, _)] ⟨rfl, rfl, rfl, trivial⟩ ?_
    refine J.seq (fun K21 hK21 => ?_)
    refine J.block ?_
    refine J.seq (fun K22 hK22 => ?_)
    refine J.region ?_
    refine J.y (op_move rfl rfl) rfl rfl rfl ?_
    refine J.y ((op_neq rfl rfl rfl).as (v' := .bool true) (congrArg Value.bool (decide_eq_true (by rw [hx]; decide)))) rfl rfl rfl ?_
    refine J.y (op_assign rfl rfl) rfl rfl rfl ?_
    refine J.nil ?_
    refine J.then_n (J.k hK22 ?_)
    refine J.keepE [(3, _), (10, _), (11, _), (41, _)] ⟨rfl, rfl, rfl, rfl, trivial⟩ ?_
    refine J.condT rfl rfl ?_
    refine J.seq (fun K23 hK23 => ?_)
    refine J.region ?_
    refine J.y (op_move rfl rfl) rfl rfl rfl ?_
    refine J.y (op_assign rfl rfl) rfl rfl rfl ?_
    refine J.nil ?_
    refine J.then_n (J.k hK23 ?_)
    refine J.keepE [(6, _)] ⟨rfl, trivial⟩ ?_
    refine J.ret ?_
    refine J.blk_r ?_
    refine J.then_r ?_
    exact J.done hw0 (fun _ _ h => h) (res1 rfl rfl) (retOk () (by rw [hx]; rfl) trivial [0] rfl (by decide))

end Go.Proofs.YtnkfapecbmmpeaaGreatDoor
