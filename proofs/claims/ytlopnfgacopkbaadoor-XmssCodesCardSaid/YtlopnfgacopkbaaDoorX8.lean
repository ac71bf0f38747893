/- A part of the proof: contracts of functions of the program, each for every state of the heaps that it names. -/
import Derived.Test.YtlopnfgacopkbaaDoorXe3
set_option linter.unusedSimpArgs false
set_option linter.unusedVariables false
namespace Go.Proofs.YtlopnfgacopkbaaDoor
open Go Go.Fw
set_option maxRecDepth 100000
set_option maxHeartbeats 1000000
theorem ent13 : Enters Tryd.prog 13 := Enters.of Tryd.func13 rfl (by kernel_rfl)
theorem ent15 : Enters Tryd.prog 15 := Enters.of Tryd.func15 rfl (by kernel_rfl)
theorem ent16 : Enters Tryd.prog 16 := Enters.of Tryd.func16 rfl (by kernel_rfl)
theorem ent18 : Enters Tryd.prog 18 := Enters.of Tryd.func18 rfl (by kernel_rfl)

theorem Mk.climb_root2 (seed : List UInt8) (h i : Nat) (hi : i < 2 ^ h) : Mk.climb (Wo.pub seed i) i (Mk.path (Xm.leaves seed (2 ^ h)) i h) = Xm.root seed h := by
  have := Mk.climb_root (Xm.leaves seed (2 ^ h)) h i (Xm.leaves_length _ _) hi
  rw [Xm.leaves_get _ _ _ hi] at this
  exact this
theorem Mk.path_small2 (seed : List UInt8) (h i : Nat) : ∀ s ∈ Mk.path (Xm.leaves seed (2 ^ h)) i h, s.length ≤ 1048576 := Mk.path_small _ i h (Xm.leaves_small _ _)
theorem Mk.path_len (l : List (List UInt8)) (i h : Nat) : (Mk.path l i h).length = h := Mk.path_length l i h

theorem speaks08_ct (F : Hp) (hK : Cells F ⟨0, 0, none⟩ (Sha.K.map W32)) : Ct Tryd.prog 12 [] [F] (fun _ : Unit => .bool true) (fun _ => True) (fun _ => [F]) := by
  refine Ct.walk Tryd.func12 rfl Tryd.ntmps12 rfl (fun w0 => ?_)
  change J _ [] _ _ _
  refine J.seq (fun K1 hK1 => ?_)
  refine J.region ?_
  refine J.y (op_assign rfl rfl) rfl rfl rfl ?_
  refine J.nil ?_
  refine J.then_n (J.k hK1 ?_)
  refine J.keepE [] trivial ?_
  refine J.seq (fun K2 hK2 => ?_)
  refine J.region ?_
  refine J.e (op_call rfl rfl ent13 (Ct.use (fun F' hF => (xnew_ct F' (hK.mono (hF _ (by simp))) [115, 101, 101, 100] 1 (by decide) (by decide)).mono (φ2 := fun x : Nat × Hp => Keyed x.2 x.1 [115, 101, 101, 100] 1) (val2 := fun x : Nat × Hp => .tuple #[Ptr x.1, I 0]) (ms2 := fun x : Nat × Hp => F' :: [x.2]) id (fun _ _ => rfl) (fun _ h => h) (fun x w0 w _ h => h.pick [1, 0] (by decide))))) rfl rfl rfl ?_
  rintro ⟨gk, mk⟩ hk6
  try dsimp only at hk6
  change J _ ((6, .tuple #[Ptr gk, I 0]) :: _) _ [F, mk] _
  obtain ⟨AK, cK, hcK, hsK⟩ := hk6.see
  refine J.y (op_move rfl rfl) rfl rfl rfl ?_
  refine J.y (op_extract (v := Ptr gk) rfl rfl rfl) rfl rfl rfl ?_
  refine J.y (op_extract (v := I 0) rfl rfl rfl) rfl rfl rfl ?_
  refine J.y (op_assign rfl rfl) rfl rfl rfl ?_
  refine J.y (op_assign rfl rfl) rfl rfl rfl ?_
  refine J.nil ?_
  refine J.then_n (J.k hK2 ?_)
  refine J.keepE [(1, _), (2, _)] ⟨rfl, rfl, trivial⟩ ?_
  refine J.seq (fun K3 hK3 => ?_)
  refine J.region ?_
  refine J.y (op_move rfl rfl) rfl rfl rfl ?_
  refine J.e (op_call rfl rfl ent15 (Ct.use (fun F' hF => xsign_ct F' (hK.mono (hF _ (by simp))) gk [115, 101, 101, 100] 1 AK cK (hcK.mono (hF mk (by simp))) (hsK.mono (hF mk (by simp))) (by decide) (by decide) [104, 101, 108, 108, 111] (by decide) 1 (by decide)))) rfl rfl rfl ?_
  rintro ⟨⟨A11, c11, m11⟩, ⟨A12, c12, m12⟩⟩ ⟨h11, h12⟩
  change J _ ((11, .tuple #[.agg [I 1, .slice A11 35 c11, .slice A12 1 c12].toArray, I 0]) :: _) _ [F, mk, m11, m12] _
  dsimp only at h11 h12
  refine J.y (op_move rfl rfl) rfl rfl rfl ?_
  refine J.y (op_extract (v := .agg [I 1, .slice A11 35 c11, .slice A12 1 c12].toArray) rfl rfl rfl) rfl rfl rfl ?_
  refine J.y (op_extract (v := I 0) rfl rfl rfl) rfl rfl rfl ?_
  refine J.e (op_alloc rfl Tryd.zeroValue32 rfl) rfl rfl rfl ?_
  intro g3 _
  change J _ _ _ [F, mk, m11, m12, blk g3 _ 32] _
  refine J.s (op_storeAll (l := [I 0, .slice none 0 0, .slice none 0 0]) (i := 4) (vs := [I 1, .slice A11 35 c11, .slice A12 1 c12]) rfl rfl rfl rfl rfl Tryd.sizeOf32 rfl rfl) rfl rfl (fun _ _ => ?_)
  change J _ _ _ [F, mk, m11, m12, blk g3 [I 1, .slice A11 35 c11, .slice A12 1 c12] 32] _
  refine J.y (op_assign rfl rfl) rfl rfl rfl ?_
  refine J.nil ?_
  refine J.then_n (J.k hK3 ?_)
  refine J.keepE [(1, _), (2, _), (3, _), (4, _)] ⟨rfl, rfl, rfl, rfl, trivial⟩ ?_
  refine J.seq (fun K4 hK4 => ?_)
  refine J.draw [F, mk, m11, m12, blk g3 [I 1, .slice A11 35 c11, .slice A12 1 c12] 32] [] (.y 0 (.y 1 (.y 2 (.y 3 (.y 4 (.y 5 (.y 6 (.y 7 (.e 8 (.y 9 (.y 10 (.y 11 (.y 12 (.y 14 (.e 13 (.e 15 (.y 16 (.y 17 (.y 18 (.y 20 (.e 19 (.e 21 (.y 22 (.y 23 (.y 24 .nil))))))))))))))))))))))))) Tryd.wide (by decide +kernel) (by simp) ?_
  refine J.dy rfl (op_move rfl rfl) rfl rfl rfl rfl ?_
  refine J.dy rfl ((op_eql rfl rfl rfl).as (v' := .bool true) (congrArg Value.bool (decide_eq_true (by decide)))) rfl rfl rfl rfl ?_
  refine J.dy rfl (op_move rfl rfl) rfl rfl rfl rfl ?_
  refine J.dyg rfl (op_move rfl rfl) (Wan.is rfl rfl rfl rfl rfl) rfl rfl rfl ?_
  refine J.dyg rfl ((op_eql rfl rfl rfl).as (v' := .bool true) (congrArg Value.bool (decide_eq_true (by decide)))) (Wan.is rfl rfl rfl rfl rfl) rfl rfl rfl ?_
  refine J.dy rfl (op_pickT rfl rfl rfl) rfl rfl rfl rfl ?_
  refine J.dy rfl (op_move rfl rfl) rfl rfl rfl rfl ?_
  refine J.dyg rfl (op_move rfl rfl) (Wan.is rfl rfl rfl rfl rfl) rfl rfl rfl ?_
  refine J.deg rfl (op_call rfl rfl ent14 (Ct.use0 (fun F' hF => xcount_ct F' gk [115, 101, 101, 100] (Wo.opn [115, 101, 101, 100]) (Xm.root [115, 101, 101, 100] 1) 1 AK (2 ^ 1) cK (hcK.mono (hF mk (by simp)))))) (Wan.is rfl rfl rfl rfl rfl) rfl rfl (by simp) ?_
  intro g22 _
  refine J.dyg rfl ((op_eql rfl rfl rfl).as (v' := .bool true) (congrArg Value.bool (decide_eq_true (by decide)))) (Wan.is rfl rfl rfl rfl rfl) rfl rfl rfl ?_
  refine J.dy rfl (op_pickT rfl rfl rfl) rfl rfl rfl rfl ?_
  refine J.dy rfl (op_move rfl rfl) rfl rfl rfl rfl ?_
  refine J.dyg rfl (op_move rfl rfl) (Wan.is rfl rfl rfl rfl rfl) rfl rfl rfl ?_
  refine J.dyg rfl (op_loadBA 4 rfl rfl rfl Tryd.isAgg32 Tryd.sizeOf32 rfl) (Wan.is rfl rfl rfl rfl rfl) rfl rfl rfl ?_
  refine J.deg rfl (op_call rfl rfl ent16 (Ct.use0 (fun F' hF => xpublic_ct F' gk [115, 101, 101, 100] (Wo.opn [115, 101, 101, 100]) (Xm.root [115, 101, 101, 100] 1) 1 AK (2 ^ 1) cK (hcK.mono (hF mk (by simp)))))) (Wan.is rfl rfl rfl rfl rfl) rfl rfl (by simp) ?_
  intro g27 _
  refine J.deg rfl (op_call rfl rfl ent18 (Ct.use0 (fun F' hF => xverify_ct F' (hK.mono (hF _ (by simp))) (Wo.opn [115, 101, 101, 100]) (Xm.root [115, 101, 101, 100] 1) 1 [104, 101, 108, 108, 111] 1 A11 c11 (Wo.signs [115, 101, 101, 100] 1 (Wo.digs (Xm.digest (Wo.opn [115, 101, 101, 100]) 1 [104, 101, 108, 108, 111])) 35) (h11.sl.mono (hF m11 (by simp))) (Wo.signs_16 _ _ _ _) A12 c12 (Mk.path (Xm.leaves [115, 101, 101, 100] (2 ^ 1)) 1 1) (h12.sl.mono (hF m12 (by simp))) (Mk.path_small2 _ _ _) (by rw [Wo.opn_length]; decide) (by decide) (by decide) (by decide)))) (Wan.is rfl rfl rfl rfl rfl) rfl rfl (by simp) ?_
  intro g29 _
  refine J.dy rfl ((op_pickT rfl rfl rfl).as (v' := .bool true) (congrArg Value.bool (decide_eq_true (by rw [Wo.recPub _ _ _ (by rw [Xm.digest_length]; decide)]; exact Mk.climb_root2 [115, 101, 101, 100] 1 1 (by decide))))) rfl rfl rfl rfl ?_
  refine J.dy rfl (op_move rfl rfl) rfl rfl rfl rfl ?_
  refine J.dyg rfl (op_move rfl rfl) (Wan.is rfl rfl rfl rfl rfl) rfl rfl rfl ?_
  refine J.dyg rfl (op_loadBA 4 rfl rfl rfl Tryd.isAgg32 Tryd.sizeOf32 rfl) (Wan.is rfl rfl rfl rfl rfl) rfl rfl rfl ?_
  refine J.deg rfl (op_call rfl rfl ent16 (Ct.use0 (fun F' hF => xpublic_ct F' gk [115, 101, 101, 100] (Wo.opn [115, 101, 101, 100]) (Xm.root [115, 101, 101, 100] 1) 1 AK (2 ^ 1) cK (hcK.mono (hF mk (by simp)))))) (Wan.is rfl rfl rfl rfl rfl) rfl rfl (by simp) ?_
  intro g33 _
  refine J.deg rfl (op_call rfl rfl ent18 (Ct.use0 (fun F' hF => xverify_ct F' (hK.mono (hF _ (by simp))) (Wo.opn [115, 101, 101, 100]) (Xm.root [115, 101, 101, 100] 1) 1 [104, 97, 108, 108, 111] 1 A11 c11 (Wo.signs [115, 101, 101, 100] 1 (Wo.digs (Xm.digest (Wo.opn [115, 101, 101, 100]) 1 [104, 101, 108, 108, 111])) 35) (h11.sl.mono (hF m11 (by simp))) (Wo.signs_16 _ _ _ _) A12 c12 (Mk.path (Xm.leaves [115, 101, 101, 100] (2 ^ 1)) 1 1) (h12.sl.mono (hF m12 (by simp))) (Mk.path_small2 _ _ _) (by rw [Wo.opn_length]; decide) (by decide) (by decide) (by decide)))) (Wan.is rfl rfl rfl rfl rfl) rfl rfl (by simp) ?_
  intro g35 _
  refine J.dyg rfl ((op_not rfl rfl).as (v' := .bool true) (by rw [decide_eq_false hallo]; rfl)) (Wan.is rfl rfl rfl rfl rfl) rfl rfl rfl ?_
  refine J.dy rfl (op_pickT rfl rfl rfl) rfl rfl rfl rfl ?_
  refine J.dy rfl (op_assign rfl rfl) rfl rfl rfl rfl ?_
  refine J.dnil ?_
  refine J.then_n (J.k hK4 ?_)
  refine J.keepE [(0, _)] ⟨rfl, trivial⟩ ?_
  refine J.ret ?_
  exact J.done (fun _ _ h => h) (res1 rfl rfl) (retOk () rfl trivial [0] rfl (by decide))

end Go.Proofs.YtlopnfgacopkbaaDoor
