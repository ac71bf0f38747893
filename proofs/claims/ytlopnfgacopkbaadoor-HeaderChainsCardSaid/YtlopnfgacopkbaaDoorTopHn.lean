/- HeaderChains returns true for every input: which header may follow which, and which one may be the first. The table plumbob/sha.constants is laid as the program lays it. -/
import Derived.Test.YtlopnfgacopkbaaDoorHdn
import Derived.Test.YtlopnfgacopkbaaDoorFwR
import Derived.Test.YtlopnfgacopkbaaDoorCards
import Derived.Test.YtlopnfgacopkbaaDoorTie
set_option linter.unusedSimpArgs false
set_option linter.unusedVariables false
namespace Go.Proofs.YtlopnfgacopkbaaDoor
open Go Go.Fw Go.ChangeShapes Go.WideShapes Go.ChangeAt Go.RowKit
set_option maxRecDepth 100000
set_option maxHeartbeats 1000000

theorem own : ownKnob Tryd.prog.godebug = none := by kernel_rfl
theorem placed : Placed Tryd.prog 192 := by unfold Placed; kernel_rfl
theorem gTab : Tryd.prog.globalNamed "plumbob/sha.constants" = some 0 := by kernel_rfl
theorem gTabType : (Tryd.prog.globals[0]?).map (·.type) = some 172 := by kernel_rfl
theorem cellsTab : Tryd.prog.cellsOf 172 = 64 := by kernel_rfl
theorem cellsWord : Tryd.prog.cellsOf 90 = 1 := by kernel_rfl
def kz : List Int := Sha.K.map fun x => (x.toNat : Int)
theorem constants_of {W : World} (h : laidMetH Tryd.prog [("plumbob/sha.constants", Lib.tabData .u32 kz)] W) : Cells (hp W) ⟨0, 0, none⟩ (Sha.K.map W32) := by
  have h2 := cells_of_tab gTab gTabType Tryd.underlying172 Tryd.underlying90 cellsWord cellsTab (rest := []) h
  have e : (kz.map fun z => Value.int .u32 z) = Sha.K.map W32 := by unfold kz; rw [List.map_map]; rfl
  rw [e] at h2; exact h2
noncomputable def laidWorld (os : Os) : World :=
  { World.holding Tryd.prog os ⟨#[], #[], []⟩ with heap := (World.holding Tryd.prog os ⟨#[], #[], []⟩).heap.modify 0 fun
      | .cells _ t frozen => .cells (Sha.K.map W32).toArray t frozen
      | o => o }
theorem headerChains_laid : Rows.headerChainsRow.laid = [("plumbob/sha.constants", Lib.tabData .u32 kz)] := by rfl
theorem headerChains_contract (H : Type) (enc : TypeId × Value → H) (W : World) (base : Nat) (args : Array Value) (ds gs : List (DataW H)) (before : List MemPlace)
    (hval : ∀ (j : Nat) t v, Tryd.f5.params[j]? = some t → args[j]? = some v → Value.okWide Tryd.prog W .any base t v)
    (hW : DataW.Whole enc Tryd.prog Tryd.f5.params.toList Rows.headerChainsSpec.vars false W args.toList ds gs before) (hL : laidMetH Tryd.prog Rows.headerChainsRow.laid W) :
    Calls Tryd.prog 5 args W fun e W' => ∃ v, e = .returned v ∧ Rows.headerChainsSpec.post enc Tryd.prog Tryd.f5 false true false false W args v W' := by
  have hW' := hW
  obtain ⟨p, q, hA, hV, _, _, _⟩ := hW
  rw [Tryd.params5] at hA hval
  obtain ⟨v0, vs0, d0, ds0, p0, q0, ha0, rfl, rfl, h0, r0⟩ := trodAll_cons hA
  obtain ⟨v1, vs1, d1, ds1, p1, q1, ha1, rfl, rfl, h1, r1⟩ := trodAll_cons r0
  obtain ⟨v2, vs2, d2, ds2, p2, q2, ha2, rfl, rfl, h2, r2⟩ := trodAll_cons r1
  obtain ⟨rfl, rfl, rfl⟩ := trodAll_nil r2
  obtain rfl : args = #[v0, v1, v2] := by cases args; simp_all
  obtain ⟨rfl, rfl⟩ := trodVars_none hV
  obtain ⟨e0, p0_, d0_, a0_, n0_, rfl⟩ := hdr_of (hval 0 55 v0 rfl rfl) h0
  obtain ⟨e1, p1_, d1_, a1_, n1_, rfl⟩ := hdr_of (hval 1 55 v1 rfl rfl) h1
  obtain ⟨a2, rfl⟩ := open_u8 Tryd.underlying5 (hval 2 5 v2 rfl rfl) h2
  rw [headerChains_laid] at hL
  exact law_post (N := 192) placed (by kernel_rfl) rfl rfl Tryd.underlying4 rfl hW' (headerChains_ct (hp W) (constants_of hL) e0.toNat e0.toNat_lt p0_ d0_ a0_ n0_ e1.toNat e1.toNat_lt p1_ d1_ a1_ n1_ a2)
theorem headerChains_met (os : Os) : laidMet Tryd.prog Rows.headerChainsRow.laid (((laidWorld os).forCall (fun _ _ => 0) ⟨#[], #[.agg #[.int .u64 0, Str [], .int .i64 0, .int .i64 0, Str []], .agg #[.int .u64 0, Str [], .int .i64 0, .int .i64 0, Str []], .int .u8 0], []⟩).memory) :=
  laidMet_of_run' 8 (by kernel_rfl) (by kernel_rfl)
theorem headerChains_reads (os : Os) {H : Type} (enc : TypeId × Value → H) : ∃ places, DataW.whole enc Tryd.prog (((laidWorld os).forCall (fun _ _ => 0) ⟨#[], #[.agg #[.int .u64 0, Str [], .int .i64 0, .int .i64 0, Str []], .agg #[.int .u64 0, Str [], .int .i64 0, .int .i64 0, Str []], .int .u8 0], []⟩).memory) Tryd.f5.params.toList Rows.headerChainsSpec.vars false (#[.agg #[.int .u64 0, Str [], .int .i64 0, .int .i64 0, Str []], .agg #[.int .u64 0, Str [], .int .i64 0, .int .i64 0, Str []], .int .u8 0] : Array Value).toList 8 = some ([.agg [.lit (.int .u64 0), .lit (.string []), .lit (.int .i64 0), .lit (.int .i64 0), .lit (.string [])], .agg [.lit (.int .u64 0), .lit (.string []), .lit (.int .i64 0), .lit (.int .i64 0), .lit (.string [])], .lit (.int .u8 0)], [], places) :=
  ⟨[], by kernel_rfl⟩
theorem headerChains_lifted (os : Os) (started : os.Started) (H : Type) (enc : TypeId × Value → H) (F : Stop.Interp) :
    ReturnsInHanded {} Tryd.checked os 5 .any ((OpenSpec.ofChange Rows.headerChainsSpec).preRow enc Tryd.prog Tryd.f5 Rows.headerChainsRow.domain false Rows.headerChainsRow.laid) (((OpenSpec.ofChange Rows.headerChainsSpec).at F).post enc Tryd.prog Tryd.f5 false true false false) := by
  obtain ⟨places, hx⟩ := headerChains_reads os enc
  refine returnsInHanded_of_row (C := Tryd.checked) (s := OpenSpec.ofChange Rows.headerChainsSpec) own started (by kernel_rfl) Tryd.func5
    (witness_row_at (enc := enc) (C := Tryd.checked) false (laidWorld os) #[.agg #[.int .u64 0, Str [], .int .i64 0, .int .i64 0, Str []], .agg #[.int .u64 0, Str [], .int .i64 0, .int .i64 0, Str []], .int .u8 0] rfl (by kernel_rfl) (by kernel_rfl) (by kernel_rfl)
      (OpenSpec.preRow_of_cond 8 hx (by kernel_rfl) (fun k hk => by cases hk) (by kernel_rfl) (headerChains_met os))) ?_
  intro W base args ds gs before hval hW _ _ _ hL _ _
  exact headerChains_contract H enc W base args ds gs before hval hW hL
theorem headerChains_said : Rows.HeaderChainsSaid :=
  OpenClaim.holds_of_cond 5 Tryd.f5 rfl rfl rfl rfl rfl rfl rfl ⟨rfl, rfl, rfl, rfl, rfl⟩ rfl rfl rfl rfl rfl (by kernel_rfl) Tryd.func5 (by kernel_rfl)
    (of_decide_eq_true (by kernel_rfl)) (by unfold Func.isWrapper; first | (rw [if_pos (by decide +kernel)]; kernel_rfl) | (rw [if_neg (by decide +kernel)]; exact ⟨rfl, rfl⟩))
    (fun os started H enc _ F => by rw [OpenClaim.pre_eq_preRow]; exact headerChains_lifted os started H enc F)
theorem headerChains_plain (f : FuncId) (fn : Func) (hf : Tryd.pinned.checked.prog.funcNamed "plumbob/plumboblaw19.HeaderChains" = some f) (hfn : Tryd.pinned.checked.prog.funcs[f]? = some fn) :
    false = Tryd.pinned.checked.prog.looks [] ∧ ∀ (j : Nat) t, fn.params[j]? = some t → Tryd.pinned.checked.prog.wantsStandIn t = false := by
  obtain rfl : f = 5 := Option.some.inj ((show Tryd.prog.funcNamed "plumbob/plumboblaw19.HeaderChains" = some 5 by kernel_rfl).symm.trans hf) |>.symm
  obtain rfl : fn = Tryd.f5 := (Option.some.inj (Tryd.func5.symm.trans hfn)).symm
  refine ⟨by kernel_rfl, fun j t ht => ?_⟩
  rw [Tryd.params5] at ht
  have hall : ([55, 55, 5] : List TypeId).all (fun t => !Tryd.prog.wantsStandIn t) = true := by kernel_rfl
  have hm := Array.mem_of_getElem? ht
  have := List.all_eq_true.1 hall t (by simpa using hm)
  show Tryd.prog.wantsStandIn t = false
  simpa using this
theorem headerChains_card : Rows.HeaderChainsCardSaid :=
  Claim7.holds_tied_plain_at .later [] _ _ _ _ headerChains_said (fun _ h => by cases h) (by kernel_rfl) (fun _ h => by cases h) headerChains_row_tie rfl ⟨rfl, rfl⟩ (by kernel_rfl) rfl headerChains_plain (by kernel_rfl)
end Go.Proofs.YtlopnfgacopkbaaDoor
