/- The walks of the signer's law joined with the rows and the cards of this seat: SignerOpens is true for every input. -/
import Derived.Test.YtnkfapecbmmpeaaDoorSgn4
import Derived.Test.YtnkfapecbmmpeaaDoorFwR
import Derived.Test.YtnkfapecbmmpeaaDoorCards
import Derived.Test.YtnkfapecbmmpeaaDoorTie
set_option linter.unusedSimpArgs false
set_option linter.unusedVariables false
namespace Go.Proofs.YtnkfapecbmmpeaaDoor
open Go Go.Fw Go.ChangeShapes Go.WideShapes Go.ChangeAt Go.RowKit
set_option maxRecDepth 100000
set_option maxHeartbeats 1000000

theorem own : ownKnob Tryd.prog.godebug = none := by kernel_rfl
theorem placed : Placed Tryd.prog 295 := by unfold Placed; kernel_rfl
theorem gTab : Tryd.prog.globalNamed "plumbob/sha.constants" = some 1 := by kernel_rfl
theorem gTabType : (Tryd.prog.globals[1]?).map (·.type) = some 247 := by kernel_rfl
theorem cellsTab : Tryd.prog.cellsOf 247 = 64 := by kernel_rfl
theorem cellsWord : Tryd.prog.cellsOf 208 = 1 := by kernel_rfl
def kz : List Int := Sha.K.map fun x => (x.toNat : Int)
theorem constants_of {W : World} (h : laidMetH Tryd.prog [("plumbob/sha.constants", Lib.tabData .u32 kz)] W) : Cells (hp W) ⟨1, 0, none⟩ (Sha.K.map W32) := by
  have h2 := cells_of_tab gTab gTabType Tryd.underlying247 Tryd.underlying208 cellsWord cellsTab (rest := []) h
  have e : (kz.map fun z => Value.int .u32 z) = Sha.K.map W32 := by unfold kz; rw [List.map_map]; rfl
  rw [e] at h2; exact h2
noncomputable def laidWorld (os : Os) : World :=
  { World.holding Tryd.prog os ⟨#[], #[], []⟩ with heap := (World.holding Tryd.prog os ⟨#[], #[], []⟩).heap.modify 1 fun
      | .cells _ t frozen => .cells (Sha.K.map W32).toArray t frozen
      | o => o }
theorem signerOpens_laid : Rows.signerOpensRow.laid = [("plumbob/sha.constants", Lib.tabData .u32 kz)] := by rfl
theorem signerOpens_contract (H : Type) (enc : TypeId × Value → H) (W : World) (base : Nat) (args : Array Value) (ds gs : List (DataW H)) (before : List MemPlace)
    (hval : ∀ (j : Nat) t v, Tryd.f5.params[j]? = some t → args[j]? = some v → Value.okWide Tryd.prog W .any base t v)
    (hW : DataW.Whole enc Tryd.prog Tryd.f5.params.toList Rows.signerOpensSpec.vars false W args.toList ds gs before) (hL : laidMetH Tryd.prog Rows.signerOpensRow.laid W) :
    Calls Tryd.prog 5 args W fun e W' => ∃ v, e = .returned v ∧ Rows.signerOpensSpec.post enc Tryd.prog Tryd.f5 false true false false W args v W' := by
  have hW' := hW
  obtain ⟨p, q, hA, hV, _, _, _⟩ := hW
  rw [Tryd.params5] at hA hval
  obtain ⟨v0, vs0, d0, ds0, p0, q0, ha0, rfl, rfl, h0, r0⟩ := trodAll_cons hA
  obtain ⟨v1, vs1, d1, ds1, p1, q1, ha1, rfl, rfl, h1, r1⟩ := trodAll_cons r0
  obtain ⟨rfl, rfl, rfl⟩ := trodAll_nil r1
  obtain rfl : args = #[v0, v1] := by cases args; simp_all
  obtain ⟨rfl, rfl⟩ := trodVars_none hV
  obtain ⟨a0, rfl⟩ := open_str Tryd.underlying9 (hval 0 9 v0 rfl rfl) h0
  obtain ⟨a1, rfl, lo1, hi1⟩ := open_i64 Tryd.underlying3 (hval 1 3 v1 rfl rfl) h1
  rw [signerOpens_laid] at hL
  exact law_post (N := 295) placed (by kernel_rfl) rfl rfl Tryd.underlying4 rfl hW' (signerOpens_ct (hp W) (constants_of hL) a0 a1)
theorem signerOpens_met (os : Os) : laidMet Tryd.prog Rows.signerOpensRow.laid (((laidWorld os).forCall (fun _ _ => 0) ⟨#[], #[Str [], .int .i64 0], []⟩).memory) :=
  laidMet_of_run' 8 (by kernel_rfl) (by kernel_rfl)
theorem signerOpens_reads (os : Os) {H : Type} (enc : TypeId × Value → H) : ∃ places, DataW.whole enc Tryd.prog (((laidWorld os).forCall (fun _ _ => 0) ⟨#[], #[Str [], .int .i64 0], []⟩).memory) Tryd.f5.params.toList Rows.signerOpensSpec.vars false (#[Str [], .int .i64 0] : Array Value).toList 8 = some ([.lit (.string []), .lit (.int .i64 0)], [], places) :=
  ⟨[], by kernel_rfl⟩
theorem signerOpens_lifted (os : Os) (started : os.Started) (H : Type) (enc : TypeId × Value → H) (F : Stop.Interp) :
    ReturnsInHanded {} Tryd.checked os 5 .any ((OpenSpec.ofChange Rows.signerOpensSpec).preRow enc Tryd.prog Tryd.f5 Rows.signerOpensRow.domain false Rows.signerOpensRow.laid) (((OpenSpec.ofChange Rows.signerOpensSpec).at F).post enc Tryd.prog Tryd.f5 false true false false) := by
  obtain ⟨places, hx⟩ := signerOpens_reads os enc
  refine returnsInHanded_of_row (C := Tryd.checked) (s := OpenSpec.ofChange Rows.signerOpensSpec) own started (by kernel_rfl) Tryd.func5
    (witness_row_at (enc := enc) (C := Tryd.checked) false (laidWorld os) #[Str [], .int .i64 0] rfl (by kernel_rfl) (by kernel_rfl) (by kernel_rfl)
      (OpenSpec.preRow_of_cond 8 hx (by kernel_rfl) (fun k hk => by cases hk) (by kernel_rfl) (signerOpens_met os))) ?_
  intro W base args ds gs before hval hW _ _ _ hL _ _
  exact signerOpens_contract H enc W base args ds gs before hval hW hL
theorem signerOpens_said : Rows.SignerOpensSaid :=
  OpenClaim.holds_of_cond 5 Tryd.f5 rfl rfl rfl rfl rfl rfl rfl ⟨rfl, rfl, rfl, rfl, rfl⟩ rfl rfl rfl rfl rfl (by kernel_rfl) Tryd.func5 (by kernel_rfl)
    (of_decide_eq_true (by kernel_rfl)) (by unfold Func.isWrapper; first | (rw [if_pos (by decide +kernel)]; kernel_rfl) | (rw [if_neg (by decide +kernel)]; exact ⟨rfl, rfl⟩))
    (fun os started H enc _ F => by rw [OpenClaim.pre_eq_preRow]; exact signerOpens_lifted os started H enc F)
theorem signerOpens_plain (f : FuncId) (fn : Func) (hf : Tryd.pinned.checked.prog.funcNamed "plumbob/plumboblaw11.SignerOpens" = some f) (hfn : Tryd.pinned.checked.prog.funcs[f]? = some fn) :
    false = Tryd.pinned.checked.prog.looks [] ∧ ∀ (j : Nat) t, fn.params[j]? = some t → Tryd.pinned.checked.prog.wantsStandIn t = false := by
  obtain rfl : f = 5 := Option.some.inj ((show Tryd.prog.funcNamed "plumbob/plumboblaw11.SignerOpens" = some 5 by kernel_rfl).symm.trans hf) |>.symm
  obtain rfl : fn = Tryd.f5 := (Option.some.inj (Tryd.func5.symm.trans hfn)).symm
  refine ⟨by kernel_rfl, fun j t ht => ?_⟩
  rw [Tryd.params5] at ht
  have hall : ([9, 3] : List TypeId).all (fun t => !Tryd.prog.wantsStandIn t) = true := by kernel_rfl
  have hm := Array.mem_of_getElem? ht
  have := List.all_eq_true.1 hall t (by simpa using hm)
  show Tryd.prog.wantsStandIn t = false
  simpa using this
theorem signerOpens_card : Rows.SignerOpensCardSaid :=
  Claim7.holds_tied_plain_at .later [] _ _ _ _ signerOpens_said (fun _ h => by cases h) (by kernel_rfl) (fun _ h => by cases h) signerOpens_row_tie rfl ⟨rfl, rfl⟩ (by kernel_rfl) rfl signerOpens_plain (by kernel_rfl)
end Go.Proofs.YtnkfapecbmmpeaaDoor
