/- A bag answers as the document says through any acts, and holds the letters that it should; for every list of acts. -/
import Derived.Test.YtadckkaepngloaaBag
import Derived.Test.YtadckkaepngloaaFwR
import Derived.Test.YtadckkaepngloaaRows
set_option linter.unusedSimpArgs false
set_option linter.unusedVariables false
namespace Go.Proofs.Ytadckkaepngloaa
open Go Go.Fw Go.ChangeShapes Go.WideShapes Go.ChangeAt Go.RowKit
set_option maxRecDepth 100000
set_option maxHeartbeats 1000000

theorem own : ownKnob Try.prog.godebug = none := by kernel_rfl
theorem placed : Placed Try.prog 63 := by unfold Placed; kernel_rfl
theorem bagPlays_contract (H : Type) (enc : TypeId × Value → H) (W : World) (base : Nat) (args : Array Value) (ds gs : List (DataW H)) (before : List MemPlace)
    (hval : ∀ (j : Nat) t v, Try.f3.params[j]? = some t → args[j]? = some v → Value.okWide Try.prog W .any base t v)
    (hW : DataW.Whole enc Try.prog Try.f3.params.toList Rows.bagPlaysSpec.vars false W args.toList ds gs before) (hL : laidMetH Try.prog Rows.bagPlaysRow.laid W) :
    Calls Try.prog 3 args W fun e W' => ∃ v, e = .returned v ∧ Rows.bagPlaysSpec.post enc Try.prog Try.f3 false true false false W args v W' := by
  have hW' := hW
  obtain ⟨p, q, hA, hV, _, _, _⟩ := hW
  rw [Try.params3] at hA hval
  obtain ⟨v0, vs0, d0, ds0, p0, q0, ha0, rfl, rfl, h0, r0⟩ := trodAll_cons hA
  obtain ⟨rfl, rfl, rfl⟩ := trodAll_nil r0
  obtain rfl : args = #[v0] := by cases args; simp_all
  obtain ⟨rfl, rfl⟩ := trodVars_none hV
  obtain ⟨A0, n0, c0, xs0, rfl, sl0, nn0, hx0⟩ := open_sl Try.underlying22 (by rw [show Try.prog.cellsOf 28 = 4 by kernel_rfl]; decide) (hval 0 22 v0 rfl rfl) h0
  obtain ⟨l0, rfl, ok0⟩ := acts27_of hx0
  rw [show Try.prog.cellsOf 28 = 4 by kernel_rfl] at sl0
  exact law_post (N := 63) placed (by kernel_rfl) rfl rfl Try.underlying4 rfl hW' (bagPlays_ct (hp W) A0 n0 c0 l0 sl0 ok0)
theorem bagPlays_met (os : Os) : laidMetH Try.prog Rows.bagPlaysRow.laid (((World.holding Try.prog os ⟨#[], #[], []⟩).forCall (fun _ _ => 0) ⟨#[], #[.slice none 0 0], []⟩).memory) := laidMet_nil _ _
theorem bagPlays_reads (os : Os) {H : Type} (enc : TypeId × Value → H) : ∃ places, DataW.whole enc Try.prog (((World.holding Try.prog os ⟨#[], #[], []⟩).forCall (fun _ _ => 0) ⟨#[], #[.slice none 0 0], []⟩).memory) Try.f3.params.toList Rows.bagPlaysSpec.vars false (#[.slice none 0 0] : Array Value).toList 8 = some ([.nil], [], places) :=
  ⟨[], by kernel_rfl⟩
theorem bagPlays_lifted (os : Os) (started : os.Started) (H : Type) (enc : TypeId × Value → H) (F : Stop.Interp) :
    ReturnsInHanded {} Try.checked os 3 .any ((OpenSpec.ofChange Rows.bagPlaysSpec).preRow enc Try.prog Try.f3 Rows.bagPlaysRow.domain false Rows.bagPlaysRow.laid) (((OpenSpec.ofChange Rows.bagPlaysSpec).at F).post enc Try.prog Try.f3 false true false false) := by
  obtain ⟨places, hx⟩ := bagPlays_reads os enc
  refine returnsInHanded_of_row (C := Try.checked) (s := OpenSpec.ofChange Rows.bagPlaysSpec) own started (by kernel_rfl) Try.func3
    (witness_row_at (enc := enc) (C := Try.checked) false (World.holding Try.prog os ⟨#[], #[], []⟩) #[.slice none 0 0] rfl (by kernel_rfl) (by kernel_rfl) (by kernel_rfl)
      (OpenSpec.preRow_of_cond 8 hx (by kernel_rfl) (fun k hk => by cases hk) (by kernel_rfl) (bagPlays_met os))) ?_
  intro W base args ds gs before hval hW _ _ _ hL _ _
  exact bagPlays_contract H enc W base args ds gs before hval hW hL
theorem bagPlays_said : Rows.BagPlaysSaid :=
  OpenClaim.holds_of_cond 3 Try.f3 rfl rfl rfl rfl rfl rfl rfl ⟨rfl, rfl, rfl, rfl, rfl⟩ rfl rfl rfl rfl rfl (by kernel_rfl) Try.func3 (by kernel_rfl)
    (of_decide_eq_true (by kernel_rfl)) (by unfold Func.isWrapper; first | (rw [if_pos (by decide +kernel)]; kernel_rfl) | (rw [if_neg (by decide +kernel)]; exact ⟨rfl, rfl⟩))
    (fun os started H enc _ F => by rw [OpenClaim.pre_eq_preRow]; exact bagPlays_lifted os started H enc F)
end Go.Proofs.Ytadckkaepngloaa
