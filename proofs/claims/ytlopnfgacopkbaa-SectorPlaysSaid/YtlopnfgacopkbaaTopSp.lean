/- SectorPlays returns true for every input: for every run of writings, readings, syncs, fuses, cuts, starts and copies the disk says what the law reckons. -/
import Derived.Test.YtlopnfgacopkbaaSpl
import Derived.Test.YtlopnfgacopkbaaFwR
import Derived.Test.YtlopnfgacopkbaaRows
set_option linter.unusedSimpArgs false
set_option linter.unusedVariables false
namespace Go.Proofs.Ytlopnfgacopkbaa
open Go Go.Fw Go.ChangeShapes Go.WideShapes Go.ChangeAt Go.RowKit
set_option maxRecDepth 100000
set_option maxHeartbeats 1000000

theorem own : ownKnob Try.prog.godebug = none := by kernel_rfl
theorem placed : Placed Try.prog 100 := by unfold Placed; kernel_rfl
theorem sectorPlays_contract (H : Type) (enc : TypeId × Value → H) (W : World) (base : Nat) (args : Array Value) (ds gs : List (DataW H)) (before : List MemPlace)
    (hval : ∀ (j : Nat) t v, Try.f4.params[j]? = some t → args[j]? = some v → Value.okWide Try.prog W .any base t v)
    (hW : DataW.Whole enc Try.prog Try.f4.params.toList Rows.sectorPlaysSpec.vars false W args.toList ds gs before) (hL : laidMetH Try.prog Rows.sectorPlaysRow.laid W) (hz : (DataW.weightsEach Try.prog (Try.f4.params.toList ++ (OpenSpec.ofChange Rows.sectorPlaysSpec).bare.plain.varTypes Try.prog) (ds ++ gs)).all (· ≤ reachBytes) = true) :
    Calls Try.prog 4 args W fun e W' => ∃ v, e = .returned v ∧ Rows.sectorPlaysSpec.post enc Try.prog Try.f4 false true false false W args v W' := by
  have hW' := hW
  obtain ⟨p, q, hA, hV, _, _, _⟩ := hW
  rw [Try.params4] at hA hval
  obtain ⟨v0, vs0, d0, ds0, p0, q0, ha0, rfl, rfl, h0, r0⟩ := trodAll_cons hA
  obtain ⟨rfl, rfl, rfl⟩ := trodAll_nil r0
  obtain rfl : args = #[v0] := by cases args; simp_all
  obtain ⟨rfl, rfl⟩ := trodVars_none hV
  have hw0 : ∀ n ∈ d0.weights Try.prog 22, n ≤ reachBytes := fun n hn => by
    have := List.all_eq_true.1 hz _ (DataW.weights_mem_each (j := 0) (t := 22) (d := d0) (by kernel_rfl) rfl n hn)
    simpa using this
  obtain ⟨A0', n0', c0', rfl⟩ := okWide_slice Try.underlying22 (hval 0 22 v0 rfl rfl)
  obtain ⟨fuel0, hf0⟩ := h0
  obtain ⟨A0, n0, c0, xs0, hv0, sl0, nn0, _, hx0⟩ := sl_ofW (x := .slice A0' n0' c0') Try.underlying22 (by rw [show Try.prog.cellsOf 32 = 5 by kernel_rfl]; decide) hf0 hw0
  rw [hv0] at hW' ⊢
  obtain ⟨l0, rfl, ok0⟩ := acts9_ofW hx0
  rw [show Try.prog.cellsOf 32 = 5 by kernel_rfl] at sl0
  have hn0 : l0.length = n0 := by have := sl0.1; rw [actsV, List.length_map] at this; exact this
  subst hn0
  exact law_post (N := 100) placed (by kernel_rfl) rfl rfl Try.underlying4 rfl hW' (sectorPlays_ct (hp W) A0 c0 l0 sl0 ok0 nn0)
theorem sectorPlays_met (os : Os) : laidMetH Try.prog Rows.sectorPlaysRow.laid (((World.holding Try.prog os ⟨#[], #[], []⟩).forCall (fun _ _ => 0) ⟨#[], #[.slice none 0 0], []⟩).memory) := laidMet_nil _ _
theorem sectorPlays_reads (os : Os) {H : Type} (enc : TypeId × Value → H) : ∃ places, DataW.whole enc Try.prog (((World.holding Try.prog os ⟨#[], #[], []⟩).forCall (fun _ _ => 0) ⟨#[], #[.slice none 0 0], []⟩).memory) Try.f4.params.toList Rows.sectorPlaysSpec.vars false (#[.slice none 0 0] : Array Value).toList 8 = some ([.nil], [], places) :=
  ⟨[], by kernel_rfl⟩
theorem sectorPlays_lifted (os : Os) (started : os.Started) (H : Type) (enc : TypeId × Value → H) (F : Stop.Interp) :
    ReturnsInHanded {} Try.checked os 4 .any ((OpenSpec.ofChange Rows.sectorPlaysSpec).preRow enc Try.prog Try.f4 Rows.sectorPlaysRow.domain false Rows.sectorPlaysRow.laid) (((OpenSpec.ofChange Rows.sectorPlaysSpec).at F).post enc Try.prog Try.f4 false true false false) := by
  obtain ⟨places, hx⟩ := sectorPlays_reads os enc
  refine returnsInHanded_of_row (C := Try.checked) (s := OpenSpec.ofChange Rows.sectorPlaysSpec) own started (by kernel_rfl) Try.func4
    (witness_row_at (enc := enc) (C := Try.checked) false (World.holding Try.prog os ⟨#[], #[], []⟩) #[.slice none 0 0] rfl (by kernel_rfl) (by kernel_rfl) (by kernel_rfl)
      (OpenSpec.preRow_of_cond 8 hx (by kernel_rfl) (fun k hk => by cases hk) (by kernel_rfl) (sectorPlays_met os))) ?_
  intro W base args ds gs before hval hW _ _ hz hL _ _
  exact sectorPlays_contract H enc W base args ds gs before hval hW hL hz
theorem sectorPlays_said : Rows.SectorPlaysSaid :=
  OpenClaim.holds_of_cond 4 Try.f4 rfl rfl rfl rfl rfl rfl rfl ⟨rfl, rfl, rfl, rfl, rfl⟩ rfl rfl rfl rfl rfl (by kernel_rfl) Try.func4 (by kernel_rfl)
    (of_decide_eq_true (by kernel_rfl)) (by unfold Func.isWrapper; first | (rw [if_pos (by decide +kernel)]; kernel_rfl) | (rw [if_neg (by decide +kernel)]; exact ⟨rfl, rfl⟩))
    (fun os started H enc _ F => by rw [OpenClaim.pre_eq_preRow]; exact sectorPlays_lifted os started H enc F)
end Go.Proofs.Ytlopnfgacopkbaa
