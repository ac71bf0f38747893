/- SectorKeeps returns true for every input: what is synced stays over a power failure, and of each byte of what waits either the old or one that was written. -/
import Derived.Test.YtlopnfgacopkbaaSck
import Derived.Test.YtlopnfgacopkbaaFwR
import Derived.Test.YtlopnfgacopkbaaRows
set_option linter.unusedSimpArgs false
set_option linter.unusedVariables false
namespace Go.Proofs.Ytlopnfgacopkbaa
open Go Go.Fw Go.ChangeShapes Go.WideShapes Go.ChangeAt Go.RowKit
set_option maxRecDepth 100000
set_option maxHeartbeats 1000000

theorem own : ownKnob Try.prog.godebug = none := by kernel_rfl
theorem placed : Placed Try.prog 100 := by unfold Placed; kernel_rfl
theorem sectorKeeps_contract (H : Type) (enc : TypeId × Value → H) (W : World) (base : Nat) (args : Array Value) (ds gs : List (DataW H)) (before : List MemPlace)
    (hval : ∀ (j : Nat) t v, Try.f3.params[j]? = some t → args[j]? = some v → Value.okWide Try.prog W .any base t v)
    (hW : DataW.Whole enc Try.prog Try.f3.params.toList Rows.sectorKeepsSpec.vars false W args.toList ds gs before) (hL : laidMetH Try.prog Rows.sectorKeepsRow.laid W) :
    Calls Try.prog 3 args W fun e W' => ∃ v, e = .returned v ∧ Rows.sectorKeepsSpec.post enc Try.prog Try.f3 false true false false W args v W' := by
  have hW' := hW
  obtain ⟨p, q, hA, hV, _, _, _⟩ := hW
  rw [Try.params3] at hA hval
  obtain ⟨v0, vs0, d0, ds0, p0, q0, ha0, rfl, rfl, h0, r0⟩ := trodAll_cons hA
  obtain ⟨v1, vs1, d1, ds1, p1, q1, ha1, rfl, rfl, h1, r1⟩ := trodAll_cons r0
  obtain ⟨v2, vs2, d2, ds2, p2, q2, ha2, rfl, rfl, h2, r2⟩ := trodAll_cons r1
  obtain ⟨rfl, rfl, rfl⟩ := trodAll_nil r2
  obtain rfl : args = #[v0, v1, v2] := by cases args; simp_all
  obtain ⟨rfl, rfl⟩ := trodVars_none hV
  obtain ⟨A0, n0, c0, xs0, rfl, sl0, nn0, hx0⟩ := open_sl Try.underlying22 (by rw [show Try.prog.cellsOf 32 = 5 by kernel_rfl]; decide) (hval 0 22 v0 rfl rfl) h0
  obtain ⟨l0, rfl, ok0⟩ := acts9_of hx0
  rw [show Try.prog.cellsOf 32 = 5 by kernel_rfl] at sl0
  have hn0 : l0.length = n0 := by have := sl0.1; rw [actsV, List.length_map] at this; exact this
  subst hn0
  obtain ⟨A1, n1, c1, xs1, rfl, sl1, nn1, hx1⟩ := open_sl Try.underlying22 (by rw [show Try.prog.cellsOf 32 = 5 by kernel_rfl]; decide) (hval 1 22 v1 rfl rfl) h1
  obtain ⟨l1, rfl, ok1⟩ := acts9_of hx1
  rw [show Try.prog.cellsOf 32 = 5 by kernel_rfl] at sl1
  have hn1 : l1.length = n1 := by have := sl1.1; rw [actsV, List.length_map] at this; exact this
  subst hn1
  obtain ⟨A2, n2, c2, xs2, rfl, sl2, nn2, hx2⟩ := open_sl Try.underlying23 (by rw [show Try.prog.cellsOf 5 = 1 by kernel_rfl]; decide) (hval 2 23 v2 rfl rfl) h2
  obtain ⟨l2, rfl⟩ := bytes_of Try.underlying5 (by kernel_rfl) (fun x hx => ⟨by have := sl_rows sl2 x hx; rw [show Try.prog.cellsOf 5 = 1 by kernel_rfl] at this; exact this, hx2 x hx⟩)
  rw [show Try.prog.cellsOf 5 = 1 by kernel_rfl] at sl2
  have hn2 : l2.length = n2 := by have := sl2.1; rw [bytesV, List.length_map] at this; exact this
  subst hn2
  exact law_post (N := 100) placed (by kernel_rfl) rfl rfl Try.underlying4 rfl hW' (sectorKeeps_ct (hp W) A0 c0 l0 sl0 A1 c1 l1 sl1 A2 c2 l2 sl2 nn2 nn0 nn1)
theorem sectorKeeps_met (os : Os) : laidMetH Try.prog Rows.sectorKeepsRow.laid (((World.holding Try.prog os ⟨#[], #[], []⟩).forCall (fun _ _ => 0) ⟨#[], #[.slice none 0 0, .slice none 0 0, .slice none 0 0], []⟩).memory) := laidMet_nil _ _
theorem sectorKeeps_reads (os : Os) {H : Type} (enc : TypeId × Value → H) : ∃ places, DataW.whole enc Try.prog (((World.holding Try.prog os ⟨#[], #[], []⟩).forCall (fun _ _ => 0) ⟨#[], #[.slice none 0 0, .slice none 0 0, .slice none 0 0], []⟩).memory) Try.f3.params.toList Rows.sectorKeepsSpec.vars false (#[.slice none 0 0, .slice none 0 0, .slice none 0 0] : Array Value).toList 8 = some ([.nil, .nil, .nil], [], places) :=
  ⟨[], by kernel_rfl⟩
theorem sectorKeeps_lifted (os : Os) (started : os.Started) (H : Type) (enc : TypeId × Value → H) (F : Stop.Interp) :
    ReturnsInHanded {} Try.checked os 3 .any ((OpenSpec.ofChange Rows.sectorKeepsSpec).preRow enc Try.prog Try.f3 Rows.sectorKeepsRow.domain false Rows.sectorKeepsRow.laid) (((OpenSpec.ofChange Rows.sectorKeepsSpec).at F).post enc Try.prog Try.f3 false true false false) := by
  obtain ⟨places, hx⟩ := sectorKeeps_reads os enc
  refine returnsInHanded_of_row (C := Try.checked) (s := OpenSpec.ofChange Rows.sectorKeepsSpec) own started (by kernel_rfl) Try.func3
    (witness_row_at (enc := enc) (C := Try.checked) false (World.holding Try.prog os ⟨#[], #[], []⟩) #[.slice none 0 0, .slice none 0 0, .slice none 0 0] rfl (by kernel_rfl) (by kernel_rfl) (by kernel_rfl)
      (OpenSpec.preRow_of_cond 8 hx (by kernel_rfl) (fun k hk => by cases hk) (by kernel_rfl) (sectorKeeps_met os))) ?_
  intro W base args ds gs before hval hW _ _ _ hL _ _
  exact sectorKeeps_contract H enc W base args ds gs before hval hW hL
theorem sectorKeeps_said : Rows.SectorKeepsSaid :=
  OpenClaim.holds_of_cond 3 Try.f3 rfl rfl rfl rfl rfl rfl rfl ⟨rfl, rfl, rfl, rfl, rfl⟩ rfl rfl rfl rfl rfl (by kernel_rfl) Try.func3 (by kernel_rfl)
    (of_decide_eq_true (by kernel_rfl)) (by unfold Func.isWrapper; first | (rw [if_pos (by decide +kernel)]; kernel_rfl) | (rw [if_neg (by decide +kernel)]; exact ⟨rfl, rfl⟩))
    (fun os started H enc _ F => by rw [OpenClaim.pre_eq_preRow]; exact sectorKeeps_lifted os started H enc F)
end Go.Proofs.Ytlopnfgacopkbaa
