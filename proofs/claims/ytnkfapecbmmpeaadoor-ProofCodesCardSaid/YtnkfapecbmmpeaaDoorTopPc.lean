/- Of any tree of up to twelve puts, a proof of any key as bytes, and back, is the proof; any bytes up to a hundred are no proof, or the bytes of the proof that they are read as. Tied to the program's laid variables by the card. -/
import Derived.Test.YtnkfapecbmmpeaaDoorPcd3
import Derived.Test.YtnkfapecbmmpeaaDoorFwR
import Derived.Test.YtnkfapecbmmpeaaDoorCards
import Derived.Test.YtnkfapecbmmpeaaDoorTie
set_option linter.unusedSimpArgs false
set_option linter.unusedVariables false
namespace Go.Proofs.YtnkfapecbmmpeaaDoor
open Go Go.Fw Go.ChangeShapes Go.WideShapes Go.ChangeAt Go.RowKit
set_option maxRecDepth 100000
set_option maxHeartbeats 1000000

theorem own : ownKnob Tryd.prog.godebug = none := by kernel_rfl
theorem placed : Placed Tryd.prog 295 := by unfold Placed; kernel_rfl
theorem gTab : Tryd.prog.globalNamed "plumbob/sha.constants" = some 1 := by kernel_rfl
theorem gTabType : (Tryd.prog.globals[1]?).map (·.type) = some 247 := by kernel_rfl
theorem cellsTab : Tryd.prog.cellsOf 247 = 64 := by kernel_rfl
theorem cellsWord : Tryd.prog.cellsOf 208 = 1 := by kernel_rfl
def kz : List Int := Sha.K.map fun x => (x.toNat : Int)
theorem constants_of {W : World} (h : laidMetH Tryd.prog [("plumbob/sha.constants", Lib.tabData .u32 kz)] W) : Cells (hp W) ⟨1, 0, none⟩ (Sha.K.map W32) := by
  have h2 := cells_of_tab gTab gTabType Tryd.underlying247 Tryd.underlying208 cellsWord cellsTab (rest := []) h
  have e : (kz.map fun z => Value.int .u32 z) = Sha.K.map W32 := by unfold kz; rw [List.map_map]; rfl
  rw [e] at h2; exact h2
noncomputable def laidWorld (os : Os) : World :=
  { World.holding Tryd.prog os ⟨#[], #[], []⟩ with heap := (World.holding Tryd.prog os ⟨#[], #[], []⟩).heap.modify 1 fun
      | .cells _ t frozen => .cells (Sha.K.map W32).toArray t frozen
      | o => o }
theorem proofCodes_laid : Rows.proofCodesRow.laid = [("plumbob/sha.constants", Lib.tabData .u32 kz)] := by rfl
theorem proofCodes_contract (H : Type) (enc : TypeId × Value → H) (W : World) (base : Nat) (args : Array Value) (ds gs : List (DataW H)) (before : List MemPlace)
    (hval : ∀ (j : Nat) t v, Tryd.f7.params[j]? = some t → args[j]? = some v → Value.okWide Tryd.prog W .any base t v)
    (hW : DataW.Whole enc Tryd.prog Tryd.f7.params.toList Rows.proofCodesSpec.vars false W args.toList ds gs before) (hL : laidMetH Tryd.prog Rows.proofCodesRow.laid W) :
    Calls Tryd.prog 7 args W fun e W' => ∃ v, e = .returned v ∧ Rows.proofCodesSpec.post enc Tryd.prog Tryd.f7 false true false false W args v W' := by
  have hW' := hW
  obtain ⟨p, q, hA, hV, _, _, _⟩ := hW
  rw [Tryd.params7] at hA hval
  obtain ⟨v0, vs0, d0, ds0, p0, q0, ha0, rfl, rfl, h0, r0⟩ := trodAll_cons hA
  obtain ⟨v1, vs1, d1, ds1, p1, q1, ha1, rfl, rfl, h1, r1⟩ := trodAll_cons r0
  obtain ⟨v2, vs2, d2, ds2, p2, q2, ha2, rfl, rfl, h2, r2⟩ := trodAll_cons r1
  obtain ⟨rfl, rfl, rfl⟩ := trodAll_nil r2
  obtain rfl : args = #[v0, v1, v2] := by cases args; simp_all
  obtain ⟨rfl, rfl⟩ := trodVars_none hV
  obtain ⟨A0, n0, c0, xs0, rfl, sl0, nn0, hx0⟩ := open_sl Tryd.underlying48 (by rw [show Tryd.prog.cellsOf 50 = 3 by kernel_rfl]; decide) (hval 0 48 v0 rfl rfl) h0
  obtain ⟨l0, rfl, ok0⟩ := putz_of hx0
  rw [show Tryd.prog.cellsOf 50 = 3 by kernel_rfl] at sl0
  obtain ⟨a1, rfl, la1⟩ := open_bytes Tryd.underlying87 Tryd.underlying5 (by kernel_rfl) (by kernel_rfl) (hval 1 87 v1 rfl rfl) h1
  obtain ⟨b0, b1, rfl⟩ : ∃ x y, a1 = [x, y] := by
    match a1, la1 with
    | [x, y], _ => exact ⟨x, y, rfl⟩
  obtain ⟨a2, rfl⟩ := open_str Tryd.underlying9 (hval 2 9 v2 rfl rfl) h2
  rw [proofCodes_laid] at hL
  exact law_post (N := 295) placed (by kernel_rfl) rfl rfl Tryd.underlying4 rfl hW' (proofCodes_ct (hp W) (constants_of hL) A0 n0 c0 l0 sl0 b0 b1 a2)
theorem proofCodes_met (os : Os) : laidMet Tryd.prog Rows.proofCodesRow.laid (((laidWorld os).forCall (fun _ _ => 0) ⟨#[], #[.slice none 0 0, .agg #[.int .u8 0, .int .u8 0], Str []], []⟩).memory) :=
  laidMet_of_run' 8 (by kernel_rfl) (by kernel_rfl)
theorem proofCodes_reads (os : Os) {H : Type} (enc : TypeId × Value → H) : ∃ places, DataW.whole enc Tryd.prog (((laidWorld os).forCall (fun _ _ => 0) ⟨#[], #[.slice none 0 0, .agg #[.int .u8 0, .int .u8 0], Str []], []⟩).memory) Tryd.f7.params.toList Rows.proofCodesSpec.vars false (#[.slice none 0 0, .agg #[.int .u8 0, .int .u8 0], Str []] : Array Value).toList 8 = some ([.nil, .agg [.lit (.int .u8 0), .lit (.int .u8 0)], .lit (.string [])], [], places) :=
  ⟨[], by kernel_rfl⟩
theorem proofCodes_lifted (os : Os) (started : os.Started) (H : Type) (enc : TypeId × Value → H) (F : Stop.Interp) :
    ReturnsInHanded {} Tryd.checked os 7 .any ((OpenSpec.ofChange Rows.proofCodesSpec).preRow enc Tryd.prog Tryd.f7 Rows.proofCodesRow.domain false Rows.proofCodesRow.laid) (((OpenSpec.ofChange Rows.proofCodesSpec).at F).post enc Tryd.prog Tryd.f7 false true false false) := by
  obtain ⟨places, hx⟩ := proofCodes_reads os enc
  refine returnsInHanded_of_row (C := Tryd.checked) (s := OpenSpec.ofChange Rows.proofCodesSpec) own started (by kernel_rfl) Tryd.func7
    (witness_row_at (enc := enc) (C := Tryd.checked) false (laidWorld os) #[.slice none 0 0, .agg #[.int .u8 0, .int .u8 0], Str []] rfl (by kernel_rfl) (by kernel_rfl) (by kernel_rfl)
      (OpenSpec.preRow_of_cond 8 hx (by kernel_rfl) (fun k hk => by cases hk) (by kernel_rfl) (proofCodes_met os))) ?_
  intro W base args ds gs before hval hW _ _ _ hL _ _
  exact proofCodes_contract H enc W base args ds gs before hval hW hL
theorem proofCodes_said : Rows.ProofCodesSaid :=
  OpenClaim.holds_of_cond 7 Tryd.f7 rfl rfl rfl rfl rfl rfl rfl ⟨rfl, rfl, rfl, rfl, rfl⟩ rfl rfl rfl rfl rfl (by kernel_rfl) Tryd.func7 (by kernel_rfl)
    (of_decide_eq_true (by kernel_rfl)) (by unfold Func.isWrapper; first | (rw [if_pos (by decide +kernel)]; kernel_rfl) | (rw [if_neg (by decide +kernel)]; exact ⟨rfl, rfl⟩))
    (fun os started H enc _ F => by rw [OpenClaim.pre_eq_preRow]; exact proofCodes_lifted os started H enc F)
theorem proofCodes_plain (f : FuncId) (fn : Func) (hf : Tryd.pinned.checked.prog.funcNamed "plumbob/plumboblaw14.ProofCodes" = some f) (hfn : Tryd.pinned.checked.prog.funcs[f]? = some fn) :
    false = Tryd.pinned.checked.prog.looks [] ∧ ∀ (j : Nat) t, fn.params[j]? = some t → Tryd.pinned.checked.prog.wantsStandIn t = false := by
  obtain rfl : f = 7 := Option.some.inj ((show Tryd.prog.funcNamed "plumbob/plumboblaw14.ProofCodes" = some 7 by kernel_rfl).symm.trans hf) |>.symm
  obtain rfl : fn = Tryd.f7 := (Option.some.inj (Tryd.func7.symm.trans hfn)).symm
  refine ⟨by kernel_rfl, fun j t ht => ?_⟩
  rw [Tryd.params7] at ht
  have hall : ([48, 87, 9] : List TypeId).all (fun t => !Tryd.prog.wantsStandIn t) = true := by kernel_rfl
  have hm := Array.mem_of_getElem? ht
  have := List.all_eq_true.1 hall t (by simpa using hm)
  show Tryd.prog.wantsStandIn t = false
  simpa using this
theorem proofCodes_card : Rows.ProofCodesCardSaid :=
  Claim7.holds_tied_plain_at .later [] _ _ _ _ proofCodes_said (fun _ h => by cases h) (by kernel_rfl) (fun _ h => by cases h) proofCodes_row_tie rfl ⟨rfl, rfl⟩ (by kernel_rfl) rfl proofCodes_plain (by kernel_rfl)
end Go.Proofs.YtnkfapecbmmpeaaDoor
