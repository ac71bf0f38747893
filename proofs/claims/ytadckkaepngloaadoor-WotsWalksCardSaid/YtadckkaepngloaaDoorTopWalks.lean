/- Any walk along a chain is the one of the document, step by step, and so is an open seed; for all arguments. -/
import Derived.Test.YtadckkaepngloaaDoorWots
import Derived.Test.YtadckkaepngloaaDoorFwR
import Derived.Test.YtadckkaepngloaaDoorCards
import Derived.Test.YtadckkaepngloaaDoorTie
set_option linter.unusedSimpArgs false
set_option linter.unusedVariables false
namespace Go.Proofs.YtadckkaepngloaaDoor
open Go Go.Fw Go.ChangeShapes Go.WideShapes Go.ChangeAt Go.RowKit
set_option maxRecDepth 100000
set_option maxHeartbeats 1000000

theorem own : ownKnob Tryd.prog.godebug = none := by kernel_rfl
theorem placed : Placed Tryd.prog 131 := by unfold Placed; kernel_rfl
theorem gTab : Tryd.prog.globalNamed "plumbob/sha.constants" = some 0 := by kernel_rfl
theorem gTabType : (Tryd.prog.globals[0]?).map (·.type) = some 108 := by kernel_rfl
theorem cellsTab : Tryd.prog.cellsOf 108 = 64 := by kernel_rfl
theorem cellsWord : Tryd.prog.cellsOf 80 = 1 := by kernel_rfl
def kz : List Int := Sha.K.map fun x => (x.toNat : Int)
theorem constants_of {W : World} (h : laidMetH Tryd.prog [("plumbob/sha.constants", Lib.tabData .u32 kz)] W) : Cells (hp W) ⟨0, 0, none⟩ (Sha.K.map W32) := by
  have h2 := cells_of_tab gTab gTabType Tryd.underlying108 Tryd.underlying80 cellsWord cellsTab (rest := []) h
  have e : (kz.map fun z => Value.int .u32 z) = Sha.K.map W32 := by unfold kz; rw [List.map_map]; rfl
  rw [e] at h2; exact h2
noncomputable def laidWorld (os : Os) : World :=
  { World.holding Tryd.prog os ⟨#[], #[], []⟩ with heap := (World.holding Tryd.prog os ⟨#[], #[], []⟩).heap.modify 0 fun
      | .cells _ t frozen => .cells (Sha.K.map W32).toArray t frozen
      | o => o }
theorem wotsWalks_laid : Rows.wotsWalksRow.laid = [("plumbob/sha.constants", Lib.tabData .u32 kz)] := by rfl
theorem wotsWalks_contract (H : Type) (enc : TypeId × Value → H) (W : World) (base : Nat) (args : Array Value) (ds gs : List (DataW H)) (before : List MemPlace)
    (hval : ∀ (j : Nat) t v, Tryd.f12.params[j]? = some t → args[j]? = some v → Value.okWide Tryd.prog W .any base t v)
    (hW : DataW.Whole enc Tryd.prog Tryd.f12.params.toList Rows.wotsWalksSpec.vars false W args.toList ds gs before) (hL : laidMetH Tryd.prog Rows.wotsWalksRow.laid W) :
    Calls Tryd.prog 12 args W fun e W' => ∃ v, e = .returned v ∧ Rows.wotsWalksSpec.post enc Tryd.prog Tryd.f12 false true false false W args v W' := by
  have hW' := hW
  obtain ⟨p, q, hA, hV, _, _, _⟩ := hW
  rw [Tryd.params12] at hA hval
  obtain ⟨v0, vs0, d0, ds0, p0, q0, ha0, rfl, rfl, h0, r0⟩ := trodAll_cons hA
  obtain ⟨v1, vs1, d1, ds1, p1, q1, ha1, rfl, rfl, h1, r1⟩ := trodAll_cons r0
  obtain ⟨v2, vs2, d2, ds2, p2, q2, ha2, rfl, rfl, h2, r2⟩ := trodAll_cons r1
  obtain ⟨rfl, rfl, rfl⟩ := trodAll_nil r2
  obtain rfl : args = #[v0, v1, v2] := by cases args; simp_all
  obtain ⟨rfl, rfl⟩ := trodVars_none hV
  obtain ⟨a0, rfl⟩ := open_str Tryd.underlying9 (hval 0 9 v0 rfl rfl) h0
  obtain ⟨a1, rfl⟩ := open_str Tryd.underlying9 (hval 1 9 v1 rfl rfl) h1
  obtain ⟨l2, rfl, ll2, lb2⟩ := open_i8s Tryd.underlying65 Tryd.underlying64 (by kernel_rfl) (by kernel_rfl) (hval 2 65 v2 rfl rfl) h2
  obtain ⟨a2_0, a2_1, a2_2, a2_3, rfl⟩ : ∃ y0 y1 y2 y3, l2 = [y0, y1, y2, y3] := by
    match l2, ll2 with
    | [a2_0, a2_1, a2_2, a2_3], _ => exact ⟨a2_0, a2_1, a2_2, a2_3, rfl⟩
  rw [wotsWalks_laid] at hL
  exact law_post (N := 131) placed (by kernel_rfl) rfl rfl Tryd.underlying4 rfl hW' (walks_ct (hp W) (constants_of hL) a0 a1 a2_0 a2_1 a2_2 a2_3 (lb2 _ (by simp)) (lb2 _ (by simp)) (lb2 _ (by simp)) (lb2 _ (by simp)))
theorem wotsWalks_met (os : Os) : laidMet Tryd.prog Rows.wotsWalksRow.laid (((laidWorld os).forCall (fun _ _ => 0) ⟨#[], #[Str [], Str [], .agg #[.int .i8 0, .int .i8 0, .int .i8 0, .int .i8 0]], []⟩).memory) :=
  laidMet_of_run' 8 (by kernel_rfl) (by kernel_rfl)
theorem wotsWalks_reads (os : Os) {H : Type} (enc : TypeId × Value → H) : ∃ places, DataW.whole enc Tryd.prog (((laidWorld os).forCall (fun _ _ => 0) ⟨#[], #[Str [], Str [], .agg #[.int .i8 0, .int .i8 0, .int .i8 0, .int .i8 0]], []⟩).memory) Tryd.f12.params.toList Rows.wotsWalksSpec.vars false (#[Str [], Str [], .agg #[.int .i8 0, .int .i8 0, .int .i8 0, .int .i8 0]] : Array Value).toList 8 = some ([.lit (.string []), .lit (.string []), .agg [.lit (.int .i8 0), .lit (.int .i8 0), .lit (.int .i8 0), .lit (.int .i8 0)]], [], places) :=
  ⟨[], by kernel_rfl⟩
theorem wotsWalks_lifted (os : Os) (started : os.Started) (H : Type) (enc : TypeId × Value → H) (F : Stop.Interp) :
    ReturnsInHanded {} Tryd.checked os 12 .any ((OpenSpec.ofChange Rows.wotsWalksSpec).preRow enc Tryd.prog Tryd.f12 Rows.wotsWalksRow.domain false Rows.wotsWalksRow.laid) (((OpenSpec.ofChange Rows.wotsWalksSpec).at F).post enc Tryd.prog Tryd.f12 false true false false) := by
  obtain ⟨places, hx⟩ := wotsWalks_reads os enc
  refine returnsInHanded_of_row (C := Tryd.checked) (s := OpenSpec.ofChange Rows.wotsWalksSpec) own started (by kernel_rfl) Tryd.func12
    (witness_row_at (enc := enc) (C := Tryd.checked) false (laidWorld os) #[Str [], Str [], .agg #[.int .i8 0, .int .i8 0, .int .i8 0, .int .i8 0]] rfl (by kernel_rfl) (by kernel_rfl) (by kernel_rfl)
      (OpenSpec.preRow_of_cond 8 hx (by kernel_rfl) (fun k hk => by cases hk) (by kernel_rfl) (wotsWalks_met os))) ?_
  intro W base args ds gs before hval hW _ _ _ hL _ _
  exact wotsWalks_contract H enc W base args ds gs before hval hW hL
theorem wotsWalks_said : Rows.WotsWalksSaid :=
  OpenClaim.holds_of_cond 12 Tryd.f12 rfl rfl rfl rfl rfl rfl rfl ⟨rfl, rfl, rfl, rfl, rfl⟩ rfl rfl rfl rfl rfl (by kernel_rfl) Tryd.func12 (by kernel_rfl)
    (of_decide_eq_true (by kernel_rfl)) (by unfold Func.isWrapper; first | (rw [if_pos (by decide +kernel)]; kernel_rfl) | (rw [if_neg (by decide +kernel)]; exact ⟨rfl, rfl⟩))
    (fun os started H enc _ F => by rw [OpenClaim.pre_eq_preRow]; exact wotsWalks_lifted os started H enc F)
theorem wotsWalks_plain (f : FuncId) (fn : Func) (hf : Tryd.pinned.checked.prog.funcNamed "plumbob/plumboblaw06.WotsWalks" = some f) (hfn : Tryd.pinned.checked.prog.funcs[f]? = some fn) :
    false = Tryd.pinned.checked.prog.looks [] ∧ ∀ (j : Nat) t, fn.params[j]? = some t → Tryd.pinned.checked.prog.wantsStandIn t = false := by
  obtain rfl : f = 12 := Option.some.inj ((show Tryd.prog.funcNamed "plumbob/plumboblaw06.WotsWalks" = some 12 by kernel_rfl).symm.trans hf) |>.symm
  obtain rfl : fn = Tryd.f12 := (Option.some.inj (Tryd.func12.symm.trans hfn)).symm
  refine ⟨by kernel_rfl, fun j t ht => ?_⟩
  rw [Tryd.params12] at ht
  have hall : ([9, 9, 65] : List TypeId).all (fun t => !Tryd.prog.wantsStandIn t) = true := by kernel_rfl
  have hm := Array.mem_of_getElem? ht
  have := List.all_eq_true.1 hall t (by simpa using hm)
  show Tryd.prog.wantsStandIn t = false
  simpa using this
theorem wotsWalks_card : Rows.WotsWalksCardSaid :=
  Claim7.holds_tied_plain_at .later [] _ _ _ _ wotsWalks_said (fun _ h => by cases h) (by kernel_rfl) (fun _ h => by cases h) wotsWalks_row_tie rfl ⟨rfl, rfl⟩ (by kernel_rfl) rfl wotsWalks_plain (by kernel_rfl)
end Go.Proofs.YtadckkaepngloaaDoor
