/- BookAreas returns true for every input: which sectors a book may have; no book; what is said behind an error. -/
import Derived.Test.YtpcffgkmpmcobaaDoorBook2
import Derived.Test.YtpcffgkmpmcobaaDoorFwR
import Derived.Test.YtpcffgkmpmcobaaDoorCards
import Derived.Test.YtpcffgkmpmcobaaDoorTie
set_option linter.unusedSimpArgs false
set_option linter.unusedVariables false
namespace Go.Proofs.YtpcffgkmpmcobaaDoor
open Go Go.Fw Go.ChangeShapes Go.WideShapes Go.ChangeAt Go.RowKit
set_option maxRecDepth 100000
set_option maxHeartbeats 1000000

theorem own : ownKnob Tryd.prog.godebug = none := by kernel_rfl
theorem placed : Placed Tryd.prog 292 := by unfold Placed; kernel_rfl
theorem gTab : Tryd.prog.globalNamed "plumbob/sha.constants" = some 4 := by kernel_rfl
theorem gTabType : (Tryd.prog.globals[4]?).map (·.type) = some 263 := by kernel_rfl
theorem cellsTab : Tryd.prog.cellsOf 263 = 64 := by kernel_rfl
theorem cellsWord : Tryd.prog.cellsOf 217 = 1 := by kernel_rfl
def kz : List Int := Sha.K.map fun x => (x.toNat : Int)
theorem constants_of {W : World} (h : laidMetH Tryd.prog [("plumbob/sha.constants", Lib.tabData .u32 kz)] W) : Cells (hp W) ⟨4, 0, none⟩ (Sha.K.map W32) := by
  have h2 := cells_of_tab gTab gTabType Tryd.underlying263 Tryd.underlying217 cellsWord cellsTab (rest := []) h
  have e : (kz.map fun z => Value.int .u32 z) = Sha.K.map W32 := by unfold kz; rw [List.map_map]; rfl
  rw [e] at h2; exact h2
noncomputable def laidWorld (os : Os) : World :=
  { World.holding Tryd.prog os ⟨#[], #[], []⟩ with heap := (World.holding Tryd.prog os ⟨#[], #[], []⟩).heap.modify 4 fun
      | .cells _ t frozen => .cells (Sha.K.map W32).toArray t frozen
      | o => o }
theorem bookAreas_laid : Rows.bookAreasRow.laid = [("plumbob/sha.constants", Lib.tabData .u32 kz)] := by rfl
theorem bookAreas_contract (H : Type) (enc : TypeId × Value → H) (W : World) (base : Nat) (args : Array Value) (ds gs : List (DataW H)) (before : List MemPlace)
    (hval : ∀ (j : Nat) t v, Tryd.f8.params[j]? = some t → args[j]? = some v → Value.okWide Tryd.prog W .any base t v)
    (hW : DataW.Whole enc Tryd.prog Tryd.f8.params.toList Rows.bookAreasSpec.vars false W args.toList ds gs before) (hL : laidMetH Tryd.prog Rows.bookAreasRow.laid W) :
    Calls Tryd.prog 8 args W fun e W' => ∃ v, e = .returned v ∧ Rows.bookAreasSpec.post enc Tryd.prog Tryd.f8 false true false false W args v W' := by
  have hW' := hW
  obtain ⟨p, q, hA, hV, _, _, _⟩ := hW
  rw [Tryd.params8] at hA hval
  obtain ⟨v0, vs0, d0, ds0, p0, q0, ha0, rfl, rfl, h0, r0⟩ := trodAll_cons hA
  obtain ⟨v1, vs1, d1, ds1, p1, q1, ha1, rfl, rfl, h1, r1⟩ := trodAll_cons r0
  obtain ⟨rfl, rfl, rfl⟩ := trodAll_nil r1
  obtain rfl : args = #[v0, v1] := by cases args; simp_all
  obtain ⟨rfl, rfl⟩ := trodVars_none hV
  obtain ⟨a0, rfl, lo0, hi0⟩ := open_i64 Tryd.underlying3 (hval 0 3 v0 rfl rfl) h0
  obtain ⟨a1, rfl, lo1, hi1⟩ := open_i64 Tryd.underlying3 (hval 1 3 v1 rfl rfl) h1
  rw [bookAreas_laid] at hL
  exact law_post (N := 292) placed (by kernel_rfl) rfl rfl Tryd.underlying4 rfl hW' (bookAreas_ct (hp W) (constants_of hL) a0 a1 lo0 hi0 lo1 hi1)
theorem bookAreas_met (os : Os) : laidMet Tryd.prog Rows.bookAreasRow.laid (((laidWorld os).forCall (fun _ _ => 0) ⟨#[], #[.int .i64 0, .int .i64 0], []⟩).memory) :=
  laidMet_of_run' 8 (by kernel_rfl) (by kernel_rfl)
theorem bookAreas_reads (os : Os) {H : Type} (enc : TypeId × Value → H) : ∃ places, DataW.whole enc Tryd.prog (((laidWorld os).forCall (fun _ _ => 0) ⟨#[], #[.int .i64 0, .int .i64 0], []⟩).memory) Tryd.f8.params.toList Rows.bookAreasSpec.vars false (#[.int .i64 0, .int .i64 0] : Array Value).toList 8 = some ([.lit (.int .i64 0), .lit (.int .i64 0)], [], places) :=
  ⟨[], by kernel_rfl⟩
theorem bookAreas_lifted (os : Os) (started : os.Started) (H : Type) (enc : TypeId × Value → H) (F : Stop.Interp) :
    ReturnsInHanded {} Tryd.checked os 8 .any ((OpenSpec.ofChange Rows.bookAreasSpec).preRow enc Tryd.prog Tryd.f8 Rows.bookAreasRow.domain false Rows.bookAreasRow.laid) (((OpenSpec.ofChange Rows.bookAreasSpec).at F).post enc Tryd.prog Tryd.f8 false true false false) := by
  obtain ⟨places, hx⟩ := bookAreas_reads os enc
  refine returnsInHanded_of_row (C := Tryd.checked) (s := OpenSpec.ofChange Rows.bookAreasSpec) own started (by kernel_rfl) Tryd.func8
    (witness_row_at (enc := enc) (C := Tryd.checked) false (laidWorld os) #[.int .i64 0, .int .i64 0] rfl (by kernel_rfl) (by kernel_rfl) (by kernel_rfl)
      (OpenSpec.preRow_of_cond 8 hx (by kernel_rfl) (fun k hk => by cases hk) (by kernel_rfl) (bookAreas_met os))) ?_
  intro W base args ds gs before hval hW _ _ _ hL _ _
  exact bookAreas_contract H enc W base args ds gs before hval hW hL
theorem bookAreas_said : Rows.BookAreasSaid :=
  OpenClaim.holds_of_cond 8 Tryd.f8 rfl rfl rfl rfl rfl rfl rfl ⟨rfl, rfl, rfl, rfl, rfl⟩ rfl rfl rfl rfl rfl (by kernel_rfl) Tryd.func8 (by kernel_rfl)
    (of_decide_eq_true (by kernel_rfl)) (by unfold Func.isWrapper; first | (rw [if_pos (by decide +kernel)]; kernel_rfl) | (rw [if_neg (by decide +kernel)]; exact ⟨rfl, rfl⟩))
    (fun os started H enc _ F => by rw [OpenClaim.pre_eq_preRow]; exact bookAreas_lifted os started H enc F)
theorem bookAreas_plain (f : FuncId) (fn : Func) (hf : Tryd.pinned.checked.prog.funcNamed "plumbob/plumboblaw10.BookAreas" = some f) (hfn : Tryd.pinned.checked.prog.funcs[f]? = some fn) :
    false = Tryd.pinned.checked.prog.looks [] ∧ ∀ (j : Nat) t, fn.params[j]? = some t → Tryd.pinned.checked.prog.wantsStandIn t = false := by
  obtain rfl : f = 8 := Option.some.inj ((show Tryd.prog.funcNamed "plumbob/plumboblaw10.BookAreas" = some 8 by kernel_rfl).symm.trans hf) |>.symm
  obtain rfl : fn = Tryd.f8 := (Option.some.inj (Tryd.func8.symm.trans hfn)).symm
  refine ⟨by kernel_rfl, fun j t ht => ?_⟩
  rw [Tryd.params8] at ht
  have hall : ([3, 3] : List TypeId).all (fun t => !Tryd.prog.wantsStandIn t) = true := by kernel_rfl
  have hm := Array.mem_of_getElem? ht
  have := List.all_eq_true.1 hall t (by simpa using hm)
  show Tryd.prog.wantsStandIn t = false
  simpa using this
theorem bookAreas_card : Rows.BookAreasCardSaid :=
  Claim7.holds_tied_plain_at .later [] _ _ _ _ bookAreas_said (fun _ h => by cases h) (by kernel_rfl) (fun _ h => by cases h) bookAreas_row_tie rfl ⟨rfl, rfl⟩ (by kernel_rfl) rfl bookAreas_plain (by kernel_rfl)
end Go.Proofs.YtpcffgkmpmcobaaDoor
