/- Two labels with a full stop or an @ between them are one label, if they have few enough runes and one @ at most. -/
import Derived.Test.YtpcffgkmpmcobaaDoorLlJ
import Derived.Test.YtpcffgkmpmcobaaDoorLld
import Derived.Test.YtpcffgkmpmcobaaDoorFwR
import Derived.Test.YtpcffgkmpmcobaaDoorCards
import Derived.Test.YtpcffgkmpmcobaaDoorTie
set_option linter.unusedSimpArgs false
set_option linter.unusedVariables false
namespace Go.Proofs.YtpcffgkmpmcobaaDoor
open Go Go.Fw Go.ChangeShapes Go.WideShapes Go.ChangeAt Go.RowKit
set_option maxRecDepth 100000
set_option maxHeartbeats 1000000

theorem own : ownKnob Tryd.prog.godebug = none := by kernel_rfl
theorem placed : Placed Tryd.prog 292 := by unfold Placed; kernel_rfl
abbrev labL : List (String × DataW Unit) := [("unicode/utf8.acceptRanges", Rows.laid_unicode_utf8_acceptRanges), ("plumbob/label.alphabets", Rows.laid_plumbob_label_alphabets), ("unicode/utf8.first", Rows.laid_unicode_utf8_first)]
theorem alphaOf {W : World} (h : laidMet Tryd.prog labL W) : Cells (hp W) ⟨0, 0, none⟩ alphaV := alpha_of (Lib.laidMet.reads h (.tail _ (.head _)))
theorem tabsOf {W : World} (h : laidMet Tryd.prog labL W) : TabsF (hp W) := tabs_of (Lib.laidMet.reads h (.tail _ (.tail _ (.head _)))) (Lib.laidMet.reads h (.head _))
noncomputable def laidWorld (os : Os) : World :=
  { World.holding Tryd.prog os ⟨#[], #[], []⟩ with heap := putVar (putVar (putVar (World.holding Tryd.prog os ⟨#[], #[], []⟩).heap 1 firstV) 2 accV) 0 alphaV }
theorem labelJoins_laid {W : World} (h : laidMetH Tryd.prog Rows.labelJoinsRow.laid W) : laidMet Tryd.prog labL W := h
theorem labelJoins_contract (H : Type) (enc : TypeId × Value → H) (W : World) (base : Nat) (args : Array Value) (ds gs : List (DataW H)) (before : List MemPlace)
    (hval : ∀ (j : Nat) t v, Tryd.f6.params[j]? = some t → args[j]? = some v → Value.okWide Tryd.prog W .any base t v)
    (hW : DataW.Whole enc Tryd.prog Tryd.f6.params.toList Rows.labelJoinsSpec.vars false W args.toList ds gs before) (hL : laidMetH Tryd.prog Rows.labelJoinsRow.laid W) :
    Calls Tryd.prog 6 args W fun e W' => ∃ v, e = .returned v ∧ Rows.labelJoinsSpec.post enc Tryd.prog Tryd.f6 false true false false W args v W' := by
  have hW' := hW
  obtain ⟨p, q, hA, hV, _, _, _⟩ := hW
  rw [Tryd.params6] at hA hval
  obtain ⟨v0, vs0, d0, ds0, p0, q0, ha0, rfl, rfl, h0, r0⟩ := trodAll_cons hA
  obtain ⟨v1, vs1, d1, ds1, p1, q1, ha1, rfl, rfl, h1, r1⟩ := trodAll_cons r0
  obtain ⟨v2, vs2, d2, ds2, p2, q2, ha2, rfl, rfl, h2, r2⟩ := trodAll_cons r1
  obtain ⟨rfl, rfl, rfl⟩ := trodAll_nil r2
  obtain rfl : args = #[v0, v1, v2] := by cases args; simp_all
  obtain ⟨rfl, rfl⟩ := trodVars_none hV
  obtain ⟨a0, rfl⟩ := open_str Tryd.underlying9 (hval 0 9 v0 rfl rfl) h0
  obtain ⟨a1, rfl⟩ := open_str Tryd.underlying9 (hval 1 9 v1 rfl rfl) h1
  obtain ⟨a2, rfl⟩ := open_b Tryd.underlying4 (hval 2 4 v2 rfl rfl) h2
  replace hL := labelJoins_laid hL
  exact law_post (N := 292) placed (by kernel_rfl) rfl rfl Tryd.underlying4 rfl hW' (labelJoins_ct (hp W) (alphaOf hL) (tabsOf hL) a0 a1 a2)
theorem labelJoins_met (os : Os) : laidMet Tryd.prog Rows.labelJoinsRow.laid (((laidWorld os).forCall (fun _ _ => 0) ⟨#[], #[Str [], Str [], .bool false], []⟩).memory) :=
  laidMet_of_run' 8 (by kernel_rfl) (by kernel_rfl)
theorem labelJoins_reads (os : Os) {H : Type} (enc : TypeId × Value → H) : ∃ places, DataW.whole enc Tryd.prog (((laidWorld os).forCall (fun _ _ => 0) ⟨#[], #[Str [], Str [], .bool false], []⟩).memory) Tryd.f6.params.toList Rows.labelJoinsSpec.vars false (#[Str [], Str [], .bool false] : Array Value).toList 8 = some ([.lit (.string []), .lit (.string []), .lit (.bool false)], [], places) :=
  ⟨[], by kernel_rfl⟩
theorem labelJoins_lifted (os : Os) (started : os.Started) (H : Type) (enc : TypeId × Value → H) (F : Stop.Interp) :
    ReturnsInHanded {} Tryd.checked os 6 .any ((OpenSpec.ofChange Rows.labelJoinsSpec).preRow enc Tryd.prog Tryd.f6 Rows.labelJoinsRow.domain false Rows.labelJoinsRow.laid) (((OpenSpec.ofChange Rows.labelJoinsSpec).at F).post enc Tryd.prog Tryd.f6 false true false false) := by
  obtain ⟨places, hx⟩ := labelJoins_reads os enc
  refine returnsInHanded_of_row (C := Tryd.checked) (s := OpenSpec.ofChange Rows.labelJoinsSpec) own started (by kernel_rfl) Tryd.func6
    (witness_row_at (enc := enc) (C := Tryd.checked) false (laidWorld os) #[Str [], Str [], .bool false] rfl (by kernel_rfl) (by kernel_rfl) (by kernel_rfl)
      (OpenSpec.preRow_of_cond 8 hx (by kernel_rfl) (fun k hk => by cases hk) (by kernel_rfl) (labelJoins_met os))) ?_
  intro W base args ds gs before hval hW _ _ _ hL _ _
  exact labelJoins_contract H enc W base args ds gs before hval hW hL
theorem labelJoins_said : Rows.LabelJoinsSaid :=
  OpenClaim.holds_of_cond 6 Tryd.f6 rfl rfl rfl rfl rfl rfl rfl ⟨rfl, rfl, rfl, rfl, rfl⟩ rfl rfl rfl rfl rfl (by kernel_rfl) Tryd.func6 (by kernel_rfl)
    (of_decide_eq_true (by kernel_rfl)) (by unfold Func.isWrapper; first | (rw [if_pos (by decide +kernel)]; kernel_rfl) | (rw [if_neg (by decide +kernel)]; exact ⟨rfl, rfl⟩))
    (fun os started H enc _ F => by rw [OpenClaim.pre_eq_preRow]; exact labelJoins_lifted os started H enc F)
theorem labelJoins_plain (f : FuncId) (fn : Func) (hf : Tryd.pinned.checked.prog.funcNamed "plumbob/plumboblaw01.LabelJoins" = some f) (hfn : Tryd.pinned.checked.prog.funcs[f]? = some fn) :
    false = Tryd.pinned.checked.prog.looks [] ∧ ∀ (j : Nat) t, fn.params[j]? = some t → Tryd.pinned.checked.prog.wantsStandIn t = false := by
  obtain rfl : f = 6 := Option.some.inj ((show Tryd.prog.funcNamed "plumbob/plumboblaw01.LabelJoins" = some 6 by kernel_rfl).symm.trans hf) |>.symm
  obtain rfl : fn = Tryd.f6 := (Option.some.inj (Tryd.func6.symm.trans hfn)).symm
  refine ⟨by kernel_rfl, fun j t ht => ?_⟩
  rw [Tryd.params6] at ht
  have hall : ([9, 9, 4] : List TypeId).all (fun t => !Tryd.prog.wantsStandIn t) = true := by kernel_rfl
  have hm := Array.mem_of_getElem? ht
  have := List.all_eq_true.1 hall t (by simpa using hm)
  show Tryd.prog.wantsStandIn t = false
  simpa using this
theorem labelJoins_card : Rows.LabelJoinsCardSaid :=
  Claim7.holds_tied_plain_at .later [] _ _ _ _ labelJoins_said (fun _ h => by cases h) (by kernel_rfl) (fun _ h => by cases h) labelJoins_row_tie rfl ⟨rfl, rfl⟩ (by kernel_rfl) rfl labelJoins_plain (by kernel_rfl)
end Go.Proofs.YtpcffgkmpmcobaaDoor
