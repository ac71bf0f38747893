/- Any auditors that are added, or why not; and who has which number. -/
import Derived.Test.YtpcffgkmpmcobaaDoorRlw
import Derived.Test.YtpcffgkmpmcobaaDoorLld
import Derived.Test.YtpcffgkmpmcobaaDoorFwR
import Derived.Test.YtpcffgkmpmcobaaDoorCards
import Derived.Test.YtpcffgkmpmcobaaDoorTie
set_option linter.unusedSimpArgs false
set_option linter.unusedVariables false
namespace Go.Proofs.YtpcffgkmpmcobaaDoor
open Go Go.Fw Go.ChangeShapes Go.WideShapes Go.ChangeAt Go.RowKit
set_option maxRecDepth 100000
set_option maxHeartbeats 1000000

theorem own : ownKnob Tryd.prog.godebug = none := by kernel_rfl
theorem placed : Placed Tryd.prog 292 := by unfold Placed; kernel_rfl
abbrev labL : List (String × DataW Unit) := [("unicode/utf8.acceptRanges", Rows.laid_unicode_utf8_acceptRanges), ("plumbob/label.alphabets", Rows.laid_plumbob_label_alphabets), ("unicode/utf8.first", Rows.laid_unicode_utf8_first)]
theorem alphaOf {W : World} (h : laidMet Tryd.prog labL W) : Cells (hp W) ⟨0, 0, none⟩ alphaV := alpha_of (Lib.laidMet.reads h (.tail _ (.head _)))
theorem tabsOf {W : World} (h : laidMet Tryd.prog labL W) : TabsF (hp W) := tabs_of (Lib.laidMet.reads h (.tail _ (.tail _ (.head _)))) (Lib.laidMet.reads h (.head _))
noncomputable def laidWorld (os : Os) : World :=
  { World.holding Tryd.prog os ⟨#[], #[], []⟩ with heap := putVar (putVar (putVar (World.holding Tryd.prog os ⟨#[], #[], []⟩).heap 1 firstV) 2 accV) 0 alphaV }
theorem rosterAdds_laid {W : World} (h : laidMetH Tryd.prog Rows.rosterAddsRow.laid W) : laidMet Tryd.prog labL W := h
theorem rosterAdds_contract (H : Type) (enc : TypeId × Value → H) (W : World) (base : Nat) (args : Array Value) (ds gs : List (DataW H)) (before : List MemPlace)
    (hval : ∀ (j : Nat) t v, Tryd.f7.params[j]? = some t → args[j]? = some v → Value.okWide Tryd.prog W .any base t v)
    (hW : DataW.Whole enc Tryd.prog Tryd.f7.params.toList Rows.rosterAddsSpec.vars false W args.toList ds gs before) (hL : laidMetH Tryd.prog Rows.rosterAddsRow.laid W) :
    Calls Tryd.prog 7 args W fun e W' => ∃ v, e = .returned v ∧ Rows.rosterAddsSpec.post enc Tryd.prog Tryd.f7 false true false false W args v W' := by
  have hW' := hW
  obtain ⟨p, q, hA, hV, _, _, _⟩ := hW
  rw [Tryd.params7] at hA hval
  obtain ⟨v0, vs0, d0, ds0, p0, q0, ha0, rfl, rfl, h0, r0⟩ := trodAll_cons hA
  obtain ⟨v1, vs1, d1, ds1, p1, q1, ha1, rfl, rfl, h1, r1⟩ := trodAll_cons r0
  obtain ⟨rfl, rfl, rfl⟩ := trodAll_nil r1
  obtain rfl : args = #[v0, v1] := by cases args; simp_all
  obtain ⟨rfl, rfl⟩ := trodVars_none hV
  obtain ⟨A0, n0, c0, xs0, rfl, sl0, nn0, hx0⟩ := open_sl Tryd.underlying39 (by rw [show Tryd.prog.cellsOf 43 = 3 by kernel_rfl]; decide) (hval 0 39 v0 rfl rfl) h0
  obtain ⟨l0, rfl, ok0⟩ := laus_of hx0
  rw [show Tryd.prog.cellsOf 43 = 3 by kernel_rfl] at sl0
  obtain ⟨a1, rfl, lo1, hi1⟩ := open_i64 Tryd.underlying3 (hval 1 3 v1 rfl rfl) h1
  replace hL := rosterAdds_laid hL
  exact law_post (N := 292) placed (by kernel_rfl) rfl rfl Tryd.underlying4 rfl hW' (rosterAdds_ct (hp W) (alphaOf hL) (tabsOf hL) A0 n0 c0 l0 sl0 a1)
theorem rosterAdds_met (os : Os) : laidMet Tryd.prog Rows.rosterAddsRow.laid (((laidWorld os).forCall (fun _ _ => 0) ⟨#[], #[.slice none 0 0, .int .i64 0], []⟩).memory) :=
  laidMet_of_run' 8 (by kernel_rfl) (by kernel_rfl)
theorem rosterAdds_reads (os : Os) {H : Type} (enc : TypeId × Value → H) : ∃ places, DataW.whole enc Tryd.prog (((laidWorld os).forCall (fun _ _ => 0) ⟨#[], #[.slice none 0 0, .int .i64 0], []⟩).memory) Tryd.f7.params.toList Rows.rosterAddsSpec.vars false (#[.slice none 0 0, .int .i64 0] : Array Value).toList 8 = some ([.nil, .lit (.int .i64 0)], [], places) :=
  ⟨[], by kernel_rfl⟩
theorem rosterAdds_lifted (os : Os) (started : os.Started) (H : Type) (enc : TypeId × Value → H) (F : Stop.Interp) :
    ReturnsInHanded {} Tryd.checked os 7 .any ((OpenSpec.ofChange Rows.rosterAddsSpec).preRow enc Tryd.prog Tryd.f7 Rows.rosterAddsRow.domain false Rows.rosterAddsRow.laid) (((OpenSpec.ofChange Rows.rosterAddsSpec).at F).post enc Tryd.prog Tryd.f7 false true false false) := by
  obtain ⟨places, hx⟩ := rosterAdds_reads os enc
  refine returnsInHanded_of_row (C := Tryd.checked) (s := OpenSpec.ofChange Rows.rosterAddsSpec) own started (by kernel_rfl) Tryd.func7
    (witness_row_at (enc := enc) (C := Tryd.checked) false (laidWorld os) #[.slice none 0 0, .int .i64 0] rfl (by kernel_rfl) (by kernel_rfl) (by kernel_rfl)
      (OpenSpec.preRow_of_cond 8 hx (by kernel_rfl) (fun k hk => by cases hk) (by kernel_rfl) (rosterAdds_met os))) ?_
  intro W base args ds gs before hval hW _ _ _ hL _ _
  exact rosterAdds_contract H enc W base args ds gs before hval hW hL
theorem rosterAdds_said : Rows.RosterAddsSaid :=
  OpenClaim.holds_of_cond 7 Tryd.f7 rfl rfl rfl rfl rfl rfl rfl ⟨rfl, rfl, rfl, rfl, rfl⟩ rfl rfl rfl rfl rfl (by kernel_rfl) Tryd.func7 (by kernel_rfl)
    (of_decide_eq_true (by kernel_rfl)) (by unfold Func.isWrapper; first | (rw [if_pos (by decide +kernel)]; kernel_rfl) | (rw [if_neg (by decide +kernel)]; exact ⟨rfl, rfl⟩))
    (fun os started H enc _ F => by rw [OpenClaim.pre_eq_preRow]; exact rosterAdds_lifted os started H enc F)
theorem rosterAdds_plain (f : FuncId) (fn : Func) (hf : Tryd.pinned.checked.prog.funcNamed "plumbob/plumboblaw20.RosterAdds" = some f) (hfn : Tryd.pinned.checked.prog.funcs[f]? = some fn) :
    false = Tryd.pinned.checked.prog.looks [] ∧ ∀ (j : Nat) t, fn.params[j]? = some t → Tryd.pinned.checked.prog.wantsStandIn t = false := by
  obtain rfl : f = 7 := Option.some.inj ((show Tryd.prog.funcNamed "plumbob/plumboblaw20.RosterAdds" = some 7 by kernel_rfl).symm.trans hf) |>.symm
  obtain rfl : fn = Tryd.f7 := (Option.some.inj (Tryd.func7.symm.trans hfn)).symm
  refine ⟨by kernel_rfl, fun j t ht => ?_⟩
  rw [Tryd.params7] at ht
  have hall : ([39, 3] : List TypeId).all (fun t => !Tryd.prog.wantsStandIn t) = true := by kernel_rfl
  have hm := Array.mem_of_getElem? ht
  have := List.all_eq_true.1 hall t (by simpa using hm)
  show Tryd.prog.wantsStandIn t = false
  simpa using this
theorem rosterAdds_card : Rows.RosterAddsCardSaid :=
  Claim7.holds_tied_plain_at .later [] _ _ _ _ rosterAdds_said (fun _ h => by cases h) (by kernel_rfl) (fun _ h => by cases h) rosterAdds_row_tie rfl ⟨rfl, rfl⟩ (by kernel_rfl) rfl rosterAdds_plain (by kernel_rfl)
end Go.Proofs.YtpcffgkmpmcobaaDoor
