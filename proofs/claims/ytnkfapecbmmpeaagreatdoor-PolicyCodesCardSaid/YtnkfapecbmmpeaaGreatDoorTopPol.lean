/- Updates as bytes, and back; bytes that were cut, or that have more behind them, are none; a version of nought, and an index that the key hasn't, are told. Tied to the program's laid variables by the card. -/
import Derived.Test.YtnkfapecbmmpeaaGreatDoorPol4
import Derived.Test.YtnkfapecbmmpeaaGreatDoorLld
import Derived.Test.YtnkfapecbmmpeaaGreatDoorFwR
import Derived.Test.YtnkfapecbmmpeaaGreatDoorCards
import Derived.Test.YtnkfapecbmmpeaaGreatDoorTie
set_option linter.unusedSimpArgs false
set_option linter.unusedVariables false
namespace Go.Proofs.YtnkfapecbmmpeaaGreatDoor
open Go Go.Fw Go.ChangeShapes Go.WideShapes Go.ChangeAt Go.RowKit
set_option maxRecDepth 100000
set_option maxHeartbeats 1000000

theorem own : ownKnob Tryz.prog.godebug = none := by kernel_rfl
theorem placed : Placed Tryz.prog 172 := by unfold Placed; kernel_rfl
abbrev labL : List (String × DataW Unit) := [("unicode/utf8.acceptRanges", Rows.laid_unicode_utf8_acceptRanges), ("plumbob/label.alphabets", Rows.laid_plumbob_label_alphabets), ("plumbob/sha.constants", Rows.laid_plumbob_sha_constants), ("unicode/utf8.first", Rows.laid_unicode_utf8_first)]
theorem alphaOf {W : World} (h : laidMet Tryz.prog labL W) : Cells (hp W) ⟨1, 0, none⟩ alphaV := alpha_of (Lib.laidMet.reads h (.tail _ (.head _)))
theorem tabsOf {W : World} (h : laidMet Tryz.prog labL W) : TabsF (hp W) := tabs_of (Lib.laidMet.reads h (.tail _ (.tail _ (.tail _ (.head _))))) (Lib.laidMet.reads h (.head _))
theorem gTab : Tryz.prog.globalNamed "plumbob/sha.constants" = some 0 := by kernel_rfl
theorem gTabType : (Tryz.prog.globals[0]?).map (·.type) = some 130 := by kernel_rfl
theorem cellsTab : Tryz.prog.cellsOf 130 = 64 := by kernel_rfl
theorem cellsWord : Tryz.prog.cellsOf 22 = 1 := by kernel_rfl
def kz : List Int := Sha.K.map fun x => (x.toNat : Int)
theorem shaEq : (Rows.laid_plumbob_sha_constants : DataW Unit) = Lib.tabData .u32 kz := by rfl
theorem cells_of_tabIs {P : Program} {W : World} {name : String} {k : IntKind} {zs : List Int} {g : Nat} (hg : P.globalNamed name = some g) (h1 : Lib.TabIs P W name k zs) : Cells (hp W) ⟨g, 0, none⟩ (zs.map fun z => Value.int k z) := by
  unfold Lib.TabIs World.var? at h1
  rw [hg] at h1
  simp only [Option.bind_some] at h1
  cases ho : W.heap[g]? with
  | none => rw [ho] at h1; cases h1
  | some o =>
    rw [ho] at h1
    cases o with
    | cells cs e' fz =>
      dsimp only at h1
      cases h1
      exact ⟨rfl, _, e', fz, ho, fun j u hj => by simpa using hj⟩
    | _ => cases h1
theorem shaOf {W : World} (h : laidMet Tryz.prog labL W) : Cells (hp W) ⟨0, 0, none⟩ (Sha.K.map W32) := by
  have hr := Lib.laidMet.reads h (n := "plumbob/sha.constants") (d := Rows.laid_plumbob_sha_constants) (.tail _ (.tail _ (.head _)))
  rw [shaEq] at hr
  obtain ⟨g', t', cs, fuel, p, hg', ht', hvar, hd⟩ := hr
  obtain rfl := Option.some.inj (gTab.symm.trans hg')
  obtain rfl := Option.some.inj (gTabType.symm.trans ht')
  have h1 : Lib.TabIs Tryz.prog W "plumbob/sha.constants" .u32 kz := by
    unfold Lib.TabIs
    rw [hvar, ← Lib.cells_of_tab Tryz.underlying130 Tryz.underlying22 cellsWord cellsTab hd]
  have h2 := cells_of_tabIs gTab h1
  have e : (kz.map fun z => Value.int .u32 z) = Sha.K.map W32 := by unfold kz; rw [List.map_map]; rfl
  rw [e] at h2; exact h2
noncomputable def laidWorld (os : Os) : World :=
  { World.holding Tryz.prog os ⟨#[], #[], []⟩ with heap := putVar (putVar (putVar (putVar (World.holding Tryz.prog os ⟨#[], #[], []⟩).heap 2 firstV) 3 accV) 1 alphaV) 0 (Sha.K.map W32) }
theorem policyCodes_laid {W : World} (h : laidMetH Tryz.prog Rows.policyCodesRow.laid W) : laidMet Tryz.prog labL W := h
theorem policyCodes_contract (H : Type) (enc : TypeId × Value → H) (W : World) (base : Nat) (args : Array Value) (ds gs : List (DataW H)) (before : List MemPlace)
    (hval : ∀ (j : Nat) t v, Tryz.f3.params[j]? = some t → args[j]? = some v → Value.okWide Tryz.prog W .any base t v)
    (hW : DataW.Whole enc Tryz.prog Tryz.f3.params.toList Rows.policyCodesSpec.vars false W args.toList ds gs before) (hL : laidMetH Tryz.prog Rows.policyCodesRow.laid W) :
    Calls Tryz.prog 3 args W fun e W' => ∃ v, e = .returned v ∧ Rows.policyCodesSpec.post enc Tryz.prog Tryz.f3 false true false false W args v W' := by
  have hW' := hW
  obtain ⟨p, q, hA, hV, _, _, _⟩ := hW
  rw [Tryz.params3] at hA hval
  obtain ⟨v0, vs0, d0, ds0, p0, q0, ha0, rfl, rfl, h0, r0⟩ := trodAll_cons hA
  obtain ⟨v1, vs1, d1, ds1, p1, q1, ha1, rfl, rfl, h1, r1⟩ := trodAll_cons r0
  obtain ⟨v2, vs2, d2, ds2, p2, q2, ha2, rfl, rfl, h2, r2⟩ := trodAll_cons r1
  obtain ⟨rfl, rfl, rfl⟩ := trodAll_nil r2
  obtain rfl : args = #[v0, v1, v2] := by cases args; simp_all
  obtain ⟨rfl, rfl⟩ := trodVars_none hV
  obtain ⟨a0, rfl⟩ := open_str Tryz.underlying9 (hval 0 9 v0 rfl rfl) h0
  obtain ⟨a1, rfl⟩ := open_u32 Tryz.underlying22 (hval 1 22 v1 rfl rfl) h1
  obtain ⟨a2, rfl, l2⟩ := open_u16 Tryz.underlying23 (hval 2 23 v2 rfl rfl) h2
  replace hL := policyCodes_laid hL
  exact law_post (N := 172) placed (by kernel_rfl) rfl rfl Tryz.underlying4 rfl hW' (policyCodes_ct (hp W) (shaOf hL) (alphaOf hL) (tabsOf hL) a0 a1 a2 l2)
theorem policyCodes_met (os : Os) : laidMet Tryz.prog Rows.policyCodesRow.laid (((laidWorld os).forCall (fun _ _ => 0) ⟨#[], #[Str [], .int .u32 0, .int .u16 0], []⟩).memory) :=
  laidMet_of_run' 8 (by kernel_rfl) (by kernel_rfl)
theorem policyCodes_reads (os : Os) {H : Type} (enc : TypeId × Value → H) : ∃ places, DataW.whole enc Tryz.prog (((laidWorld os).forCall (fun _ _ => 0) ⟨#[], #[Str [], .int .u32 0, .int .u16 0], []⟩).memory) Tryz.f3.params.toList Rows.policyCodesSpec.vars false (#[Str [], .int .u32 0, .int .u16 0] : Array Value).toList 8 = some ([.lit (.string []), .lit (.int .u32 0), .lit (.int .u16 0)], [], places) :=
  ⟨[], by kernel_rfl⟩
theorem policyCodes_lifted (os : Os) (started : os.Started) (H : Type) (enc : TypeId × Value → H) (F : Stop.Interp) :
    ReturnsInHanded {} Tryz.checked os 3 .any ((OpenSpec.ofChange Rows.policyCodesSpec).preRow enc Tryz.prog Tryz.f3 Rows.policyCodesRow.domain false Rows.policyCodesRow.laid) (((OpenSpec.ofChange Rows.policyCodesSpec).at F).post enc Tryz.prog Tryz.f3 false true false false) := by
  obtain ⟨places, hx⟩ := policyCodes_reads os enc
  refine returnsInHanded_of_row (C := Tryz.checked) (s := OpenSpec.ofChange Rows.policyCodesSpec) own started (by kernel_rfl) Tryz.func3
    (witness_row_at (enc := enc) (C := Tryz.checked) false (laidWorld os) #[Str [], .int .u32 0, .int .u16 0] rfl (by kernel_rfl) (by kernel_rfl) (by kernel_rfl)
      (OpenSpec.preRow_of_cond 8 hx (by kernel_rfl) (fun k hk => by cases hk) (by kernel_rfl) (policyCodes_met os))) ?_
  intro W base args ds gs before hval hW _ _ _ hL _ _
  exact policyCodes_contract H enc W base args ds gs before hval hW hL
theorem policyCodes_said : Rows.PolicyCodesSaid :=
  OpenClaim.holds_of_cond 3 Tryz.f3 rfl rfl rfl rfl rfl rfl rfl ⟨rfl, rfl, rfl, rfl, rfl⟩ rfl rfl rfl rfl rfl (by kernel_rfl) Tryz.func3 (by kernel_rfl)
    (of_decide_eq_true (by kernel_rfl)) (by unfold Func.isWrapper; first | (rw [if_pos (by decide +kernel)]; kernel_rfl) | (rw [if_neg (by decide +kernel)]; exact ⟨rfl, rfl⟩))
    (fun os started H enc _ F => by rw [OpenClaim.pre_eq_preRow]; exact policyCodes_lifted os started H enc F)
theorem policyCodes_plain (f : FuncId) (fn : Func) (hf : Tryz.pinned.checked.prog.funcNamed "plumbob/plumboblaw18.PolicyCodes" = some f) (hfn : Tryz.pinned.checked.prog.funcs[f]? = some fn) :
    false = Tryz.pinned.checked.prog.looks [] ∧ ∀ (j : Nat) t, fn.params[j]? = some t → Tryz.pinned.checked.prog.wantsStandIn t = false := by
  obtain rfl : f = 3 := Option.some.inj ((show Tryz.prog.funcNamed "plumbob/plumboblaw18.PolicyCodes" = some 3 by kernel_rfl).symm.trans hf) |>.symm
  obtain rfl : fn = Tryz.f3 := (Option.some.inj (Tryz.func3.symm.trans hfn)).symm
  refine ⟨by kernel_rfl, fun j t ht => ?_⟩
  rw [Tryz.params3] at ht
  have hall : ([9, 22, 23] : List TypeId).all (fun t => !Tryz.prog.wantsStandIn t) = true := by kernel_rfl
  have hm := Array.mem_of_getElem? ht
  have := List.all_eq_true.1 hall t (by simpa using hm)
  show Tryz.prog.wantsStandIn t = false
  simpa using this
theorem policyCodes_card : Rows.PolicyCodesCardSaid :=
  Claim7.holds_tied_plain_at .later [] _ _ _ _ policyCodes_said (fun _ h => by cases h) (by kernel_rfl) (fun _ h => by cases h) policyCodes_row_tie rfl ⟨rfl, rfl⟩ (by kernel_rfl) rfl policyCodes_plain (by kernel_rfl)
end Go.Proofs.YtnkfapecbmmpeaaGreatDoor
