/- Auditors of a roster laid in a tree: each stands at its number's place with its value; a copy goes its own way; no roster, no tree and a key that may not be are told. Tied to the program's laid variables by the card. -/
import Derived.Test.YtnkfapecbmmpeaaDoorTopRlG29
import Derived.Test.YtnkfapecbmmpeaaDoorTopRlG30
import Derived.Test.YtnkfapecbmmpeaaDoorTopRlG31
import Derived.Test.YtnkfapecbmmpeaaDoorCards
import Derived.Test.YtnkfapecbmmpeaaDoorTie
set_option linter.unusedSimpArgs false
set_option linter.unusedVariables false
namespace Go.Proofs.YtnkfapecbmmpeaaDoor
open Go Go.Fw Go.ChangeShapes Go.WideShapes Go.ChangeAt Go.RowKit
set_option maxRecDepth 100000
set_option maxHeartbeats 1000000

theorem own : ownKnob Tryd.prog.godebug = none := by kernel_rfl
theorem placed : Placed Tryd.prog 295 := by unfold Placed; kernel_rfl
abbrev labL : List (String × DataW Unit) := [("unicode/utf8.acceptRanges", Rows.laid_unicode_utf8_acceptRanges), ("plumbob/label.alphabets", Rows.laid_plumbob_label_alphabets), ("plumbob/sha.constants", Rows.laid_plumbob_sha_constants), ("unicode/utf8.first", Rows.laid_unicode_utf8_first)]
theorem alphaOf {W : World} (h : laidMet Tryd.prog labL W) : Cells (hp W) ⟨0, 0, none⟩ alphaV := alpha_of (Lib.laidMet.reads h (.tail _ (.head _)))
theorem tabsOf {W : World} (h : laidMet Tryd.prog labL W) : TabsF (hp W) := tabs_of (Lib.laidMet.reads h (.tail _ (.tail _ (.tail _ (.head _))))) (Lib.laidMet.reads h (.head _))
theorem gTab : Tryd.prog.globalNamed "plumbob/sha.constants" = some 1 := by kernel_rfl
theorem gTabType : (Tryd.prog.globals[1]?).map (·.type) = some 247 := by kernel_rfl
theorem cellsTab : Tryd.prog.cellsOf 247 = 64 := by kernel_rfl
theorem cellsWord : Tryd.prog.cellsOf 208 = 1 := by kernel_rfl
def kz : List Int := Sha.K.map fun x => (x.toNat : Int)
theorem shaEq : (Rows.laid_plumbob_sha_constants : DataW Unit) = Lib.tabData .u32 kz := by rfl
theorem cells_of_tabIs {P : Program} {W : World} {name : String} {k : IntKind} {zs : List Int} {g : Nat} (hg : P.globalNamed name = some g) (h1 : Lib.TabIs P W name k zs) : Cells (hp W) ⟨g, 0, none⟩ (zs.map fun z => Value.int k z) := by
  unfold Lib.TabIs World.var? at h1
  rw [hg] at h1
  simp only [Option.bind_some] at h1
  cases ho : W.heap[g]? with
  | none => rw [ho] at h1; cases h1
  | some o =>
    rw [ho] at h1
    cases o with
    | cells cs e' fz =>
      dsimp only at h1
      cases h1
      exact ⟨rfl, _, e', fz, ho, fun j u hj => by simpa using hj⟩
    | _ => cases h1
theorem shaOf {W : World} (h : laidMet Tryd.prog labL W) : Cells (hp W) ⟨1, 0, none⟩ (Sha.K.map W32) := by
  have hr := Lib.laidMet.reads h (n := "plumbob/sha.constants") (d := Rows.laid_plumbob_sha_constants) (.tail _ (.tail _ (.head _)))
  rw [shaEq] at hr
  obtain ⟨g', t', cs, fuel, p, hg', ht', hvar, hd⟩ := hr
  obtain rfl := Option.some.inj (gTab.symm.trans hg')
  obtain rfl := Option.some.inj (gTabType.symm.trans ht')
  have h1 : Lib.TabIs Tryd.prog W "plumbob/sha.constants" .u32 kz := by
    unfold Lib.TabIs
    rw [hvar, ← Lib.cells_of_tab Tryd.underlying247 Tryd.underlying208 cellsWord cellsTab hd]
  have h2 := cells_of_tabIs gTab h1
  have e : (kz.map fun z => Value.int .u32 z) = Sha.K.map W32 := by unfold kz; rw [List.map_map]; rfl
  rw [e] at h2; exact h2
noncomputable def laidWorld (os : Os) : World :=
  { World.holding Tryd.prog os ⟨#[], #[], []⟩ with heap := putVar (putVar (putVar (putVar (World.holding Tryd.prog os ⟨#[], #[], []⟩).heap 2 firstV) 3 accV) 0 alphaV) 1 (Sha.K.map W32) }
theorem rosterLays_laid {W : World} (h : laidMetH Tryd.prog Rows.rosterLaysRow.laid W) : laidMet Tryd.prog labL W := h
theorem rosterLays_contract (H : Type) (enc : TypeId × Value → H) (W : World) (base : Nat) (args : Array Value) (ds gs : List (DataW H)) (before : List MemPlace)
    (hval : ∀ (j : Nat) t v, Tryd.f3.params[j]? = some t → args[j]? = some v → Value.okWide Tryd.prog W .any base t v)
    (hW : DataW.Whole enc Tryd.prog Tryd.f3.params.toList Rows.rosterLaysSpec.vars false W args.toList ds gs before) (hL : laidMetH Tryd.prog Rows.rosterLaysRow.laid W) :
    Calls Tryd.prog 3 args W fun e W' => ∃ v, e = .returned v ∧ Rows.rosterLaysSpec.post enc Tryd.prog Tryd.f3 false true false false W args v W' := by
  have hW' := hW
  obtain ⟨p, q, hA, hV, _, _, _⟩ := hW
  rw [Tryd.params3] at hA hval
  obtain ⟨v0, vs0, d0, ds0, p0, q0, ha0, rfl, rfl, h0, r0⟩ := trodAll_cons hA
  obtain ⟨v1, vs1, d1, ds1, p1, q1, ha1, rfl, rfl, h1, r1⟩ := trodAll_cons r0
  obtain ⟨rfl, rfl, rfl⟩ := trodAll_nil r1
  obtain rfl : args = #[v0, v1] := by cases args; simp_all
  obtain ⟨rfl, rfl⟩ := trodVars_none hV
  obtain ⟨a0, rfl⟩ := open_u8 Tryd.underlying5 (hval 0 5 v0 rfl rfl) h0
  obtain ⟨a1, rfl⟩ := open_str Tryd.underlying9 (hval 1 9 v1 rfl rfl) h1
  replace hL := rosterLays_laid hL
  exact law_post (N := 295) placed (by kernel_rfl) rfl rfl Tryd.underlying4 rfl hW' (rosterLays_ct (hp W) (shaOf hL) (alphaOf hL) (tabsOf hL) a0 a1)
theorem rosterLays_met (os : Os) : laidMet Tryd.prog Rows.rosterLaysRow.laid (((laidWorld os).forCall (fun _ _ => 0) ⟨#[], #[.int .u8 0, Str []], []⟩).memory) :=
  laidMet_of_run' 8 (by kernel_rfl) (by kernel_rfl)
theorem rosterLays_reads (os : Os) {H : Type} (enc : TypeId × Value → H) : ∃ places, DataW.whole enc Tryd.prog (((laidWorld os).forCall (fun _ _ => 0) ⟨#[], #[.int .u8 0, Str []], []⟩).memory) Tryd.f3.params.toList Rows.rosterLaysSpec.vars false (#[.int .u8 0, Str []] : Array Value).toList 8 = some ([.lit (.int .u8 0), .lit (.string [])], [], places) :=
  ⟨[], by kernel_rfl⟩
theorem rosterLays_lifted (os : Os) (started : os.Started) (H : Type) (enc : TypeId × Value → H) (F : Stop.Interp) :
    ReturnsInHanded {} Tryd.checked os 3 .any ((OpenSpec.ofChange Rows.rosterLaysSpec).preRow enc Tryd.prog Tryd.f3 Rows.rosterLaysRow.domain false Rows.rosterLaysRow.laid) (((OpenSpec.ofChange Rows.rosterLaysSpec).at F).post enc Tryd.prog Tryd.f3 false true false false) := by
  obtain ⟨places, hx⟩ := rosterLays_reads os enc
  refine returnsInHanded_of_row (C := Tryd.checked) (s := OpenSpec.ofChange Rows.rosterLaysSpec) own started (by kernel_rfl) Tryd.func3
    (witness_row_at (enc := enc) (C := Tryd.checked) false (laidWorld os) #[.int .u8 0, Str []] rfl (by kernel_rfl) (by kernel_rfl) (by kernel_rfl)
      (OpenSpec.preRow_of_cond 8 hx (by kernel_rfl) (fun k hk => by cases hk) (by kernel_rfl) (rosterLays_met os))) ?_
  intro W base args ds gs before hval hW _ _ _ hL _ _
  exact rosterLays_contract H enc W base args ds gs before hval hW hL
theorem rosterLays_said : Rows.RosterLaysSaid :=
  OpenClaim.holds_of_cond 3 Tryd.f3 rfl rfl rfl rfl rfl rfl rfl ⟨rfl, rfl, rfl, rfl, rfl⟩ rfl rfl rfl rfl rfl (by kernel_rfl) Tryd.func3 (by kernel_rfl)
    (of_decide_eq_true (by kernel_rfl)) (by unfold Func.isWrapper; first | (rw [if_pos (by decide +kernel)]; kernel_rfl) | (rw [if_neg (by decide +kernel)]; exact ⟨rfl, rfl⟩))
    (fun os started H enc _ F => by rw [OpenClaim.pre_eq_preRow]; exact rosterLays_lifted os started H enc F)
theorem rosterLays_plain (f : FuncId) (fn : Func) (hf : Tryd.pinned.checked.prog.funcNamed "plumbob/plumboblaw20.RosterLays" = some f) (hfn : Tryd.pinned.checked.prog.funcs[f]? = some fn) :
    false = Tryd.pinned.checked.prog.looks [] ∧ ∀ (j : Nat) t, fn.params[j]? = some t → Tryd.pinned.checked.prog.wantsStandIn t = false := by
  obtain rfl : f = 3 := Option.some.inj ((show Tryd.prog.funcNamed "plumbob/plumboblaw20.RosterLays" = some 3 by kernel_rfl).symm.trans hf) |>.symm
  obtain rfl : fn = Tryd.f3 := (Option.some.inj (Tryd.func3.symm.trans hfn)).symm
  refine ⟨by kernel_rfl, fun j t ht => ?_⟩
  rw [Tryd.params3] at ht
  have hall : ([5, 9] : List TypeId).all (fun t => !Tryd.prog.wantsStandIn t) = true := by kernel_rfl
  have hm := Array.mem_of_getElem? ht
  have := List.all_eq_true.1 hall t (by simpa using hm)
  show Tryd.prog.wantsStandIn t = false
  simpa using this
theorem rosterLays_card : Rows.RosterLaysCardSaid :=
  Claim7.holds_tied_plain_at .later [] _ _ _ _ rosterLays_said (fun _ h => by cases h) (by kernel_rfl) (fun _ h => by cases h) rosterLays_row_tie rfl ⟨rfl, rfl⟩ (by kernel_rfl) rfl rosterLays_plain (by kernel_rfl)
end Go.Proofs.YtnkfapecbmmpeaaDoor
