/- Answers of other labels, old ones and of another history are told by a monitor, and what was seen stays. -/
import Derived.Test.YtmemgokiolfdoaaGreatDoorTopMfG48
import Derived.Test.YtmemgokiolfdoaaGreatDoorTopMfG49
import Derived.Test.YtmemgokiolfdoaaGreatDoorTopMfG50
import Derived.Test.YtmemgokiolfdoaaGreatDoorCards
import Derived.Test.YtmemgokiolfdoaaGreatDoorTie
set_option linter.unusedSimpArgs false
set_option linter.unusedVariables false
namespace Go.Proofs.YtmemgokiolfdoaaGreatDoor
open Go Go.Fw Go.ChangeShapes Go.WideShapes Go.ChangeAt Go.RowKit
set_option maxRecDepth 100000
set_option maxHeartbeats 1000000
theorem own : ownKnob Tryz.prog.godebug = none := by kernel_rfl
theorem qYe : qB9 Tryz.prog 453 := by unfold qB9; kernel_rfl
abbrev labL : List (String × DataW Unit) := [("unicode/utf8.acceptRanges", Rows.laid_unicode_utf8_acceptRanges), ("plumbob/label.alphabets", Rows.laid_plumbob_label_alphabets), ("plumbob/sha.constants", Rows.laid_plumbob_sha_constants), ("unicode/utf8.first", Rows.laid_unicode_utf8_first)]
theorem qX4 {W : World} (h : laidMet Tryz.prog labL W) : qAG (hp W) ⟨0, 0, none⟩ qBd := qUx (Lib.laidMet.reads h (.tail _ (.head _)))
theorem qYV {W : World} (h : laidMet Tryz.prog labL W) : qB7 (hp W) := qV3 (Lib.laidMet.reads h (.tail _ (.tail _ (.tail _ (.head _))))) (Lib.laidMet.reads h (.head _))
theorem gTab : Tryz.prog.globalNamed "plumbob/sha.constants" = some 3 := by kernel_rfl
theorem qUV : (Tryz.prog.globals[3]?).map (·.type) = some 403 := by kernel_rfl
theorem qUk : Tryz.prog.cellsOf 403 = 64 := by kernel_rfl
theorem qR2 : Tryz.prog.cellsOf 302 = 1 := by kernel_rfl
def kz : List Int := Sha.K.map fun x => (x.toNat : Int)
theorem shaEq : (Rows.laid_plumbob_sha_constants : DataW Unit) = Lib.tabData .u32 kz := by rfl
theorem qHz {P : Program} {W : World} {name : String} {k : IntKind} {zs : List Int} {g : Nat} (hg : P.globalNamed name = some g) (h1 : Lib.TabIs P W name k zs) : qAG (hp W) ⟨g, 0, none⟩ (zs.map fun z => Value.int k z) := by
  unfold Lib.TabIs World.var? at h1
  rw [hg] at h1
  simp only [Option.bind_some] at h1
  cases ho : W.heap[g]? with
  | none => rw [ho] at h1; cases h1
  | some o =>
    rw [ho] at h1
    cases o with
    | cells cs e' fz =>
      dsimp only at h1
      cases h1
      exact ⟨rfl, _, e', fz, ho, fun j u hj => by simpa using hj⟩
    | _ => cases h1
theorem shaOf {W : World} (h : laidMet Tryz.prog labL W) : qAG (hp W) ⟨3, 0, none⟩ (Sha.K.map W32) := by
  have hr := Lib.laidMet.reads h (n := "plumbob/sha.constants") (d := Rows.laid_plumbob_sha_constants) (.tail _ (.tail _ (.head _)))
  rw [shaEq] at hr
  obtain ⟨g', t', cs, fuel, p, hg', ht', hvar, hd⟩ := hr
  obtain rfl := Option.some.inj (gTab.symm.trans hg')
  obtain rfl := Option.some.inj (qUV.symm.trans ht')
  have h1 : Lib.TabIs Tryz.prog W "plumbob/sha.constants" .u32 kz := by
    unfold Lib.TabIs
    rw [hvar, ← Lib.cells_of_tab Tryz.underlying403 Tryz.underlying302 qR2 qUk hd]
  have h2 := qHz gTab h1
  have e : (kz.map fun z => Value.int .u32 z) = Sha.K.map W32 := by unfold kz; rw [List.map_map]; rfl
  rw [e] at h2; exact h2
noncomputable def laidWorld (os : Os) : World :=
  { World.holding Tryz.prog os ⟨#[], #[], []⟩ with heap := qNE (qNE (qNE (qNE (World.holding Tryz.prog os ⟨#[], #[], []⟩).heap 1 qY7) 2 accV) 0 qBd) 3 (Sha.K.map W32) }
theorem qE1 {W : World} (h : laidMetH Tryz.prog Rows.monitorRefusesRow.laid W) : laidMet Tryz.prog labL W := h
theorem qDa (H : Type) (enc : TypeId × Value → H) (W : World) (base : Nat) (args : Array Value) (ds gs : List (DataW H)) (before : List MemPlace)
    (hval : ∀ (j : Nat) t v, Tryz.f6.params[j]? = some t → args[j]? = some v → Value.okWide Tryz.prog W .any base t v)
    (hW : DataW.Whole enc Tryz.prog Tryz.f6.params.toList Rows.monitorRefusesSpec.vars false W args.toList ds gs before) (hL : laidMetH Tryz.prog Rows.monitorRefusesRow.laid W) :
    Calls Tryz.prog 6 args W fun e W' => ∃ v, e = .returned v ∧ Rows.monitorRefusesSpec.post enc Tryz.prog Tryz.f6 false true false false W args v W' := by
  have hW' := hW
  obtain ⟨p, q, hA, hV, _, _, _⟩ := hW
  rw [Tryz.params6] at hA hval
  obtain ⟨v0, vs0, d0, ds0, p0, q0, ha0, rfl, rfl, h0, r0⟩ := trodAll_cons hA
  obtain ⟨rfl, rfl, rfl⟩ := trodAll_nil r0
  obtain rfl : args = #[v0] := by cases args; simp_all
  obtain ⟨rfl, rfl⟩ := trodVars_none hV
  obtain ⟨a0, rfl⟩ := qWr Tryz.underlying5 (hval 0 5 v0 rfl rfl) h0
  replace hL := qE1 hL
  exact qUB (N := 453) qYe (by kernel_rfl) rfl rfl Tryz.underlying4 rfl hW' (qKQ (hp W) (shaOf hL) (qX4 hL) (qYV hL) a0)
theorem qFY (os : Os) : laidMet Tryz.prog Rows.monitorRefusesRow.laid (((laidWorld os).forCall (fun _ _ => 0) ⟨#[], #[.int .u8 0], []⟩).memory) :=
  laidMet_of_run' 8 (by kernel_rfl) (by kernel_rfl)
theorem qEY (os : Os) {H : Type} (enc : TypeId × Value → H) : ∃ places, DataW.whole enc Tryz.prog (((laidWorld os).forCall (fun _ _ => 0) ⟨#[], #[.int .u8 0], []⟩).memory) Tryz.f6.params.toList Rows.monitorRefusesSpec.vars false (#[.int .u8 0] : Array Value).toList 8 = some ([.lit (.int .u8 0)], [], places) :=
  ⟨[], by kernel_rfl⟩
theorem qD6 (os : Os) (started : os.Started) (H : Type) (enc : TypeId × Value → H) (F : Stop.Interp) :
    ReturnsInHanded {} Tryz.checked os 6 .any ((OpenSpec.ofChange Rows.monitorRefusesSpec).preRow enc Tryz.prog Tryz.f6 Rows.monitorRefusesRow.domain false Rows.monitorRefusesRow.laid) (((OpenSpec.ofChange Rows.monitorRefusesSpec).at F).post enc Tryz.prog Tryz.f6 false true false false) := by
  obtain ⟨places, hx⟩ := qEY os enc
  refine returnsInHanded_of_row (C := Tryz.checked) (s := OpenSpec.ofChange Rows.monitorRefusesSpec) own started (by kernel_rfl) Tryz.func6
    (witness_row_at (enc := enc) (C := Tryz.checked) false (laidWorld os) #[.int .u8 0] rfl (by kernel_rfl) (by kernel_rfl) (by kernel_rfl)
      (OpenSpec.preRow_of_cond 8 hx (by kernel_rfl) (fun k hk => by cases hk) (by kernel_rfl) (qFY os))) ?_
  intro W base args ds gs before hval hW _ _ _ hL _ _
  exact qDa H enc W base args ds gs before hval hW hL
theorem qE0 : Rows.MonitorRefusesSaid :=
  OpenClaim.holds_of_cond 6 Tryz.f6 rfl rfl rfl rfl rfl rfl rfl ⟨rfl, rfl, rfl, rfl, rfl⟩ rfl rfl rfl rfl rfl (by kernel_rfl) Tryz.func6 qD7
    (of_decide_eq_true (by kernel_rfl)) (by unfold Func.isWrapper; first | (rw [if_pos (by decide +kernel)]; kernel_rfl) | (rw [if_neg (by decide +kernel)]; exact ⟨rfl, rfl⟩))
    (fun os started H enc _ F => by rw [OpenClaim.pre_eq_preRow]; exact qD6 os started H enc F)
theorem qEZ (f : FuncId) (fn : Func) (hf : Tryz.pinned.checked.prog.funcNamed "plumbob/plumboblaw29.MonitorRefuses" = some f) (hfn : Tryz.pinned.checked.prog.funcs[f]? = some fn) :
    true = Tryz.pinned.checked.prog.looks [] ∧ ∀ (j : Nat) t, fn.params[j]? = some t → Tryz.pinned.checked.prog.wantsStandIn t = false := by
  obtain rfl : f = 6 := Option.some.inj ((show Tryz.prog.funcNamed "plumbob/plumboblaw29.MonitorRefuses" = some 6 by kernel_rfl).symm.trans hf) |>.symm
  obtain rfl : fn = Tryz.f6 := (Option.some.inj (Tryz.func6.symm.trans hfn)).symm
  refine ⟨by kernel_rfl, fun j t ht => ?_⟩
  rw [Tryz.params6] at ht
  have hall : ([5] : List TypeId).all (fun t => !Tryz.prog.wantsStandIn t) = true := by kernel_rfl
  have hm := Array.mem_of_getElem? ht
  have := List.all_eq_true.1 hall t (by simpa using hm)
  show Tryz.prog.wantsStandIn t = false
  simpa using this
theorem monitorRefuses_card : Rows.MonitorRefusesCardSaid :=
  Claim7.holds_tied_plain_at .later [] _ _ _ _ qE0 (fun _ h => by cases h) (by kernel_rfl) (fun _ h => by cases h) monitorRefuses_row_tie rfl ⟨rfl, rfl⟩ (by kernel_rfl) rfl qEZ (by kernel_rfl)
end Go.Proofs.YtmemgokiolfdoaaGreatDoor
