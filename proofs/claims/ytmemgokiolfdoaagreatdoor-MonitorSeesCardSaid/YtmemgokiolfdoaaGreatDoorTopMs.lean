/- Entries of the owner's keys and others are told apart by a monitor, epoch by epoch; its report is read again. -/
import Derived.Test.YtmemgokiolfdoaaGreatDoorTopMsG47
import Derived.Test.YtmemgokiolfdoaaGreatDoorTopMsG48
import Derived.Test.YtmemgokiolfdoaaGreatDoorTopMsG49
import Derived.Test.YtmemgokiolfdoaaGreatDoorCards
import Derived.Test.YtmemgokiolfdoaaGreatDoorTie
set_option linter.unusedSimpArgs false
set_option linter.unusedVariables false
namespace Go.Proofs.YtmemgokiolfdoaaGreatDoor
open Go Go.Fw Go.ChangeShapes Go.WideShapes Go.ChangeAt Go.RowKit
set_option maxRecDepth 100000
set_option maxHeartbeats 1000000
theorem own : ownKnob Tryz.prog.godebug = none := by kernel_rfl
theorem qZB : qCC Tryz.prog 453 := by unfold qCC; kernel_rfl
abbrev labL : List (String × DataW Unit) := [("unicode/utf8.acceptRanges", Rows.laid_unicode_utf8_acceptRanges), ("plumbob/label.alphabets", Rows.laid_plumbob_label_alphabets), ("plumbob/sha.constants", Rows.laid_plumbob_sha_constants), ("unicode/utf8.first", Rows.laid_unicode_utf8_first)]
theorem qYT {W : World} (h : laidMet Tryz.prog labL W) : qAG (hp W) ⟨0, 0, none⟩ qBT := qVS (Lib.laidMet.reads h (.tail _ (.head _)))
theorem qYx {W : World} (h : laidMet Tryz.prog labL W) : qBv (hp W) := qWV (Lib.laidMet.reads h (.tail _ (.tail _ (.tail _ (.head _))))) (Lib.laidMet.reads h (.head _))
theorem gTab : Tryz.prog.globalNamed "plumbob/sha.constants" = some 3 := by kernel_rfl
theorem qU1 : (Tryz.prog.globals[3]?).map (·.type) = some 403 := by kernel_rfl
theorem qVE : Tryz.prog.cellsOf 403 = 64 := by kernel_rfl
theorem qSP : Tryz.prog.cellsOf 302 = 1 := by kernel_rfl
def kz : List Int := Sha.K.map fun x => (x.toNat : Int)
theorem shaEq : (Rows.laid_plumbob_sha_constants : DataW Unit) = Lib.tabData .u32 kz := by rfl
theorem qHx {P : Program} {W : World} {name : String} {k : IntKind} {zs : List Int} {g : Nat} (hg : P.globalNamed name = some g) (h1 : Lib.TabIs P W name k zs) : qAG (hp W) ⟨g, 0, none⟩ (zs.map fun z => Value.int k z) := by
  unfold Lib.TabIs World.var? at h1
  rw [hg] at h1
  simp only [Option.bind_some] at h1
  cases ho : W.heap[g]? with
  | none => rw [ho] at h1; cases h1
  | some o =>
    rw [ho] at h1
    cases o with
    | cells cs e' fz =>
      dsimp only at h1
      cases h1
      exact ⟨rfl, _, e', fz, ho, fun j u hj => by simpa using hj⟩
    | _ => cases h1
theorem shaOf {W : World} (h : laidMet Tryz.prog labL W) : qAG (hp W) ⟨3, 0, none⟩ (Sha.K.map W32) := by
  have hr := Lib.laidMet.reads h (n := "plumbob/sha.constants") (d := Rows.laid_plumbob_sha_constants) (.tail _ (.tail _ (.head _)))
  rw [shaEq] at hr
  obtain ⟨g', t', cs, fuel, p, hg', ht', hvar, hd⟩ := hr
  obtain rfl := Option.some.inj (gTab.symm.trans hg')
  obtain rfl := Option.some.inj (qU1.symm.trans ht')
  have h1 : Lib.TabIs Tryz.prog W "plumbob/sha.constants" .u32 kz := by
    unfold Lib.TabIs
    rw [hvar, ← Lib.cells_of_tab Tryz.underlying403 Tryz.underlying302 qSP qVE hd]
  have h2 := qHx gTab h1
  have e : (kz.map fun z => Value.int .u32 z) = Sha.K.map W32 := by unfold kz; rw [List.map_map]; rfl
  rw [e] at h2; exact h2
noncomputable def laidWorld (os : Os) : World :=
  { World.holding Tryz.prog os ⟨#[], #[], []⟩ with heap := qNI (qNI (qNI (qNI (World.holding Tryz.prog os ⟨#[], #[], []⟩).heap 1 qZj) 2 accV) 0 qBT) 3 (Sha.K.map W32) }
theorem qGG {W : World} (h : laidMetH Tryz.prog Rows.monitorSeesRow.laid W) : laidMet Tryz.prog labL W := h
theorem qEZ (H : Type) (enc : TypeId × Value → H) (W : World) (base : Nat) (args : Array Value) (ds gs : List (DataW H)) (before : List MemPlace)
    (hval : ∀ (j : Nat) t v, Tryz.f5.params[j]? = some t → args[j]? = some v → Value.okWide Tryz.prog W .any base t v)
    (hW : DataW.Whole enc Tryz.prog Tryz.f5.params.toList Rows.monitorSeesSpec.vars false W args.toList ds gs before) (hL : laidMetH Tryz.prog Rows.monitorSeesRow.laid W) :
    Calls Tryz.prog 5 args W fun e W' => ∃ v, e = .returned v ∧ Rows.monitorSeesSpec.post enc Tryz.prog Tryz.f5 false true false false W args v W' := by
  have hW' := hW
  obtain ⟨p, q, hA, hV, _, _, _⟩ := hW
  rw [Tryz.params5] at hA hval
  obtain ⟨v0, vs0, d0, ds0, p0, q0, ha0, rfl, rfl, h0, r0⟩ := trodAll_cons hA
  obtain ⟨v1, vs1, d1, ds1, p1, q1, ha1, rfl, rfl, h1, r1⟩ := trodAll_cons r0
  obtain ⟨rfl, rfl, rfl⟩ := trodAll_nil r1
  obtain rfl : args = #[v0, v1] := by cases args; simp_all
  obtain ⟨rfl, rfl⟩ := trodVars_none hV
  obtain ⟨A0, n0, c0, xs0, rfl, sl0, nn0, hx0⟩ := qXN Tryz.underlying73 (by rw [show Tryz.prog.cellsOf 5 = 1 by kernel_rfl]; decide) (hval 0 73 v0 rfl rfl) h0
  obtain ⟨l0, rfl⟩ := qVG Tryz.underlying5 (by kernel_rfl) (fun x hx => ⟨by have := qWj sl0 x hx; rw [show Tryz.prog.cellsOf 5 = 1 by kernel_rfl] at this; exact this, hx0 x hx⟩)
  rw [show Tryz.prog.cellsOf 5 = 1 by kernel_rfl] at sl0
  have hn0 : l0.length = n0 := by have := sl0.1; rw [qAf, List.length_map] at this; exact this
  subst hn0
  obtain ⟨a1, rfl⟩ := qXM Tryz.underlying5 (hval 1 5 v1 rfl rfl) h1
  replace hL := qGG hL
  exact qUh (N := 453) qZB (by kernel_rfl) rfl rfl Tryz.underlying4 rfl hW' (qQJ (hp W) (shaOf hL) (qYT hL) (qYx hL) A0 _ c0 l0 sl0 a1)
theorem qHH (os : Os) : laidMet Tryz.prog Rows.monitorSeesRow.laid (((laidWorld os).forCall (fun _ _ => 0) ⟨#[], #[.slice none 0 0, .int .u8 0], []⟩).memory) :=
  laidMet_of_run' 8 (by kernel_rfl) (by kernel_rfl)
theorem qFf (os : Os) {H : Type} (enc : TypeId × Value → H) : ∃ places, DataW.whole enc Tryz.prog (((laidWorld os).forCall (fun _ _ => 0) ⟨#[], #[.slice none 0 0, .int .u8 0], []⟩).memory) Tryz.f5.params.toList Rows.monitorSeesSpec.vars false (#[.slice none 0 0, .int .u8 0] : Array Value).toList 8 = some ([.nil, .lit (.int .u8 0)], [], places) :=
  ⟨[], by kernel_rfl⟩
theorem qFK (os : Os) (started : os.Started) (H : Type) (enc : TypeId × Value → H) (F : Stop.Interp) :
    ReturnsInHanded {} Tryz.checked os 5 .any ((OpenSpec.ofChange Rows.monitorSeesSpec).preRow enc Tryz.prog Tryz.f5 Rows.monitorSeesRow.domain false Rows.monitorSeesRow.laid) (((OpenSpec.ofChange Rows.monitorSeesSpec).at F).post enc Tryz.prog Tryz.f5 false true false false) := by
  obtain ⟨places, hx⟩ := qFf os enc
  refine returnsInHanded_of_row (C := Tryz.checked) (s := OpenSpec.ofChange Rows.monitorSeesSpec) own started (by kernel_rfl) Tryz.func5
    (witness_row_at (enc := enc) (C := Tryz.checked) false (laidWorld os) #[.slice none 0 0, .int .u8 0] rfl (by kernel_rfl) (by kernel_rfl) (by kernel_rfl)
      (OpenSpec.preRow_of_cond 8 hx (by kernel_rfl) (fun k hk => by cases hk) (by kernel_rfl) (qHH os))) ?_
  intro W base args ds gs before hval hW _ _ _ hL _ _
  exact qEZ H enc W base args ds gs before hval hW hL
theorem qGF : Rows.MonitorSeesSaid :=
  OpenClaim.holds_of_cond 5 Tryz.f5 rfl rfl rfl rfl rfl rfl rfl ⟨rfl, rfl, rfl, rfl, rfl⟩ rfl rfl rfl rfl rfl (by kernel_rfl) Tryz.func5 qFL
    (of_decide_eq_true (by kernel_rfl)) (by unfold Func.isWrapper; first | (rw [if_pos (by decide +kernel)]; kernel_rfl) | (rw [if_neg (by decide +kernel)]; exact ⟨rfl, rfl⟩))
    (fun os started H enc _ F => by rw [OpenClaim.pre_eq_preRow]; exact qFK os started H enc F)
theorem qFg (f : FuncId) (fn : Func) (hf : Tryz.pinned.checked.prog.funcNamed "plumbob/plumboblaw29.MonitorSees" = some f) (hfn : Tryz.pinned.checked.prog.funcs[f]? = some fn) :
    true = Tryz.pinned.checked.prog.looks [] ∧ ∀ (j : Nat) t, fn.params[j]? = some t → Tryz.pinned.checked.prog.wantsStandIn t = false := by
  obtain rfl : f = 5 := Option.some.inj ((show Tryz.prog.funcNamed "plumbob/plumboblaw29.MonitorSees" = some 5 by kernel_rfl).symm.trans hf) |>.symm
  obtain rfl : fn = Tryz.f5 := (Option.some.inj (Tryz.func5.symm.trans hfn)).symm
  refine ⟨by kernel_rfl, fun j t ht => ?_⟩
  rw [Tryz.params5] at ht
  have hall : ([73, 5] : List TypeId).all (fun t => !Tryz.prog.wantsStandIn t) = true := by kernel_rfl
  have hm := Array.mem_of_getElem? ht
  have := List.all_eq_true.1 hall t (by simpa using hm)
  show Tryz.prog.wantsStandIn t = false
  simpa using this
theorem monitorSees_card : Rows.MonitorSeesCardSaid :=
  Claim7.holds_tied_plain_at .later [] _ _ _ _ qGF (fun _ h => by cases h) (by kernel_rfl) (fun _ h => by cases h) monitorSees_row_tie rfl ⟨rfl, rfl⟩ (by kernel_rfl) rfl qFg (by kernel_rfl)
end Go.Proofs.YtmemgokiolfdoaaGreatDoor
