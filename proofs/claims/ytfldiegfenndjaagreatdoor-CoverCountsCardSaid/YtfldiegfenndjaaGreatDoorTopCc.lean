/- Layer 23's statement CoverCounts is true for every input. -/
import Derived.Test.YtfldiegfenndjaaGreatDoorTopCcG40
import Derived.Test.YtfldiegfenndjaaGreatDoorTopCcG41
import Derived.Test.YtfldiegfenndjaaGreatDoorTopCcG18
import Derived.Test.YtfldiegfenndjaaGreatDoorCards
import Derived.Test.YtfldiegfenndjaaGreatDoorTie
set_option linter.unusedSimpArgs false
set_option linter.unusedVariables false
namespace Go.Proofs.YtfldiegfenndjaaGreatDoor
open Go Go.Fw Go.ChangeShapes Go.WideShapes Go.ChangeAt Go.RowKit
set_option maxRecDepth 100000
set_option maxHeartbeats 1000000
theorem own : ownKnob Tryz.prog.godebug = none := by kernel_rfl
theorem qTo : qBu Tryz.prog 371 := by unfold qBu; kernel_rfl
abbrev labL : List (String × DataW Unit) := [("unicode/utf8.acceptRanges", Rows.laid_unicode_utf8_acceptRanges), ("plumbob/label.alphabets", Rows.laid_plumbob_label_alphabets), ("plumbob/sha.constants", Rows.laid_plumbob_sha_constants), ("unicode/utf8.first", Rows.laid_unicode_utf8_first)]
theorem qTF {W : World} (h : laidMet Tryz.prog labL W) : qAV (hp W) ⟨1, 0, none⟩ qBr := qQY (Lib.laidMet.reads h (.tail _ (.head _)))
theorem qTd {W : World} (h : laidMet Tryz.prog labL W) : qCX (hp W) := qRf (Lib.laidMet.reads h (.tail _ (.tail _ (.tail _ (.head _))))) (Lib.laidMet.reads h (.head _))
theorem gTab : Tryz.prog.globalNamed "plumbob/sha.constants" = some 0 := by kernel_rfl
theorem qQE : (Tryz.prog.globals[0]?).map (·.type) = some 284 := by kernel_rfl
theorem qQN : Tryz.prog.cellsOf 284 = 64 := by kernel_rfl
theorem qN6 : Tryz.prog.cellsOf 246 = 1 := by kernel_rfl
def kz : List Int := Sha.K.map fun x => (x.toNat : Int)
theorem shaEq : (Rows.laid_plumbob_sha_constants : DataW Unit) = Lib.tabData .u32 kz := by rfl
theorem qF3 {P : Program} {W : World} {name : String} {k : IntKind} {zs : List Int} {g : Nat} (hg : P.globalNamed name = some g) (h1 : Lib.TabIs P W name k zs) : qAV (hp W) ⟨g, 0, none⟩ (zs.map fun z => Value.int k z) := by
  unfold Lib.TabIs World.var? at h1
  rw [hg] at h1
  simp only [Option.bind_some] at h1
  cases ho : W.heap[g]? with
  | none => rw [ho] at h1; cases h1
  | some o =>
    rw [ho] at h1
    cases o with
    | cells cs e' fz =>
      dsimp only at h1
      cases h1
      exact ⟨rfl, _, e', fz, ho, fun j u hj => by simpa using hj⟩
    | _ => cases h1
theorem shaOf {W : World} (h : laidMet Tryz.prog labL W) : qAV (hp W) ⟨0, 0, none⟩ (Sha.K.map W32) := by
  have hr := Lib.laidMet.reads h (n := "plumbob/sha.constants") (d := Rows.laid_plumbob_sha_constants) (.tail _ (.tail _ (.head _)))
  rw [shaEq] at hr
  obtain ⟨g', t', cs, fuel, p, hg', ht', hvar, hd⟩ := hr
  obtain rfl := Option.some.inj (gTab.symm.trans hg')
  obtain rfl := Option.some.inj (qQE.symm.trans ht')
  have h1 : Lib.TabIs Tryz.prog W "plumbob/sha.constants" .u32 kz := by
    unfold Lib.TabIs
    rw [hvar, ← Lib.cells_of_tab Tryz.underlying284 Tryz.underlying246 qN6 qQN hd]
  have h2 := qF3 gTab h1
  have e : (kz.map fun z => Value.int .u32 z) = Sha.K.map W32 := by unfold kz; rw [List.map_map]; rfl
  rw [e] at h2; exact h2
noncomputable def laidWorld (os : Os) : World :=
  { World.holding Tryz.prog os ⟨#[], #[], []⟩ with heap := qJn (qJn (qJn (qJn (World.holding Tryz.prog os ⟨#[], #[], []⟩).heap 3 qUE) 4 accV) 1 qBr) 0 (Sha.K.map W32) }
theorem qEl {W : World} (h : laidMetH Tryz.prog Rows.coverCountsRow.laid W) : laidMet Tryz.prog labL W := h
theorem qDT (H : Type) (enc : TypeId × Value → H) (W : World) (base : Nat) (args : Array Value) (ds gs : List (DataW H)) (before : List MemPlace)
    (hval : ∀ (j : Nat) t v, Tryz.f3.params[j]? = some t → args[j]? = some v → Value.okWide Tryz.prog W .any base t v)
    (hW : DataW.Whole enc Tryz.prog Tryz.f3.params.toList Rows.coverCountsSpec.vars false W args.toList ds gs before) (hL : laidMetH Tryz.prog Rows.coverCountsRow.laid W) :
    Calls Tryz.prog 3 args W fun e W' => ∃ v, e = .returned v ∧ Rows.coverCountsSpec.post enc Tryz.prog Tryz.f3 false true false false W args v W' := by
  have hW' := hW
  obtain ⟨p, q, hA, hV, _, _, _⟩ := hW
  rw [Tryz.params3] at hA hval
  obtain ⟨v0, vs0, d0, ds0, p0, q0, ha0, rfl, rfl, h0, r0⟩ := trodAll_cons hA
  obtain ⟨v1, vs1, d1, ds1, p1, q1, ha1, rfl, rfl, h1, r1⟩ := trodAll_cons r0
  obtain ⟨rfl, rfl, rfl⟩ := trodAll_nil r1
  obtain rfl : args = #[v0, v1] := by cases args; simp_all
  obtain ⟨rfl, rfl⟩ := trodVars_none hV
  obtain ⟨a0, rfl, la0⟩ := qLH Tryz.underlying22 Tryz.underlying5 (by kernel_rfl) (by kernel_rfl) (hval 0 22 v0 rfl rfl) h0
  obtain ⟨b0, b1, b2, b3, rfl⟩ : ∃ x y z w, a0 = [x, y, z, w] := by
    match a0, la0 with
    | [x, y, z, w], _ => exact ⟨x, y, z, w, rfl⟩
  obtain ⟨A1, n1, c1, xs1, rfl, sl1, nn1, hx1⟩ := qSB Tryz.underlying23 (by rw [show Tryz.prog.cellsOf 48 = 1 by kernel_rfl]; decide) (hval 1 23 v1 rfl rfl) h1
  obtain ⟨l1, rfl, ok1⟩ := hs_of Tryz.underlying48 (fun x hx => ⟨by have := qOz sl1 x hx; rw [show Tryz.prog.cellsOf 48 = 1 by kernel_rfl] at this; exact this, hx1 x hx⟩)
  rw [show Tryz.prog.cellsOf 48 = 1 by kernel_rfl] at sl1
  replace hL := qEl hL
  exact qPx (N := 371) qTo (by kernel_rfl) rfl rfl Tryz.underlying4 rfl hW' (qNZ (hp W) (shaOf hL) (qTF hL) (qTd hL) b0 b1 b2 b3 A1 n1 c1 l1 sl1 (Nat.le_trans nn1 (by decide)) ok1)
theorem qFk (os : Os) : laidMet Tryz.prog Rows.coverCountsRow.laid (((laidWorld os).forCall (fun _ _ => 0) ⟨#[], #[.agg #[.int .u8 0, .int .u8 0, .int .u8 0, .int .u8 0], .slice none 0 0], []⟩).memory) :=
  laidMet_of_run' 8 (by kernel_rfl) (by kernel_rfl)
theorem qES (os : Os) {H : Type} (enc : TypeId × Value → H) : ∃ places, DataW.whole enc Tryz.prog (((laidWorld os).forCall (fun _ _ => 0) ⟨#[], #[.agg #[.int .u8 0, .int .u8 0, .int .u8 0, .int .u8 0], .slice none 0 0], []⟩).memory) Tryz.f3.params.toList Rows.coverCountsSpec.vars false (#[.agg #[.int .u8 0, .int .u8 0, .int .u8 0, .int .u8 0], .slice none 0 0] : Array Value).toList 8 = some ([.agg [.lit (.int .u8 0), .lit (.int .u8 0), .lit (.int .u8 0), .lit (.int .u8 0)], .nil], [], places) :=
  ⟨[], by kernel_rfl⟩
theorem qED (os : Os) (started : os.Started) (H : Type) (enc : TypeId × Value → H) (F : Stop.Interp) :
    ReturnsInHanded {} Tryz.checked os 3 .any ((OpenSpec.ofChange Rows.coverCountsSpec).preRow enc Tryz.prog Tryz.f3 Rows.coverCountsRow.domain false Rows.coverCountsRow.laid) (((OpenSpec.ofChange Rows.coverCountsSpec).at F).post enc Tryz.prog Tryz.f3 false true false false) := by
  obtain ⟨places, hx⟩ := qES os enc
  refine returnsInHanded_of_row (C := Tryz.checked) (s := OpenSpec.ofChange Rows.coverCountsSpec) own started (by kernel_rfl) Tryz.func3
    (witness_row_at (enc := enc) (C := Tryz.checked) false (laidWorld os) #[.agg #[.int .u8 0, .int .u8 0, .int .u8 0, .int .u8 0], .slice none 0 0] rfl (by kernel_rfl) (by kernel_rfl) (by kernel_rfl)
      (OpenSpec.preRow_of_cond 8 hx (by kernel_rfl) (fun k hk => by cases hk) (by kernel_rfl) (qFk os))) ?_
  intro W base args ds gs before hval hW _ _ _ hL _ _
  exact qDT H enc W base args ds gs before hval hW hL
theorem qEk : Rows.CoverCountsSaid :=
  OpenClaim.holds_of_cond 3 Tryz.f3 rfl rfl rfl rfl rfl rfl rfl ⟨rfl, rfl, rfl, rfl, rfl⟩ rfl rfl rfl rfl rfl (by kernel_rfl) Tryz.func3 (by kernel_rfl)
    (of_decide_eq_true (by kernel_rfl)) (by unfold Func.isWrapper; first | (rw [if_pos (by decide +kernel)]; kernel_rfl) | (rw [if_neg (by decide +kernel)]; exact ⟨rfl, rfl⟩))
    (fun os started H enc _ F => by rw [OpenClaim.pre_eq_preRow]; exact qED os started H enc F)
theorem qET (f : FuncId) (fn : Func) (hf : Tryz.pinned.checked.prog.funcNamed "plumbob/plumboblaw23.CoverCounts" = some f) (hfn : Tryz.pinned.checked.prog.funcs[f]? = some fn) :
    true = Tryz.pinned.checked.prog.looks [] ∧ ∀ (j : Nat) t, fn.params[j]? = some t → Tryz.pinned.checked.prog.wantsStandIn t = false := by
  obtain rfl : f = 3 := Option.some.inj ((show Tryz.prog.funcNamed "plumbob/plumboblaw23.CoverCounts" = some 3 by kernel_rfl).symm.trans hf) |>.symm
  obtain rfl : fn = Tryz.f3 := (Option.some.inj (Tryz.func3.symm.trans hfn)).symm
  refine ⟨by kernel_rfl, fun j t ht => ?_⟩
  rw [Tryz.params3] at ht
  have hall : ([22, 23] : List TypeId).all (fun t => !Tryz.prog.wantsStandIn t) = true := by kernel_rfl
  have hm := Array.mem_of_getElem? ht
  have := List.all_eq_true.1 hall t (by simpa using hm)
  show Tryz.prog.wantsStandIn t = false
  simpa using this
theorem coverCounts_card : Rows.CoverCountsCardSaid :=
  Claim7.holds_tied_plain_at .later [] _ _ _ _ qEk (fun _ h => by cases h) (by kernel_rfl) (fun _ h => by cases h) coverCounts_row_tie rfl ⟨rfl, rfl⟩ (by kernel_rfl) rfl qET (by kernel_rfl)
end Go.Proofs.YtfldiegfenndjaaGreatDoor
