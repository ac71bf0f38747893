/- ServerPlays: a server through any acts answers as the document says: each update, auditor, epoch and new beginning; its headers, lookups and proofs are of what the accepted updates make. Proved for every input, with no condition beside the tables that the card names. -/
import Derived.Test.YtmemgokiolfdoaaGreatDoorTopSpG29
import Derived.Test.YtmemgokiolfdoaaGreatDoorTopSpG30
import Derived.Test.YtmemgokiolfdoaaGreatDoorTopSpG31
import Derived.Test.YtmemgokiolfdoaaGreatDoorCards
import Derived.Test.YtmemgokiolfdoaaGreatDoorTie
set_option linter.unusedSimpArgs false
set_option linter.unusedVariables false
namespace Go.Proofs.YtmemgokiolfdoaaGreatDoor
open Go Go.Fw Go.ChangeShapes Go.WideShapes Go.ChangeAt Go.RowKit
set_option maxRecDepth 100000
set_option maxHeartbeats 1000000
theorem own : ownKnob Tryz.prog.godebug = none := by kernel_rfl
theorem qZo : qCL Tryz.prog 453 := by unfold qCL; kernel_rfl
abbrev labL : List (String × DataW Unit) := [("unicode/utf8.acceptRanges", Rows.laid_unicode_utf8_acceptRanges), ("plumbob/label.alphabets", Rows.laid_plumbob_label_alphabets), ("plumbob/sha.constants", Rows.laid_plumbob_sha_constants), ("unicode/utf8.first", Rows.laid_unicode_utf8_first)]
theorem qZK {W : World} (h : laidMet Tryz.prog labL W) : qAI (hp W) ⟨0, 0, none⟩ qBJ := qV5 (Lib.laidMet.reads h (.tail _ (.head _)))
theorem qZd {W : World} (h : laidMet Tryz.prog labL W) : qBl (hp W) := qXO (Lib.laidMet.reads h (.tail _ (.tail _ (.tail _ (.head _))))) (Lib.laidMet.reads h (.head _))
theorem gTab : Tryz.prog.globalNamed "plumbob/sha.constants" = some 3 := by kernel_rfl
theorem qVY : (Tryz.prog.globals[3]?).map (·.type) = some 403 := by kernel_rfl
theorem qVn : Tryz.prog.cellsOf 403 = 64 := by kernel_rfl
theorem qSy : Tryz.prog.cellsOf 302 = 1 := by kernel_rfl
def kz : List Int := Sha.K.map fun x => (x.toNat : Int)
theorem shaEq : (Rows.laid_plumbob_sha_constants : DataW Unit) = Lib.tabData .u32 kz := by rfl
theorem qIS {P : Program} {W : World} {name : String} {k : IntKind} {zs : List Int} {g : Nat} (hg : P.globalNamed name = some g) (h1 : Lib.TabIs P W name k zs) : qAI (hp W) ⟨g, 0, none⟩ (zs.map fun z => Value.int k z) := by
  unfold Lib.TabIs World.var? at h1
  rw [hg] at h1
  simp only [Option.bind_some] at h1
  cases ho : W.heap[g]? with
  | none => rw [ho] at h1; cases h1
  | some o =>
    rw [ho] at h1
    cases o with
    | cells cs e' fz =>
      dsimp only at h1
      cases h1
      exact ⟨rfl, _, e', fz, ho, fun j u hj => by simpa using hj⟩
    | _ => cases h1
theorem shaOf {W : World} (h : laidMet Tryz.prog labL W) : qAI (hp W) ⟨3, 0, none⟩ (Sha.K.map W32) := by
  have hr := Lib.laidMet.reads h (n := "plumbob/sha.constants") (d := Rows.laid_plumbob_sha_constants) (.tail _ (.tail _ (.head _)))
  rw [shaEq] at hr
  obtain ⟨g', t', cs, fuel, p, hg', ht', hvar, hd⟩ := hr
  obtain rfl := Option.some.inj (gTab.symm.trans hg')
  obtain rfl := Option.some.inj (qVY.symm.trans ht')
  have h1 : Lib.TabIs Tryz.prog W "plumbob/sha.constants" .u32 kz := by
    unfold Lib.TabIs
    rw [hvar, ← Lib.cells_of_tab Tryz.underlying403 Tryz.underlying302 qSy qVn hd]
  have h2 := qIS gTab h1
  have e : (kz.map fun z => Value.int .u32 z) = Sha.K.map W32 := by unfold kz; rw [List.map_map]; rfl
  rw [e] at h2; exact h2
noncomputable def laidWorld (os : Os) : World :=
  { World.holding Tryz.prog os ⟨#[], #[], []⟩ with heap := qNh (qNh (qNh (qNh (World.holding Tryz.prog os ⟨#[], #[], []⟩).heap 1 qaP) 2 accV) 0 qBJ) 3 (Sha.K.map W32) }
theorem qGb {W : World} (h : laidMetH Tryz.prog Rows.serverPlaysRow.laid W) : laidMet Tryz.prog labL W := h
theorem qEs (H : Type) (enc : TypeId × Value → H) (W : World) (base : Nat) (args : Array Value) (ds gs : List (DataW H)) (before : List MemPlace)
    (hval : ∀ (j : Nat) t v, Tryz.f3.params[j]? = some t → args[j]? = some v → Value.okWide Tryz.prog W .any base t v)
    (hW : DataW.Whole enc Tryz.prog Tryz.f3.params.toList Rows.serverPlaysSpec.vars false W args.toList ds gs before) (hL : laidMetH Tryz.prog Rows.serverPlaysRow.laid W) :
    Calls Tryz.prog 3 args W fun e W' => ∃ v, e = .returned v ∧ Rows.serverPlaysSpec.post enc Tryz.prog Tryz.f3 false true false false W args v W' := by
  have hW' := hW
  obtain ⟨p, q, hA, hV, _, _, _⟩ := hW
  rw [Tryz.params3] at hA hval
  obtain ⟨v0, vs0, d0, ds0, p0, q0, ha0, rfl, rfl, h0, r0⟩ := trodAll_cons hA
  obtain ⟨v1, vs1, d1, ds1, p1, q1, ha1, rfl, rfl, h1, r1⟩ := trodAll_cons r0
  obtain ⟨rfl, rfl, rfl⟩ := trodAll_nil r1
  obtain rfl : args = #[v0, v1] := by cases args; simp_all
  obtain ⟨rfl, rfl⟩ := trodVars_none hV
  obtain ⟨a0, rfl⟩ := qX7 Tryz.underlying5 (hval 0 5 v0 rfl rfl) h0
  obtain ⟨A1, n1, c1, xs1, rfl, sl1, nn1, hx1⟩ := qX8 Tryz.underlying22 (by rw [show Tryz.prog.cellsOf 44 = 4 by kernel_rfl]; decide) (hval 1 22 v1 rfl rfl) h1
  obtain ⟨l1, rfl, ok1⟩ := qTG hx1
  rw [show Tryz.prog.cellsOf 44 = 4 by kernel_rfl] at sl1
  replace hL := qGb hL
  exact qVE (N := 453) qZo (by kernel_rfl) rfl rfl Tryz.underlying4 rfl hW' (qO6 (hp W) (shaOf hL) (qZK hL) (qZd hL) a0 A1 n1 c1 l1 sl1)
theorem qHS (os : Os) : laidMet Tryz.prog Rows.serverPlaysRow.laid (((laidWorld os).forCall (fun _ _ => 0) ⟨#[], #[.int .u8 0, .slice none 0 0], []⟩).memory) :=
  laidMet_of_run' 8 (by kernel_rfl) (by kernel_rfl)
theorem qFt (os : Os) {H : Type} (enc : TypeId × Value → H) : ∃ places, DataW.whole enc Tryz.prog (((laidWorld os).forCall (fun _ _ => 0) ⟨#[], #[.int .u8 0, .slice none 0 0], []⟩).memory) Tryz.f3.params.toList Rows.serverPlaysSpec.vars false (#[.int .u8 0, .slice none 0 0] : Array Value).toList 8 = some ([.lit (.int .u8 0), .nil], [], places) :=
  ⟨[], by kernel_rfl⟩
theorem qFL (os : Os) (started : os.Started) (H : Type) (enc : TypeId × Value → H) (F : Stop.Interp) :
    ReturnsInHanded {} Tryz.checked os 3 .any ((OpenSpec.ofChange Rows.serverPlaysSpec).preRow enc Tryz.prog Tryz.f3 Rows.serverPlaysRow.domain false Rows.serverPlaysRow.laid) (((OpenSpec.ofChange Rows.serverPlaysSpec).at F).post enc Tryz.prog Tryz.f3 false true false false) := by
  obtain ⟨places, hx⟩ := qFt os enc
  refine returnsInHanded_of_row (C := Tryz.checked) (s := OpenSpec.ofChange Rows.serverPlaysSpec) own started (by kernel_rfl) Tryz.func3
    (witness_row_at (enc := enc) (C := Tryz.checked) false (laidWorld os) #[.int .u8 0, .slice none 0 0] rfl (by kernel_rfl) (by kernel_rfl) (by kernel_rfl)
      (OpenSpec.preRow_of_cond 8 hx (by kernel_rfl) (fun k hk => by cases hk) (by kernel_rfl) (qHS os))) ?_
  intro W base args ds gs before hval hW _ _ _ hL _ _
  exact qEs H enc W base args ds gs before hval hW hL
theorem qGa : Rows.ServerPlaysSaid :=
  OpenClaim.holds_of_cond 3 Tryz.f3 rfl rfl rfl rfl rfl rfl rfl ⟨rfl, rfl, rfl, rfl, rfl⟩ rfl rfl rfl rfl rfl (by kernel_rfl) Tryz.func3 qFM
    (of_decide_eq_true (by kernel_rfl)) (by unfold Func.isWrapper; first | (rw [if_pos (by decide +kernel)]; kernel_rfl) | (rw [if_neg (by decide +kernel)]; exact ⟨rfl, rfl⟩))
    (fun os started H enc _ F => by rw [OpenClaim.pre_eq_preRow]; exact qFL os started H enc F)
theorem qFu (f : FuncId) (fn : Func) (hf : Tryz.pinned.checked.prog.funcNamed "plumbob/plumboblaw24.ServerPlays" = some f) (hfn : Tryz.pinned.checked.prog.funcs[f]? = some fn) :
    true = Tryz.pinned.checked.prog.looks [] ∧ ∀ (j : Nat) t, fn.params[j]? = some t → Tryz.pinned.checked.prog.wantsStandIn t = false := by
  obtain rfl : f = 3 := Option.some.inj ((show Tryz.prog.funcNamed "plumbob/plumboblaw24.ServerPlays" = some 3 by kernel_rfl).symm.trans hf) |>.symm
  obtain rfl : fn = Tryz.f3 := (Option.some.inj (Tryz.func3.symm.trans hfn)).symm
  refine ⟨by kernel_rfl, fun j t ht => ?_⟩
  rw [Tryz.params3] at ht
  have hall : ([5, 22] : List TypeId).all (fun t => !Tryz.prog.wantsStandIn t) = true := by kernel_rfl
  have hm := Array.mem_of_getElem? ht
  have := List.all_eq_true.1 hall t (by simpa using hm)
  show Tryz.prog.wantsStandIn t = false
  simpa using this
theorem serverPlays_card : Rows.ServerPlaysCardSaid :=
  Claim7.holds_tied_plain_at .later [] _ _ _ _ qGa (fun _ h => by cases h) (by kernel_rfl) (fun _ h => by cases h) serverPlays_row_tie rfl ⟨rfl, rfl⟩ (by kernel_rfl) rfl qFu (by kernel_rfl)
end Go.Proofs.YtmemgokiolfdoaaGreatDoor
