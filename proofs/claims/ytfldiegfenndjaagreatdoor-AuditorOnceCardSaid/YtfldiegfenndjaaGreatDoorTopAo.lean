/- The law AuditorOnce of the card of the seat's program holds for every input. -/
import Derived.Test.YtfldiegfenndjaaGreatDoorTopAoG41
import Derived.Test.YtfldiegfenndjaaGreatDoorTopAoG16
import Derived.Test.YtfldiegfenndjaaGreatDoorCards
import Derived.Test.YtfldiegfenndjaaGreatDoorTie
set_option linter.unusedSimpArgs false
set_option linter.unusedVariables false
namespace Go.Proofs.YtfldiegfenndjaaGreatDoor
open Go Go.Fw Go.ChangeShapes Go.WideShapes Go.ChangeAt Go.RowKit
set_option maxRecDepth 100000
set_option maxHeartbeats 1000000
theorem own : ownKnob Tryz.prog.godebug = none := by kernel_rfl
theorem qTl : qBw Tryz.prog 371 := by unfold qBw; kernel_rfl
theorem gTab : Tryz.prog.globalNamed "plumbob/sha.constants" = some 0 := by kernel_rfl
theorem qQA : (Tryz.prog.globals[0]?).map (·.type) = some 284 := by kernel_rfl
theorem qQL : Tryz.prog.cellsOf 284 = 64 := by kernel_rfl
theorem qOW : Tryz.prog.cellsOf 246 = 1 := by kernel_rfl
def kz : List Int := Sha.K.map fun x => (x.toNat : Int)
theorem qI9 {W : World} (h : laidMetH Tryz.prog [("plumbob/sha.constants", Lib.tabData .u32 kz)] W) : qAP (hp W) ⟨0, 0, none⟩ (Sha.K.map W32) := by
  have h2 := qJE gTab qQA Tryz.underlying284 Tryz.underlying246 qOW qQL (rest := []) h
  have e : (kz.map fun z => Value.int .u32 z) = Sha.K.map W32 := by unfold kz; rw [List.map_map]; rfl
  rw [e] at h2; exact h2
noncomputable def laidWorld (os : Os) : World :=
  { World.holding Tryz.prog os ⟨#[], #[], []⟩ with heap := (World.holding Tryz.prog os ⟨#[], #[], []⟩).heap.modify 0 fun
      | .cells _ t frozen => .cells (Sha.K.map W32).toArray t frozen
      | o => o }
theorem qFK : Rows.auditorOnceRow.laid = [("plumbob/sha.constants", Lib.tabData .u32 kz)] := by rfl
theorem qDl (H : Type) (enc : TypeId × Value → H) (W : World) (base : Nat) (args : Array Value) (ds gs : List (DataW H)) (before : List MemPlace)
    (hval : ∀ (j : Nat) t v, Tryz.f6.params[j]? = some t → args[j]? = some v → Value.okWide Tryz.prog W .any base t v)
    (hW : DataW.Whole enc Tryz.prog Tryz.f6.params.toList Rows.auditorOnceSpec.vars false W args.toList ds gs before) (hL : laidMetH Tryz.prog Rows.auditorOnceRow.laid W) (hz : (DataW.weightsEach Tryz.prog (Tryz.f6.params.toList ++ (OpenSpec.ofChange Rows.auditorOnceSpec).bare.plain.varTypes Tryz.prog) (ds ++ gs)).all (· ≤ reachBytes) = true) :
    Calls Tryz.prog 6 args W fun e W' => ∃ v, e = .returned v ∧ Rows.auditorOnceSpec.post enc Tryz.prog Tryz.f6 false true false false W args v W' := by
  have hW' := hW
  obtain ⟨p, q, hA, hV, _, _, _⟩ := hW
  rw [Tryz.params6] at hA hval
  obtain ⟨v0, vs0, d0, ds0, p0, q0, ha0, rfl, rfl, h0, r0⟩ := trodAll_cons hA
  obtain ⟨v1, vs1, d1, ds1, p1, q1, ha1, rfl, rfl, h1, r1⟩ := trodAll_cons r0
  obtain ⟨rfl, rfl, rfl⟩ := trodAll_nil r1
  obtain rfl : args = #[v0, v1] := by cases args; simp_all
  obtain ⟨rfl, rfl⟩ := trodVars_none hV
  obtain ⟨A0, n0, c0, xs0, rfl, sl0, nn0, hx0⟩ := qSB Tryz.underlying87 (by rw [show Tryz.prog.cellsOf 92 = 4 by kernel_rfl]; decide) (hval 0 87 v0 rfl rfl) h0
  obtain ⟨l0, rfl, ok0⟩ := qOj hx0
  rw [show Tryz.prog.cellsOf 92 = 4 by kernel_rfl] at sl0
  have hw1 : ∀ n ∈ d1.weights Tryz.prog 88, n ≤ reachBytes := fun n hn => by
    have := List.all_eq_true.1 hz _ (DataW.weights_mem_each (j := 1) (t := 88) (d := d1) (by kernel_rfl) rfl n hn)
    simpa using this
  obtain ⟨A1', n1', c1', rfl⟩ := okWide_slice Tryz.underlying88 (hval 1 88 v1 rfl rfl)
  obtain ⟨fuel1, hf1⟩ := h1
  have cel2 : Tryz.prog.cellsOf 5 = 1 := by kernel_rfl
  have byt2 : Tryz.prog.bytesOf 5 = 1 := by kernel_rfl
  obtain ⟨A1, n1, c1, xs1, hv1, sl1, _, nn1, hx1⟩ := qTV (x := .slice A1' n1' c1') Tryz.underlying88 (by rw [cel2]; decide) hf1 hw1
  rw [hv1] at hW' ⊢
  rw [byt2, Nat.mul_one] at nn1
  obtain ⟨l1, rfl⟩ := qQM Tryz.underlying5 (by kernel_rfl) (fun x hx => ⟨by have := qRh sl1 x hx; rw [cel2] at this; exact this, by obtain ⟨fuel, y, h, _⟩ := hx1 x hx; exact ⟨fuel, y, h⟩⟩)
  rw [cel2] at sl1
  rw [qFK] at hL
  exact qPv (N := 371) qTl (by kernel_rfl) rfl rfl Tryz.underlying4 rfl hW' (qNk (hp W) (qI9 hL) A0 n0 c0 l0 sl0 A1 n1 c1 l1 sl1 nn0 nn1)
theorem qGN (os : Os) : laidMet Tryz.prog Rows.auditorOnceRow.laid (((laidWorld os).forCall (fun _ _ => 0) ⟨#[], #[.slice none 0 0, .slice none 0 0], []⟩).memory) :=
  laidMet_of_run' 8 (by kernel_rfl) (by kernel_rfl)
theorem qE2 (os : Os) {H : Type} (enc : TypeId × Value → H) : ∃ places, DataW.whole enc Tryz.prog (((laidWorld os).forCall (fun _ _ => 0) ⟨#[], #[.slice none 0 0, .slice none 0 0], []⟩).memory) Tryz.f6.params.toList Rows.auditorOnceSpec.vars false (#[.slice none 0 0, .slice none 0 0] : Array Value).toList 8 = some ([.nil, .nil], [], places) :=
  ⟨[], by kernel_rfl⟩
theorem qEd (os : Os) (started : os.Started) (H : Type) (enc : TypeId × Value → H) (F : Stop.Interp) :
    ReturnsInHanded {} Tryz.checked os 6 .any ((OpenSpec.ofChange Rows.auditorOnceSpec).preRow enc Tryz.prog Tryz.f6 Rows.auditorOnceRow.domain false Rows.auditorOnceRow.laid) (((OpenSpec.ofChange Rows.auditorOnceSpec).at F).post enc Tryz.prog Tryz.f6 false true false false) := by
  obtain ⟨places, hx⟩ := qE2 os enc
  refine returnsInHanded_of_row (C := Tryz.checked) (s := OpenSpec.ofChange Rows.auditorOnceSpec) own started (by kernel_rfl) Tryz.func6
    (witness_row_at (enc := enc) (C := Tryz.checked) false (laidWorld os) #[.slice none 0 0, .slice none 0 0] rfl (by kernel_rfl) (by kernel_rfl) (by kernel_rfl)
      (OpenSpec.preRow_of_cond 8 hx (by kernel_rfl) (fun k hk => by cases hk) (by kernel_rfl) (qGN os))) ?_
  intro W base args ds gs before hval hW _ _ hz hL _ _
  exact qDl H enc W base args ds gs before hval hW hL hz
theorem qFJ : Rows.AuditorOnceSaid :=
  OpenClaim.holds_of_cond 6 Tryz.f6 rfl rfl rfl rfl rfl rfl rfl ⟨rfl, rfl, rfl, rfl, rfl⟩ rfl rfl rfl rfl rfl (by kernel_rfl) Tryz.func6 (by kernel_rfl)
    (of_decide_eq_true (by kernel_rfl)) (by unfold Func.isWrapper; first | (rw [if_pos (by decide +kernel)]; kernel_rfl) | (rw [if_neg (by decide +kernel)]; exact ⟨rfl, rfl⟩))
    (fun os started H enc _ F => by rw [OpenClaim.pre_eq_preRow]; exact qEd os started H enc F)
theorem qE3 (f : FuncId) (fn : Func) (hf : Tryz.pinned.checked.prog.funcNamed "plumbob/plumboblaw25.AuditorOnce" = some f) (hfn : Tryz.pinned.checked.prog.funcs[f]? = some fn) :
    true = Tryz.pinned.checked.prog.looks [] ∧ ∀ (j : Nat) t, fn.params[j]? = some t → Tryz.pinned.checked.prog.wantsStandIn t = false := by
  obtain rfl : f = 6 := Option.some.inj ((show Tryz.prog.funcNamed "plumbob/plumboblaw25.AuditorOnce" = some 6 by kernel_rfl).symm.trans hf) |>.symm
  obtain rfl : fn = Tryz.f6 := (Option.some.inj (Tryz.func6.symm.trans hfn)).symm
  refine ⟨by kernel_rfl, fun j t ht => ?_⟩
  rw [Tryz.params6] at ht
  have hall : ([87, 88] : List TypeId).all (fun t => !Tryz.prog.wantsStandIn t) = true := by kernel_rfl
  have hm := Array.mem_of_getElem? ht
  have := List.all_eq_true.1 hall t (by simpa using hm)
  show Tryz.prog.wantsStandIn t = false
  simpa using this
theorem auditorOnce_card : Rows.AuditorOnceCardSaid :=
  Claim7.holds_tied_plain_at .later [] _ _ _ _ qFJ (fun _ h => by cases h) (by kernel_rfl) (fun _ h => by cases h) auditorOnce_row_tie rfl ⟨rfl, rfl⟩ (by kernel_rfl) rfl qE3 (by kernel_rfl)
end Go.Proofs.YtfldiegfenndjaaGreatDoor
