/- The statement of AuditorChecks, for every state of the program's world that the card names: headers that don't follow, transitions that are spoilt, or of other nodes, aren't attested. -/
import Derived.Test.YtfldiegfenndjaaGreatDoorTopAkG28
import Derived.Test.YtfldiegfenndjaaGreatDoorTopAkG15
import Derived.Test.YtfldiegfenndjaaGreatDoorCards
import Derived.Test.YtfldiegfenndjaaGreatDoorTie
set_option linter.unusedSimpArgs false
set_option linter.unusedVariables false
namespace Go.Proofs.YtfldiegfenndjaaGreatDoor
open Go Go.Fw Go.ChangeShapes Go.WideShapes Go.ChangeAt Go.RowKit
set_option maxRecDepth 100000
set_option maxHeartbeats 1000000
theorem own : ownKnob Tryz.prog.godebug = none := by kernel_rfl
theorem qRp : qBk Tryz.prog 371 := by unfold qBk; kernel_rfl
theorem gTab : Tryz.prog.globalNamed "plumbob/sha.constants" = some 0 := by kernel_rfl
theorem qOl : (Tryz.prog.globals[0]?).map (·.type) = some 284 := by kernel_rfl
theorem qOu : Tryz.prog.cellsOf 284 = 64 := by kernel_rfl
theorem qNB : Tryz.prog.cellsOf 246 = 1 := by kernel_rfl
def kz : List Int := Sha.K.map fun x => (x.toNat : Int)
theorem qIE {W : World} (h : laidMetH Tryz.prog [("plumbob/sha.constants", Lib.tabData .u32 kz)] W) : qAQ (hp W) ⟨0, 0, none⟩ (Sha.K.map W32) := by
 have h2 := qIJ gTab qOl Tryz.underlying284 Tryz.underlying246 qNB qOu (rest := []) h
 have e : (kz.map fun z => Value.int .u32 z) = Sha.K.map W32 := by unfold kz; rw [List.map_map]; rfl
 rw [e] at h2; exact h2
noncomputable def laidWorld (os : Os) : World :=
  { World.holding Tryz.prog os ⟨#[], #[], []⟩ with heap := (World.holding Tryz.prog os ⟨#[], #[], []⟩).heap.modify 0 fun
      | .cells _ t frozen => .cells (Sha.K.map W32).toArray t frozen
      | o => o }
theorem qEB : Rows.auditorChecksRow.laid = [("plumbob/sha.constants", Lib.tabData .u32 kz)] := by rfl
theorem qCs (H : Type) (enc : TypeId × Value → H) (W : World) (base : Nat) (args : Array Value) (ds gs : List (DataW H)) (before : List MemPlace)
    (hval : ∀ (j : Nat) t v, Tryz.f5.params[j]? = some t → args[j]? = some v → Value.okWide Tryz.prog W .any base t v)
    (hW : DataW.Whole enc Tryz.prog Tryz.f5.params.toList Rows.auditorChecksSpec.vars false W args.toList ds gs before) (hL : laidMetH Tryz.prog Rows.auditorChecksRow.laid W) :
    Calls Tryz.prog 5 args W fun e W' => ∃ v, e = .returned v ∧ Rows.auditorChecksSpec.post enc Tryz.prog Tryz.f5 false true false false W args v W' := by
  have hW' := hW
  obtain ⟨p, q, hA, hV, _, _, _⟩ := hW
  rw [Tryz.params5] at hA hval
  obtain ⟨v0, vs0, d0, ds0, p0, q0, ha0, rfl, rfl, h0, r0⟩ := trodAll_cons hA
  obtain ⟨v1, vs1, d1, ds1, p1, q1, ha1, rfl, rfl, h1, r1⟩ := trodAll_cons r0
  obtain ⟨rfl, rfl, rfl⟩ := trodAll_nil r1
  obtain rfl : args = #[v0, v1] := by cases args; simp_all
  obtain ⟨rfl, rfl⟩ := trodVars_none hV
  obtain ⟨a0, rfl⟩ := qQZ Tryz.underlying5 (hval 0 5 v0 rfl rfl) h0
  obtain ⟨a1, rfl, lo1, hi1⟩ := qOC Tryz.underlying3 (hval 1 3 v1 rfl rfl) h1
  rw [qEB] at hL
  exact qOW (N := 371) qRp (by kernel_rfl) rfl rfl Tryz.underlying4 rfl hW' (qEp (hp W) (qIE hL) a0 a1)
theorem qEU (os : Os) : laidMet Tryz.prog Rows.auditorChecksRow.laid (((laidWorld os).forCall (fun _ _ => 0) ⟨#[], #[.int .u8 0, .int .i64 0], []⟩).memory) :=
 laidMet_of_run' 8 (by kernel_rfl) (by kernel_rfl)
theorem qDm (os : Os) {H : Type} (enc : TypeId × Value → H) : ∃ places, DataW.whole enc Tryz.prog (((laidWorld os).forCall (fun _ _ => 0) ⟨#[], #[.int .u8 0, .int .i64 0], []⟩).memory) Tryz.f5.params.toList Rows.auditorChecksSpec.vars false (#[.int .u8 0, .int .i64 0] : Array Value).toList 8 = some ([.lit (.int .u8 0), .lit (.int .i64 0)], [], places) :=
 ⟨[], by kernel_rfl⟩
theorem qDS (os : Os) (started : os.Started) (H : Type) (enc : TypeId × Value → H) (F : Stop.Interp) :
    ReturnsInHanded {} Tryz.checked os 5 .any ((OpenSpec.ofChange Rows.auditorChecksSpec).preRow enc Tryz.prog Tryz.f5 Rows.auditorChecksRow.domain false Rows.auditorChecksRow.laid) (((OpenSpec.ofChange Rows.auditorChecksSpec).at F).post enc Tryz.prog Tryz.f5 false true false false) := by
  obtain ⟨places, hx⟩ := qDm os enc
  refine returnsInHanded_of_row (C := Tryz.checked) (s := OpenSpec.ofChange Rows.auditorChecksSpec) own started (by kernel_rfl) Tryz.func5
    (witness_row_at (enc := enc) (C := Tryz.checked) false (laidWorld os) #[.int .u8 0, .int .i64 0] rfl (by kernel_rfl) (by kernel_rfl) (by kernel_rfl)
      (OpenSpec.preRow_of_cond 8 hx (by kernel_rfl) (fun k hk => by cases hk) (by kernel_rfl) (qEU os))) ?_
  intro W base args ds gs before hval hW _ _ _ hL _ _
  exact qCs H enc W base args ds gs before hval hW hL
theorem qEA : Rows.AuditorChecksSaid :=
 OpenClaim.holds_of_cond 5 Tryz.f5 rfl rfl rfl rfl rfl rfl rfl ⟨rfl, rfl, rfl, rfl, rfl⟩ rfl rfl rfl rfl rfl (by kernel_rfl) Tryz.func5 (by kernel_rfl)
  (of_decide_eq_true (by kernel_rfl)) (by unfold Func.isWrapper; first | (rw [if_pos (by decide +kernel)]; kernel_rfl) | (rw [if_neg (by decide +kernel)]; exact ⟨rfl, rfl⟩))
  (fun os started H enc _ F => by rw [OpenClaim.pre_eq_preRow]; exact qDS os started H enc F)
theorem qDn (f : FuncId) (fn : Func) (hf : Tryz.pinned.checked.prog.funcNamed "plumbob/plumboblaw25.AuditorChecks" = some f) (hfn : Tryz.pinned.checked.prog.funcs[f]? = some fn) :
    true = Tryz.pinned.checked.prog.looks [] ∧ ∀ (j : Nat) t, fn.params[j]? = some t → Tryz.pinned.checked.prog.wantsStandIn t = false := by
  obtain rfl : f = 5 := Option.some.inj ((show Tryz.prog.funcNamed "plumbob/plumboblaw25.AuditorChecks" = some 5 by kernel_rfl).symm.trans hf) |>.symm
  obtain rfl : fn = Tryz.f5 := (Option.some.inj (Tryz.func5.symm.trans hfn)).symm
  refine ⟨by kernel_rfl, fun j t ht => ?_⟩
  rw [Tryz.params5] at ht
  have hall : ([5, 3] : List TypeId).all (fun t => !Tryz.prog.wantsStandIn t) = true := by kernel_rfl
  have hm := Array.mem_of_getElem? ht
  have := List.all_eq_true.1 hall t (by simpa using hm)
  show Tryz.prog.wantsStandIn t = false
  simpa using this
theorem auditorChecks_card : Rows.AuditorChecksCardSaid :=
 Claim7.holds_tied_plain_at .later [] _ _ _ _ qEA (fun _ h => by cases h) (by kernel_rfl) (fun _ h => by cases h) auditorChecks_row_tie rfl ⟨rfl, rfl⟩ (by kernel_rfl) rfl qDn (by kernel_rfl)
end Go.Proofs.YtfldiegfenndjaaGreatDoor
