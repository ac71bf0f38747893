/- The walks of the signer's law joined with the rows and the cards of this seat: SignerOnce is true for every input. -/
import Derived.Test.YtnkfapecbmmpeaaDoorTopSiG29
import Derived.Test.YtnkfapecbmmpeaaDoorTopSiG25
import Derived.Test.YtnkfapecbmmpeaaDoorCards
import Derived.Test.YtnkfapecbmmpeaaDoorTie
set_option linter.unusedSimpArgs false
set_option linter.unusedVariables false
namespace Go.Proofs.YtnkfapecbmmpeaaDoor
open Go Go.Fw Go.ChangeShapes Go.WideShapes Go.ChangeAt Go.RowKit
set_option maxRecDepth 100000
set_option maxHeartbeats 1000000

theorem own : ownKnob Tryd.prog.godebug = none := by kernel_rfl
theorem placed : Placed Tryd.prog 295 := by unfold Placed; kernel_rfl
theorem gTab : Tryd.prog.globalNamed "plumbob/sha.constants" = some 1 := by kernel_rfl
theorem gTabType : (Tryd.prog.globals[1]?).map (·.type) = some 247 := by kernel_rfl
theorem cellsTab : Tryd.prog.cellsOf 247 = 64 := by kernel_rfl
theorem cellsWord : Tryd.prog.cellsOf 208 = 1 := by kernel_rfl
def kz : List Int := Sha.K.map fun x => (x.toNat : Int)
theorem constants_of {W : World} (h : laidMetH Tryd.prog [("plumbob/sha.constants", Lib.tabData .u32 kz)] W) : Cells (hp W) ⟨1, 0, none⟩ (Sha.K.map W32) := by
  have h2 := cells_of_tab gTab gTabType Tryd.underlying247 Tryd.underlying208 cellsWord cellsTab (rest := []) h
  have e : (kz.map fun z => Value.int .u32 z) = Sha.K.map W32 := by unfold kz; rw [List.map_map]; rfl
  rw [e] at h2; exact h2
noncomputable def laidWorld (os : Os) : World :=
  { World.holding Tryd.prog os ⟨#[], #[], []⟩ with heap := (World.holding Tryd.prog os ⟨#[], #[], []⟩).heap.modify 1 fun
      | .cells _ t frozen => .cells (Sha.K.map W32).toArray t frozen
      | o => o }
theorem signerOnce_laid : Rows.signerOnceRow.laid = [("plumbob/sha.constants", Lib.tabData .u32 kz)] := by rfl
theorem signerOnce_contract (H : Type) (enc : TypeId × Value → H) (W : World) (base : Nat) (args : Array Value) (ds gs : List (DataW H)) (before : List MemPlace)
    (hval : ∀ (j : Nat) t v, Tryd.f6.params[j]? = some t → args[j]? = some v → Value.okWide Tryd.prog W .any base t v)
    (hW : DataW.Whole enc Tryd.prog Tryd.f6.params.toList Rows.signerOnceSpec.vars false W args.toList ds gs before) (hL : laidMetH Tryd.prog Rows.signerOnceRow.laid W) (hz : (DataW.weightsEach Tryd.prog (Tryd.f6.params.toList ++ (OpenSpec.ofChange Rows.signerOnceSpec).bare.plain.varTypes Tryd.prog) (ds ++ gs)).all (· ≤ reachBytes) = true) :
    Calls Tryd.prog 6 args W fun e W' => ∃ v, e = .returned v ∧ Rows.signerOnceSpec.post enc Tryd.prog Tryd.f6 false true false false W args v W' := by
  have hW' := hW
  obtain ⟨p, q, hA, hV, _, _, _⟩ := hW
  rw [Tryd.params6] at hA hval
  obtain ⟨v0, vs0, d0, ds0, p0, q0, ha0, rfl, rfl, h0, r0⟩ := trodAll_cons hA
  obtain ⟨v1, vs1, d1, ds1, p1, q1, ha1, rfl, rfl, h1, r1⟩ := trodAll_cons r0
  obtain ⟨v2, vs2, d2, ds2, p2, q2, ha2, rfl, rfl, h2, r2⟩ := trodAll_cons r1
  obtain ⟨rfl, rfl, rfl⟩ := trodAll_nil r2
  obtain rfl : args = #[v0, v1, v2] := by cases args; simp_all
  obtain ⟨rfl, rfl⟩ := trodVars_none hV
  obtain ⟨A0, n0, c0, xs0, rfl, sl0, nn0, hx0⟩ := open_sl Tryd.underlying30 (by rw [show Tryd.prog.cellsOf 5 = 1 by kernel_rfl]; decide) (hval 0 30 v0 rfl rfl) h0
  obtain ⟨l0, rfl⟩ := bytes_of Tryd.underlying5 (by kernel_rfl) (fun x hx => ⟨by have := sl_rows sl0 x hx; rw [show Tryd.prog.cellsOf 5 = 1 by kernel_rfl] at this; exact this, hx0 x hx⟩)
  rw [show Tryd.prog.cellsOf 5 = 1 by kernel_rfl] at sl0
  have hn0 : l0.length = n0 := by have := sl0.1; rw [bytesV, List.length_map] at this; exact this
  subst hn0
  obtain ⟨A1, n1, c1, l1, rfl, sl1, nn1⟩ := open_strs Tryd.underlying55 Tryd.underlying9 (by kernel_rfl) (hval 1 55 v1 rfl rfl) h1
  have hw2 : ∀ n ∈ d2.weights Tryd.prog 30, n ≤ reachBytes := fun n hn => by
    have := List.all_eq_true.1 hz _ (DataW.weights_mem_each (j := 2) (t := 30) (d := d2) (by kernel_rfl) rfl n hn)
    simpa using this
  obtain ⟨A2', n2', c2', rfl⟩ := okWide_slice Tryd.underlying30 (hval 2 30 v2 rfl rfl)
  obtain ⟨fuel2, hf2⟩ := h2
  have cel2 : Tryd.prog.cellsOf 5 = 1 := by kernel_rfl
  have byt2 : Tryd.prog.bytesOf 5 = 1 := by kernel_rfl
  obtain ⟨A2, n2, c2, xs2, hv2, sl2, _, nn2, hx2⟩ := sl_ofW (x := .slice A2' n2' c2') Tryd.underlying30 (by rw [cel2]; decide) hf2 hw2
  rw [hv2] at hW' ⊢
  rw [byt2, Nat.mul_one] at nn2
  obtain ⟨l2, rfl⟩ := bytes_of Tryd.underlying5 (by kernel_rfl) (fun x hx => ⟨by have := sl_rows sl2 x hx; rw [cel2] at this; exact this, by obtain ⟨fuel, y, h, _⟩ := hx2 x hx; exact ⟨fuel, y, h⟩⟩)
  rw [cel2] at sl2
  rw [signerOnce_laid] at hL
  exact law_post (N := 295) placed (by kernel_rfl) rfl rfl Tryd.underlying4 rfl hW' (signerOnce_ct (hp W) (constants_of hL) A0 _ c0 l0 sl0 A1 n1 c1 l1 sl1 A2 n2 c2 l2 sl2 nn1 nn0 nn2)
theorem signerOnce_met (os : Os) : laidMet Tryd.prog Rows.signerOnceRow.laid (((laidWorld os).forCall (fun _ _ => 0) ⟨#[], #[.slice none 0 0, .slice none 0 0, .slice none 0 0], []⟩).memory) :=
  laidMet_of_run' 8 (by kernel_rfl) (by kernel_rfl)
theorem signerOnce_reads (os : Os) {H : Type} (enc : TypeId × Value → H) : ∃ places, DataW.whole enc Tryd.prog (((laidWorld os).forCall (fun _ _ => 0) ⟨#[], #[.slice none 0 0, .slice none 0 0, .slice none 0 0], []⟩).memory) Tryd.f6.params.toList Rows.signerOnceSpec.vars false (#[.slice none 0 0, .slice none 0 0, .slice none 0 0] : Array Value).toList 8 = some ([.nil, .nil, .nil], [], places) :=
  ⟨[], by kernel_rfl⟩
theorem signerOnce_lifted (os : Os) (started : os.Started) (H : Type) (enc : TypeId × Value → H) (F : Stop.Interp) :
    ReturnsInHanded {} Tryd.checked os 6 .any ((OpenSpec.ofChange Rows.signerOnceSpec).preRow enc Tryd.prog Tryd.f6 Rows.signerOnceRow.domain false Rows.signerOnceRow.laid) (((OpenSpec.ofChange Rows.signerOnceSpec).at F).post enc Tryd.prog Tryd.f6 false true false false) := by
  obtain ⟨places, hx⟩ := signerOnce_reads os enc
  refine returnsInHanded_of_row (C := Tryd.checked) (s := OpenSpec.ofChange Rows.signerOnceSpec) own started (by kernel_rfl) Tryd.func6
    (witness_row_at (enc := enc) (C := Tryd.checked) false (laidWorld os) #[.slice none 0 0, .slice none 0 0, .slice none 0 0] rfl (by kernel_rfl) (by kernel_rfl) (by kernel_rfl)
      (OpenSpec.preRow_of_cond 8 hx (by kernel_rfl) (fun k hk => by cases hk) (by kernel_rfl) (signerOnce_met os))) ?_
  intro W base args ds gs before hval hW _ _ hz hL _ _
  exact signerOnce_contract H enc W base args ds gs before hval hW hL hz
theorem signerOnce_said : Rows.SignerOnceSaid :=
  OpenClaim.holds_of_cond 6 Tryd.f6 rfl rfl rfl rfl rfl rfl rfl ⟨rfl, rfl, rfl, rfl, rfl⟩ rfl rfl rfl rfl rfl (by kernel_rfl) Tryd.func6 (by kernel_rfl)
    (of_decide_eq_true (by kernel_rfl)) (by unfold Func.isWrapper; first | (rw [if_pos (by decide +kernel)]; kernel_rfl) | (rw [if_neg (by decide +kernel)]; exact ⟨rfl, rfl⟩))
    (fun os started H enc _ F => by rw [OpenClaim.pre_eq_preRow]; exact signerOnce_lifted os started H enc F)
theorem signerOnce_plain (f : FuncId) (fn : Func) (hf : Tryd.pinned.checked.prog.funcNamed "plumbob/plumboblaw11.SignerOnce" = some f) (hfn : Tryd.pinned.checked.prog.funcs[f]? = some fn) :
    false = Tryd.pinned.checked.prog.looks [] ∧ ∀ (j : Nat) t, fn.params[j]? = some t → Tryd.pinned.checked.prog.wantsStandIn t = false := by
  obtain rfl : f = 6 := Option.some.inj ((show Tryd.prog.funcNamed "plumbob/plumboblaw11.SignerOnce" = some 6 by kernel_rfl).symm.trans hf) |>.symm
  obtain rfl : fn = Tryd.f6 := (Option.some.inj (Tryd.func6.symm.trans hfn)).symm
  refine ⟨by kernel_rfl, fun j t ht => ?_⟩
  rw [Tryd.params6] at ht
  have hall : ([30, 55, 30] : List TypeId).all (fun t => !Tryd.prog.wantsStandIn t) = true := by kernel_rfl
  have hm := Array.mem_of_getElem? ht
  have := List.all_eq_true.1 hall t (by simpa using hm)
  show Tryd.prog.wantsStandIn t = false
  simpa using this
theorem signerOnce_card : Rows.SignerOnceCardSaid :=
  Claim7.holds_tied_plain_at .later [] _ _ _ _ signerOnce_said (fun _ h => by cases h) (by kernel_rfl) (fun _ h => by cases h) signerOnce_row_tie rfl ⟨rfl, rfl⟩ (by kernel_rfl) rfl signerOnce_plain (by kernel_rfl)
end Go.Proofs.YtnkfapecbmmpeaaDoor
