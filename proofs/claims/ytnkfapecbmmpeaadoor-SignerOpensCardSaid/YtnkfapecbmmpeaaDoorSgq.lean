/- A part of the proof: contracts of functions of the program, each for every state of the heaps that it names. -/
import Derived.Test.YtnkfapecbmmpeaaDoorSgp
import Derived.Test.YtnkfapecbmmpeaaDoorSgn2
set_option linter.unusedSimpArgs false
set_option linter.unusedVariables false
namespace Go.Proofs.YtnkfapecbmmpeaaDoor
open Go Go.Fw
set_option maxRecDepth 100000
set_option maxHeartbeats 1000000

attribute [local irreducible] Prt.text bname bsum Sha.tagged
theorem wend1_congr {d : Dk} {p : Nat} {t t' : Nat → List UInt8} (h : t 0 = t' 0) : wend d p t 1 = wend d p t' 1 := by
  have e : ∀ t : Nat → List UInt8, wrun d p t 1 = (d.write ((p + 0 : Nat) : Int) (t 0), d.wErr ((p + 0 : Nat) : Int) (t 0)) := fun t => wrun_succ rfl
  unfold wend
  rw [e t, e t', h]
def sX0 (first : Nat) : Hlf := ⟨first, 0, [], 0⟩
theorem hlf_new {n at_ size : Nat} (hs : 0 < size) (h : at_ + size ≤ n) : hlf (Dk.new n) at_ size = ⟨at_, 0, [], 0⟩ :=
  hlf_eq (rdl_none fun t' => recR_none (by rw [secs_get hs, now_calm rfl, new_last n _ (by omega)]; exact zS_no))
theorem hst_new {n first size : Nat} (hs : 0 < size) (h : first + 2 * size ≤ n) : hst (Dk.new n) first size 2 = sX0 first := by
  show (if _ then _ else _) = _
  rw [hlf_new hs (by omega), hlf_new hs (by omega), if_neg (by simp)]; rfl
theorem wendH_one {d : Dk} (hok : d.ok) (ho : d.off = false) (ha : d.armed = false) (hw : d.wait = []) {X : Hlf} {s : List UInt8} (hs : s.length ≤ 39) (ht : X.t.toNat < 2 ^ (8 * 4)) (hn : X.R.length < 65536) (hp : X.at_ + X.e < d.last.length) :
    wendH d X s = ({ d with last := d.last.set (X.at_ + X.e) (T1 (maxT X.t) X.R.length s), wait := [] }, 0) := by
  unfold wendH
  rw [partsN_one hs, wend1_congr (t' := fun _ => T1 (maxT X.t) X.R.length s) rfl]
  exact calm_put1 (T := T1 (maxT X.t) X.R.length s) ho ha hw (T1_len s (maxT_lt ht) hn) hp hok.l64
theorem setD_ok {d : Dk} (h : d.ok) {p : Nat} {T : List UInt8} (hT : T.length = 64) : ({ d with last := d.last.set p T, wait := [] } : Dk).ok := by
  refine ⟨⟨fun s hs => ?_, (fun w hw => nomatch hw), ?_, ?_⟩, h.fz, h.fb⟩
  · rcases List.mem_or_eq_of_mem_set hs with hs | rfl
    · exact h.l64 s hs
    · exact hT
  · show 0 < (d.last.set p T).length; rw [List.length_set]; exact h.n0
  · show (d.last.set p T).length ≤ 1024; rw [List.length_set]; exact h.n1
/-- what is so behind a record that lasts -/
theorem calm_one {d : Dk} (hok : d.ok) (ho : d.off = false) (ha : d.armed = false) (hw : d.wait = []) {X : Hlf} {s : List UInt8} (hs : s.length ≤ 39) (ht : X.t.toNat < 2 ^ (8 * 4)) (hn : X.R.length < 65536) (hp : X.at_ + X.e < d.last.length) :
    (wendH d X s).2 = 0 ∧ (wendH d X s).1.ok ∧ (wendH d X s).1.off = false ∧ (wendH d X s).1.armed = false ∧ (wendH d X s).1.wait = [] ∧ (wendH d X s).1.last.length = d.last.length ∧ (wendH d X s).1.keep = d.keep := by
  rw [wendH_one hok ho ha hw hs ht hn hp]
  exact ⟨rfl, setD_ok hok (T1_len s (maxT_lt ht) hn), ho, ha, rfl, List.length_set .., rfl⟩
theorem opens_half {r : List UInt8} (hr : r.length ≤ 39) : hst (wendH (Dk.new 8) (sX0 0) r).1 0 (8 / 2) 2 = putX (sX0 0) r := by
  have hok : (Dk.new 8).ok := Dk.new_ok (by decide) (by decide)
  rw [wendH_one hok rfl rfl rfl hr (by decide) (by decide) (by decide)]
  obtain ⟨D, hD⟩ : ∃ D, D = ({ Dk.new 8 with last := (Dk.new 8).last.set ((sX0 0).at_ + (sX0 0).e) (T1 (maxT (sX0 0).t) (sX0 0).R.length r), wait := [] } : Dk) := ⟨_, rfl⟩
  dsimp only
  rw [← hD]
  have hwt : D.wait = [] := by rw [hD]
  have hg : ∀ i, i < 8 → D.now i = if i = 0 then T1 1 0 r else zS := fun i hi => by
    rw [now_calm hwt, hD]
    show ((Dk.new 8).last.set 0 (T1 1 0 r)).getD i [] = _
    rw [List.getD_eq_getElem?_getD, List.getElem?_set]
    by_cases h0 : i = 0
    · subst h0; rfl
    · rw [if_neg (fun h => h0 h.symm), if_neg h0, ← List.getD_eq_getElem?_getD]; exact new_last 8 i hi
  have e0 : secs D 0 4 = Txs 1 0 [r] ++ [zS, zS, zS] := by
    show [D.now (0 + 0), D.now (0 + 1), D.now (0 + 2), D.now (0 + 3)] = _
    rw [hg _ (by decide), hg _ (by decide), hg _ (by decide), hg _ (by decide)]; rfl
  have h0 : hlf D 0 4 = ⟨0, 1, [r], 1⟩ := by
    refine hlf_eq ?_
    rw [e0]
    have := rdl_txs (tn := 1) (by decide) (by decide) [r] 0 [] 0 [zS, zS, zS] (by simpa using hr) (by simp) (by simp) (fun t' => recR_none zS_no)
    exact this
  have h1 : hlf D 4 4 = ⟨4, 0, [], 0⟩ := by
    refine hlf_eq (rdl_none fun t' => recR_none ?_)
    rw [secs_get (by decide), hg _ (by decide)]
    exact zS_no
  show (if 0 < (hlf D (0 + 4) 4).R.length ∧ _ then _ else hlf D 0 4) = _
  rw [h1, h0, if_neg (by simp)]
  unfold putX
  rw [partsN_one hr]; rfl
theorem putX_e {X : Hlf} {s : List UInt8} (h : s.length ≤ 39) : (putX X s).e = X.e + 1 := by unfold putX; rw [partsN_one h]
theorem note39 (nx : Nat) : (note nx).length ≤ 39 := by rw [note_len]; decide
theorem natB_two {r : List UInt8} (h : r.length = 2) : natB r = 256 * (r.getD 0 0).toNat + (r.getD 1 0).toNat := by
  match r, h with
  | [a, b], _ =>
    show natB ([a] ++ [b]) = _
    rw [natB_snoc, natB_c]
    show a.toNat * 256 + b.toNat = 256 * a.toNat + b.toNat
    omega

end Go.Proofs.YtnkfapecbmmpeaaDoor
