/- A part of the proof: contracts of functions of the program, each for every state of the heaps that it names. -/
import Derived.Test.YtpcffgkmpmcobaaDoorPrf5
set_option linter.unusedSimpArgs false
set_option linter.unusedVariables false
namespace Go.Proofs.YtpcffgkmpmcobaaDoor
open Go Go.Fw
set_option maxRecDepth 100000
set_option maxHeartbeats 1000000

theorem getP_filter {q : Sm.PR → Bool} {k : List UInt8} (h : ∀ p : Sm.PR, p.1 = k → q p = true) : ∀ l : List Sm.PR, Sm.getP (l.filter q) k = Sm.getP l k
  | [] => rfl
  | p :: r => by
    rw [List.filter_cons]
    by_cases hp : p.1 = k
    · rw [if_pos (h p hp), Sm.getP, Sm.getP, if_pos hp, if_pos hp]
    · rw [Sm.getP, if_neg hp]
      split
      · rw [Sm.getP, if_neg hp]; exact getP_filter h r
      · exact getP_filter h r
theorem Pairs.getB {m : List Pr} {kv : List Sm.PR} (h : Pairs m kv) (k : List UInt8) (d : Nat) : Sm.getP ((belR m k d).map toP) k = Sm.getP kv k := by
  rw [belR_map]
  unfold Sm.bel
  rw [getP_filter (fun p hp => by rw [hp]; exact Sm.belowB_yes fun _ _ => rfl)]
  exact Sm.getP_perm h.once h.perm k
theorem look_take2 {m : List Pr} (ho : Sm.Once (m.map toP)) {j : Nat} (hj : j < m.length) (k : List UInt8) :
    Sm.getP ((m.take (j + 1)).map toP) k = if (m.getD j noPr).k = k then some (m.getD j noPr).v else Sm.getP ((m.take j).map toP) k := by
  have e : m.getD j noPr = m[j] := by rw [List.getD_eq_getElem?_getD, List.getElem?_eq_getElem hj]; rfl
  rw [e]
  by_cases h : m[j].k = k
  · rw [if_pos h]
    have ho2 : Sm.Once ((m.take (j + 1)).map toP) := ho.sublist ((List.take_sublist _ _).map _)
    have hmem : toP m[j] ∈ (m.take (j + 1)).map toP := List.mem_map.2 ⟨m[j], List.mem_take_iff_getElem.2 ⟨j, by omega, rfl⟩, rfl⟩
    have := Sm.getP_mem ho2 hmem
    rw [show (toP m[j]).1 = k from h] at this
    exact this
  · rw [if_neg h, List.take_succ_eq_append_getElem hj, List.map_append]
    exact getP_snoc _ (toP m[j]) k h
theorem Pairs.onceB {m : List Pr} {kv : List Sm.PR} (h : Pairs m kv) (k : List UInt8) (d : Nat) : Sm.Once ((belR m k d).map toP) := h.once.sublist (List.filter_sublist.map _)
theorem below_le {q k : List UInt8} {d s : Nat} (h : d ≤ s) (hb : Sm.belowB q k s = true) : Sm.belowB q k d = true := List.all_eq_true.2 fun i hi => List.all_eq_true.1 hb i (List.mem_range.2 (by have := List.mem_range.1 hi; omega))
theorem belR_belR (m : List Pr) (k : List UInt8) {d s : Nat} (h : d ≤ s) : belR (belR m k d) k s = belR m k s := by
  unfold belR
  rw [List.filter_filter]
  refine List.filter_congr fun p _ => ?_
  cases hb : Sm.belowB p.k k s with
  | false => rfl
  | true => rw [below_le h hb]; rfl
/-- what is at the end of a way -/
theorem Pairs.rest {m : List Pr} {kv : List Sm.PR} (h : Pairs m kv) {k : List UInt8} {d s : Nat} (hs : Stop kv k d s) : (belR m k s).length ≤ 1 ∧ pThere kv k s = decide (0 < (belR m k s).length) ∧
    (pThere kv k s = true → pKey kv k s = ((belR m k s).getD 0 noPr).k ∧ pVal kv k s = ((belR m k s).getD 0 noPr).v) := by
  have hp : ((belR m k s).map toP).Perm (cur kv k s) := by rw [belR_map]; exact h.curE k s
  have hl := hp.length_eq
  rw [List.length_map] at hl
  have hkl := kd_len h.fine.once k s
  have h1 := hs.one
  refine ⟨by omega, ?_, fun ht => ?_⟩
  · unfold pThere
    exact decide_eq_decide.2 (by omega)
  · have h3 : (kd kv k s).length = 1 := of_decide_eq_true ht
    rw [cur_one h.fine.once h3] at hp
    have h4 := List.perm_singleton.1 hp
    obtain ⟨p, hp1⟩ := List.length_eq_one_iff.1 (show (belR m k s).length = 1 by omega)
    rw [hp1] at h4 ⊢
    injection h4 with h4 _
    injection h4 with h5 h6
    exact ⟨h5.symm, h6.symm⟩

theorem besv_ct (F : Hp) (A : Option Addr) (n c : Nat) (m : List Pr) (hs : Sl F 2 A n c (prsV m)) (hn : n ≤ 1000000) (k : List UInt8) (hk : k.length ≤ 1000000) (d : Nat) (hw : Sm.WF (128 - d) (m.map toP)) (hv : ∀ p ∈ m, p.v.length ≤ 1000000) (hd : d ≤ 128) :
    Ct Tryd.prog 76 [.slice A n c, Str k, I ((d : Nat) : Int)] [F] (fun x : Option Addr × Nat × Hp => .slice x.1 (bes k (128 - d) (m.map toP)).length x.2.1) (fun x => Row x.2.2 9 1 x.1 (bes k (128 - d) (m.map toP)).length x.2.1 (strsV (bes k (128 - d) (m.map toP)))) (fun x => [F, x.2.2]) := bes_ok (128 - d) F A n c m hs hn k hk hw hv d (by omega)
theorem belR_klen {m : List Pr} (h : ∀ i : Nat, (m.getD i noPr).k.length ≤ 1000000) (k : List UInt8) (d : Nat) : ∀ i : Nat, ((belR m k d).getD i noPr).k.length ≤ 1000000 := fun i => by
  by_cases hi : i < (belR m k d).length
  · rw [List.getD_eq_getElem?_getD, List.getElem?_eq_getElem hi]
    have hm : (belR m k d)[i] ∈ m := (List.mem_filter.1 (List.getElem_mem hi)).1
    obtain ⟨j, hj, e⟩ := List.getElem_of_mem hm
    have := h j
    rw [List.getD_eq_getElem?_getD, List.getElem?_eq_getElem hj] at this
    show ((belR m k d)[i]).k.length ≤ 1000000
    rw [← e]; exact this
  · rw [List.getD_eq_getElem?_getD, List.getElem?_eq_none (by omega)]; exact Nat.zero_le _

end Go.Proofs.YtpcffgkmpmcobaaDoor
