/- A part of the proof: contracts of functions of the program, each for every state of the heaps that it names. -/
import Derived.Test.YtnkfapecbmmpeaaDoorLgb3
set_option linter.unusedSimpArgs false
set_option linter.unusedVariables false
namespace Go.Proofs.YtnkfapecbmmpeaaDoor
open Go Go.Fw
set_option maxRecDepth 100000
set_option maxHeartbeats 1000000
/-! ## one-part records -/
def T1 (tn : UInt64) (nr : Nat) (s : List UInt8) : List UInt8 := (prt tn (UInt64.ofNat nr) s 1 0).text
theorem num16 {nr : Nat} (h : nr < 65536) : (UInt64.ofNat nr).toNat = nr ∧ (UInt64.ofNat nr).toNat < 2 ^ (8 * 2) := by
  rw [ofNat64 (by omega)]; exact ⟨rfl, h⟩
theorem T1_ok {tn : UInt64} {nr : Nat} (s : List UInt8) (ht : tn.toNat < 2 ^ (8 * 4)) (hn : nr < 65536) : (prt tn (UInt64.ofNat nr) s 1 0).ok := prt_ok ht (num16 hn).2 (by decide) (by decide)
theorem T1_len {tn : UInt64} {nr : Nat} (s : List UInt8) (ht : tn.toNat < 2 ^ (8 * 4)) (hn : nr < 65536) : (T1 tn nr s).length = 64 := Prt.text_len (T1_ok s ht hn)
theorem T1_parse {tn : UInt64} {nr : Nat} (s : List UInt8) (ht : tn.toNat < 2 ^ (8 * 4)) (hn : nr < 65536) : parse (T1 tn nr s) = (prt tn (UInt64.ofNat nr) s 1 0, true) := parse_text (T1_ok s ht hn) (bname_len _ _ _)
theorem partsN_one {n : Nat} (h : n ≤ 39) : partsN n = 1 := by
  unfold partsN
  split
  · rfl
  · rw [show (n - 1) / 39 = 0 by omega]
theorem prt_con {tn num : UInt64} {s : List UInt8} (h : s.length ≤ 39) : (prt tn num s 1 0).con = s := by
  show (s.drop (39 * 0)).take 39 = s
  rw [Nat.mul_zero, List.drop_zero, List.take_of_length_le h]
theorem recR_one {turn tn : UInt64} {nr : Nat} {l : List (List UInt8)} {s : List UInt8} (hl : l.getD 0 [] = T1 tn nr s) (h0 : tn.toNat ≠ 0) (ht : tn.toNat < 2 ^ (8 * 4)) (hn : nr < 65536) (hs : s.length ≤ 39) (h1 : 0 < l.length) (hc : 0 < nr → tn.toNat = turn.toNat) :
    recR turn nr l = ⟨tn, s, 1, true⟩ := by
  have hp : parse (l.getD 0 []) = (prt tn (UInt64.ofNat nr) s 1 0, true) := by rw [hl]; exact T1_parse s ht hn
  have hf : recF turn nr l.length (prt tn (UInt64.ofNat nr) s 1 0, true) := ⟨rfl, rfl, h0, (num16 hn).1, h1, hc⟩
  have hq : ∀ i < (prt tn (UInt64.ofNat nr) s 1 0).all, recQ (prt tn (UInt64.ofNat nr) s 1 0) i (parse (l.getD i [])) := fun i hi => by
    have hi0 : i = 0 := by have : i < 1 := hi; omega
    rw [hi0, hp]; exact ⟨rfl, rfl, rfl, rfl, rfl, rfl⟩
  have hcat : catL l (prt tn (UInt64.ofNat nr) s 1 0).all = s := by
    show catL l 0 ++ (parse (l.getD 0 [])).1.con = s
    rw [hp]
    show [] ++ (prt tn (UInt64.ofNat nr) s 1 0).con = s
    rw [prt_con hs, List.nil_append]
  rw [recR_y hp hf hq, hcat, decide_eq_true]
  · rfl
  · exact ⟨(partsN_one hs).symm, rfl⟩
/-- a sector that begins no record -/
def NoPart (s : List UInt8) : Prop := (parse s).2 = false ∨ (parse s).1.turn.toNat = 0
theorem recR_none {turn : UInt64} {nr : Nat} {l : List (List UInt8)} (h : NoPart (l.getD 0 [])) : recR turn nr l = noRec := by
  unfold recR
  rw [if_neg]
  rintro ⟨hf, _⟩
  rcases h with h | h
  · exact absurd hf.1 (by rw [h]; decide)
  · exact hf.2.2.1 h
def Txs (tn : UInt64) : Nat → List (List UInt8) → List (List UInt8)
  | _, [] => []
  | nr, s :: r => T1 tn nr s :: Txs tn (nr + 1) r
theorem Txs_len (tn : UInt64) : ∀ (S : List (List UInt8)) (nr : Nat), (Txs tn nr S).length = S.length
  | [], _ => rfl
  | _ :: r, nr => by rw [Txs, List.length_cons, List.length_cons, Txs_len tn r]
theorem rdl_txs {tn : UInt64} (h0 : tn.toNat ≠ 0) (h1 : tn.toNat < 2 ^ (8 * 4)) : ∀ (S : List (List UInt8)) (t : UInt64) (R : List (List UInt8)) (e : Nat) (J : List (List UInt8)), (∀ s ∈ S, s.length ≤ 39) → R.length + S.length ≤ 65536 → (0 < R.length → tn = t) →
    (∀ t', recR t' (R.length + S.length) J = noRec) → rdl t R e (Txs tn R.length S ++ J) = (if S = [] then t else tn, R ++ S, e + S.length)
  | [], t, R, e, J, _, _, _, hJ => by
    have := hJ t
    rw [List.length_nil, Nat.add_zero] at this
    show rdl t R e J = _
    rw [rdl_no (fun h => by rw [this] at h; exact absurd h.2 (by decide)), if_pos rfl, List.append_nil]; rfl
  | s :: r, t, R, e, J, hS, hn, ht, hJ => by
    have hs := hS s (.head _)
    rw [List.length_cons] at hn hJ
    have hr : recR t R.length (Txs tn R.length (s :: r) ++ J) = ⟨tn, s, 1, true⟩ := recR_one (by rw [Txs]; rfl) h0 h1 (by omega) hs (by rw [Txs]; simp) (fun h => by rw [ht h])
    have hne : Txs tn R.length (s :: r) ++ J ≠ [] := by rw [Txs]; simp
    rw [rdl_yes hne (by rw [hr]), hr]
    dsimp only
    have e1 : (Txs tn R.length (s :: r) ++ J).drop 1 = Txs tn (R ++ [s]).length r ++ J := by
      rw [Txs, List.length_append]; rfl
    rw [e1, rdl_txs h0 h1 r tn (R ++ [s]) (e + 1) J (fun x hx => hS x (.tail _ hx)) (by rw [List.length_append, List.length_singleton]; omega) (fun _ => rfl) (fun t' => by rw [List.length_append, List.length_singleton]; have := hJ t'; rwa [show R.length + 1 + r.length = R.length + (r.length + 1) by omega])]
    rw [if_neg (List.cons_ne_nil s r), List.append_assoc]
    refine Prod.ext_iff.2 ⟨?_, Prod.ext_iff.2 ⟨rfl, ?_⟩⟩
    · dsimp only
      split <;> rfl
    · dsimp only
      rw [List.length_cons]; omega
theorem rdl_none {t : UInt64} {R : List (List UInt8)} {e : Nat} {J : List (List UInt8)} (hJ : ∀ t', recR t' R.length J = noRec) : rdl t R e J = (t, R, e) := rdl_no (fun h => by rw [hJ t] at h; exact absurd h.2 (by decide))
/-! ## a disk that was only written whole -/
theorem zS_no : NoPart zS := zS_part.imp id (fun h => by rw [h]; rfl)
theorem now_calm {d : Dk} (h : d.wait = []) (i : Nat) : d.now i = d.last.getD i [] := by unfold Dk.now; rw [h]; rfl
theorem new_last (n i : Nat) (h : i < n) : (Dk.new n).last.getD i [] = zS := by
  show (List.replicate n (List.replicate 64 0)).getD i [] = zS
  rw [List.getD_eq_getElem?_getD, List.getElem?_replicate, if_pos h]; rfl
theorem secs_get {d : Dk} {at_ n i : Nat} (h : i < n) : (secs d at_ n).getD i [] = d.now (at_ + i) := by
  unfold secs
  rw [List.getD_eq_getElem?_getD, List.getElem?_map, List.getElem?_range h]; rfl
/-- what a disk has behind a record of one part that lasts -/
theorem calm_put1 {d : Dk} (ho : d.off = false) (ha : d.armed = false) (hw : d.wait = []) {p : Nat} {T : List UInt8} (hT : T.length = 64) (hp : p < d.last.length) (h64 : ∀ s ∈ d.last, s.length = 64) :
    (wend d p (fun _ => T) 1) = ({ d with last := d.last.set p T, wait := [] }, 0) := by
  have h0 : d.ready ((p + 0 : Nat) : Int) = 0 := calm_ready ho (i := p + 0) (by omega)
  have hwr := write_in h0 (s := T) (by omega) (calm_burn ha).2
  rw [(calm_burn ha).1] at hwr
  have e1 : wrun d p (fun _ => T) 1 = (d.write ((p + 0 : Nat) : Int) T, d.wErr ((p + 0 : Nat) : Int) T) := wrun_succ rfl
  have hfull : full T = T := by unfold full; rw [hT]; simp
  rw [hwr.1, hwr.2, hw, hfull] at e1
  have h2 : (wrun d p (fun _ => T) 1).2 = 0 := by rw [e1]
  unfold wend
  rw [if_pos h2, e1]
  dsimp only
  have hl : 0 < d.last.length := by omega
  have h3 : ({ d with wait := [] ++ [(((p + 0 : Nat) : Int).toNat, T)] } : Dk).ready 0 = 0 := calm_ready (d := { d with wait := [] ++ [(((p + 0 : Nat) : Int).toNat, T)] }) ho (i := 0) hl
  have h4 := calm_burn (d := { d with wait := [] ++ [(((p + 0 : Nat) : Int).toNat, T)] }) ha
  unfold Dk.sync Dk.sErr
  rw [if_neg (by rw [h3]; decide), if_neg h4.2, if_neg (by rw [h3]; decide), if_neg h4.2, h4.1]
  refine Prod.ext_iff.2 ⟨?_, rfl⟩
  dsimp only
  congr 1
  show lastW d.last (p, T) 64 = d.last.set p T
  unfold lastW tear
  dsimp only
  rw [List.take_of_length_le (by omega), List.drop_of_length_le (by rw [get64 h64 hp]; exact Nat.le_refl _), List.append_nil]

end Go.Proofs.YtnkfapecbmmpeaaDoor
