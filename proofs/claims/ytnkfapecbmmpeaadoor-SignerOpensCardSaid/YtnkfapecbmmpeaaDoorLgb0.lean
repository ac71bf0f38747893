/- A part of the proof: contracts of functions of the program, each for every state of the heaps that it names. -/
import Derived.Test.YtnkfapecbmmpeaaDoorBook2
import Derived.Test.YtnkfapecbmmpeaaDoorPrc
set_option linter.unusedSimpArgs false
set_option linter.unusedVariables false
namespace Go.Proofs.YtnkfapecbmmpeaaDoor
open Go Go.Fw
set_option maxRecDepth 100000
set_option maxHeartbeats 1000000

theorem rd_app (a b : List UInt8) {n : Nat} (h : a.length = n) : (⟨a ++ b, 0⟩ : RS).out n = a ∧ (⟨a ++ b, 0⟩ : RS).take n = ⟨b, 0⟩ := by
  subst h
  exact ⟨by rw [out_ok (by rw [List.length_append]; omega), List.take_left' rfl], by rw [take_ok (by rw [List.length_append]; omega), List.drop_left' rfl]⟩
theorem natB_w (x : UInt64) (t : Nat) (ht : t ≤ 8) (h : x.toNat < 256 ^ t) : natB (Sha.numB x t) = x.toNat := by
  have := natB_numB x.toNat x.toNat_lt t ht
  rw [UInt64.ofNat_toNat, Nat.mod_eq_of_lt h] at this
  exact this
theorem natB_n (x t : Nat) (ht : t ≤ 8) (h : x < 256 ^ t) : natB (Sha.numB (UInt64.ofNat x) t) = x := by
  have h2 : x < 18446744073709551616 := Nat.lt_of_lt_of_le h (Nat.le_trans (Nat.pow_le_pow_right (by decide) ht) (by decide))
  rw [natB_numB x h2 t ht, Nat.mod_eq_of_lt h]
theorem Prt.pad_eq (p : Prt) : p.pad = Sha.numB p.turn 4 ++ (Sha.numB p.num 2 ++ (Sha.numB (UInt64.ofNat p.at_) 1 ++ (Sha.numB (UInt64.ofNat p.all) 1 ++ (Sha.numB (UInt64.ofNat p.con.length) 1 ++ (p.name ++ (p.con ++ List.replicate (56 - p.body.length) 0)))))) := by
  have e : p.body = Sha.numB p.turn 4 ++ (Sha.numB p.num 2 ++ (Sha.numB (UInt64.ofNat p.at_) 1 ++ (Sha.numB (UInt64.ofNat p.all) 1 ++ (Sha.numB (UInt64.ofNat p.con.length) 1 ++ (p.name ++ p.con))))) := by
    unfold Prt.body Prt.b5 Prt.b4 Prt.b3 Prt.b2 Prt.b1; simp only [List.append_assoc]
  unfold Prt.pad
  generalize List.replicate (56 - p.body.length) (0 : UInt8) = Z
  rw [e]
  simp only [List.append_assoc]
theorem rdp_text {p : Prt} (h : p.ok) (h8 : p.name.length = 8) {s : List UInt8} (hs : s.take 56 = p.pad) : rdp s = p := by
  have hN : ∀ (x : UInt64) (n : Nat), (Sha.numB x n).length = n := Sha.numB_length
  have t0 : R0 s = ⟨p.pad, 0⟩ := by unfold R0; rw [hs]
  rw [p.pad_eq] at t0
  have a0 := rd_app (Sha.numB p.turn 4) (Sha.numB p.num 2 ++ (Sha.numB (UInt64.ofNat p.at_) 1 ++ (Sha.numB (UInt64.ofNat p.all) 1 ++ (Sha.numB (UInt64.ofNat p.con.length) 1 ++ (p.name ++ (p.con ++ List.replicate (56 - p.body.length) 0)))))) (hN _ 4)
  have t1 := a0.2
  rw [← t0] at t1
  change R1 s = _ at t1
  have a1 := rd_app (Sha.numB p.num 2) (Sha.numB (UInt64.ofNat p.at_) 1 ++ (Sha.numB (UInt64.ofNat p.all) 1 ++ (Sha.numB (UInt64.ofNat p.con.length) 1 ++ (p.name ++ (p.con ++ List.replicate (56 - p.body.length) 0))))) (hN _ 2)
  have t2 := a1.2
  rw [← t1] at t2
  change R2 s = _ at t2
  have a2 := rd_app (Sha.numB (UInt64.ofNat p.at_) 1) (Sha.numB (UInt64.ofNat p.all) 1 ++ (Sha.numB (UInt64.ofNat p.con.length) 1 ++ (p.name ++ (p.con ++ List.replicate (56 - p.body.length) 0)))) (hN _ 1)
  have t3 := a2.2
  rw [← t2] at t3
  change R3 s = _ at t3
  have a3 := rd_app (Sha.numB (UInt64.ofNat p.all) 1) (Sha.numB (UInt64.ofNat p.con.length) 1 ++ (p.name ++ (p.con ++ List.replicate (56 - p.body.length) 0))) (hN _ 1)
  have t4 := a3.2
  rw [← t3] at t4
  change R4 s = _ at t4
  have a4 := rd_app (Sha.numB (UInt64.ofNat p.con.length) 1) (p.name ++ (p.con ++ List.replicate (56 - p.body.length) 0)) (hN _ 1)
  have t5 := a4.2
  rw [← t4] at t5
  change R5 s = _ at t5
  have a5 := rd_app p.name (p.con ++ List.replicate (56 - p.body.length) 0) h8
  have t6 := a5.2
  rw [← t5] at t6
  change R6 s = _ at t6
  have hc := h.c
  have hcn : conN s = p.con.length := by
    unfold conN
    rw [t4, a4.1, natB_n _ 1 (by decide) (by omega)]; omega
  unfold rdp
  rw [hcn, t0, t1, t2, t3, t5, t6, a0.1, a1.1, a2.1, a3.1, a5.1, (rd_app p.con _ rfl).1, natB_w _ 4 (by decide) h.t, natB_w _ 2 (by decide) h.n, natB_n _ 1 (by decide) h.a, natB_n _ 1 (by decide) h.l, UInt64.ofNat_toNat, UInt64.ofNat_toNat]
theorem parse_text {p : Prt} (h : p.ok) (h8 : p.name.length = 8) : parse p.text = (p, true) := by
  have e1 : p.text.take 56 = p.pad := by unfold Prt.text; rw [List.take_left' (Prt.pad_len h)]
  have e2 : p.text.drop 56 = bsum p.pad := by unfold Prt.text; rw [List.drop_left' (Prt.pad_len h)]
  unfold parse
  rw [e1, e2, if_pos rfl, rdp_text h h8 e1, decide_eq_true rfl]
theorem parse_okP (s : List UInt8) : (parse s).1.ok := by
  unfold parse
  split
  · exact rdp_ok s
  · exact ⟨by decide, by decide, by decide, by decide, by decide, by decide⟩
/-! ## a record that begins with a sector -/
def recQ (p : Prt) (i : Nat) (y : Prt × Bool) : Prop := y.2 = true ∧ y.1.at_ = i ∧ y.1.turn.toNat = p.turn.toNat ∧ y.1.num.toNat = p.num.toNat ∧ y.1.all = p.all ∧ y.1.name = p.name
instance (p : Prt) (i : Nat) (y : Prt × Bool) : Decidable (recQ p i y) := by unfold recQ; infer_instance
def recF (turn : UInt64) (nr n : Nat) (y : Prt × Bool) : Prop := y.2 = true ∧ y.1.at_ = 0 ∧ y.1.turn.toNat ≠ 0 ∧ y.1.num.toNat = nr ∧ y.1.all ≤ n ∧ (0 < nr → y.1.turn.toNat = turn.toNat)
instance (turn : UInt64) (nr n : Nat) (y : Prt × Bool) : Decidable (recF turn nr n y) := by unfold recF; infer_instance
def catL (l : List (List UInt8)) : Nat → List UInt8
  | 0 => []
  | k + 1 => catL l k ++ (parse (l.getD k [])).1.con
theorem catL_len (l : List (List UInt8)) : ∀ k, (catL l k).length ≤ 39 * k
  | 0 => Nat.le_refl _
  | k + 1 => by
    have h1 := catL_len l k
    have h2 := (parse_okP (l.getD k [])).c
    rw [catL, List.length_append]; omega
structure RecR where
  turn : UInt64
  text : List UInt8
  n : Nat
  ok : Bool
def noRec : RecR := ⟨0, [], 0, false⟩
def recR (turn : UInt64) (nr : Nat) (l : List (List UInt8)) : RecR :=
  if recF turn nr l.length (parse (l.getD 0 [])) ∧ (∀ i < (parse (l.getD 0 [])).1.all, recQ (parse (l.getD 0 [])).1 i (parse (l.getD i []))) then
    ⟨(parse (l.getD 0 [])).1.turn, catL l (parse (l.getD 0 [])).1.all, (parse (l.getD 0 [])).1.all, decide ((parse (l.getD 0 [])).1.all = partsN (catL l (parse (l.getD 0 [])).1.all).length ∧ (parse (l.getD 0 [])).1.name = bname (parse (l.getD 0 [])).1.turn (parse (l.getD 0 [])).1.num (catL l (parse (l.getD 0 [])).1.all))⟩
  else noRec
theorem recR_f {turn : UInt64} {nr : Nat} {l : List (List UInt8)} {p : Prt} {ok : Bool} (hp : parse (l.getD 0 []) = (p, ok)) (h : ¬ recF turn nr l.length (p, ok)) : recR turn nr l = noRec := by
  unfold recR
  rw [hp, if_neg (fun e => h e.1)]
theorem recR_q {turn : UInt64} {nr : Nat} {l : List (List UInt8)} {p q : Prt} {ok ok2 : Bool} (hp : parse (l.getD 0 []) = (p, ok)) {i : Nat} (hi : i < p.all) (hq : parse (l.getD i []) = (q, ok2)) (h : ¬ recQ p i (q, ok2)) : recR turn nr l = noRec := by
  unfold recR
  rw [hp, if_neg (fun e => h (by have := e.2 i hi; rwa [hq] at this))]
theorem recR_y {turn : UInt64} {nr : Nat} {l : List (List UInt8)} {p : Prt} {ok : Bool} (hp : parse (l.getD 0 []) = (p, ok)) (hf : recF turn nr l.length (p, ok)) (hq : ∀ i < p.all, recQ p i (parse (l.getD i []))) :
    recR turn nr l = ⟨p.turn, catL l p.all, p.all, decide (p.all = partsN (catL l p.all).length ∧ p.name = bname p.turn p.num (catL l p.all))⟩ := by
  unfold recR
  rw [hp, if_pos ⟨hf, hq⟩]
def RecR.val (r : RecR) : Value := .tuple #[W64 r.turn, Str r.text, I ((r.n : Nat) : Int), .bool r.ok]
theorem recR_le {turn : UInt64} {nr : Nat} {l : List (List UInt8)} (h : (recR turn nr l).ok = true) : 1 ≤ (recR turn nr l).n ∧ (recR turn nr l).n ≤ l.length ∧ (recR turn nr l).n ≤ 255 ∧ (recR turn nr l).text.length ≤ 9945 := by
  unfold recR at h ⊢
  split at h
  · rename_i hc
    rw [if_pos hc]
    dsimp only at h ⊢
    have h1 := of_decide_eq_true h
    have h2 := partsN_pos (catL l (parse (l.getD 0 [])).1.all).length
    have h3 := hc.1.2.2.2.2.1
    have h4 := (parse_okP (l.getD 0 [])).l
    have h5 := catL_len l (parse (l.getD 0 [])).1.all
    exact ⟨by rw [h1.1]; exact h2, h3, by omega, by omega⟩
  · cases h

end Go.Proofs.YtnkfapecbmmpeaaDoor
