/- A part of the proof: contracts of functions of the program, each for every state of the heaps that it names. -/
import Derived.Test.YtnkfapecbmmpeaaGreatDoorPol1
set_option linter.unusedSimpArgs false
set_option linter.unusedVariables false
namespace Go.Proofs.YtnkfapecbmmpeaaGreatDoor
open Go Go.Fw
set_option maxRecDepth 100000
set_option maxHeartbeats 1000000
theorem ent20 : Enters Tryz.prog 20 := Enters.of Tryz.func20 rfl (by kernel_rfl)
theorem ent21 : Enters Tryz.prog 21 := Enters.of Tryz.func21 rfl (by kernel_rfl)
theorem ent24 : Enters Tryz.prog 24 := Enters.of Tryz.func24 rfl (by kernel_rfl)
theorem ent26 : Enters Tryz.prog 26 := Enters.of Tryz.func26 rfl (by kernel_rfl)
theorem ent27 : Enters Tryz.prog 27 := Enters.of Tryz.func27 rfl (by kernel_rfl)
attribute [local irreducible] Sha.tagged Wo.pub Wo.publicOf Wo.signs Wo.ends Wo.digs Wo.walk Wo.opn Mk.root Mk.path Mk.climb Xm.root sgC sgP enEnc enErr sgB

theorem sencK_ct (F : Hp) (i : Nat) (A1 : Option Addr) (n1 c1 : Nat) (ch : List (List UInt8)) (hch : Sl F 1 A1 n1 c1 (strsV ch)) (A2 : Option Addr) (n2 c2 : Nat) (pt : List (List UInt8)) (hpt : Sl F 1 A2 n2 c2 (strsV pt)) (hi : i ≤ 63) (h35 : ch.length = 35) (hn6 : pt.length ≤ 6) (hc16 : ∀ s ∈ ch, s.length = 16) (hp16 : ∀ s ∈ pt, s.length = 16) : Ct Tryz.prog 20 [.agg #[I ((i : Nat) : Int), .slice A1 n1 c1, .slice A2 n2 c2]] [F] (fun _ : Unit => .tuple #[Str (sgB i ch pt), I ((0 : Nat) : Int)]) (fun _ => True) (fun _ => [F]) := by
  have e1 : ch.length = n1 := by have := hch.1; simpa [strsV] using this
  have e2 : pt.length = n2 := by have := hpt.1; simpa [strsV] using this
  rw [h35] at e1
  subst e1
  exact sencode_ct F i A1 c1 ch hch A2 n2 c2 pt hpt hi (by omega) hc16 hp16
theorem edecX_ct (F : Hp) (t : List UInt8) (v : Nat) (o r : List UInt8) (h : Int) (p : List UInt8) (hE : enErr v o r h p = 0) (he : t = enEnc v o r h p) : Ct Tryz.prog 26 [Str t] [F] (fun _ : Unit => .tuple #[.agg #[N64 (v), Str (o), Str (r), I (h), Str (p)], I ((0 : Nat) : Int)]) (fun _ => True) (fun _ => [F]) := by
  subst he
  have := edecode_ct F (enEnc v o r h p)
  rw [de_enc hE] at this
  exact this
theorem sdecX_ct (F : Hp) (t : List UInt8) (i : Nat) (ch pt : List (List UInt8)) (hi : i ≤ 63) (h35 : ch.length = 35) (hn6 : pt.length ≤ 6) (hc16 : ∀ s ∈ ch, s.length = 16) (hp16 : ∀ s ∈ pt, s.length = 16) (hs : t = sgB i ch pt) : Ct Tryz.prog 27 [Str t] [F] (fun x : (Option Addr × Nat × Hp) × (Option Addr × Nat × Hp) => .tuple #[.agg #[I ((i : Nat) : Int), .slice x.1.1 ch.length x.1.2.1, .slice x.2.1 pt.length x.2.2.1], I ((0 : Nat) : Int)]) (fun x => Row x.1.2.2 9 1 x.1.1 ch.length x.1.2.1 (strsV ch) ∧ Row x.2.2.2 9 1 x.2.1 pt.length x.2.2.1 (strsV pt)) (fun x => [F, x.1.2.2, x.2.2.2]) := by
  subst hs
  have h := sdecode_ct F (sgB i ch pt)
  obtain ⟨w1, w2, w3, w4, w5⟩ := why_sgB hi hc16 hp16 h35 hn6
  have e : ∀ a b : Value, (if whyE (sgB i ch pt) = 0 then a else b) = a := fun a b => if_pos w1
  simp only [e, w1, w2, w3, w4, Nat.min_eq_left hn6, w5] at h
  rw [h35]; exact h
def u1 (s : List UInt8) : RS := (⟨s, 0⟩ : RS).textR
def u2 (s : List UInt8) : RS := (u1 s).textR
def u3 (s : List UInt8) : RS := (u2 s).textR
theorem u3_after (s : List UInt8) : u3 s = (⟨s, 0⟩ : RS).after 3 := rfl
theorem text_cut {x : List UInt8} {n : Nat} (hx : x.length ≤ 4096) (hn : n < (tb x).length) : (⟨(tb x).take n, 0⟩ : RS).textR.bad = 3 := by
  have hN : (Sha.numB (UInt64.ofNat x.length) 2).length = 2 := Sha.numB_length _ _
  have htl : (tb x).length = 2 + x.length := by unfold tb; rw [List.length_append, hN]
  have hl : ((tb x).take n).length = n := by rw [List.length_take]; omega
  unfold RS.textR
  by_cases h2 : 2 ≤ n
  · have e1 : (⟨(tb x).take n, 0⟩ : RS).out 2 = Sha.numB (UInt64.ofNat x.length) 2 := by
      rw [out_ok (by rw [hl]; exact h2), List.take_take, Nat.min_eq_left h2]
      unfold tb
      rw [List.take_left' hN]
    have e3 : natB (Sha.numB (UInt64.ofNat x.length) 2) = x.length := by
      rw [natB_numB _ (by omega) 2 (by decide)]; exact Nat.mod_eq_of_lt (by omega)
    have e2 : (⟨(tb x).take n, 0⟩ : RS).take 2 = ⟨((tb x).take n).drop 2, 0⟩ := take_ok (by rw [hl]; exact h2)
    rw [e1, e3, if_neg (by omega), e2]
    unfold RS.take
    rw [if_pos rfl, if_neg (by rw [List.length_drop, hl]; omega)]
  · have e1 : (⟨(tb x).take n, 0⟩ : RS).out 2 = [] := by unfold RS.out; rw [if_neg (by rw [hl]; omega)]
    have e2 : (⟨(tb x).take n, 0⟩ : RS).take 2 = ⟨(tb x).take n, 3⟩ := by unfold RS.take; rw [if_pos rfl, if_neg (by rw [hl]; omega)]
    rw [e1, show natB [] = 0 from rfl, if_neg (by decide), e2]; rfl
theorem all_cut : ∀ (l : List (List UInt8)) (n : Nat), (∀ x ∈ l, x.length ≤ 4096) → n < ((l.map tb).flatten).length → ((⟨((l.map tb).flatten).take n, 0⟩ : RS).after l.length).bad = 3
  | [], n, _, hn => absurd hn (Nat.not_lt_zero n)
  | x :: l, n, h, hn => by
    rw [List.map_cons, List.flatten_cons] at hn ⊢
    rw [List.length_cons, after_front]
    by_cases hx : n < (tb x).length
    · have := text_cut (h x (.head _)) hx
      rw [List.take_append_of_le_length (Nat.le_of_lt hx), after_bad (by rw [this]; decide)]
      exact this
    · have e : (tb x ++ (l.map tb).flatten).take n = tb x ++ ((l.map tb).flatten).take (n - (tb x).length) := by
        rw [List.take_append, List.take_of_length_le (by omega)]
      rw [e, (text_fwd _ (h x (.head _))).2]
      exact all_cut l _ (fun y hy => h y (.tail _ hy)) (by rw [List.length_append] at hn; omega)
def upB (a b c : List UInt8) : List UInt8 := tb a ++ tb b ++ tb c
theorem upB_flat (a b c : List UInt8) : upB a b c = ([a, b, c].map tb).flatten := by unfold upB; simp
theorem upB_len (a b c : List UInt8) : (upB a b c).length = 6 + a.length + b.length + c.length := by unfold upB; simp only [List.length_append, tb_len]; omega
theorem upB_fwd {a b c : List UInt8} (ha : a.length ≤ 4096) (hb : b.length ≤ 4096) (hc : c.length ≤ 4096) : (⟨upB a b c, 0⟩ : RS).textS = a ∧ (u1 (upB a b c)).textS = b ∧ (u2 (upB a b c)).textS = c ∧ (u3 (upB a b c)).last = 0 := by
  have f1 := text_fwd (tb b ++ (tb c ++ [])) ha
  have f2 := text_fwd (tb c ++ []) hb
  have f3 := text_fwd [] hc
  have e : upB a b c = tb a ++ (tb b ++ (tb c ++ [])) := by unfold upB; simp
  unfold u3 u2 u1
  rw [e, f1.2, f2.2, f3.2]
  exact ⟨f1.1, f2.1, f3.1, rfl⟩
theorem upB_cut {a b c : List UInt8} (ha : a.length ≤ 4096) (hb : b.length ≤ 4096) (hc : c.length ≤ 4096) {n : Nat} (hn : n < (upB a b c).length) : (u3 ((upB a b c).take n)).last = 3 := by
  rw [u3_after, upB_flat]
  rw [upB_flat] at hn
  have h := all_cut [a, b, c] n (by intro x hx; rcases List.mem_cons.1 hx with rfl | hx; exact ha; rcases List.mem_cons.1 hx with rfl | hx; exact hb; rw [List.mem_singleton.1 hx]; exact hc) hn
  unfold RS.last
  rw [if_neg (by rw [show (3 : Nat) = [a, b, c].length from rfl, h]; decide)]
  exact h
theorem upB_more {a b c : List UInt8} (ha : a.length ≤ 4096) (hb : b.length ≤ 4096) (hc : c.length ≤ 4096) : (u3 (upB a b c ++ [120])).last = 2 := by
  rw [u3_after, upB_flat, show (3 : Nat) = [a, b, c].length from rfl, (all_fwd [a, b, c] [120] (by intro x hx; rcases List.mem_cons.1 hx with rfl | hx; exact ha; rcases List.mem_cons.1 hx with rfl | hx; exact hb; rw [List.mem_singleton.1 hx]; exact hc)).1]; rfl

theorem penc18_ct (F : Hp) (s : List UInt8) (hs4 : s.length ≤ 4096) (v : Nat) (o r : List UInt8) (h : Int) (p : List UInt8) (hE : enErr v o r h p = 0) (i : Nat) (A1 : Option Addr) (n1 c1 : Nat) (ch : List (List UInt8)) (hch : Sl F 1 A1 n1 c1 (strsV ch)) (A2 : Option Addr) (n2 c2 : Nat) (pt : List (List UInt8)) (hpt : Sl F 1 A2 n2 c2 (strsV pt)) (hi : i ≤ 63) (h35 : ch.length = 35) (hn6 : pt.length ≤ 6) (hc16 : ∀ s ∈ ch, s.length = 16) (hp16 : ∀ s ∈ pt, s.length = 16) : Ct Tryz.prog 9 [.agg #[Str (s), N64 (v), Str (o), Str (r), I (h), Str (p), I ((i : Nat) : Int), .slice A1 n1 c1, .slice A2 n2 c2]] [F] (fun _ : Unit => .tuple #[Str (upB (s) (enEnc (v) (o) (r) (h) (p)) (sgB (i) (ch) (pt))), I ((0 : Nat) : Int)]) (fun _ => True) (fun _ => [F]) := by
  obtain ⟨e1, e2, ⟨e3, e4⟩, e5, e6, e7⟩ := en_inv hE
  have el := enEnc_len hE
  have hsg := sgB_len (i := i) hc16 hp16 h35
  have hul := upB_len s (enEnc v o r h p) (sgB i ch pt)
  refine Ct.walk Tryz.func9 rfl Tryz.ntmps9 rfl (fun w0 hw0 => ?_)
  change J _ [(0, _)] _ _ _
  refine J.seq (fun K1 hK1 => ?_)
  refine J.region ?_
  refine J.e (op_box (l := [Str (s), N64 (v), Str (o), Str (r), I (h), Str (p), I ((i : Nat) : Int), .slice A1 n1 c1, .slice A2 n2 c2]) rfl rfl rfl) rfl rfl rfl ?_
  intro g1 _
  change J _ _ _ [F, blk g1 [Str (s), N64 (v), Str (o), Str (r), I (h), Str (p), I ((i : Nat) : Int), .slice A1 n1 c1, .slice A2 n2 c2] 39] _
  refine J.y (op_assign rfl rfl) rfl rfl rfl ?_
  refine J.y (op_assign rfl rfl) rfl rfl rfl ?_
  refine J.nil ?_
  refine J.then_n (J.k hK1 ?_)
  refine J.keepE [(1, _)] ⟨rfl, trivial⟩ ?_
  refine J.seq (fun K2 hK2 => ?_)
  refine J.region ?_
  refine J.y (op_fieldAddr (j := 1) rfl rfl Tryz.underlying39 rfl Tryz.sizeOf34 rfl) rfl rfl rfl ?_
  refine J.y (op_loadA (vs := [N64 (v), Str (o), Str (r), I (h), Str (p)]) rfl rfl Tryz.isAgg34 Tryz.sizeOf34 (m := blk g1 [Str (s), N64 (v), Str (o), Str (r), I (h), Str (p), I ((i : Nat) : Int), .slice A1 n1 c1, .slice A2 n2 c2] 39) (by simp) (Cells.blk0.sub 1 5) rfl) rfl rfl rfl ?_
  refine J.e (op_call rfl rfl ent17 (Ct.use0 (fun F' hF => eencT_ct F' v o r h p (by first | assumption | omega) (by first | assumption | omega) (by first | assumption | omega) (by first | assumption | omega)))) rfl rfl rfl ?_
  intro g11 _
  refine J.y (op_move rfl rfl) rfl rfl rfl ?_
  refine J.y (op_extract (v := Str (enEnc (v) (o) (r) (h) (p))) rfl rfl rfl) rfl rfl rfl ?_
  refine J.y (op_extract (v := I (enErr (v) (o) (r) (h) (p))) rfl rfl rfl) rfl rfl rfl ?_
  refine J.y (op_assign rfl rfl) rfl rfl rfl ?_
  refine J.y (op_assign rfl rfl) rfl rfl rfl ?_
  refine J.nil ?_
  refine J.then_n (J.k hK2 ?_)
  refine J.keepE [(1, _), (4, _), (5, _)] ⟨rfl, rfl, rfl, trivial⟩ ?_
  refine J.seq (fun K3 hK3 => ?_)
  refine J.seq (fun K4 hK4 => ?_)
  refine J.region ?_
  refine J.y (op_move rfl rfl) rfl rfl rfl ?_
  refine J.y ((op_neq rfl rfl rfl).as (v' := .bool false) (congrArg Value.bool (decide_eq_false (by omega)))) rfl rfl rfl ?_
  refine J.nil ?_
  refine J.then_n (J.k hK4 ?_)
  refine J.keepE [(1, _), (4, _), (5, _), (15, _)] ⟨rfl, rfl, rfl, rfl, trivial⟩ ?_
  refine J.condF rfl rfl ?_
  refine J.skip ?_
  refine J.then_n (J.k hK3 ?_)
  refine J.keepE [(1, _), (4, _)] ⟨rfl, rfl, trivial⟩ ?_
  refine J.seq (fun K5 hK5 => ?_)
  refine J.region ?_
  refine J.y (op_fieldAddr (j := 6) rfl rfl Tryz.underlying39 rfl Tryz.sizeOf37 rfl) rfl rfl rfl ?_
  refine J.y (op_loadA (vs := [I ((i : Nat) : Int), .slice A1 n1 c1, .slice A2 n2 c2]) rfl rfl Tryz.isAgg37 Tryz.sizeOf37 (m := blk g1 [Str (s), N64 (v), Str (o), Str (r), I (h), Str (p), I ((i : Nat) : Int), .slice A1 n1 c1, .slice A2 n2 c2] 39) (by simp) (Cells.blk0.sub 6 3) rfl) rfl rfl rfl ?_
  refine J.e (op_call rfl rfl ent20 (Ct.use0 (fun F' hF => sencK_ct F' i A1 n1 c1 ch (hch.mono (hF F (by simp))) A2 n2 c2 pt (hpt.mono (hF F (by simp))) (by first | assumption | omega) (by first | assumption | omega) (by first | assumption | omega) (by first | assumption | omega) (by first | assumption | omega)))) rfl rfl rfl ?_
  intro g20 _
  refine J.y (op_move rfl rfl) rfl rfl rfl ?_
  refine J.y (op_extract (v := Str (sgB (i) (ch) (pt))) rfl rfl rfl) rfl rfl rfl ?_
  refine J.y (op_extract (v := I ((0 : Nat) : Int)) rfl rfl rfl) rfl rfl rfl ?_
  refine J.y (op_assign rfl rfl) rfl rfl rfl ?_
  refine J.y (op_assign rfl rfl) rfl rfl rfl ?_
  refine J.nil ?_
  refine J.then_n (J.k hK5 ?_)
  refine J.keepE [(1, _), (4, _), (5, _), (6, _)] ⟨rfl, rfl, rfl, rfl, trivial⟩ ?_
  refine J.seq (fun K6 hK6 => ?_)
  refine J.seq (fun K7 hK7 => ?_)
  refine J.region ?_
  refine J.y (op_move rfl rfl) rfl rfl rfl ?_
  refine J.y ((op_neq rfl rfl rfl).as (v' := .bool false) (congrArg Value.bool (decide_eq_false (by decide)))) rfl rfl rfl ?_
  refine J.nil ?_
  refine J.then_n (J.k hK7 ?_)
  refine J.keepE [(1, _), (4, _), (5, _), (6, _), (24, _)] ⟨rfl, rfl, rfl, rfl, rfl, trivial⟩ ?_
  refine J.condF rfl rfl ?_
  refine J.skip ?_
  refine J.then_n (J.k hK6 ?_)
  refine J.keepE [(1, _), (4, _), (6, _)] ⟨rfl, rfl, rfl, trivial⟩ ?_
  refine J.seq (fun K8 hK8 => ?_)
  refine J.region ?_
  refine J.e (op_alloc (l := [.pointer none, .slice none 0 0, I 0]) rfl Tryz.zeroValue63 rfl) rfl rfl rfl ?_
  intro g7 _
  change J _ _ _ [F, blk g1 [Str (s), N64 (v), Str (o), Str (r), I (h), Str (p), I ((i : Nat) : Int), .slice A1 n1 c1, .slice A2 n2 c2] 39, blk g7 [.pointer none, .slice none 0 0, I 0] 63] _
  refine J.nil ?_
  refine J.then_n (J.k hK8 ?_)
  refine J.keepE [(1, _), (4, _), (6, _), (7, _)] ⟨rfl, rfl, rfl, rfl, trivial⟩ ?_
  refine J.seq (fun K9 hK9 => ?_)
  refine J.region ?_
  refine J.y (op_fieldAddr (j := 0) rfl rfl Tryz.underlying39 rfl Tryz.sizeOf9 rfl) rfl rfl rfl ?_
  refine J.y (op_loadB 1 (v := Str (s)) rfl rfl rfl Tryz.isAgg9 rfl) rfl rfl rfl ?_
  refine J.e (op_call rfl rfl ent21 (Ct.use1 2 (m' := fun x : Hp => x) (new := fun _ => []) rfl (fun F' hF => textG_ct F' (blk g7 [.pointer none, .slice none 0 0, I 0] 63) g7 ([]) (wtrN g7) (by first | decide | omega | (simp only [List.length_append, List.length_cons, List.length_nil, List.length_singleton, Sha.numB_length, tb_len] <;> omega)) s (by first | decide | omega | assumption)))) rfl rfl rfl ?_
  rintro m28 hw28
  change J _ ((28, Ptr g7) :: _) _ [F, blk g1 [Str (s), N64 (v), Str (o), Str (r), I (h), Str (p), I ((i : Nat) : Int), .slice A1 n1 c1, .slice A2 n2 c2] 39, m28] _
  rw [List.nil_append] at hw28
  refine J.y (op_move rfl rfl) rfl rfl rfl ?_
  refine J.e (op_call rfl rfl ent21 (Ct.use1 2 (m' := fun x : Hp => x) (new := fun _ => []) rfl (fun F' hF => textG_ct F' m28 g7 (tb (s)) hw28 (by first | decide | omega | (simp only [List.length_append, List.length_cons, List.length_nil, List.length_singleton, Sha.numB_length, tb_len] <;> omega)) (enEnc (v) (o) (r) (h) (p)) (by first | decide | omega | assumption)))) rfl rfl rfl ?_
  rintro m30 hw30
  change J _ ((30, Ptr g7) :: _) _ [F, blk g1 [Str (s), N64 (v), Str (o), Str (r), I (h), Str (p), I ((i : Nat) : Int), .slice A1 n1 c1, .slice A2 n2 c2] 39, m30] _
  refine J.y (op_move rfl rfl) rfl rfl rfl ?_
  refine J.e (op_call rfl rfl ent21 (Ct.use1 2 (m' := fun x : Hp => x) (new := fun _ => []) rfl (fun F' hF => textG_ct F' m30 g7 (tb (s) ++ tb (enEnc (v) (o) (r) (h) (p))) hw30 (by first | decide | omega | (simp only [List.length_append, List.length_cons, List.length_nil, List.length_singleton, Sha.numB_length, tb_len] <;> omega)) (sgB (i) (ch) (pt)) (by first | decide | omega | assumption)))) rfl rfl rfl ?_
  rintro m32 hw32
  change J _ ((32, Ptr g7) :: _) _ [F, blk g1 [Str (s), N64 (v), Str (o), Str (r), I (h), Str (p), I ((i : Nat) : Int), .slice A1 n1 c1, .slice A2 n2 c2] 39, m32] _
  refine J.e (op_call rfl rfl ent22 (Ct.use1 2 (m' := fun x : Hp => x) (new := fun _ => []) rfl (fun F' hF => bytesG_ct F' m32 g7 (upB (s) (enEnc (v) (o) (r) (h) (p)) (sgB (i) (ch) (pt))) hw32 (by first | decide | omega | (simp only [List.length_append, List.length_cons, List.length_nil, List.length_singleton, Sha.numB_length, tb_len] <;> omega)) ))) rfl rfl rfl ?_
  rintro m33 hw33
  change J _ ((33, .tuple #[Str (upB (s) (enEnc (v) (o) (r) (h) (p)) (sgB (i) (ch) (pt))), I ((0 : Nat) : Int)]) :: _) _ [F, blk g1 [Str (s), N64 (v), Str (o), Str (r), I (h), Str (p), I ((i : Nat) : Int), .slice A1 n1 c1, .slice A2 n2 c2] 39, m33] _
  refine J.y (op_extract (v := Str (upB (s) (enEnc (v) (o) (r) (h) (p)) (sgB (i) (ch) (pt)))) rfl rfl rfl) rfl rfl rfl ?_
  refine J.y (op_extract (v := I ((0 : Nat) : Int)) rfl rfl rfl) rfl rfl rfl ?_
  refine J.y (op_assign rfl rfl) rfl rfl rfl ?_
  refine J.y (op_assign rfl rfl) rfl rfl rfl ?_
  refine J.nil ?_
  refine J.then_n (J.k hK9 ?_)
  refine J.keepE [(2, _), (3, _)] ⟨rfl, rfl, trivial⟩ ?_
  refine J.ret ?_
  exact J.done hw0 (fun _ _ h => h) (res2 rfl rfl rfl) (retOk () rfl trivial [0] rfl (by decide))

theorem pdec18E_ct (F : Hp) (s : List UInt8) (hE : (u3 s).last ≠ 0) : Ct Tryz.prog 10 [Str (s)] [F] (fun _ : Unit => .tuple #[.agg #[Str [], N64 (0), Str [], Str [], I ((0 : Nat) : Int), Str [], I ((0 : Nat) : Int), .slice none 0 0, .slice none 0 0], I ((u3 s).last)]) (fun _ => True) (fun _ => [F]) := by
  refine Ct.walk Tryz.func10 rfl Tryz.ntmps10 rfl (fun w0 hw0 => ?_)
  change J _ [(0, _)] _ _ _
  refine J.seq (fun K1 hK1 => ?_)
  refine J.region ?_
  refine J.e (op_alloc (l := [Str [], .int .u64 0, Str [], Str [], I 0, Str [], I 0, .slice none 0 0, .slice none 0 0]) rfl Tryz.zeroValue39 rfl) rfl rfl rfl ?_
  intro g2 _
  change J _ _ _ [F, blk g2 [Str [], .int .u64 0, Str [], Str [], I 0, Str [], I 0, .slice none 0 0, .slice none 0 0] 39] _
  refine J.y (op_assign rfl rfl) rfl rfl rfl ?_
  refine J.nil ?_
  refine J.then_n (J.k hK1 ?_)
  refine J.keepE [(0, _), (2, _)] ⟨rfl, rfl, trivial⟩ ?_
  refine J.seq (fun K2 hK2 => ?_)
  refine J.region ?_
  refine J.y (op_move rfl rfl) rfl rfl rfl ?_
  refine J.e (op_call rfl rfl ent23 (Ct.use (new := fun g => [RSb g (⟨s, 0⟩ : RS)]) (fun F' _ => (read_ct F' s).mono (φ2 := fun _ => True) (val2 := Ptr) (ms2 := fun g => F' :: [RSb g (⟨s, 0⟩ : RS)]) id (fun _ _ => rfl) (fun _ h => h) (fun x w0 w _ h => h.pick [1, 0] (by decide))))) rfl rfl rfl ?_
  rintro g13 _
  change J _ ((13, Ptr g13) :: _) _ [F, blk g2 [Str [], .int .u64 0, Str [], Str [], I 0, Str [], I 0, .slice none 0 0, .slice none 0 0] 39, RSb g13 (⟨s, 0⟩ : RS)] _
  refine J.y (op_assign rfl rfl) rfl rfl rfl ?_
  refine J.nil ?_
  refine J.then_n (J.k hK2 ?_)
  refine J.keepE [(2, _), (4, _)] ⟨rfl, rfl, trivial⟩ ?_
  refine J.seq (fun K3 hK3 => ?_)
  refine J.region ?_
  refine J.y (op_move rfl rfl) rfl rfl rfl ?_
  refine J.e (op_call rfl rfl ent24 (Ct.use1 2 (m' := fun _ : Unit => RSb g13 (u1 s)) (new := fun _ => []) rfl (fun F' _ => rtext_ct F' g13 (⟨s, 0⟩ : RS) ))) rfl rfl rfl ?_
  intro g15 _
  change J _ _ _ [F, blk g2 [Str [], .int .u64 0, Str [], Str [], I 0, Str [], I 0, .slice none 0 0, .slice none 0 0] 39, RSb g13 (u1 s)] _
  refine J.y (op_move rfl rfl) rfl rfl rfl ?_
  refine J.e (op_call rfl rfl ent24 (Ct.use1 2 (m' := fun _ : Unit => RSb g13 (u2 s)) (new := fun _ => []) rfl (fun F' _ => rtext_ct F' g13 (u1 s) ))) rfl rfl rfl ?_
  intro g17 _
  change J _ _ _ [F, blk g2 [Str [], .int .u64 0, Str [], Str [], I 0, Str [], I 0, .slice none 0 0, .slice none 0 0] 39, RSb g13 (u2 s)] _
  refine J.y (op_move rfl rfl) rfl rfl rfl ?_
  refine J.e (op_call rfl rfl ent24 (Ct.use1 2 (m' := fun _ : Unit => RSb g13 (u3 s)) (new := fun _ => []) rfl (fun F' _ => rtext_ct F' g13 (u2 s) ))) rfl rfl rfl ?_
  intro g19 _
  change J _ _ _ [F, blk g2 [Str [], .int .u64 0, Str [], Str [], I 0, Str [], I 0, .slice none 0 0, .slice none 0 0] 39, RSb g13 (u3 s)] _
  refine J.y (op_assign rfl rfl) rfl rfl rfl ?_
  refine J.y (op_assign rfl rfl) rfl rfl rfl ?_
  refine J.y (op_assign rfl rfl) rfl rfl rfl ?_
  refine J.nil ?_
  refine J.then_n (J.k hK3 ?_)
  refine J.keepE [(2, _), (4, _), (5, _), (6, _), (7, _)] ⟨rfl, rfl, rfl, rfl, rfl, trivial⟩ ?_
  refine J.seq (fun K4 hK4 => ?_)
  refine J.seq (fun K5 hK5 => ?_)
  refine J.region ?_
  refine J.y (op_move rfl rfl) rfl rfl rfl ?_
  refine J.e (op_call rfl rfl ent25 (Ct.use1 2 (m' := fun _ : Unit => RSb g13 (u3 s)) (new := fun _ => []) rfl (fun F' _ => end_ct F' g13 (u3 s) ))) rfl rfl rfl ?_
  intro g21 _
  change J _ _ _ [F, blk g2 [Str [], .int .u64 0, Str [], Str [], I 0, Str [], I 0, .slice none 0 0, .slice none 0 0] 39, RSb g13 (u3 s)] _
  refine J.y (op_assign rfl rfl) rfl rfl rfl ?_
  refine J.nil ?_
  refine J.then_n (J.k hK5 ?_)
  refine J.keepE [(2, _), (5, _), (6, _), (7, _), (8, _)] ⟨rfl, rfl, rfl, rfl, rfl, trivial⟩ ?_
  refine J.seq (fun K6 hK6 => ?_)
  refine J.region ?_
  refine J.y (op_move rfl rfl) rfl rfl rfl ?_
  refine J.y ((op_neq rfl rfl rfl).as (v' := .bool true) (congrArg Value.bool (decide_eq_true (hE)))) rfl rfl rfl ?_
  refine J.nil ?_
  refine J.then_n (J.k hK6 ?_)
  refine J.keepE [(2, _), (5, _), (6, _), (7, _), (8, _), (23, _)] ⟨rfl, rfl, rfl, rfl, rfl, rfl, trivial⟩ ?_
  refine J.condT rfl rfl ?_
  refine J.seq (fun K7 hK7 => ?_)
  refine J.region ?_
  refine J.y (op_buildStruct (l := []) (vs := []) (places := [(0, 1), (1, 5), (6, 3)]) (r := [Str [], .int .u64 0, Str [], Str [], I 0, Str [], I 0, .slice none 0 0, .slice none 0 0]) rfl rfl rfl Tryz.underlying39 Tryz.zeroValue39 (fun _ => by kernel_rfl) (by kernel_rfl)) rfl rfl rfl ?_
  refine J.y (op_move rfl rfl) rfl rfl rfl ?_
  refine J.s (op_storeAll (i := 1) (l := [Str [], .int .u64 0, Str [], Str [], I 0, Str [], I 0, .slice none 0 0, .slice none 0 0]) (vs := [Str [], .int .u64 0, Str [], Str [], I 0, Str [], I 0, .slice none 0 0, .slice none 0 0]) rfl rfl rfl rfl rfl Tryz.sizeOf39 rfl rfl) rfl rfl (fun _ _ => ?_)
  change J _ _ _ [F, blk g2 [Str [], .int .u64 0, Str [], Str [], I 0, Str [], I 0, .slice none 0 0, .slice none 0 0] 39, RSb g13 (u3 s)] _
  refine J.y (op_assign rfl rfl) rfl rfl rfl ?_
  refine J.nil ?_
  refine J.then_n (J.k hK7 ?_)
  refine J.keepE [(2, _), (3, _)] ⟨rfl, rfl, trivial⟩ ?_
  refine J.ret ?_
  refine J.then_r ?_
  exact J.done hw0 (fun _ _ h => h) (rv2 rfl (RV.blkA 1 rfl rfl Tryz.isAgg39 Tryz.sizeOf39) rfl) (retOk () rfl trivial [0] rfl (by decide))

theorem pdec18_ct (F : Hp) (s l : List UInt8) (v : Nat) (o r : List UInt8) (h : Int) (p : List UInt8) (hE : enErr v o r h p = 0) (i : Nat) (ch pt : List (List UInt8)) (hi : i ≤ 63) (h35 : ch.length = 35) (hn6 : pt.length ≤ 6) (hc16 : ∀ s ∈ ch, s.length = 16) (hp16 : ∀ s ∈ pt, s.length = 16) (hl : (⟨s, 0⟩ : RS).textS = l) (he : (u1 s).textS = enEnc v o r h p) (hs : (u2 s).textS = sgB i ch pt) (h0 : (u3 s).last = 0) : Ct Tryz.prog 10 [Str s] [F] (fun x : (Option Addr × Nat × Hp) × (Option Addr × Nat × Hp) => .tuple #[.agg #[Str l, N64 (v), Str (o), Str (r), I (h), Str (p), I ((i : Nat) : Int), .slice x.1.1 ch.length x.1.2.1, .slice x.2.1 pt.length x.2.2.1], I ((0 : Nat) : Int)]) (fun x => Row x.1.2.2 9 1 x.1.1 ch.length x.1.2.1 (strsV ch) ∧ Row x.2.2.2 9 1 x.2.1 pt.length x.2.2.1 (strsV pt)) (fun x => [F, x.1.2.2, x.2.2.2]) := by
  refine Ct.walk Tryz.func10 rfl Tryz.ntmps10 rfl (fun w0 hw0 => ?_)
  change J _ [(0, _)] _ _ _
  refine J.seq (fun K1 hK1 => ?_)
  refine J.region ?_
  refine J.e (op_alloc (l := [Str [], .int .u64 0, Str [], Str [], I 0, Str [], I 0, .slice none 0 0, .slice none 0 0]) rfl Tryz.zeroValue39 rfl) rfl rfl rfl ?_
  intro g2 _
  change J _ _ _ [F, blk g2 [Str [], .int .u64 0, Str [], Str [], I 0, Str [], I 0, .slice none 0 0, .slice none 0 0] 39] _
  refine J.y (op_assign rfl rfl) rfl rfl rfl ?_
  refine J.nil ?_
  refine J.then_n (J.k hK1 ?_)
  refine J.keepE [(0, _), (2, _)] ⟨rfl, rfl, trivial⟩ ?_
  refine J.seq (fun K2 hK2 => ?_)
  refine J.region ?_
  refine J.y (op_move rfl rfl) rfl rfl rfl ?_
  refine J.e (op_call rfl rfl ent23 (Ct.use (new := fun g => [RSb g (⟨s, 0⟩ : RS)]) (fun F' _ => (read_ct F' s).mono (φ2 := fun _ => True) (val2 := Ptr) (ms2 := fun g => F' :: [RSb g (⟨s, 0⟩ : RS)]) id (fun _ _ => rfl) (fun _ h => h) (fun x w0 w _ h => h.pick [1, 0] (by decide))))) rfl rfl rfl ?_
  rintro g13 _
  change J _ ((13, Ptr g13) :: _) _ [F, blk g2 [Str [], .int .u64 0, Str [], Str [], I 0, Str [], I 0, .slice none 0 0, .slice none 0 0] 39, RSb g13 (⟨s, 0⟩ : RS)] _
  refine J.y (op_assign rfl rfl) rfl rfl rfl ?_
  refine J.nil ?_
  refine J.then_n (J.k hK2 ?_)
  refine J.keepE [(2, _), (4, _)] ⟨rfl, rfl, trivial⟩ ?_
  refine J.seq (fun K3 hK3 => ?_)
  refine J.region ?_
  refine J.y (op_move rfl rfl) rfl rfl rfl ?_
  refine J.e (op_call rfl rfl ent24 (Ct.use1 2 (m' := fun _ : Unit => RSb g13 (u1 s)) (new := fun _ => []) rfl (fun F' _ => rtext_ct F' g13 (⟨s, 0⟩ : RS) ))) rfl rfl rfl ?_
  intro g15 _
  change J _ _ _ [F, blk g2 [Str [], .int .u64 0, Str [], Str [], I 0, Str [], I 0, .slice none 0 0, .slice none 0 0] 39, RSb g13 (u1 s)] _
  refine J.y (op_move rfl rfl) rfl rfl rfl ?_
  refine J.e (op_call rfl rfl ent24 (Ct.use1 2 (m' := fun _ : Unit => RSb g13 (u2 s)) (new := fun _ => []) rfl (fun F' _ => rtext_ct F' g13 (u1 s) ))) rfl rfl rfl ?_
  intro g17 _
  change J _ _ _ [F, blk g2 [Str [], .int .u64 0, Str [], Str [], I 0, Str [], I 0, .slice none 0 0, .slice none 0 0] 39, RSb g13 (u2 s)] _
  refine J.y (op_move rfl rfl) rfl rfl rfl ?_
  refine J.e (op_call rfl rfl ent24 (Ct.use1 2 (m' := fun _ : Unit => RSb g13 (u3 s)) (new := fun _ => []) rfl (fun F' _ => rtext_ct F' g13 (u2 s) ))) rfl rfl rfl ?_
  intro g19 _
  change J _ _ _ [F, blk g2 [Str [], .int .u64 0, Str [], Str [], I 0, Str [], I 0, .slice none 0 0, .slice none 0 0] 39, RSb g13 (u3 s)] _
  refine J.y (op_assign rfl rfl) rfl rfl rfl ?_
  refine J.y (op_assign rfl rfl) rfl rfl rfl ?_
  refine J.y (op_assign rfl rfl) rfl rfl rfl ?_
  refine J.nil ?_
  refine J.then_n (J.k hK3 ?_)
  refine J.keepE [(2, _), (4, _), (5, _), (6, _), (7, _)] ⟨rfl, rfl, rfl, rfl, rfl, trivial⟩ ?_
  refine J.seq (fun K4 hK4 => ?_)
  refine J.seq (fun K5 hK5 => ?_)
  refine J.region ?_
  refine J.y (op_move rfl rfl) rfl rfl rfl ?_
  refine J.e (op_call rfl rfl ent25 (Ct.use1 2 (m' := fun _ : Unit => RSb g13 (u3 s)) (new := fun _ => []) rfl (fun F' _ => end_ct F' g13 (u3 s) ))) rfl rfl rfl ?_
  intro g21 _
  change J _ _ _ [F, blk g2 [Str [], .int .u64 0, Str [], Str [], I 0, Str [], I 0, .slice none 0 0, .slice none 0 0] 39, RSb g13 (u3 s)] _
  refine J.y (op_assign rfl rfl) rfl rfl rfl ?_
  refine J.nil ?_
  refine J.then_n (J.k hK5 ?_)
  refine J.keepE [(2, _), (5, _), (6, _), (7, _), (8, _)] ⟨rfl, rfl, rfl, rfl, rfl, trivial⟩ ?_
  refine J.seq (fun K6 hK6 => ?_)
  refine J.region ?_
  refine J.y (op_move rfl rfl) rfl rfl rfl ?_
  refine J.y ((op_neq rfl rfl rfl).as (v' := .bool false) (congrArg Value.bool (decide_eq_false (by rw [h0]; exact fun h => h rfl)))) rfl rfl rfl ?_
  refine J.nil ?_
  refine J.then_n (J.k hK6 ?_)
  refine J.keepE [(2, _), (5, _), (6, _), (7, _), (8, _), (23, _)] ⟨rfl, rfl, rfl, rfl, rfl, rfl, trivial⟩ ?_
  refine J.condF rfl rfl ?_
  refine J.skip ?_
  refine J.then_n (J.k hK4 ?_)
  refine J.keepE [(2, _), (5, _), (6, _), (7, _)] ⟨rfl, rfl, rfl, rfl, trivial⟩ ?_
  refine J.seq (fun K7 hK7 => ?_)
  refine J.region ?_
  refine J.y (op_move rfl rfl) rfl rfl rfl ?_
  refine J.e (op_call rfl rfl ent26 (Ct.use0 (fun F' hF => edecX_ct F' ((u1 s).textS) v o r h p hE he))) rfl rfl rfl ?_
  intro g28 _
  refine J.y (op_move rfl rfl) rfl rfl rfl ?_
  refine J.y (op_extract (v := .agg #[N64 (v), Str (o), Str (r), I (h), Str (p)]) rfl rfl rfl) rfl rfl rfl ?_
  refine J.y (op_extract (v := I ((0 : Nat) : Int)) rfl rfl rfl) rfl rfl rfl ?_
  refine J.e (op_alloc (l := [.int .u64 0, Str [], Str [], I 0, Str []]) rfl Tryz.zeroValue34 rfl) rfl rfl rfl ?_
  intro g9 _
  change J _ _ _ [F, blk g2 [Str [], .int .u64 0, Str [], Str [], I 0, Str [], I 0, .slice none 0 0, .slice none 0 0] 39, RSb g13 (u3 s), blk g9 [.int .u64 0, Str [], Str [], I 0, Str []] 34] _
  refine J.s (op_storeAll (i := 3) (l := [.int .u64 0, Str [], Str [], I 0, Str []]) (vs := [N64 (v), Str (o), Str (r), I (h), Str (p)]) rfl rfl rfl rfl rfl Tryz.sizeOf34 rfl rfl) rfl rfl (fun _ _ => ?_)
  change J _ _ _ [F, blk g2 [Str [], .int .u64 0, Str [], Str [], I 0, Str [], I 0, .slice none 0 0, .slice none 0 0] 39, RSb g13 (u3 s), blk g9 [N64 (v), Str (o), Str (r), I (h), Str (p)] 34] _
  refine J.y (op_assign rfl rfl) rfl rfl rfl ?_
  refine J.nil ?_
  refine J.then_n (J.k hK7 ?_)
  refine J.keepE [(2, _), (5, _), (7, _), (9, _), (10, _)] ⟨rfl, rfl, rfl, rfl, rfl, trivial⟩ ?_
  refine J.seq (fun K8 hK8 => ?_)
  refine J.seq (fun K9 hK9 => ?_)
  refine J.region ?_
  refine J.y (op_move rfl rfl) rfl rfl rfl ?_
  refine J.y ((op_neq rfl rfl rfl).as (v' := .bool false) (congrArg Value.bool (decide_eq_false (by decide)))) rfl rfl rfl ?_
  refine J.nil ?_
  refine J.then_n (J.k hK9 ?_)
  refine J.keepE [(2, _), (5, _), (7, _), (9, _), (10, _), (32, _)] ⟨rfl, rfl, rfl, rfl, rfl, rfl, trivial⟩ ?_
  refine J.condF rfl rfl ?_
  refine J.skip ?_
  refine J.then_n (J.k hK8 ?_)
  refine J.keepE [(2, _), (5, _), (7, _), (9, _)] ⟨rfl, rfl, rfl, rfl, trivial⟩ ?_
  refine J.seq (fun K10 hK10 => ?_)
  refine J.region ?_
  refine J.y (op_move rfl rfl) rfl rfl rfl ?_
  refine J.e (op_call rfl rfl ent27 (Ct.use (new := fun x : (Option Addr × Nat × Hp) × (Option Addr × Nat × Hp) => [x.1.2.2, x.2.2.2]) (fun F' hF => sdecX_ct F' ((u2 s).textS) i ch pt hi h35 hn6 hc16 hp16 hs))) rfl rfl rfl ?_
  rintro ⟨⟨A37, c37, m37⟩, ⟨B37, d37, n37⟩⟩ ⟨h37, k37⟩
  change J _ ((37, .tuple #[.agg #[I ((i : Nat) : Int), .slice A37 ch.length c37, .slice B37 pt.length d37], I 0]) :: _) _ [F, blk g2 [Str [], .int .u64 0, Str [], Str [], I 0, Str [], I 0, .slice none 0 0, .slice none 0 0] 39, RSb g13 (u3 s), blk g9 [N64 (v), Str (o), Str (r), I (h), Str (p)] 34, m37, n37] _
  refine J.y (op_move rfl rfl) rfl rfl rfl ?_
  refine J.y (op_extract (v := .agg #[I ((i : Nat) : Int), .slice A37 ch.length c37, .slice B37 pt.length d37]) rfl rfl rfl) rfl rfl rfl ?_
  refine J.y (op_extract (v := I ((0 : Nat) : Int)) rfl rfl rfl) rfl rfl rfl ?_
  refine J.e (op_alloc (l := [I 0, .slice none 0 0, .slice none 0 0]) rfl Tryz.zeroValue37 rfl) rfl rfl rfl ?_
  intro g11 _
  change J _ _ _ [F, blk g2 [Str [], .int .u64 0, Str [], Str [], I 0, Str [], I 0, .slice none 0 0, .slice none 0 0] 39, RSb g13 (u3 s), blk g9 [N64 (v), Str (o), Str (r), I (h), Str (p)] 34, m37, n37, blk g11 [I 0, .slice none 0 0, .slice none 0 0] 37] _
  refine J.s (op_storeAll (i := 6) (l := [I 0, .slice none 0 0, .slice none 0 0]) (vs := [I ((i : Nat) : Int), .slice A37 ch.length c37, .slice B37 pt.length d37]) rfl rfl rfl rfl rfl Tryz.sizeOf37 rfl rfl) rfl rfl (fun _ _ => ?_)
  change J _ _ _ [F, blk g2 [Str [], .int .u64 0, Str [], Str [], I 0, Str [], I 0, .slice none 0 0, .slice none 0 0] 39, RSb g13 (u3 s), blk g9 [N64 (v), Str (o), Str (r), I (h), Str (p)] 34, m37, n37, blk g11 [I ((i : Nat) : Int), .slice A37 ch.length c37, .slice B37 pt.length d37] 37] _
  refine J.y (op_assign rfl rfl) rfl rfl rfl ?_
  refine J.nil ?_
  refine J.then_n (J.k hK10 ?_)
  refine J.keepE [(2, _), (5, _), (9, _), (10, _), (11, _)] ⟨rfl, rfl, rfl, rfl, rfl, trivial⟩ ?_
  refine J.seq (fun K11 hK11 => ?_)
  refine J.seq (fun K12 hK12 => ?_)
  refine J.region ?_
  refine J.y (op_move rfl rfl) rfl rfl rfl ?_
  refine J.y ((op_neq rfl rfl rfl).as (v' := .bool false) (congrArg Value.bool (decide_eq_false (by decide)))) rfl rfl rfl ?_
  refine J.nil ?_
  refine J.then_n (J.k hK12 ?_)
  refine J.keepE [(2, _), (5, _), (9, _), (10, _), (11, _), (41, _)] ⟨rfl, rfl, rfl, rfl, rfl, rfl, trivial⟩ ?_
  refine J.condF rfl rfl ?_
  refine J.skip ?_
  refine J.then_n (J.k hK11 ?_)
  refine J.keepE [(2, _), (5, _), (9, _), (11, _)] ⟨rfl, rfl, rfl, rfl, trivial⟩ ?_
  refine J.seq (fun K13 hK13 => ?_)
  refine J.region ?_
  refine J.y (op_move rfl rfl) rfl rfl rfl ?_
  refine J.y (op_loadBA 3 rfl rfl rfl Tryz.isAgg34 Tryz.sizeOf34 rfl) rfl rfl rfl ?_
  refine J.y (op_loadBA 6 rfl rfl rfl Tryz.isAgg37 Tryz.sizeOf37 rfl) rfl rfl rfl ?_
  refine J.y (op_buildStruct (l := [(0, .tmp 44), (1, .tmp 45), (2, .tmp 46)]) (vs := [Str ((⟨s, 0⟩ : RS).textS), .agg #[N64 (v), Str (o), Str (r), I (h), Str (p)], .agg #[I ((i : Nat) : Int), .slice A37 ch.length c37, .slice B37 pt.length d37]]) (places := [(0, 1), (1, 5), (6, 3)]) (r := [Str ((⟨s, 0⟩ : RS).textS), N64 (v), Str (o), Str (r), I (h), Str (p), I ((i : Nat) : Int), .slice A37 ch.length c37, .slice B37 pt.length d37]) rfl rfl rfl Tryz.underlying39 Tryz.zeroValue39 (fun _ => by kernel_rfl) (by kernel_rfl)) rfl rfl rfl ?_
  refine J.s (op_storeAll (i := 1) (l := [Str [], .int .u64 0, Str [], Str [], I 0, Str [], I 0, .slice none 0 0, .slice none 0 0]) (vs := [Str ((⟨s, 0⟩ : RS).textS), N64 (v), Str (o), Str (r), I (h), Str (p), I ((i : Nat) : Int), .slice A37 ch.length c37, .slice B37 pt.length d37]) rfl rfl rfl rfl rfl Tryz.sizeOf39 rfl rfl) rfl rfl (fun _ _ => ?_)
  change J _ _ _ [F, blk g2 [Str ((⟨s, 0⟩ : RS).textS), N64 (v), Str (o), Str (r), I (h), Str (p), I ((i : Nat) : Int), .slice A37 ch.length c37, .slice B37 pt.length d37] 39, RSb g13 (u3 s), blk g9 [N64 (v), Str (o), Str (r), I (h), Str (p)] 34, m37, n37, blk g11 [I ((i : Nat) : Int), .slice A37 ch.length c37, .slice B37 pt.length d37] 37] _
  refine J.y (op_assign rfl rfl) rfl rfl rfl ?_
  refine J.nil ?_
  refine J.then_n (J.k hK13 ?_)
  refine J.keepE [(2, _), (3, _)] ⟨rfl, rfl, trivial⟩ ?_
  refine J.ret ?_
  exact J.done hw0 (fun _ _ h => h) (rv2 rfl (RV.blkA 1 rfl rfl Tryz.isAgg39 Tryz.sizeOf39) rfl) (retOk ((A37, c37, m37), (B37, d37, n37)) (by rw [hl]; rfl) ⟨h37, k37⟩ [0, 4, 5] rfl (by decide))

end Go.Proofs.YtnkfapecbmmpeaaGreatDoor
