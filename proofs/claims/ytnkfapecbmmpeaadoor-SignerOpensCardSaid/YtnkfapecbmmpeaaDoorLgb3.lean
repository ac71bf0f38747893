/- A part of the proof: contracts of functions of the program, each for every state of the heaps that it names. -/
import Derived.Test.YtnkfapecbmmpeaaDoorLgb2
set_option linter.unusedSimpArgs false
set_option linter.unusedVariables false
namespace Go.Proofs.YtnkfapecbmmpeaaDoor
open Go Go.Fw
set_option maxRecDepth 100000
set_option maxHeartbeats 1000000

/-- a half of a book -/
structure Hlf where
  at_ : Nat
  t : UInt64
  R : List (List UInt8)
  e : Nat
def hlf (d : Dk) (at_ size : Nat) : Hlf := ⟨at_, (rdl 0 [] 0 (secs d at_ size)).1, (rdl 0 [] 0 (secs d at_ size)).2.1, (rdl 0 [] 0 (secs d at_ size)).2.2⟩
/-- which half a book has behind the first k are read -/
def hst (d : Dk) (first size : Nat) : Nat → Hlf
  | 0 => ⟨0, 0, [], 0⟩
  | 1 => hlf d first size
  | _ + 2 => if 0 < (hlf d (first + size) size).R.length ∧ ((hlf d first size).R.length = 0 ∨ (hlf d first size).t.toNat < (hlf d (first + size) size).t.toNat) then hlf d (first + size) size else hlf d first size
theorem hlf_eq {d : Dk} {at_ size : Nat} {t : UInt64} {R : List (List UInt8)} {e : Nat} (h : rdl 0 [] 0 (secs d at_ size) = (t, R, e)) : hlf d at_ size = ⟨at_, t, R, e⟩ := by unfold hlf; rw [h]
theorem hst_take {d : Dk} {first size k km at1 e1 e2 : Nat} {t1 t2 : UInt64} {R1 R2 : List (List UInt8)} (hk : k < 2) (hkm : km = k * size) (h1 : hst d first size k = ⟨at1, t1, R1, e1⟩) (h2 : rdl 0 [] 0 (secs d (first + km) size) = (t2, R2, e2))
    (hc : k = 0 ∨ (0 < R2.length ∧ (R1.length = 0 ∨ t1.toNat < t2.toNat))) : hst d first size (k + 1) = ⟨first + km, t2, R2, e2⟩ := by
  have h3 := hlf_eq h2
  match k, hk with
  | 0, _ =>
    rw [Nat.zero_mul] at hkm
    subst hkm
    exact h3
  | 1, _ =>
    rw [Nat.one_mul] at hkm
    subst hkm
    have hc2 := hc.resolve_left (by decide)
    have h4 : hlf d first km = ⟨at1, t1, R1, e1⟩ := h1
    show (if _ then _ else _) = _
    rw [h3, h4, if_pos hc2]
theorem hst_keep {d : Dk} {first size k km at1 e1 e2 : Nat} {t1 t2 : UInt64} {R1 R2 : List (List UInt8)} (hk : k < 2) (hkm : km = k * size) (h1 : hst d first size k = ⟨at1, t1, R1, e1⟩) (h2 : rdl 0 [] 0 (secs d (first + km) size) = (t2, R2, e2))
    (hc : k ≠ 0 ∧ ¬ (0 < R2.length ∧ (R1.length = 0 ∨ t1.toNat < t2.toNat))) : hst d first size (k + 1) = ⟨at1, t1, R1, e1⟩ := by
  have h3 := hlf_eq h2
  match k, hk with
  | 0, _ => exact absurd rfl hc.1
  | 1, _ =>
    rw [Nat.one_mul] at hkm
    subst hkm
    have h4 : hlf d first km = ⟨at1, t1, R1, e1⟩ := h1
    show (if _ then _ else _) = _
    rw [h3, h4, if_neg hc.2]
/-- a book in memory: its block's cells -/
def bkC (gd first size : Nat) (x : Hlf) (A : Option Addr) (c : Nat) (bad : Bool) : List Value := [Ptr gd, I ((first : Nat) : Int), I ((size : Nat) : Int), I ((x.at_ : Nat) : Int), W64 x.t, I ((x.e : Nat) : Int), .slice A x.R.length c, .bool bad]

theorem bopen_ct (F : Hp) (hK : Cells F ⟨1, 0, none⟩ (Sha.K.map W32)) (gd : Nat) (d : Dk) (hok : d.ok) (A : Option Addr) (c : Nat) (B : Option Addr) (e : Nat) (C : Option Addr) (f : Nat) (hc : Cells F ⟨gd, 0, none⟩ (d.cells A c B e C f)) (hL : Sl F 1 A d.last.length c (strsV d.last)) (hW : Sl F 2 B d.wait.length e (writV d.wait)) (hn2 : d.wait.length ≤ 1073741824) (first count : Nat) (h8 : 8 ≤ count) (hfc : first + count ≤ d.last.length) (hoff : d.off = false) :
    Ct Tryd.prog 33 [Ptr gd, I ((first : Nat) : Int), I ((count : Nat) : Int)] [F] (fun x : Nat × Option Addr × Nat × Hp => .tuple #[Ptr x.1, I ((0 : Nat) : Int)]) (fun x => Row x.2.2.2 9 1 x.2.1 (hst d first (count / 2) 2).R.length x.2.2.1 (strsV (hst d first (count / 2) 2).R)) (fun x => [F, blk x.1 (bkC gd first (count / 2) (hst d first (count / 2) 2) x.2.1 x.2.2.1 false) 130, x.2.2.2]) := by
  have hn1 := hok.n1
  refine Ct.walk Tryd.func33 rfl Tryd.ntmps33 rfl (fun w0 hw0 => ?_)
  change J _ [(0, _), (1, _), (2, _)] _ _ _
  refine J.seq (fun K1 hK1 => ?_)
  refine J.region ?_
  refine J.y (op_assign rfl rfl) rfl rfl rfl ?_
  refine J.y (op_assign rfl rfl) rfl rfl rfl ?_
  refine J.nil ?_
  refine J.then_n (J.k hK1 ?_)
  refine J.keepE [(0, _), (1, _), (2, _)] ⟨rfl, rfl, rfl, trivial⟩ ?_
  refine J.seq (fun K2 hK2 => ?_)
  refine J.seq (fun K3 hK3 => ?_)
  refine J.region ?_
  refine J.y (op_move rfl rfl) rfl rfl rfl ?_
  refine J.y ((op_peq Tryd.underlying64 rfl rfl rfl).as (v' := .bool false) rfl) rfl rfl rfl ?_
  refine J.y (op_move rfl rfl) rfl rfl rfl ?_
  refine J.yg (Wan.is rfl rfl rfl rfl rfl) (op_move rfl rfl) rfl rfl ?_
  refine J.yg (Wan.is rfl rfl rfl rfl rfl) ((op_lss rfl rfl rfl).as (v' := .bool false) (congrArg Value.bool (decide_eq_false (by omega)))) rfl rfl ?_
  refine J.y (op_pickF rfl rfl rfl) rfl rfl rfl ?_
  refine J.y (op_move rfl rfl) rfl rfl rfl ?_
  refine J.yg (Wan.is rfl rfl rfl rfl rfl) (op_move rfl rfl) rfl rfl ?_
  refine J.yg (Wan.is rfl rfl rfl rfl rfl) ((op_lss rfl rfl rfl).as (v' := .bool false) (congrArg Value.bool (decide_eq_false (by omega)))) rfl rfl ?_
  refine J.y (op_pickF rfl rfl rfl) rfl rfl rfl ?_
  refine J.y (op_move rfl rfl) rfl rfl rfl ?_
  refine J.yg (Wan.is rfl rfl rfl rfl rfl) (op_move rfl rfl) rfl rfl ?_
  refine J.yg (Wan.is rfl rfl rfl rfl rfl) (op_move rfl rfl) rfl rfl ?_
  refine J.eg (Wan.is rfl rfl rfl rfl rfl) (op_call rfl rfl ent76 (Ct.use0 (fun F' hF => count_ct F' gd d A c B e C f (hc.mono (hF F (by simp)))))) rfl rfl ?_
  intro g25 _
  refine J.yg (Wan.is rfl rfl rfl rfl rfl) ((op_gtr rfl rfl rfl).as (v' := .bool false) (congrArg Value.bool (decide_eq_false (by omega)))) rfl rfl ?_
  refine J.y (op_pickF rfl rfl rfl) rfl rfl rfl ?_
  refine J.y (op_move rfl rfl) rfl rfl rfl ?_
  refine J.yg (Wan.is rfl rfl rfl rfl rfl) (op_move rfl rfl) rfl rfl ?_
  refine J.yg (Wan.is rfl rfl rfl rfl rfl) (op_move rfl rfl) rfl rfl ?_
  refine J.eg (Wan.is rfl rfl rfl rfl rfl) (op_call rfl rfl ent76 (Ct.use0 (fun F' hF => count_ct F' gd d A c B e C f (hc.mono (hF F (by simp)))))) rfl rfl ?_
  intro g31 _
  refine J.yg (Wan.is rfl rfl rfl rfl rfl) (op_move rfl rfl) rfl rfl ?_
  refine J.yg (Wan.is rfl rfl rfl rfl rfl) (op_sub rfl rfl rfl (by first | omega | (simp only [List.length_append, List.length_cons, List.length_nil, List.length_take, List.length_drop] at *; omega))) rfl rfl ?_
  refine J.yg (Wan.is rfl rfl rfl rfl rfl) ((op_gtr rfl rfl rfl).as (v' := .bool false) (congrArg Value.bool (decide_eq_false (by omega)))) rfl rfl ?_
  refine J.y (op_pickF rfl rfl rfl) rfl rfl rfl ?_
  refine J.nil ?_
  refine J.then_n (J.k hK3 ?_)
  refine J.keepE [(0, _), (1, _), (2, _), (35, _)] ⟨rfl, rfl, rfl, rfl, trivial⟩ ?_
  refine J.condF rfl rfl ?_
  refine J.skip ?_
  refine J.then_n (J.k hK2 ?_)
  refine J.keepE [(0, _), (1, _), (2, _)] ⟨rfl, rfl, rfl, trivial⟩ ?_
  refine J.seq (fun K4 hK4 => ?_)
  refine J.region ?_
  refine J.y (op_move rfl rfl) rfl rfl rfl ?_
  refine J.y (op_move rfl rfl) rfl rfl rfl ?_
  refine J.y (op_move rfl rfl) rfl rfl rfl ?_
  refine J.y ((op_quo rfl rfl rfl (by first | omega | (simp only [List.length_append, List.length_cons, List.length_nil, List.length_take, List.length_drop] at *; omega))).as (v' := I ((count / 2 : Nat) : Int)) (congrArg I (by omega))) rfl rfl rfl ?_
  refine J.y (op_buildStruct (l := [(0, .tmp 36), (1, .tmp 37), (2, .tmp 39)]) (vs := [Ptr gd, I ((first : Nat) : Int), I ((count / 2 : Nat) : Int)]) (places := [(0, 1), (1, 1), (2, 1), (3, 4), (7, 1)]) (r := [Ptr gd, I ((first : Nat) : Int), I ((count / 2 : Nat) : Int), I 0, .int .u64 0, I 0, .slice none 0 0, .bool false]) rfl rfl rfl Tryd.underlying130 Tryd.zeroValue130 (fun _ => by kernel_rfl) (by kernel_rfl)) rfl rfl rfl ?_
  refine J.e (op_box (l := [Ptr gd, I ((first : Nat) : Int), I ((count / 2 : Nat) : Int), I 0, .int .u64 0, I 0, .slice none 0 0, .bool false]) rfl rfl rfl) rfl rfl rfl ?_
  intro g41 _
  change J _ _ _ [F, blk g41 [Ptr gd, I ((first : Nat) : Int), I ((count / 2 : Nat) : Int), I 0, .int .u64 0, I 0, .slice none 0 0, .bool false] 130] _
  refine J.y (op_assign rfl rfl) rfl rfl rfl ?_
  refine J.nil ?_
  refine J.then_n (J.k hK4 ?_)
  refine J.keepE [(1, _), (8, _)] ⟨rfl, rfl, trivial⟩ ?_
  refine J.seq (fun K5 hK5 => ?_)
  refine J.seq (fun K6 hK6 => ?_)
  refine J.region ?_
  refine J.y (op_move rfl rfl) rfl rfl rfl ?_
  refine J.nil ?_
  refine J.then_n (J.k hK6 ?_)
  refine J.keepE [(1, _), (8, _), (42, _)] ⟨rfl, rfl, rfl, trivial⟩ ?_
  refine J.block ?_
  refine J.loop (X := Nat × Nat × UInt64 × List (List UInt8) × Nat × Option Addr × Nat × Hp) (fun ζ => [(1, I ((first : Nat) : Int)), (8, Ptr g41), (42, I ((ζ.1 : Nat) : Int))]) (fun ζ => [F, blk g41 [Ptr gd, I ((first : Nat) : Int), I ((count / 2 : Nat) : Int), I ((ζ.2.1 : Nat) : Int), W64 (ζ.2.2.1), I ((ζ.2.2.2.2.1 : Nat) : Int), .slice ζ.2.2.2.2.2.1 ζ.2.2.2.1.length ζ.2.2.2.2.2.2.1, .bool false] 130, ζ.2.2.2.2.2.2.2]) (fun ζ => ζ.1 ≤ 2 ∧ hst d first (count / 2) ζ.1 = ⟨ζ.2.1, ζ.2.2.1, ζ.2.2.2.1, ζ.2.2.2.2.1⟩ ∧ Row ζ.2.2.2.2.2.2.2 9 1 ζ.2.2.2.2.2.1 ζ.2.2.2.1.length ζ.2.2.2.2.2.2.1 (strsV ζ.2.2.2.1)) (fun ζ => 2 - ζ.1) (0, 0, 0, [], 0, none, 0, (fun _ => none)) (⟨Nat.zero_le _, rfl, RowQ.nil⟩) ⟨rfl, rfl, rfl, trivial⟩ (fun _ h => h.empty.pick [0, 1, 2] (by decide)) ?_
  rintro ⟨k, at1, t1, R1, e1, A1, c1, mr⟩ ⟨hk, hq, hr⟩ I0 hI0
  dsimp only at hk hq hr ⊢
  refine J.seq (fun K7 hK7 => ?_)
  refine J.region ?_
  refine J.y (op_lss rfl rfl rfl) rfl rfl rfl ?_
  refine J.nil ?_
  refine J.then_n (J.k hK7 ?_)
  refine J.keepE [(1, _), (8, _), (42, _), (43, _)] ⟨rfl, rfl, rfl, rfl, trivial⟩ ?_
  refine J.seq (fun K8 hK8 => ?_)
  refine J.ite rfl (fun h43 => ?_) (fun h43 => ?_)
  ·
    refine J.skip ?_
    refine J.then_n (J.k hK8 ?_)
    refine J.keepE [(1, _), (8, _), (42, _)] ⟨rfl, rfl, rfl, trivial⟩ ?_
    refine J.seq (fun K9 hK9 => ?_)
    refine J.block ?_
    refine J.seq (fun K10 hK10 => ?_)
    refine J.region ?_
    refine J.y (op_move rfl rfl) rfl rfl rfl ?_
    refine J.y (op_assign rfl rfl) rfl rfl rfl ?_
    refine J.nil ?_
    refine J.then_n (J.k hK10 ?_)
    refine J.keepE [(1, _), (8, _), (9, _), (42, _)] ⟨rfl, rfl, rfl, rfl, trivial⟩ ?_
    refine J.seq (fun K11 hK11 => ?_)
    obtain ⟨km, hkm⟩ : ∃ km, km = k * (count / 2) := ⟨_, rfl⟩
    have hkm2 : km + count / 2 ≤ count := by
      have : k = 0 ∨ k = 1 := by omega
      rcases this with e | e <;> rw [hkm, e] <;> omega
    obtain ⟨t2, R2, e2, hD2⟩ : ∃ t2 R2 e2, rdl 0 [] 0 (secs d (first + km) (count / 2)) = (t2, R2, e2) := ⟨_, _, _, rfl⟩
    refine J.region ?_
    refine J.y (op_move rfl rfl) rfl rfl rfl ?_
    refine J.y (op_move rfl rfl) rfl rfl rfl ?_
    refine J.y (op_move rfl rfl) rfl rfl rfl ?_
    refine J.y (op_move rfl rfl) rfl rfl rfl ?_
    refine J.y (op_nilCheck rfl rfl) rfl rfl rfl ?_
    refine J.y (op_fieldAddr (j := 2) rfl rfl Tryd.underlying130 rfl Tryd.sizeOf3 rfl) rfl rfl rfl ?_
    refine J.y (op_loadB 1 (v := I ((count / 2 : Nat) : Int)) rfl rfl rfl Tryd.isAgg3 rfl) rfl rfl rfl ?_
    refine J.y ((op_mul rfl rfl rfl (by rw [← Int.natCast_mul, ← hkm]; omega)).as (v' := I ((km : Nat) : Int)) (congrArg I (by rw [hkm, Int.natCast_mul]))) rfl rfl rfl ?_
    refine J.y ((op_add rfl rfl rfl (by first | omega | (simp only [List.length_append, List.length_cons, List.length_nil, List.length_take, List.length_drop] at *; omega))).as (v' := I ((first + km : Nat) : Int)) (congrArg I (by omega))) rfl rfl rfl ?_
    refine J.e (op_call rfl rfl ent77 (Ct.use (new := fun x : Option Addr × Nat × Hp => [x.2.2]) (fun F' hF => by have := bread_ct F' (hK.mono (hF F (by simp))) g41 gd ((first : Nat) : Int) (count / 2) _ (Cells.blk0.mono (hF (blk g41 [Ptr gd, I ((first : Nat) : Int), I ((count / 2 : Nat) : Int), I ((at1 : Nat) : Int), W64 (t1), I ((e1 : Nat) : Int), .slice A1 R1.length c1, .bool false] 130) (by simp))) d hok A c B e C f (hc.mono (hF F (by simp))) (hL.mono (hF F (by simp))) (hW.mono (hF F (by simp))) (by omega) hn2 (first + km) (by omega) hoff; rw [hD2] at this; exact this))) rfl rfl rfl ?_
    rintro ⟨A55, c55, m55⟩ h55
    try dsimp only at h55
    change J _ ((55, .tuple #[.agg #[I ((first + km : Nat) : Int), W64 (t2), I ((e2 : Nat) : Int), .slice A55 R2.length c55], I ((0 : Nat) : Int)]) :: _) _ [F, blk g41 [Ptr gd, I ((first : Nat) : Int), I ((count / 2 : Nat) : Int), I ((at1 : Nat) : Int), W64 (t1), I ((e1 : Nat) : Int), .slice A1 R1.length c1, .bool false] 130, mr, m55] _
    refine J.y (op_move rfl rfl) rfl rfl rfl ?_
    refine J.y (op_extract (v := .agg #[I ((first + km : Nat) : Int), W64 (t2), I ((e2 : Nat) : Int), .slice A55 R2.length c55]) rfl rfl rfl) rfl rfl rfl ?_
    refine J.y (op_extract (v := I ((0 : Nat) : Int)) rfl rfl rfl) rfl rfl rfl ?_
    refine J.e (op_alloc (l := [I 0, .int .u64 0, I 0, .slice none 0 0]) rfl Tryd.zeroValue128 rfl) rfl rfl rfl ?_
    intro g10 _
    change J _ _ _ [F, blk g41 [Ptr gd, I ((first : Nat) : Int), I ((count / 2 : Nat) : Int), I ((at1 : Nat) : Int), W64 (t1), I ((e1 : Nat) : Int), .slice A1 R1.length c1, .bool false] 130, mr, m55, blk g10 [I 0, .int .u64 0, I 0, .slice none 0 0] 128] _
    refine J.s (op_storeAll (i := 4) (l := [I 0, .int .u64 0, I 0, .slice none 0 0]) (vs := [I ((first + km : Nat) : Int), W64 (t2), I ((e2 : Nat) : Int), .slice A55 R2.length c55]) rfl rfl rfl rfl rfl Tryd.sizeOf128 rfl rfl) rfl rfl (fun _ _ => ?_)
    change J _ _ _ [F, blk g41 [Ptr gd, I ((first : Nat) : Int), I ((count / 2 : Nat) : Int), I ((at1 : Nat) : Int), W64 (t1), I ((e1 : Nat) : Int), .slice A1 R1.length c1, .bool false] 130, mr, m55, blk g10 [I ((first + km : Nat) : Int), W64 (t2), I ((e2 : Nat) : Int), .slice A55 R2.length c55] 128] _
    refine J.y (op_assign rfl rfl) rfl rfl rfl ?_
    refine J.nil ?_
    refine J.then_n (J.k hK11 ?_)
    refine J.keepE [(1, _), (8, _), (9, _), (10, _), (11, _), (42, _)] ⟨rfl, rfl, rfl, rfl, rfl, rfl, trivial⟩ ?_
    refine J.seq (fun K12 hK12 => ?_)
    refine J.seq (fun K13 hK13 => ?_)
    refine J.region ?_
    refine J.y (op_move rfl rfl) rfl rfl rfl ?_
    refine J.y ((op_neq rfl rfl rfl).as (v' := .bool false) (congrArg Value.bool (decide_eq_false (by decide)))) rfl rfl rfl ?_
    refine J.nil ?_
    refine J.then_n (J.k hK13 ?_)
    refine J.keepE [(1, _), (8, _), (9, _), (10, _), (11, _), (42, _), (59, _)] ⟨rfl, rfl, rfl, rfl, rfl, rfl, rfl, trivial⟩ ?_
    refine J.condF rfl rfl ?_
    refine J.skip ?_
    refine J.then_n (J.k hK12 ?_)
    refine J.keepE [(1, _), (8, _), (9, _), (10, _), (42, _)] ⟨rfl, rfl, rfl, rfl, rfl, trivial⟩ ?_
    refine J.seq (fun K14 hK14 => ?_)
    refine J.draw [F, blk g41 [Ptr gd, I ((first : Nat) : Int), I ((count / 2 : Nat) : Int), I ((at1 : Nat) : Int), W64 (t1), I ((e1 : Nat) : Int), .slice A1 R1.length c1, .bool false] 130, blk g10 [I ((first + km : Nat) : Int), W64 (t2), I ((e2 : Nat) : Int), .slice A55 R2.length c55] 128] [] (.y 0 (.y 1 (.y 2 (.y 3 (.y 4 (.y 5 (.y 6 (.y 7 (.y 8 (.y 9 (.y 10 (.y 11 (.y 12 (.y 13 (.y 14 (.y 15 (.y 16 (.y 17 (.y 18 (.y 19 (.y 20 (.y 21 (.y 22 (.y 23 (.y 24 (.y 25 (.y 26 .nil))))))))))))))))))))))))))) Tryd.wide (by decide +kernel) (by simp) ?_
    refine J.dy rfl (op_move rfl rfl) rfl rfl rfl rfl ?_
    refine J.dy rfl (op_eql rfl rfl rfl) rfl rfl rfl rfl ?_
    refine J.dy rfl (op_move rfl rfl) rfl rfl rfl rfl ?_
    refine J.split (d := 63) rfl (fun h63 => ?_) (fun h63 => ?_)
    ·
      refine J.dno rfl (Wan.is rfl rfl rfl rfl rfl) rfl rfl ?_
      refine J.dno rfl (Wan.is rfl rfl rfl rfl rfl) rfl rfl ?_
      refine J.dno rfl (Wan.is rfl rfl rfl rfl rfl) rfl rfl ?_
      refine J.dno rfl (Wan.is rfl rfl rfl rfl rfl) rfl rfl ?_
      refine J.dno rfl (Wan.is rfl rfl rfl rfl rfl) rfl rfl ?_
      refine J.dno rfl (Wan.un rfl rfl rfl rfl) rfl rfl ?_
      refine J.dno rfl (Wan.un rfl rfl rfl rfl) rfl rfl ?_
      refine J.dno rfl (Wan.un rfl rfl rfl rfl) rfl rfl ?_
      refine J.dno rfl (Wan.un rfl rfl rfl rfl) rfl rfl ?_
      refine J.dno rfl (Wan.un rfl rfl rfl rfl) rfl rfl ?_
      refine J.dno rfl (Wan.un rfl rfl rfl rfl) rfl rfl ?_
      refine J.dno rfl (Wan.un rfl rfl rfl rfl) rfl rfl ?_
      refine J.dno rfl (Wan.un rfl rfl rfl rfl) rfl rfl ?_
      refine J.dno rfl (Wan.un rfl rfl rfl rfl) rfl rfl ?_
      refine J.dno rfl (Wan.un rfl rfl rfl rfl) rfl rfl ?_
      refine J.dno rfl (Wan.un rfl rfl rfl rfl) rfl rfl ?_
      refine J.dno rfl (Wan.un rfl rfl rfl rfl) rfl rfl ?_
      refine J.dno rfl (Wan.un rfl rfl rfl rfl) rfl rfl ?_
      refine J.dno rfl (Wan.un rfl rfl rfl rfl) rfl rfl ?_
      refine J.dno rfl (Wan.un rfl rfl rfl rfl) rfl rfl ?_
      refine J.dno rfl (Wan.un rfl rfl rfl rfl) rfl rfl ?_
      refine J.dno rfl (Wan.un rfl rfl rfl rfl) rfl rfl ?_
      refine J.dno rfl (Wan.is rfl rfl rfl rfl rfl) rfl rfl ?_
      refine J.dy rfl (op_pickT rfl rfl rfl) rfl rfl rfl rfl ?_
      refine J.dnil ?_
      refine J.then_n (J.k hK14 ?_)
      refine J.keepE [(1, _), (8, _), (10, _), (42, _), (87, _)] ⟨rfl, rfl, rfl, rfl, rfl, trivial⟩ ?_
      refine J.condT rfl rfl ?_
      refine J.region ?_
      refine J.y (op_move rfl rfl) rfl rfl rfl ?_
      refine J.y (op_loadBA 4 rfl rfl rfl Tryd.isAgg128 Tryd.sizeOf128 rfl) rfl rfl rfl ?_
      refine J.y (op_nilCheck rfl rfl) rfl rfl rfl ?_
      refine J.y (op_fieldAddr (j := 3) rfl rfl Tryd.underlying130 rfl Tryd.sizeOf128 rfl) rfl rfl rfl ?_
      refine J.s (op_store (i := 1) (l := [Ptr gd, I ((first : Nat) : Int), I ((count / 2 : Nat) : Int), I ((at1 : Nat) : Int), W64 (t1), I ((e1 : Nat) : Int), .slice A1 R1.length c1, .bool false]) (vs := [I ((first + km : Nat) : Int), W64 (t2), I ((e2 : Nat) : Int), .slice A55 R2.length c55]) rfl rfl rfl rfl rfl Tryd.sizeOf128 rfl (by simp)) rfl rfl (fun _ _ => ?_)
      change J _ _ _ [F, blk g41 [Ptr gd, I ((first : Nat) : Int), I ((count / 2 : Nat) : Int), I ((first + km : Nat) : Int), W64 (t2), I ((e2 : Nat) : Int), .slice A55 R2.length c55, .bool false] 130, mr, m55, blk g10 [I ((first + km : Nat) : Int), W64 (t2), I ((e2 : Nat) : Int), .slice A55 R2.length c55] 128] _
      refine J.nil ?_
      refine J.blk_n ?_
      refine J.then_n (J.k hK9 ?_)
      refine J.keepE [(1, _), (8, _), (42, _)] ⟨rfl, rfl, rfl, trivial⟩ ?_
      refine J.region ?_
      refine J.y ((op_add rfl rfl rfl (by first | omega | (simp only [List.length_append, List.length_cons, List.length_nil, List.length_take, List.length_drop] at *; omega))).as (v' := I ((k + 1 : Nat) : Int)) (congrArg I (by omega))) rfl rfl rfl ?_
      refine J.y (op_move rfl rfl) rfl rfl rfl ?_
      refine J.nil ?_
      refine J.then_n ?_
      exact J.kk (k + 1, first + km, t2, R2, e2, A55, c55, m55) (fun η (hη : _ ∧ 2 - η.1 < 2 - k) => hI0 η hη.1 hη.2) ⟨⟨by dsimp only; omega, by dsimp only; exact hst_take (by omega) hkm hq hD2 (by omega), h55⟩, by dsimp only; omega⟩ ⟨rfl, rfl, rfl, trivial⟩ (fun _ h => h.pick [0, 1, 3] (by decide))
    ·
      refine J.dyg rfl (op_fieldAddr (j := 3) rfl rfl Tryd.underlying128 rfl Tryd.sizeOf55 rfl) (Wan.is rfl rfl rfl rfl rfl) rfl rfl rfl ?_
      refine J.dyg rfl (op_loadB 2 (v := .slice A55 R2.length c55) rfl rfl rfl Tryd.isAgg55 rfl) (Wan.is rfl rfl rfl rfl rfl) rfl rfl rfl ?_
      refine J.dyg rfl (op_len Tryd.underlying55 rfl rfl) (Wan.is rfl rfl rfl rfl rfl) rfl rfl rfl ?_
      refine J.dyg rfl (op_gtr rfl rfl rfl) (Wan.is rfl rfl rfl rfl rfl) rfl rfl rfl ?_
      refine J.dyg rfl (op_move rfl rfl) (Wan.is rfl rfl rfl rfl rfl) rfl rfl rfl ?_
      refine J.split (d := 68) rfl (fun h68 => ?_) (fun h68 => ?_)
      ·
        refine J.dyg rfl (op_move rfl rfl) (Wan.is rfl rfl rfl rfl rfl) rfl rfl rfl ?_
        refine J.dyg rfl (op_nilCheck rfl rfl) (Wan.is rfl rfl rfl rfl rfl) rfl rfl rfl ?_
        refine J.dyg rfl (op_fieldAddr (j := 3) rfl rfl Tryd.underlying130 rfl Tryd.sizeOf128 rfl) (Wan.is rfl rfl rfl rfl rfl) rfl rfl rfl ?_
        refine J.dyg rfl (op_fieldAddr (j := 6) rfl rfl Tryd.underlying128 rfl Tryd.sizeOf55 rfl) (Wan.is rfl rfl rfl rfl rfl) rfl rfl rfl ?_
        refine J.dyg rfl (op_loadB 1 (v := .slice A1 R1.length c1) rfl rfl rfl Tryd.isAgg55 rfl) (Wan.is rfl rfl rfl rfl rfl) rfl rfl rfl ?_
        refine J.dyg rfl (op_len Tryd.underlying55 rfl rfl) (Wan.is rfl rfl rfl rfl rfl) rfl rfl rfl ?_
        refine J.dyg rfl (op_eql rfl rfl rfl) (Wan.is rfl rfl rfl rfl rfl) rfl rfl rfl ?_
        refine J.dyg rfl (op_move rfl rfl) (Wan.is rfl rfl rfl rfl rfl) rfl rfl rfl ?_
        refine J.split (d := 76) rfl (fun h76 => ?_) (fun h76 => ?_)
        ·
          refine J.dno rfl (Wan.is rfl rfl rfl rfl rfl) rfl rfl ?_
          refine J.dno rfl (Wan.is rfl rfl rfl rfl rfl) rfl rfl ?_
          refine J.dno rfl (Wan.is rfl rfl rfl rfl rfl) rfl rfl ?_
          refine J.dno rfl (Wan.is rfl rfl rfl rfl rfl) rfl rfl ?_
          refine J.dno rfl (Wan.is rfl rfl rfl rfl rfl) rfl rfl ?_
          refine J.dno rfl (Wan.is rfl rfl rfl rfl rfl) rfl rfl ?_
          refine J.dno rfl (Wan.is rfl rfl rfl rfl rfl) rfl rfl ?_
          refine J.dno rfl (Wan.is rfl rfl rfl rfl rfl) rfl rfl ?_
          refine J.dyg rfl (op_pickT rfl rfl rfl) (Wan.is rfl rfl rfl rfl rfl) rfl rfl rfl ?_
          refine J.dyg rfl (op_pickT rfl rfl rfl) (Wan.is rfl rfl rfl rfl rfl) rfl rfl rfl ?_
          refine J.dy rfl (op_pickF rfl rfl rfl) rfl rfl rfl rfl ?_
          refine J.dnil ?_
          refine J.then_n (J.k hK14 ?_)
          refine J.keepE [(1, _), (8, _), (10, _), (42, _), (87, _)] ⟨rfl, rfl, rfl, rfl, rfl, trivial⟩ ?_
          refine J.condT rfl rfl ?_
          refine J.region ?_
          refine J.y (op_move rfl rfl) rfl rfl rfl ?_
          refine J.y (op_loadBA 4 rfl rfl rfl Tryd.isAgg128 Tryd.sizeOf128 rfl) rfl rfl rfl ?_
          refine J.y (op_nilCheck rfl rfl) rfl rfl rfl ?_
          refine J.y (op_fieldAddr (j := 3) rfl rfl Tryd.underlying130 rfl Tryd.sizeOf128 rfl) rfl rfl rfl ?_
          refine J.s (op_store (i := 1) (l := [Ptr gd, I ((first : Nat) : Int), I ((count / 2 : Nat) : Int), I ((at1 : Nat) : Int), W64 (t1), I ((e1 : Nat) : Int), .slice A1 R1.length c1, .bool false]) (vs := [I ((first + km : Nat) : Int), W64 (t2), I ((e2 : Nat) : Int), .slice A55 R2.length c55]) rfl rfl rfl rfl rfl Tryd.sizeOf128 rfl (by simp)) rfl rfl (fun _ _ => ?_)
          change J _ _ _ [F, blk g41 [Ptr gd, I ((first : Nat) : Int), I ((count / 2 : Nat) : Int), I ((first + km : Nat) : Int), W64 (t2), I ((e2 : Nat) : Int), .slice A55 R2.length c55, .bool false] 130, mr, m55, blk g10 [I ((first + km : Nat) : Int), W64 (t2), I ((e2 : Nat) : Int), .slice A55 R2.length c55] 128] _
          refine J.nil ?_
          refine J.blk_n ?_
          refine J.then_n (J.k hK9 ?_)
          refine J.keepE [(1, _), (8, _), (42, _)] ⟨rfl, rfl, rfl, trivial⟩ ?_
          refine J.region ?_
          refine J.y ((op_add rfl rfl rfl (by first | omega | (simp only [List.length_append, List.length_cons, List.length_nil, List.length_take, List.length_drop] at *; omega))).as (v' := I ((k + 1 : Nat) : Int)) (congrArg I (by omega))) rfl rfl rfl ?_
          refine J.y (op_move rfl rfl) rfl rfl rfl ?_
          refine J.nil ?_
          refine J.then_n ?_
          exact J.kk (k + 1, first + km, t2, R2, e2, A55, c55, m55) (fun η (hη : _ ∧ 2 - η.1 < 2 - k) => hI0 η hη.1 hη.2) ⟨⟨by dsimp only; omega, by dsimp only; exact hst_take (by omega) hkm hq hD2 (by omega), h55⟩, by dsimp only; omega⟩ ⟨rfl, rfl, rfl, trivial⟩ (fun _ h => h.pick [0, 1, 3] (by decide))
        ·
          refine J.dyg rfl (op_fieldAddr (j := 1) rfl rfl Tryd.underlying128 rfl Tryd.sizeOf108 rfl) (Wan.is rfl rfl rfl rfl rfl) rfl rfl rfl ?_
          refine J.dyg rfl (op_loadB 2 (v := W64 (t2)) rfl rfl rfl Tryd.isAgg108 rfl) (Wan.is rfl rfl rfl rfl rfl) rfl rfl rfl ?_
          refine J.dyg rfl (op_move rfl rfl) (Wan.is rfl rfl rfl rfl rfl) rfl rfl rfl ?_
          refine J.dyg rfl (op_nilCheck rfl rfl) (Wan.is rfl rfl rfl rfl rfl) rfl rfl rfl ?_
          refine J.dyg rfl (op_fieldAddr (j := 3) rfl rfl Tryd.underlying130 rfl Tryd.sizeOf128 rfl) (Wan.is rfl rfl rfl rfl rfl) rfl rfl rfl ?_
          refine J.dyg rfl (op_fieldAddr (j := 4) rfl rfl Tryd.underlying128 rfl Tryd.sizeOf108 rfl) (Wan.is rfl rfl rfl rfl rfl) rfl rfl rfl ?_
          refine J.dyg rfl (op_loadB 1 (v := W64 (t1)) rfl rfl rfl Tryd.isAgg108 rfl) (Wan.is rfl rfl rfl rfl rfl) rfl rfl rfl ?_
          refine J.dyg rfl (op_gtr rfl rfl rfl) (Wan.is rfl rfl rfl rfl rfl) rfl rfl rfl ?_
          refine J.dyg rfl (op_pickF rfl rfl rfl) (Wan.is rfl rfl rfl rfl rfl) rfl rfl rfl ?_
          refine J.dyg rfl (op_pickT rfl rfl rfl) (Wan.is rfl rfl rfl rfl rfl) rfl rfl rfl ?_
          refine J.dy rfl (op_pickF rfl rfl rfl) rfl rfl rfl rfl ?_
          refine J.dnil ?_
          refine J.then_n (J.k hK14 ?_)
          refine J.keepE [(1, _), (8, _), (10, _), (42, _), (87, _)] ⟨rfl, rfl, rfl, rfl, rfl, trivial⟩ ?_
          refine J.ite rfl (fun h87 => ?_) (fun h87 => ?_)
          ·
            refine J.region ?_
            refine J.y (op_move rfl rfl) rfl rfl rfl ?_
            refine J.y (op_loadBA 4 rfl rfl rfl Tryd.isAgg128 Tryd.sizeOf128 rfl) rfl rfl rfl ?_
            refine J.y (op_nilCheck rfl rfl) rfl rfl rfl ?_
            refine J.y (op_fieldAddr (j := 3) rfl rfl Tryd.underlying130 rfl Tryd.sizeOf128 rfl) rfl rfl rfl ?_
            refine J.s (op_store (i := 1) (l := [Ptr gd, I ((first : Nat) : Int), I ((count / 2 : Nat) : Int), I ((at1 : Nat) : Int), W64 (t1), I ((e1 : Nat) : Int), .slice A1 R1.length c1, .bool false]) (vs := [I ((first + km : Nat) : Int), W64 (t2), I ((e2 : Nat) : Int), .slice A55 R2.length c55]) rfl rfl rfl rfl rfl Tryd.sizeOf128 rfl (by simp)) rfl rfl (fun _ _ => ?_)
            change J _ _ _ [F, blk g41 [Ptr gd, I ((first : Nat) : Int), I ((count / 2 : Nat) : Int), I ((first + km : Nat) : Int), W64 (t2), I ((e2 : Nat) : Int), .slice A55 R2.length c55, .bool false] 130, mr, m55, blk g10 [I ((first + km : Nat) : Int), W64 (t2), I ((e2 : Nat) : Int), .slice A55 R2.length c55] 128] _
            refine J.nil ?_
            refine J.blk_n ?_
            refine J.then_n (J.k hK9 ?_)
            refine J.keepE [(1, _), (8, _), (42, _)] ⟨rfl, rfl, rfl, trivial⟩ ?_
            refine J.region ?_
            refine J.y ((op_add rfl rfl rfl (by first | omega | (simp only [List.length_append, List.length_cons, List.length_nil, List.length_take, List.length_drop] at *; omega))).as (v' := I ((k + 1 : Nat) : Int)) (congrArg I (by omega))) rfl rfl rfl ?_
            refine J.y (op_move rfl rfl) rfl rfl rfl ?_
            refine J.nil ?_
            refine J.then_n ?_
            exact J.kk (k + 1, first + km, t2, R2, e2, A55, c55, m55) (fun η (hη : _ ∧ 2 - η.1 < 2 - k) => hI0 η hη.1 hη.2) ⟨⟨by dsimp only; omega, by dsimp only; exact hst_take (by omega) hkm hq hD2 (by omega), h55⟩, by dsimp only; omega⟩ ⟨rfl, rfl, rfl, trivial⟩ (fun _ h => h.pick [0, 1, 3] (by decide))
          ·
            refine J.skip ?_
            refine J.blk_n ?_
            refine J.then_n (J.k hK9 ?_)
            refine J.keepE [(1, _), (8, _), (42, _)] ⟨rfl, rfl, rfl, trivial⟩ ?_
            refine J.region ?_
            refine J.y ((op_add rfl rfl rfl (by first | omega | (simp only [List.length_append, List.length_cons, List.length_nil, List.length_take, List.length_drop] at *; omega))).as (v' := I ((k + 1 : Nat) : Int)) (congrArg I (by omega))) rfl rfl rfl ?_
            refine J.y (op_move rfl rfl) rfl rfl rfl ?_
            refine J.nil ?_
            refine J.then_n ?_
            exact J.kk (k + 1, at1, t1, R1, e1, A1, c1, mr) (fun η (hη : _ ∧ 2 - η.1 < 2 - k) => hI0 η hη.1 hη.2) ⟨⟨by dsimp only; omega, by dsimp only; exact hst_keep (by omega) hkm hq hD2 (by omega), hr⟩, by dsimp only; omega⟩ ⟨rfl, rfl, rfl, trivial⟩ (fun _ h => h.pick [0, 1, 2] (by decide))
      ·
        refine J.dno rfl (Wan.is rfl rfl rfl rfl rfl) rfl rfl ?_
        refine J.dno rfl (Wan.is rfl rfl rfl rfl rfl) rfl rfl ?_
        refine J.dno rfl (Wan.is rfl rfl rfl rfl rfl) rfl rfl ?_
        refine J.dno rfl (Wan.is rfl rfl rfl rfl rfl) rfl rfl ?_
        refine J.dno rfl (Wan.is rfl rfl rfl rfl rfl) rfl rfl ?_
        refine J.dno rfl (Wan.is rfl rfl rfl rfl rfl) rfl rfl ?_
        refine J.dno rfl (Wan.is rfl rfl rfl rfl rfl) rfl rfl ?_
        refine J.dno rfl (Wan.is rfl rfl rfl rfl rfl) rfl rfl ?_
        refine J.dno rfl (Wan.un rfl rfl rfl rfl) rfl rfl ?_
        refine J.dno rfl (Wan.un rfl rfl rfl rfl) rfl rfl ?_
        refine J.dno rfl (Wan.un rfl rfl rfl rfl) rfl rfl ?_
        refine J.dno rfl (Wan.un rfl rfl rfl rfl) rfl rfl ?_
        refine J.dno rfl (Wan.un rfl rfl rfl rfl) rfl rfl ?_
        refine J.dno rfl (Wan.un rfl rfl rfl rfl) rfl rfl ?_
        refine J.dno rfl (Wan.un rfl rfl rfl rfl) rfl rfl ?_
        refine J.dno rfl (Wan.un rfl rfl rfl rfl) rfl rfl ?_
        refine J.dno rfl (Wan.is rfl rfl rfl rfl rfl) rfl rfl ?_
        refine J.dyg rfl (op_pickF rfl rfl rfl) (Wan.is rfl rfl rfl rfl rfl) rfl rfl rfl ?_
        refine J.dy rfl (op_pickF rfl rfl rfl) rfl rfl rfl rfl ?_
        refine J.dnil ?_
        refine J.then_n (J.k hK14 ?_)
        refine J.keepE [(1, _), (8, _), (10, _), (42, _), (87, _)] ⟨rfl, rfl, rfl, rfl, rfl, trivial⟩ ?_
        refine J.condF rfl rfl ?_
        refine J.skip ?_
        refine J.blk_n ?_
        refine J.then_n (J.k hK9 ?_)
        refine J.keepE [(1, _), (8, _), (42, _)] ⟨rfl, rfl, rfl, trivial⟩ ?_
        refine J.region ?_
        refine J.y ((op_add rfl rfl rfl (by first | omega | (simp only [List.length_append, List.length_cons, List.length_nil, List.length_take, List.length_drop] at *; omega))).as (v' := I ((k + 1 : Nat) : Int)) (congrArg I (by omega))) rfl rfl rfl ?_
        refine J.y (op_move rfl rfl) rfl rfl rfl ?_
        refine J.nil ?_
        refine J.then_n ?_
        exact J.kk (k + 1, at1, t1, R1, e1, A1, c1, mr) (fun η (hη : _ ∧ 2 - η.1 < 2 - k) => hI0 η hη.1 hη.2) ⟨⟨by dsimp only; omega, by dsimp only; exact hst_keep (by omega) hkm hq hD2 (by omega), hr⟩, by dsimp only; omega⟩ ⟨rfl, rfl, rfl, trivial⟩ (fun _ h => h.pick [0, 1, 2] (by decide))
  ·
    refine J.exit ?_
    refine J.then_x ?_
    refine J.then_x ?_
    refine J.blk_eq ?_
    refine J.then_n (J.k hK5 ?_)
    refine J.keepE [(8, _)] ⟨rfl, trivial⟩ ?_
    refine J.seq (fun K15 hK15 => ?_)
    obtain rfl : k = 2 := by omega
    refine J.region ?_
    refine J.y (op_move rfl rfl) rfl rfl rfl ?_
    refine J.y (op_assign rfl rfl) rfl rfl rfl ?_
    refine J.y (op_assign rfl rfl) rfl rfl rfl ?_
    refine J.nil ?_
    refine J.then_n (J.k hK15 ?_)
    refine J.keepE [(6, _), (7, _)] ⟨rfl, rfl, trivial⟩ ?_
    refine J.ret ?_
    exact J.done hw0 (fun _ _ h => h) (res2 rfl rfl rfl) (retOk (g41, A1, c1, mr) rfl (by rw [hq]; exact hr) [0, 1, 2] (by dsimp only; rw [hq]; rfl) (by decide))

end Go.Proofs.YtnkfapecbmmpeaaDoor
