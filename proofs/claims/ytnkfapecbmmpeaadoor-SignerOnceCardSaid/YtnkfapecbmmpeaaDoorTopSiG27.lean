/- A part of the proof: contracts of functions of the program, each for every state of the heaps that it names. -/
import Derived.Test.YtnkfapecbmmpeaaDoorTopSiG26
set_option linter.unusedSimpArgs false
set_option linter.unusedVariables false
namespace Go.Proofs.YtnkfapecbmmpeaaDoor
open Go Go.Fw
set_option maxRecDepth 100000
set_option maxHeartbeats 1000000
attribute [local irreducible] Sha.tagged Wo.pub Wo.publicOf Wo.signs Wo.ends Wo.digs Wo.walk Wo.opn Mk.root Mk.path Mk.climb Xm.root sgC sgP prt

theorem SPost.spent {v gd : Nat} {d : Dk} {C : Option Addr} {f : Nat} {A : Option Addr} {c : Nat} {mg : List UInt8} {r : SRes} (h : SPost v gd d C f A c mg r) (hv : 8 ≤ v) : r.e = 11 ∧ r.Cl = [] ∧ r.nx = v ∧ r.X = XV v ∧ r.A = A ∧ r.c = c ∧ r.bad = false ∧ r.D = d := by
  rcases h.three with h | h | h
  · exact h.2
  · exact absurd h.1 (by omega)
  · exact absurd h.1 (by omega)
theorem SPost.good {v gd : Nat} {d : Dk} {C : Option Addr} {f : Nat} {A : Option Addr} {c : Nat} {mg : List UInt8} {r : SRes} (h : SPost v gd d C f A c mg r) (he : r.e = 0) : v < 8 ∧ r.idx = v ∧ r.Cl = sgC [115, 101, 101, 100] r.idx mg ∧ r.Pl = sgP [115, 101, 101, 100] 3 r.idx ∧ r.nx = v + 1 ∧ r.X = XV (v + 1) ∧ r.bad = false ∧ r.D.off = false ∧ DV r.D (v + 1) ∧ Row r.N 9 1 r.A r.X.R.length r.c (strsV r.X.R) := by
  rcases h.three with h | h | h
  · exact absurd (h.2.1.symm.trans he) (by decide)
  · refine ⟨h.1, h.2.2.1, ?_, ?_, h.2.2.2.2.2⟩
    · rw [h.2.2.1]; exact h.2.2.2.1
    · rw [h.2.2.1]; exact h.2.2.2.2.1
  · exact absurd (h.2.1.symm.trans he) (by decide)
theorem SPost.fail {v gd : Nat} {d : Dk} {C : Option Addr} {f : Nat} {A : Option Addr} {c : Nat} {mg : List UInt8} {r : SRes} (h : SPost v gd d C f A c mg r) (hv : ¬ 8 ≤ v) (he : ¬ r.e = 0) : r.e = 8 ∧ r.Cl = [] ∧ r.D.off = true ∧ ∃ w, v ≤ w ∧ w ≤ 8 ∧ DV r.D w := by
  rcases h.three with h | h | h
  · exact absurd h.1 hv
  · exact absurd h.2.1 he
  · refine ⟨h.2.1, h.2.2.1, h.2.2.2.1, ?_⟩
    rcases h.2.2.2.2 with h2 | h2
    · exact ⟨v, Nat.le_refl _, by omega, h2⟩
    · exact ⟨v + 1, by omega, by omega, h2⟩
/-- indices that were told: each once, all of them spent -/
def Used (U : List Nat) (v : Nat) : Prop := U.length ≤ v ∧ (∀ x ∈ U, x < v) ∧ ∀ i k, k < i → i < U.length → U.getD i 0 ≠ U.getD k 0
theorem Used.nil : Used [] 0 := ⟨Nat.le_refl 0, (fun x h => absurd h List.not_mem_nil), (fun i k _ h => absurd h (Nat.not_lt_zero i))⟩
theorem Used.le {U : List Nat} {v w : Nat} (h : Used U v) (hw : v ≤ w) : Used U w := ⟨by have := h.1; omega, fun x hx => by have := h.2.1 x hx; omega, h.2.2⟩
theorem Used.snoc {U : List Nat} {v : Nat} (h : Used U v) : Used (U ++ [v]) (v + 1) := by
  have hg : ∀ i, i < U.length → (U ++ [v]).getD i 0 = U.getD i 0 ∧ U.getD i 0 < v := fun i hi => by
    rw [List.getD_eq_getElem?_getD, List.getD_eq_getElem?_getD, List.getElem?_append_left hi]
    refine ⟨rfl, ?_⟩
    rw [List.getElem?_eq_getElem hi]
    exact h.2.1 _ (List.getElem_mem hi)
  refine ⟨by rw [List.length_append]; have := h.1; show _ + 1 ≤ _; omega, fun x hx => ?_, fun i k hk hi => ?_⟩
  · rcases List.mem_append.1 hx with hx | hx
    · have := h.2.1 x hx; omega
    · rw [List.mem_singleton] at hx; omega
  · rw [List.length_append, List.length_singleton] at hi
    by_cases e : i < U.length
    · rw [(hg i e).1, (hg k (by omega)).1]; exact h.2.2 i k hk e
    · have ei : i = U.length := by omega
      have e2 : (U ++ [v]).getD i 0 = v := by rw [ei, List.getD_eq_getElem?_getD, List.getElem?_append_right (Nat.le_refl _), Nat.sub_self]; rfl
      have := (hg k (by omega)).2
      rw [e2, (hg k (by omega)).1]
      omega
theorem sopenV (F : Hp) (hK : Cells F ⟨1, 0, none⟩ (Sha.K.map W32)) (gd : Nat) (d : Dk) (v : Nat) (h : DV d v) (h8 : v ≤ 8) (ho : d.off = false) (A : Option Addr) (c : Nat) (B : Option Addr) (e : Nat) (C : Option Addr) (f : Nat) (hc : Cells F ⟨gd, 0, none⟩ (d.cells A c B e C f)) (hL : Sl F 1 A d.last.length c (strsV d.last)) (hW : Sl F 2 B d.wait.length e (writV d.wait)) : Ct Tryd.prog 35 [Ptr gd, I ((1 : Nat) : Int), I ((8 : Nat) : Int), Str [115, 101, 101, 100], I ((3 : Nat) : Int)] [F] (fun x : (Nat × Hp) × (Nat × Option Addr × Nat × Hp) × Nat => .tuple #[Ptr x.2.2, I ((0 : Nat) : Int)]) (fun x => KeyA x.1.2 x.1.1 [115, 101, 101, 100] 3 ∧ Row x.2.1.2.2.2 9 1 x.2.1.2.1 (XV v).R.length x.2.1.2.2.1 (strsV (XV v).R)) (fun x => [F, x.1.2, blk x.2.1.1 (bkC gd 1 (8 / 2) (XV v) x.2.1.2.1 x.2.1.2.2.1 false) 130, x.2.1.2.2.2, blk x.2.2 [Ptr x.1.1, Ptr x.2.1.1, I ((v : Nat) : Int)] 139]) := by
  have hX := h.half h8
  have hlen : 1 + 8 ≤ d.last.length := by rw [h.len]; decide
  have hn2 : d.wait.length ≤ 1073741824 := by rw [h.wait]; exact Nat.zero_le _
  have hXn : (XV v).R.length ≤ 1048576 := by
    have := XV_len (v := v)
    split at this
    · omega
    · split at this <;> omega
  by_cases h0 : v = 0
  · have := sopen_e F hK gd d h.ok A c B e C f hc hL hW hn2 1 8 (by decide) hlen ho [115, 101, 101, 100] (by decide) 3 (by decide) (XV v) hX hXn (by subst h0; rfl)
    rw [show ((0 : Nat) : Int) = ((v : Nat) : Int) by rw [h0]] at this
    subst h0
    exact this
  · have hl := XV_last (v := v) (by omega) h8
    have := sopen_y F hK gd d h.ok A c B e C f hc hL hW hn2 1 8 (by decide) hlen ho [115, 101, 101, 100] (by decide) 3 (by decide) (XV v) hX hXn hl.1 (note (v - 1)) hl.2.symm (note_len _)
    rw [note_nat (by omega) (by omega)] at this
    exact this

theorem twice_ct (F : Hp) (A : Option Addr) (n c : Nat) (U : List Nat) (hs : Sl F 1 A n c (natsV U)) (hn : n ≤ 1000) (hd : ∀ i k, k < i → i < U.length → U.getD i 0 ≠ U.getD k 0) : Ct Tryd.prog 44 [.slice A n c] [F] (fun _ : Unit => .bool false) (fun _ => True) (fun _ => [F]) := by
  have hkn : U.length = n := by have := hs.1; simpa [natsV] using this
  refine Ct.walk Tryd.func44 rfl Tryd.ntmps44 rfl (fun w0 hw0 => ?_)
  change J _ [(0, _)] _ _ _
  refine J.seq (fun K1 hK1 => ?_)
  refine J.region ?_
  refine J.y (op_assign rfl rfl) rfl rfl rfl ?_
  refine J.nil ?_
  refine J.then_n (J.k hK1 ?_)
  refine J.keepE [(0, _)] ⟨rfl, trivial⟩ ?_
  refine J.seq (fun K2 hK2 => ?_)
  refine J.seq (fun K3 hK3 => ?_)
  refine J.region ?_
  refine J.y (op_assign rfl rfl) rfl rfl rfl ?_
  refine J.nil ?_
  refine J.then_n (J.k hK3 ?_)
  refine J.keepE [(0, _), (3, _)] ⟨rfl, rfl, trivial⟩ ?_
  refine J.block ?_
  refine J.loop (X := Nat) (fun ζ => [(0, .slice A n c), (3, I ((ζ : Nat) : Int))]) (fun ζ => [F]) (fun ζ => ζ ≤ n) (fun ζ => n - ζ) 0 (Nat.zero_le _) ⟨rfl, rfl, trivial⟩ (fun _ h => h) ?_
  rintro i hi I0 hI0
  refine J.seq (fun K4 hK4 => ?_)
  refine J.seq (fun K5 hK5 => ?_)
  refine J.region ?_
  refine J.y (op_move rfl rfl) rfl rfl rfl ?_
  refine J.y (op_move rfl rfl) rfl rfl rfl ?_
  refine J.y (op_len Tryd.underlying80 rfl rfl) rfl rfl rfl ?_
  refine J.y (op_lss rfl rfl rfl) rfl rfl rfl ?_
  refine J.nil ?_
  refine J.then_n (J.k hK5 ?_)
  refine J.keepE [(0, _), (3, _), (8, _)] ⟨rfl, rfl, rfl, trivial⟩ ?_
  refine J.ite rfl (fun h8 => ?_) (fun h8 => ?_)
  ·
    refine J.skip ?_
    refine J.then_n (J.k hK4 ?_)
    refine J.keepE [(0, _), (3, _)] ⟨rfl, rfl, trivial⟩ ?_
    refine J.seq (fun K6 hK6 => ?_)
    refine J.block ?_
    refine J.seq (fun K7 hK7 => ?_)
    refine J.region ?_
    refine J.y (op_assign rfl rfl) rfl rfl rfl ?_
    refine J.nil ?_
    refine J.then_n (J.k hK7 ?_)
    refine J.keepE [(0, _), (3, _), (4, _)] ⟨rfl, rfl, rfl, trivial⟩ ?_
    refine J.block ?_
    refine J.loop (X := Nat) (fun ζ => [(0, .slice A n c), (3, I ((i : Nat) : Int)), (4, I ((ζ : Nat) : Int))]) (fun ζ => [F]) (fun ζ => ζ ≤ i) (fun ζ => i - ζ) 0 (Nat.zero_le _) ⟨rfl, rfl, rfl, trivial⟩ (fun _ h => h) ?_
    rintro k hk I2 hI2
    refine J.seq (fun K8 hK8 => ?_)
    refine J.seq (fun K9 hK9 => ?_)
    refine J.region ?_
    refine J.y (op_move rfl rfl) rfl rfl rfl ?_
    refine J.y (op_move rfl rfl) rfl rfl rfl ?_
    refine J.y (op_lss rfl rfl rfl) rfl rfl rfl ?_
    refine J.nil ?_
    refine J.then_n (J.k hK9 ?_)
    refine J.keepE [(0, _), (3, _), (4, _), (13, _)] ⟨rfl, rfl, rfl, rfl, trivial⟩ ?_
    refine J.ite rfl (fun h13 => ?_) (fun h13 => ?_)
    ·
      refine J.skip ?_
      refine J.then_n (J.k hK8 ?_)
      refine J.keepE [(0, _), (3, _), (4, _)] ⟨rfl, rfl, rfl, trivial⟩ ?_
      refine J.seq (fun K10 hK10 => ?_)
      refine J.block ?_
      refine J.seq (fun K11 hK11 => ?_)
      have hne := hd i k (by omega) (by omega)
      refine J.draw [F] [] (.y 0 (.y 1 (.y 2 (.y 3 (.y 4 (.y 5 (.y 6 (.y 7 (.y 8 .nil))))))))) Tryd.wide (by decide +kernel) (by simp) ?_
      refine J.dy rfl (op_move rfl rfl) rfl rfl rfl rfl ?_
      refine J.dy rfl (op_move rfl rfl) rfl rfl rfl rfl ?_
      refine J.dy rfl (op_indexAddr (i := i) rfl rfl rfl Tryd.underlying80 Tryd.sizeOf3 hs (by first | omega | (simp only [List.length_append, List.length_cons, List.length_nil, List.length_take, List.length_drop] at *; omega))) rfl rfl rfl rfl ?_
      refine J.dy rfl (op_load rfl rfl Tryd.isAgg3 (m := F) (by simp) (hs.elem (natsV_get (by first | omega | (simp only [List.length_append, List.length_cons, List.length_nil, List.length_take, List.length_drop] at *; omega))))) rfl rfl rfl rfl ?_
      refine J.dy rfl (op_move rfl rfl) rfl rfl rfl rfl ?_
      refine J.dy rfl (op_move rfl rfl) rfl rfl rfl rfl ?_
      refine J.dy rfl (op_indexAddr (i := k) rfl rfl rfl Tryd.underlying80 Tryd.sizeOf3 hs (by first | omega | (simp only [List.length_append, List.length_cons, List.length_nil, List.length_take, List.length_drop] at *; omega))) rfl rfl rfl rfl ?_
      refine J.dy rfl (op_load rfl rfl Tryd.isAgg3 (m := F) (by simp) (hs.elem (natsV_get (by first | omega | (simp only [List.length_append, List.length_cons, List.length_nil, List.length_take, List.length_drop] at *; omega))))) rfl rfl rfl rfl ?_
      refine J.dy rfl ((op_eql rfl rfl rfl).as (v' := .bool false) (congrArg Value.bool (decide_eq_false (by omega)))) rfl rfl rfl rfl ?_
      refine J.dnil ?_
      refine J.then_n (J.k hK11 ?_)
      refine J.keepE [(0, _), (3, _), (4, _), (24, _)] ⟨rfl, rfl, rfl, rfl, trivial⟩ ?_
      refine J.condF rfl rfl ?_
      refine J.skip ?_
      refine J.blk_n ?_
      refine J.then_n (J.k hK10 ?_)
      refine J.keepE [(0, _), (3, _), (4, _)] ⟨rfl, rfl, rfl, trivial⟩ ?_
      refine J.region ?_
      refine J.y (op_move rfl rfl) rfl rfl rfl ?_
      refine J.y ((op_add rfl rfl rfl (by first | omega | (simp only [List.length_append, List.length_cons, List.length_nil, List.length_take, List.length_drop] at *; omega))).as (v' := I ((k + 1 : Nat) : Int)) (congrArg I (by omega))) rfl rfl rfl ?_
      refine J.y (op_assign rfl rfl) rfl rfl rfl ?_
      refine J.nil ?_
      refine J.then_n ?_
      exact J.kk (k + 1) (fun η (hη : _ ∧ i - η < i - k) => hI2 η hη.1 hη.2) ⟨(by omega), by first | omega | (dsimp only; omega)⟩ ⟨rfl, rfl, rfl, trivial⟩ (fun _ h => h)
    ·
      refine J.exit ?_
      refine J.then_x ?_
      refine J.then_x ?_
      refine J.blk_eq ?_
      refine J.blk_n ?_
      refine J.then_n (J.k hK6 ?_)
      refine J.keepE [(0, _), (3, _)] ⟨rfl, rfl, trivial⟩ ?_
      refine J.region ?_
      refine J.y (op_move rfl rfl) rfl rfl rfl ?_
      refine J.y ((op_add rfl rfl rfl (by first | omega | (simp only [List.length_append, List.length_cons, List.length_nil, List.length_take, List.length_drop] at *; omega))).as (v' := I ((i + 1 : Nat) : Int)) (congrArg I (by omega))) rfl rfl rfl ?_
      refine J.y (op_assign rfl rfl) rfl rfl rfl ?_
      refine J.nil ?_
      refine J.then_n ?_
      exact J.kk (i + 1) (fun η (hη : _ ∧ n - η < n - i) => hI0 η hη.1 hη.2) ⟨(by omega), by first | omega | (dsimp only; omega)⟩ ⟨rfl, rfl, trivial⟩ (fun _ h => h)
  ·
    refine J.exit ?_
    refine J.then_x ?_
    refine J.then_x ?_
    refine J.blk_eq ?_
    refine J.then_n (J.k hK2 ?_)
    refine J.keepE [] trivial ?_
    refine J.seq (fun K12 hK12 => ?_)
    refine J.region ?_
    refine J.y (op_assign rfl rfl) rfl rfl rfl ?_
    refine J.nil ?_
    refine J.then_n (J.k hK12 ?_)
    refine J.keepE [(2, _)] ⟨rfl, trivial⟩ ?_
    refine J.ret ?_
    exact J.done hw0 (fun _ _ h => h) (res1 rfl rfl) (retOk () rfl trivial [0] rfl (by decide))

end Go.Proofs.YtnkfapecbmmpeaaDoor
