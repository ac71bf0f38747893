/- A part of the proof: contracts of functions of the program, each for every state of the heaps that it names. -/
import Derived.Test.YtnkfapecbmmpeaaDoorSmt5
set_option linter.unusedSimpArgs false
set_option linter.unusedVariables false
namespace Go.Proofs.YtnkfapecbmmpeaaDoor
open Go Go.Fw
set_option maxRecDepth 100000
set_option maxHeartbeats 1000000
theorem el115 : Elem Tryd.prog 115 [Str [], Str []] 32 := Elem.of (by kernel_rfl) rfl

def filtR (k : List UInt8) (m : List Pr) : List Pr := m.filter fun p => decide (p.k ≠ k)
def setR (m : List Pr) (x : Pr) : List Pr := filtR x.k m ++ [x]
theorem filtR_len (k : List UInt8) (m : List Pr) : (filtR k m).length ≤ m.length := List.length_filter_le _ _
theorem filtR_yes {k : List UInt8} {m : List Pr} {i : Nat} (hi : i < m.length) (h : (m.getD i noPr).k ≠ k) : filtR k (m.take (i + 1)) = filtR k (m.take i) ++ [m.getD i noPr] := by
  have e : m.getD i noPr = m[i] := by rw [List.getD_eq_getElem?_getD, List.getElem?_eq_getElem hi]; rfl
  unfold filtR
  rw [e] at h ⊢
  rw [List.take_succ_eq_append_getElem hi, List.filter_append, List.filter_cons, if_pos (decide_eq_true h)]; rfl
theorem filtR_no {k : List UInt8} {m : List Pr} {i : Nat} (hi : i < m.length) (h : ¬ (m.getD i noPr).k ≠ k) : filtR k (m.take (i + 1)) = filtR k (m.take i) := by
  have e : m.getD i noPr = m[i] := by rw [List.getD_eq_getElem?_getD, List.getElem?_eq_getElem hi]; rfl
  unfold filtR
  rw [e] at h
  rw [List.take_succ_eq_append_getElem hi, List.filter_append, List.filter_cons, if_neg (by simpa using h)]; exact List.append_nil _
theorem setR_len (m : List Pr) (x : Pr) : (setR m x).length = (filtR x.k m).length + 1 := by unfold setR; rw [List.length_append]; rfl
theorem setR_map (m : List Pr) (x : Pr) : (setR m x).map toP = Sm.setP (m.map toP) x.k x.v := by
  unfold setR filtR Sm.setP
  rw [List.map_append, List.filter_map]; rfl
/-- the document's pairs and the tree's are the same -/
structure Pairs (m : List Pr) (kv : List Sm.PR) : Prop where
  fine : Fine kv
  perm : (m.map toP).Perm kv
theorem Pairs.len {m : List Pr} {kv : List Sm.PR} (h : Pairs m kv) : kv.length = m.length := by rw [← h.perm.length_eq, List.length_map]
theorem Pairs.nil : Pairs [] [] := ⟨⟨List.Pairwise.nil, by simp, by simp, Nat.zero_le _⟩, List.Perm.refl _⟩
theorem Pairs.set {m : List Pr} {kv : List Sm.PR} (h : Pairs m kv) {k v : List UInt8} (hk : k.length = 16) (hv : v.length ≤ 1000000) (hl : m.length ≤ 100000) : Pairs (setR m ⟨k, v⟩) (Sm.putP kv k v) := by
  have hp : ((setR m ⟨k, v⟩).map toP).Perm (Sm.putP kv k v) := by
    rw [setR_map]
    exact (Sm.setP_perm k v h.perm).trans (Sm.putP_perm k v h.fine.once).symm
  have ho : Sm.Once (Sm.putP kv k v) := (Sm.setP_once k v h.fine.once).perm (Sm.putP_perm k v h.fine.once).symm
  have hm : ∀ p ∈ Sm.putP kv k v, p ∈ kv ∨ p = (k, v) := fun p q => Sm.setP_mem ((Sm.putP_perm k v h.fine.once).mem_iff.1 q)
  refine ⟨⟨ho, fun p q => ?_, fun p q => ?_, Nat.le_trans (Sm.putP_len kv k v) (by rw [h.len]; omega)⟩, hp⟩
  · rcases hm p q with q | rfl
    · exact h.fine.k16 p q
    · exact hk
  · rcases hm p q with q | rfl
    · exact h.fine.small p q
    · exact hv
theorem Pairs.once {m : List Pr} {kv : List Sm.PR} (h : Pairs m kv) : Sm.Once (m.map toP) := h.fine.once.perm h.perm.symm
theorem Pairs.k16 {m : List Pr} {kv : List Sm.PR} (h : Pairs m kv) : ∀ p ∈ m.map toP, p.1.length = 16 := fun p q => h.fine.k16 p (h.perm.mem_iff.1 q)
theorem Pairs.small {m : List Pr} {kv : List Sm.PR} (h : Pairs m kv) : ∀ p ∈ m, p.v.length ≤ 1000000 := fun p q => h.fine.small (toP p) (h.perm.mem_iff.1 (List.mem_map.2 ⟨p, q, rfl⟩))
theorem Pairs.wf {m : List Pr} {kv : List Sm.PR} (h : Pairs m kv) : Sm.WF 128 (m.map toP) := Sm.WF.top h.once h.k16
theorem Pairs.root {m : List Pr} {kv : List Sm.PR} (h : Pairs m kv) : Sm.nd 128 kv = Sm.nd 128 (m.map toP) := (Sm.nd_perm 128 h.wf h.perm).symm
theorem Pairs.get {m : List Pr} {kv : List Sm.PR} (h : Pairs m kv) {j : Nat} (hj : j < m.length) : Sm.getP kv (m.getD j noPr).k = some (m.getD j noPr).v := by
  rw [List.getD_eq_getElem?_getD, List.getElem?_eq_getElem hj]
  exact Sm.getP_mem h.fine.once (p := toP m[j]) (h.perm.mem_iff.1 (List.mem_map.2 ⟨_, List.getElem_mem hj, rfl⟩))
def keyK (a b : UInt8) : List UInt8 := [a, 0, 0, UInt8.ofNat (b.toNat / 2 ^ 4), 0, 0, 0, 0, 0, 0, 0, 0, 0, 0, 0, b]
theorem keyK_len (a b : UInt8) : (keyK a b).length = 16 := rfl

theorem rset_ct (F : Hp) (A : Option Addr) (n c : Nat) (m : List Pr) (hs : Sl F 2 A n c (prsV m)) (hn : n ≤ 1000000) (xk xv : List UInt8) : Ct Tryd.prog 61 [.slice A n c, .agg #[Str (xk), Str (xv)]] [F] (fun x : Option Addr × Nat × Hp => .slice x.1 (setR m ⟨xk, xv⟩).length x.2.1) (fun x => Row x.2.2 115 2 x.1 (setR m ⟨xk, xv⟩).length x.2.1 (prsV (setR m ⟨xk, xv⟩))) (fun x => [F, x.2.2]) := by
  have hkn : m.length = n := by have := hs.1; simpa [prsV] using this
  refine Ct.walk Tryd.func61 rfl Tryd.ntmps61 rfl (fun w0 hw0 => ?_)
  change J _ [(0, _), (1, _)] _ _ _
  refine J.seq (fun K1 hK1 => ?_)
  refine J.region ?_
  refine J.e (op_box (l := [Str (xk), Str (xv)]) rfl rfl rfl) rfl rfl rfl ?_
  intro g3 _
  change J _ _ _ [F, blk g3 [Str (xk), Str (xv)] 115] _
  refine J.y (op_assign rfl rfl) rfl rfl rfl ?_
  refine J.nil ?_
  refine J.then_n (J.k hK1 ?_)
  refine J.keepE [(0, _), (3, _)] ⟨rfl, rfl, trivial⟩ ?_
  refine J.seq (fun K2 hK2 => ?_)
  refine J.region ?_
  refine J.y (op_assign rfl rfl) rfl rfl rfl ?_
  refine J.nil ?_
  refine J.then_n (J.k hK2 ?_)
  refine J.keepE [(0, _), (3, _), (5, _)] ⟨rfl, rfl, rfl, trivial⟩ ?_
  refine J.seq (fun K3 hK3 => ?_)
  refine J.seq (fun K4 hK4 => ?_)
  refine J.region ?_
  refine J.y (op_assign rfl rfl) rfl rfl rfl ?_
  refine J.nil ?_
  refine J.then_n (J.k hK4 ?_)
  refine J.keepE [(0, _), (3, _), (5, _), (6, _)] ⟨rfl, rfl, rfl, rfl, trivial⟩ ?_
  refine J.block ?_
  refine J.loop (X := Nat × Option Addr × Nat × Hp) (fun ζ => [(0, .slice A n c), (3, Ptr g3), (5, .slice ζ.2.1 ((filtR xk (m.take ζ.1)).length) ζ.2.2.1), (6, I ((ζ.1 : Nat) : Int))]) (fun ζ => [F, blk g3 [Str (xk), Str (xv)] 115, ζ.2.2.2]) (fun ζ => ζ.1 ≤ n ∧ Row ζ.2.2.2 115 2 ζ.2.1 (filtR xk (m.take ζ.1)).length ζ.2.2.1 (prsV (filtR xk (m.take ζ.1)))) (fun ζ => n - ζ.1) (0, none, 0, (fun _ => none)) (⟨Nat.zero_le _, RowQ.nil⟩) ⟨rfl, rfl, rfl, rfl, trivial⟩ (fun _ h => h.empty.pick [0, 1, 2] (by decide)) ?_
  rintro ⟨i, A5, c5, m5⟩ ⟨hi, hr⟩ I0 hI0
  dsimp only at hi hr ⊢
  have hla := filtR_len xk (m.take i)
  rw [List.length_take] at hla
  refine J.seq (fun K5 hK5 => ?_)
  refine J.seq (fun K6 hK6 => ?_)
  refine J.region ?_
  refine J.y (op_move rfl rfl) rfl rfl rfl ?_
  refine J.y (op_move rfl rfl) rfl rfl rfl ?_
  refine J.y (op_len Tryd.underlying51 rfl rfl) rfl rfl rfl ?_
  refine J.y (op_lss rfl rfl rfl) rfl rfl rfl ?_
  refine J.nil ?_
  refine J.then_n (J.k hK6 ?_)
  refine J.keepE [(0, _), (3, _), (5, _), (6, _), (10, _)] ⟨rfl, rfl, rfl, rfl, rfl, trivial⟩ ?_
  refine J.ite rfl (fun h10 => ?_) (fun h10 => ?_)
  ·
    refine J.skip ?_
    refine J.then_n (J.k hK5 ?_)
    refine J.keepE [(0, _), (3, _), (5, _), (6, _)] ⟨rfl, rfl, rfl, rfl, trivial⟩ ?_
    refine J.seq (fun K7 hK7 => ?_)
    refine J.block ?_
    refine J.seq (fun K8 hK8 => ?_)
    refine J.draw [F, blk g3 [Str (xk), Str (xv)] 115, m5] [] (.y 0 (.y 1 (.y 2 (.y 3 (.y 4 (.y 5 (.y 6 (.y 7 .nil)))))))) Tryd.wide (by decide +kernel) (by simp) ?_
    refine J.dy rfl (op_move rfl rfl) rfl rfl rfl rfl ?_
    refine J.dy rfl (op_move rfl rfl) rfl rfl rfl rfl ?_
    refine J.dy rfl (op_indexAddr (i := i) rfl rfl rfl Tryd.underlying51 Tryd.sizeOf115 hs (by first | omega | (simp only [List.length_append, List.length_cons, List.length_nil, List.length_take, List.length_drop] at *; omega))) rfl rfl rfl rfl ?_
    refine J.dy rfl (op_fieldAddrE (off := 0) rfl rfl Tryd.underlying115 rfl Tryd.sizeOf9 hs (by first | omega | (simp only [List.length_append, List.length_cons, List.length_nil, List.length_take, List.length_drop] at *; omega)) rfl) rfl rfl rfl rfl ?_
    refine J.dy rfl (op_load (v := Str ((m.getD i noPr).k)) rfl rfl Tryd.isAgg9 (m := F) (by simp) (hs.part (prsV_get (by first | omega | (simp only [List.length_append, List.length_cons, List.length_nil, List.length_take, List.length_drop] at *; omega))) 0 1)) rfl rfl rfl rfl ?_
    refine J.dy rfl (op_fieldAddr (j := 0) rfl rfl Tryd.underlying115 rfl Tryd.sizeOf9 rfl) rfl rfl rfl rfl ?_
    refine J.dy rfl (op_loadB 1 (v := Str (xk)) rfl rfl rfl Tryd.isAgg9 rfl) rfl rfl rfl rfl ?_
    refine J.dy rfl (op_sne rfl rfl rfl) rfl rfl rfl rfl ?_
    refine J.dnil ?_
    refine J.then_n (J.k hK8 ?_)
    refine J.keepE [(0, _), (3, _), (5, _), (6, _), (20, _)] ⟨rfl, rfl, rfl, rfl, rfl, trivial⟩ ?_
    refine J.ite rfl (fun h20 => ?_) (fun h20 => ?_)
    ·
      have hy := filtR_yes (k := xk) (m := m) (i := i) (by omega) h20
      refine J.region ?_
      refine J.y (op_move rfl rfl) rfl rfl rfl ?_
      refine J.y (op_move rfl rfl) rfl rfl rfl ?_
      refine J.y (op_move rfl rfl) rfl rfl rfl ?_
      refine J.y (op_indexAddr (i := i) rfl rfl rfl Tryd.underlying51 Tryd.sizeOf115 hs (by first | omega | (simp only [List.length_append, List.length_cons, List.length_nil, List.length_take, List.length_drop] at *; omega))) rfl rfl rfl ?_
      refine J.y (op_loadA (vs := [Str ((m.getD i noPr).k), Str ((m.getD i noPr).v)]) rfl rfl Tryd.isAgg115 Tryd.sizeOf115 (m := F) (by simp) (hs.elem (prsV_get (by first | omega | (simp only [List.length_append, List.length_cons, List.length_nil, List.length_take, List.length_drop] at *; omega)))) rfl) rfl rfl rfl ?_
      refine J.e (op_buildSlice (l := [.tmp 25]) (xs := [[Str ((m.getD i noPr).k), Str ((m.getD i noPr).v)]]) rfl rfl rfl rfl Tryd.underlying51 el115 rfl (by decide) (by decide) (by simp)) rfl rfl rfl ?_
      intro g26 _
      change J _ _ _ [F, blk g3 [Str (xk), Str (xv)] 115, m5, blk g26 [Str ((m.getD i noPr).k), Str ((m.getD i noPr).v)] 115] _
      refine J.e (op_append (i := 2) (xs := prsV (filtR xk (m.take i))) (m2 := blk g26 [Str ((m.getD i noPr).k), Str ((m.getD i noPr).v)] 115) (ys := [[Str ((m.getD i noPr).k), Str ((m.getD i noPr).v)]]) rfl rfl rfl Tryd.underlying51 Tryd.underlying51 el115 rfl hr (by simp) ((row_blk (q := True) (xs := prsV [(m.getD i noPr)]) rfl (by intro x hx; rw [List.mem_singleton.1 hx]; rfl)).sl) rfl (by first | omega | (simp only [List.length_append, List.length_cons, List.length_nil, List.length_take, List.length_drop] at *; omega)) (by first | omega | (simp only [List.length_append, List.length_cons, List.length_nil, List.length_take, List.length_drop] at *; omega))) rfl rfl rfl ?_
      rintro ⟨A27, c27, m27⟩ h27
      try dsimp only at h27
      change J _ ((27, .slice A27 (((filtR xk (m.take i)).length) + 1) c27) :: _) _ [F, blk g3 [Str (xk), Str (xv)] 115, m27, blk g26 [Str ((m.getD i noPr).k), Str ((m.getD i noPr).v)] 115] _
      replace h27 : Row m27 115 2 A27 (((filtR xk (m.take i)).length) + 1) c27 (prsV ((filtR xk (m.take i)) ++ ([(m.getD i noPr)]))) := by rw [prsV_snoc]; exact h27
      refine J.y (op_assign rfl rfl) rfl rfl rfl ?_
      refine J.nil ?_
      refine J.blk_n ?_
      refine J.then_n (J.k hK7 ?_)
      refine J.keepE [(0, _), (3, _), (5, _), (6, _)] ⟨rfl, rfl, rfl, rfl, trivial⟩ ?_
      refine J.region ?_
      refine J.y (op_move rfl rfl) rfl rfl rfl ?_
      refine J.y ((op_add rfl rfl rfl (by first | omega | (simp only [List.length_append, List.length_cons, List.length_nil, List.length_take, List.length_drop] at *; omega))).as (v' := I ((i + 1 : Nat) : Int)) (congrArg I (by omega))) rfl rfl rfl ?_
      refine J.y (op_assign rfl rfl) rfl rfl rfl ?_
      refine J.nil ?_
      refine J.then_n ?_
      exact J.kk (i + 1, A27, c27, m27) (fun η (hη : _ ∧ n - η.1 < n - i) => hI0 η hη.1 hη.2) ⟨⟨by dsimp only; omega, by dsimp only; rw [hy, List.length_append]; exact h27⟩, by first | omega | (dsimp only; omega)⟩ ⟨rfl, rfl, by dsimp only; first | rfl | (rw [hy, List.length_append]; rfl) | (rw [hy]; rfl), rfl, trivial⟩ (fun _ h => h.pick [0, 1, 2] (by decide))
    ·
      have hy := filtR_no (k := xk) (m := m) (i := i) (by omega) h20
      refine J.skip ?_
      refine J.blk_n ?_
      refine J.then_n (J.k hK7 ?_)
      refine J.keepE [(0, _), (3, _), (5, _), (6, _)] ⟨rfl, rfl, rfl, rfl, trivial⟩ ?_
      refine J.region ?_
      refine J.y (op_move rfl rfl) rfl rfl rfl ?_
      refine J.y ((op_add rfl rfl rfl (by first | omega | (simp only [List.length_append, List.length_cons, List.length_nil, List.length_take, List.length_drop] at *; omega))).as (v' := I ((i + 1 : Nat) : Int)) (congrArg I (by omega))) rfl rfl rfl ?_
      refine J.y (op_assign rfl rfl) rfl rfl rfl ?_
      refine J.nil ?_
      refine J.then_n ?_
      exact J.kk (i + 1, A5, c5, m5) (fun η (hη : _ ∧ n - η.1 < n - i) => hI0 η hη.1 hη.2) ⟨⟨by dsimp only; omega, by dsimp only; rw [hy]; exact hr⟩, by first | omega | (dsimp only; omega)⟩ ⟨rfl, rfl, by dsimp only; first | rfl | (rw [hy, List.length_append]; rfl) | (rw [hy]; rfl), rfl, trivial⟩ (fun _ h => h)
  ·
    refine J.exit ?_
    refine J.then_x ?_
    refine J.then_x ?_
    refine J.blk_eq ?_
    refine J.then_n (J.k hK3 ?_)
    refine J.keepE [(3, _), (5, _)] ⟨rfl, rfl, trivial⟩ ?_
    refine J.seq (fun K9 hK9 => ?_)
    obtain rfl : i = m.length := by omega
    rw [List.take_length] at hr hla ⊢
    refine J.region ?_
    refine J.y (op_move rfl rfl) rfl rfl rfl ?_
    refine J.y (op_loadBA 1 rfl rfl rfl Tryd.isAgg115 Tryd.sizeOf115 rfl) rfl rfl rfl ?_
    refine J.e (op_buildSlice (l := [.tmp 29]) (xs := [[Str (xk), Str (xv)]]) rfl rfl rfl rfl Tryd.underlying51 el115 rfl (by decide) (by decide) (by simp)) rfl rfl rfl ?_
    intro g30 _
    change J _ _ _ [F, blk g3 [Str (xk), Str (xv)] 115, m5, blk g30 [Str (xk), Str (xv)] 115] _
    refine J.e (op_append (i := 2) (xs := prsV (filtR xk m)) (m2 := blk g30 [Str (xk), Str (xv)] 115) (ys := [[Str (xk), Str (xv)]]) rfl rfl rfl Tryd.underlying51 Tryd.underlying51 el115 rfl hr (by simp) ((row_blk (q := True) (xs := prsV [(⟨xk, xv⟩ : Pr)]) rfl (by intro x hx; rw [List.mem_singleton.1 hx]; rfl)).sl) rfl (by first | omega | (simp only [List.length_append, List.length_cons, List.length_nil, List.length_take, List.length_drop] at *; omega)) (by first | omega | (simp only [List.length_append, List.length_cons, List.length_nil, List.length_take, List.length_drop] at *; omega))) rfl rfl rfl ?_
    rintro ⟨A31, c31, m31⟩ h31
    try dsimp only at h31
    change J _ ((31, .slice A31 (((filtR xk m).length) + 1) c31) :: _) _ [F, blk g3 [Str (xk), Str (xv)] 115, m31, blk g30 [Str (xk), Str (xv)] 115] _
    replace h31 : Row m31 115 2 A31 (((filtR xk m).length) + 1) c31 (prsV ((filtR xk m) ++ ([(⟨xk, xv⟩ : Pr)]))) := by rw [prsV_snoc]; exact h31
    refine J.y (op_assign rfl rfl) rfl rfl rfl ?_
    refine J.nil ?_
    refine J.then_n (J.k hK9 ?_)
    refine J.keepE [(4, _)] ⟨rfl, trivial⟩ ?_
    refine J.ret ?_
    have hsl := setR_len m ⟨xk, xv⟩
    exact J.done hw0 (fun _ _ h => h) (res1 rfl rfl) (retOk (A31, c31, m31) (by rw [hsl]) (by rw [hsl]; exact h31) [0, 2] rfl (by decide))

end Go.Proofs.YtnkfapecbmmpeaaDoor
