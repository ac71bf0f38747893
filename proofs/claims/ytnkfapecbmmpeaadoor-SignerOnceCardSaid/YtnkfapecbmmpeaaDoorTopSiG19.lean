/- A part of the proof: contracts of functions of the program, each for every state of the heaps that it names. -/
import Derived.Test.YtnkfapecbmmpeaaDoorTopSiG18
set_option linter.unusedSimpArgs false
set_option linter.unusedVariables false
namespace Go.Proofs.YtnkfapecbmmpeaaDoor
open Go Go.Fw
set_option maxRecDepth 100000
set_option maxHeartbeats 1000000

/-- the records of a half that begin with some sectors -/
def rdl (t : UInt64) (R : List (List UInt8)) (e : Nat) (l : List (List UInt8)) : UInt64 × List (List UInt8) × Nat :=
  if h : l ≠ [] ∧ (recR t R.length l).ok = true then
    rdl (recR t R.length l).turn (R ++ [(recR t R.length l).text]) (e + (recR t R.length l).n) (l.drop (recR t R.length l).n)
  else (t, R, e)
termination_by l.length
decreasing_by
  have := recR_le h.2
  rw [List.length_drop]; omega
theorem rdl_yes {t : UInt64} {R : List (List UInt8)} {e : Nat} {l : List (List UInt8)} (h : l ≠ []) (h2 : (recR t R.length l).ok = true) :
    rdl t R e l = rdl (recR t R.length l).turn (R ++ [(recR t R.length l).text]) (e + (recR t R.length l).n) (l.drop (recR t R.length l).n) := by rw [rdl, dif_pos ⟨h, h2⟩]
theorem rdl_no {t : UInt64} {R : List (List UInt8)} {e : Nat} {l : List (List UInt8)} (h : ¬ (l ≠ [] ∧ (recR t R.length l).ok = true)) : rdl t R e l = (t, R, e) := by rw [rdl, dif_neg h]
theorem rdl_len : ∀ (n : Nat) (t : UInt64) (R : List (List UInt8)) (e : Nat) (l : List (List UInt8)), l.length ≤ n → (rdl t R e l).2.1.length ≤ R.length + l.length ∧ (rdl t R e l).2.2 ≤ e + l.length ∧ R.length ≤ (rdl t R e l).2.1.length
  | n, t, R, e, l, hn => by
    by_cases h : l ≠ [] ∧ (recR t R.length l).ok = true
    · rw [rdl_yes h.1 h.2]
      have h1 := recR_le h.2
      match n, hn with
      | 0, hn => exact absurd (List.length_eq_zero_iff.1 (by omega)) h.1
      | n + 1, hn =>
        have := rdl_len n (recR t R.length l).turn (R ++ [(recR t R.length l).text]) (e + (recR t R.length l).n) (l.drop (recR t R.length l).n) (by rw [List.length_drop]; omega)
        rw [List.length_append, List.length_singleton, List.length_drop] at this
        omega
    · rw [rdl_no h]
      exact ⟨Nat.le_add_right _ _, Nat.le_add_right _ _, Nat.le_refl _⟩
def secs (d : Dk) (at_ n : Nat) : List (List UInt8) := (List.range n).map fun i => d.now (at_ + i)
theorem secs_succ (d : Dk) (at_ n : Nat) : secs d at_ (n + 1) = secs d at_ n ++ [d.now (at_ + n)] := by unfold secs; rw [List.range_succ, List.map_append]; rfl
theorem secs_len (d : Dk) (at_ n : Nat) : (secs d at_ n).length = n := by unfold secs; rw [List.length_map, List.length_range]
theorem seek_64 {L : List Wri} {m : Nat} (h : ∀ w ∈ L, w.1 < m ∧ w.2.length = 64) (i : Nat) : ∀ k, k ≤ L.length → ∀ s, seek L i k = some s → s.length = 64
  | 0, _, s, hs => by cases hs
  | k + 1, hk, s, hs => by
    rw [seek_succ] at hs
    split at hs
    · cases hs; exact (getWr h (show k < L.length by omega)).2
    · exact seek_64 h i k (by omega) s hs
theorem now_64 {d : Dk} (h : d.ok) {i : Nat} (hi : i < d.last.length) : (d.now i).length = 64 := by
  unfold Dk.now
  cases e : seek d.wait i d.wait.length with
  | none => exact get64 h.l64 hi
  | some s => exact seek_64 h.w64 i _ (Nat.le_refl _) s e
theorem secs_64 {d : Dk} (h : d.ok) {at_ n : Nat} (hn : at_ + n ≤ d.last.length) : ∀ s ∈ secs d at_ n, s.length = 64 := fun s hs => by
  obtain ⟨i, hi, rfl⟩ := List.mem_map.1 hs
  have := List.mem_range.1 hi
  exact now_64 h (by omega)

theorem bread_ct (F : Hp) (hK : Cells F ⟨1, 0, none⟩ (Sha.K.map W32)) (gb gd : Nat) (first : Int) (size : Nat) (rest : List Value) (hB : Cells F ⟨gb, 0, none⟩ (Ptr gd :: I first :: I (size : Nat) :: rest)) (d : Dk) (hok : d.ok) (A : Option Addr) (c : Nat) (B : Option Addr) (e : Nat) (C : Option Addr) (f : Nat) (hc : Cells F ⟨gd, 0, none⟩ (d.cells A c B e C f)) (hL : Sl F 1 A d.last.length c (strsV d.last)) (hW : Sl F 2 B d.wait.length e (writV d.wait)) (hn1 : d.last.length ≤ 1073741824) (hn2 : d.wait.length ≤ 1073741824) (at_ : Nat) (hs : at_ + size ≤ d.last.length) (hoff : d.off = false) :
    Ct Tryd.prog 77 [Ptr gb, I ((at_ : Nat) : Int)] [F] (fun x : Option Addr × Nat × Hp => .tuple #[.agg #[I ((at_ : Nat) : Int), W64 (rdl 0 [] 0 (secs d at_ size)).1, I (((rdl 0 [] 0 (secs d at_ size)).2.2 : Nat) : Int), .slice x.1 (rdl 0 [] 0 (secs d at_ size)).2.1.length x.2.1], I ((0 : Nat) : Int)]) (fun x => Row x.2.2 9 1 x.1 (rdl 0 [] 0 (secs d at_ size)).2.1.length x.2.1 (strsV (rdl 0 [] 0 (secs d at_ size)).2.1)) (fun x => [F, x.2.2]) := by
  have hn3 := hok.n1
  refine Ct.walk Tryd.func77 rfl Tryd.ntmps77 rfl (fun w0 hw0 => ?_)
  change J _ [(0, _), (1, _)] _ _ _
  refine J.seq (fun K1 hK1 => ?_)
  refine J.region ?_
  refine J.e (op_alloc (l := [I 0, .int .u64 0, I 0, .slice none 0 0]) rfl Tryd.zeroValue128 rfl) rfl rfl rfl ?_
  intro g4 _
  change J _ _ _ [F, blk g4 [I 0, .int .u64 0, I 0, .slice none 0 0] 128] _
  refine J.y (op_assign rfl rfl) rfl rfl rfl ?_
  refine J.nil ?_
  refine J.then_n (J.k hK1 ?_)
  refine J.keepE [(0, _), (1, _), (4, _)] ⟨rfl, rfl, rfl, trivial⟩ ?_
  refine J.seq (fun K2 hK2 => ?_)
  refine J.region ?_
  refine J.y (op_move rfl rfl) rfl rfl rfl ?_
  refine J.y (op_buildStruct (l := [(0, .tmp 15)]) (vs := [I ((at_ : Nat) : Int)]) (places := [(0, 1), (1, 1), (2, 1), (3, 1)]) (r := [I ((at_ : Nat) : Int), .int .u64 0, I 0, .slice none 0 0]) rfl rfl rfl Tryd.underlying128 Tryd.zeroValue128 (fun _ => by kernel_rfl) rfl) rfl rfl rfl ?_
  refine J.e (op_alloc (l := [I 0, .int .u64 0, I 0, .slice none 0 0]) rfl Tryd.zeroValue128 rfl) rfl rfl rfl ?_
  intro g6 _
  change J _ _ _ [F, blk g4 [I 0, .int .u64 0, I 0, .slice none 0 0] 128, blk g6 [I 0, .int .u64 0, I 0, .slice none 0 0] 128] _
  refine J.s (op_storeAll (i := 2) (l := [I 0, .int .u64 0, I 0, .slice none 0 0]) (vs := [I ((at_ : Nat) : Int), .int .u64 0, I 0, .slice none 0 0]) rfl rfl rfl rfl rfl Tryd.sizeOf128 rfl rfl) rfl rfl (fun _ _ => ?_)
  change J _ _ _ [F, blk g4 [I 0, .int .u64 0, I 0, .slice none 0 0] 128, blk g6 [I ((at_ : Nat) : Int), .int .u64 0, I 0, .slice none 0 0] 128] _
  refine J.nil ?_
  refine J.then_n (J.k hK2 ?_)
  refine J.keepE [(0, _), (1, _), (4, _), (6, _)] ⟨rfl, rfl, rfl, rfl, trivial⟩ ?_
  refine J.seq (fun K3 hK3 => ?_)
  refine J.region ?_
  refine J.y (op_assign rfl rfl) rfl rfl rfl ?_
  refine J.nil ?_
  refine J.then_n (J.k hK3 ?_)
  refine J.keepE [(0, _), (1, _), (4, _), (6, _), (7, _)] ⟨rfl, rfl, rfl, rfl, rfl, trivial⟩ ?_
  refine J.seq (fun K4 hK4 => ?_)
  refine J.seq (fun K5 hK5 => ?_)
  refine J.region ?_
  refine J.y (op_move rfl rfl) rfl rfl rfl ?_
  refine J.y (op_nilCheck rfl rfl) rfl rfl rfl ?_
  refine J.y (op_fieldAddr (j := 2) rfl rfl Tryd.underlying130 rfl Tryd.sizeOf3 rfl) rfl rfl rfl ?_
  refine J.y (op_load rfl rfl Tryd.isAgg3 (m := F) (by simp) (hB.at (i := 2) rfl)) rfl rfl rfl ?_
  refine J.y (op_move rfl rfl) rfl rfl rfl ?_
  refine J.nil ?_
  refine J.then_n (J.k hK5 ?_)
  refine J.keepE [(0, _), (1, _), (4, _), (6, _), (7, _), (20, _), (21, _)] ⟨rfl, rfl, rfl, rfl, rfl, rfl, rfl, trivial⟩ ?_
  refine J.block ?_
  refine J.loop (X := Nat × Option Addr × Nat × Hp) (fun ζ => [(0, Ptr gb), (1, I ((at_ : Nat) : Int)), (4, Ptr g4), (6, Ptr g6), (7, .slice ζ.2.1 ((secs d at_ ζ.1).length) ζ.2.2.1), (20, I ((size : Nat) : Int)), (21, I ((ζ.1 : Nat) : Int))]) (fun ζ => [F, blk g4 [I 0, .int .u64 0, I 0, .slice none 0 0] 128, blk g6 [I ((at_ : Nat) : Int), .int .u64 0, I 0, .slice none 0 0] 128, ζ.2.2.2]) (fun ζ => ζ.1 ≤ size ∧ Row ζ.2.2.2 9 1 ζ.2.1 (secs d at_ ζ.1).length ζ.2.2.1 (strsV (secs d at_ ζ.1))) (fun ζ => size - ζ.1) (0, none, 0, (fun _ => none)) (⟨Nat.zero_le _, RowQ.nil⟩) ⟨rfl, rfl, rfl, rfl, rfl, rfl, rfl, trivial⟩ (fun _ h => h.empty.pick [0, 1, 2, 3] (by decide)) ?_
  rintro ⟨k, A7, c7, m⟩ ⟨hk, hr0⟩ I0 hI0
  dsimp only at hk hr0 ⊢
  have hsl := secs_len d at_ k
  refine J.seq (fun K6 hK6 => ?_)
  refine J.region ?_
  refine J.y (op_lss rfl rfl rfl) rfl rfl rfl ?_
  refine J.nil ?_
  refine J.then_n (J.k hK6 ?_)
  refine J.keepE [(0, _), (1, _), (4, _), (6, _), (7, _), (20, _), (21, _), (22, _)] ⟨rfl, rfl, rfl, rfl, rfl, rfl, rfl, rfl, trivial⟩ ?_
  refine J.seq (fun K7 hK7 => ?_)
  refine J.ite rfl (fun h22 => ?_) (fun h22 => ?_)
  ·
    refine J.skip ?_
    refine J.then_n (J.k hK7 ?_)
    refine J.keepE [(0, _), (1, _), (4, _), (6, _), (7, _), (20, _), (21, _)] ⟨rfl, rfl, rfl, rfl, rfl, rfl, rfl, trivial⟩ ?_
    refine J.seq (fun K8 hK8 => ?_)
    refine J.block ?_
    refine J.seq (fun K9 hK9 => ?_)
    refine J.region ?_
    refine J.y (op_move rfl rfl) rfl rfl rfl ?_
    refine J.y (op_assign rfl rfl) rfl rfl rfl ?_
    refine J.nil ?_
    refine J.then_n (J.k hK9 ?_)
    refine J.keepE [(0, _), (1, _), (4, _), (6, _), (7, _), (8, _), (20, _), (21, _)] ⟨rfl, rfl, rfl, rfl, rfl, rfl, rfl, rfl, trivial⟩ ?_
    refine J.seq (fun K10 hK10 => ?_)
    have hrk : d.read ((at_ + k : Nat) : Int) = d.now (at_ + k) ∧ d.ready ((at_ + k : Nat) : Int) = 0 := by
      have h0 := calm_ready hoff (i := at_ + k) (by omega)
      exact ⟨read_in h0, h0⟩
    refine J.region ?_
    refine J.y (op_move rfl rfl) rfl rfl rfl ?_
    refine J.y (op_nilCheck rfl rfl) rfl rfl rfl ?_
    refine J.y (op_fieldAddr (j := 0) rfl rfl Tryd.underlying130 rfl Tryd.sizeOf64 rfl) rfl rfl rfl ?_
    refine J.y (op_load rfl rfl Tryd.isAgg64 (m := F) (by simp) (hB.at (i := 0) rfl)) rfl rfl rfl ?_
    refine J.y (op_move rfl rfl) rfl rfl rfl ?_
    refine J.y (op_move rfl rfl) rfl rfl rfl ?_
    refine J.y ((op_add rfl rfl rfl (by first | omega | (simp only [List.length_append, List.length_cons, List.length_nil, List.length_take, List.length_drop] at *; omega))).as (v' := I ((at_ + k : Nat) : Int)) (congrArg I (by omega))) rfl rfl rfl ?_
    refine J.e (op_call rfl rfl ent120 (Ct.use0 (fun F' hF => by have := sread_ct F' gd d A c B e C f (hc.mono (hF F (by simp))) (hL.mono (hF F (by simp))) (hW.mono (hF F (by simp))) ((at_ + k : Nat) : Int) hn1 hn2; rw [hrk.1, hrk.2] at this; exact this))) rfl rfl rfl ?_
    intro g32 _
    refine J.y (op_move rfl rfl) rfl rfl rfl ?_
    refine J.y (op_extract (v := Str (d.now (at_ + k))) rfl rfl rfl) rfl rfl rfl ?_
    refine J.y (op_extract (v := I ((0 : Nat) : Int)) rfl rfl rfl) rfl rfl rfl ?_
    refine J.y (op_assign rfl rfl) rfl rfl rfl ?_
    refine J.y (op_assign rfl rfl) rfl rfl rfl ?_
    refine J.nil ?_
    refine J.then_n (J.k hK10 ?_)
    refine J.keepE [(0, _), (1, _), (4, _), (6, _), (7, _), (9, _), (10, _), (20, _), (21, _)] ⟨rfl, rfl, rfl, rfl, rfl, rfl, rfl, rfl, rfl, trivial⟩ ?_
    refine J.seq (fun K11 hK11 => ?_)
    refine J.seq (fun K12 hK12 => ?_)
    refine J.region ?_
    refine J.y (op_move rfl rfl) rfl rfl rfl ?_
    refine J.y ((op_neq rfl rfl rfl).as (v' := .bool false) (congrArg Value.bool (decide_eq_false (by decide)))) rfl rfl rfl ?_
    refine J.nil ?_
    refine J.then_n (J.k hK12 ?_)
    refine J.keepE [(0, _), (1, _), (4, _), (6, _), (7, _), (9, _), (10, _), (20, _), (21, _), (36, _)] ⟨rfl, rfl, rfl, rfl, rfl, rfl, rfl, rfl, rfl, rfl, trivial⟩ ?_
    refine J.condF rfl rfl ?_
    refine J.skip ?_
    refine J.then_n (J.k hK11 ?_)
    refine J.keepE [(0, _), (1, _), (4, _), (6, _), (7, _), (9, _), (20, _), (21, _)] ⟨rfl, rfl, rfl, rfl, rfl, rfl, rfl, rfl, trivial⟩ ?_
    refine J.region ?_
    refine J.y (op_move rfl rfl) rfl rfl rfl ?_
    refine J.y (op_move rfl rfl) rfl rfl rfl ?_
    refine J.e (op_buildSlice (l := [.tmp 40]) (xs := [[Str (d.now (at_ + k))]]) rfl rfl rfl rfl Tryd.underlying55 el9 rfl (by decide) (by decide) (by simp)) rfl rfl rfl ?_
    intro g41 _
    change J _ _ _ [F, blk g4 [I 0, .int .u64 0, I 0, .slice none 0 0] 128, blk g6 [I ((at_ : Nat) : Int), .int .u64 0, I 0, .slice none 0 0] 128, m, blk g41 [Str (d.now (at_ + k))] 9] _
    refine J.e (op_append (i := 3) (xs := strsV (secs d at_ k)) (m2 := blk g41 [Str (d.now (at_ + k))] 9) (ys := [[Str (d.now (at_ + k))]]) rfl rfl rfl Tryd.underlying55 Tryd.underlying55 el9 rfl hr0 (by simp) ((row_lit (q := True) (strsV [d.now (at_ + k)]) rfl (by simp [strsV]) rfl).sl) rfl (by first | omega | (simp only [List.length_append, List.length_cons, List.length_nil, List.length_take, List.length_drop] at *; omega)) (by first | omega | (simp only [List.length_append, List.length_cons, List.length_nil, List.length_take, List.length_drop] at *; omega))) rfl rfl rfl ?_
    rintro ⟨A42, c42, m42⟩ h42
    try dsimp only at h42
    change J _ ((42, .slice A42 (((secs d at_ k).length) + 1) c42) :: _) _ [F, blk g4 [I 0, .int .u64 0, I 0, .slice none 0 0] 128, blk g6 [I ((at_ : Nat) : Int), .int .u64 0, I 0, .slice none 0 0] 128, m42, blk g41 [Str (d.now (at_ + k))] 9] _
    rw [← strsV_snoc, ← secs_succ] at h42
    rw [show (secs d at_ k).length + 1 = (secs d at_ (k + 1)).length by rw [secs_len, secs_len]] at h42 ⊢
    refine J.y (op_assign rfl rfl) rfl rfl rfl ?_
    refine J.nil ?_
    refine J.blk_n ?_
    refine J.then_n (J.k hK8 ?_)
    refine J.keepE [(0, _), (1, _), (4, _), (6, _), (7, _), (20, _), (21, _)] ⟨rfl, rfl, rfl, rfl, rfl, rfl, rfl, trivial⟩ ?_
    refine J.region ?_
    refine J.y ((op_add rfl rfl rfl (by first | omega | (simp only [List.length_append, List.length_cons, List.length_nil, List.length_take, List.length_drop] at *; omega))).as (v' := I ((k + 1 : Nat) : Int)) (congrArg I (by omega))) rfl rfl rfl ?_
    refine J.y (op_move rfl rfl) rfl rfl rfl ?_
    refine J.nil ?_
    refine J.then_n ?_
    exact J.kk (k + 1, A42, c42, m42) (fun η (hη : _ ∧ size - η.1 < size - k) => hI0 η hη.1 hη.2) ⟨⟨by dsimp only; omega, h42⟩, by dsimp only; omega⟩ ⟨rfl, rfl, rfl, rfl, rfl, rfl, rfl, trivial⟩ (fun _ h => h.pick [0, 1, 2, 3] (by decide))
  ·
    refine J.exit ?_
    refine J.then_x ?_
    refine J.then_x ?_
    refine J.blk_eq ?_
    refine J.then_n (J.k hK4 ?_)
    refine J.keepE [(4, _), (6, _), (7, _)] ⟨rfl, rfl, rfl, trivial⟩ ?_
    refine J.seq (fun K13 hK13 => ?_)
    refine J.block ?_
    obtain rfl : size = k := by omega
    refine J.loop (X := UInt64 × List (List UInt8) × Nat × Option Addr × Nat × Hp × Option Addr × Nat × List (List UInt8)) (fun ζ => [(4, Ptr g4), (6, Ptr g6), (7, .slice ζ.2.2.2.2.2.2.1 ζ.2.2.2.2.2.2.2.2.length ζ.2.2.2.2.2.2.2.1)]) (fun ζ => [F, blk g4 [I 0, .int .u64 0, I 0, .slice none 0 0] 128, blk g6 [I ((at_ : Nat) : Int), W64 (ζ.1), I ((ζ.2.2.1 : Nat) : Int), .slice ζ.2.2.2.1 ζ.2.1.length ζ.2.2.2.2.1] 128, m, ζ.2.2.2.2.2.1]) (fun ζ => Sl m 1 ζ.2.2.2.2.2.2.1 ζ.2.2.2.2.2.2.2.2.length ζ.2.2.2.2.2.2.2.1 (strsV ζ.2.2.2.2.2.2.2.2) ∧ Row ζ.2.2.2.2.2.1 9 1 ζ.2.2.2.1 ζ.2.1.length ζ.2.2.2.2.1 (strsV ζ.2.1) ∧ rdl ζ.1 ζ.2.1 ζ.2.2.1 ζ.2.2.2.2.2.2.2.2 = (rdl 0 [] 0 (secs d at_ size)) ∧ ζ.2.1.length + ζ.2.2.2.2.2.2.2.2.length ≤ size ∧ ζ.2.2.1 + ζ.2.2.2.2.2.2.2.2.length ≤ size ∧ ∀ s ∈ ζ.2.2.2.2.2.2.2.2, s.length = 64) (fun ζ => ζ.2.2.2.2.2.2.2.2.length) (0, [], 0, none, 0, (fun _ => none), A7, c7, secs d at_ size) (⟨hr0.sl, RowQ.nil, rfl, by simp only [secs_len, List.length_nil]; omega, by simp only [secs_len]; omega, secs_64 hok hs⟩) ⟨rfl, rfl, rfl, trivial⟩ (fun _ h => h.empty.pick [0, 1, 2, 3, 4] (by decide)) ?_
    rintro ⟨t, R, e', Ar, cr, mr, A7, c7, l⟩ ⟨hl, hr, hq, hb1, hb2, h64⟩ I2 hI2
    dsimp only at hl hr hq hb1 hb2 h64 ⊢
    refine J.seq (fun K14 hK14 => ?_)
    refine J.seq (fun K15 hK15 => ?_)
    refine J.region ?_
    refine J.y (op_move rfl rfl) rfl rfl rfl ?_
    refine J.y (op_len Tryd.underlying55 rfl rfl) rfl rfl rfl ?_
    refine J.y (op_gtr rfl rfl rfl) rfl rfl rfl ?_
    refine J.nil ?_
    refine J.then_n (J.k hK15 ?_)
    refine J.keepE [(4, _), (6, _), (7, _), (46, _)] ⟨rfl, rfl, rfl, rfl, trivial⟩ ?_
    refine J.ite rfl (fun h46 => ?_) (fun h46 => ?_)
    ·
      refine J.skip ?_
      refine J.then_n (J.k hK14 ?_)
      refine J.keepE [(4, _), (6, _), (7, _)] ⟨rfl, rfl, rfl, trivial⟩ ?_
      refine J.block ?_
      refine J.seq (fun K16 hK16 => ?_)
      refine J.region ?_
      refine J.y (op_move rfl rfl) rfl rfl rfl ?_
      refine J.e (op_call rfl rfl ent121 (Ct.use0 (fun F' hF => record_ct F' (hK.mono (hF F (by simp))) g6 at_ t e' Ar R.length cr (Cells.blk0.mono (hF (blk g6 [I ((at_ : Nat) : Int), W64 (t), I ((e' : Nat) : Int), .slice Ar R.length cr] 128) (by simp))) (by omega) A7 l.length c7 l (hl.mono (hF m (by simp))) (by omega) h64))) rfl rfl rfl ?_
      intro g49 _
      refine J.y (op_move rfl rfl) rfl rfl rfl ?_
      refine J.y (op_extract (v := W64 ((recR t R.length l).turn)) rfl rfl rfl) rfl rfl rfl ?_
      refine J.y (op_extract (v := Str ((recR t R.length l).text)) rfl rfl rfl) rfl rfl rfl ?_
      refine J.y (op_extract (v := I (((recR t R.length l).n : Nat) : Int)) rfl rfl rfl) rfl rfl rfl ?_
      refine J.y (op_extract (v := .bool ((recR t R.length l).ok)) rfl rfl rfl) rfl rfl rfl ?_
      refine J.y (op_assign rfl rfl) rfl rfl rfl ?_
      refine J.y (op_assign rfl rfl) rfl rfl rfl ?_
      refine J.y (op_assign rfl rfl) rfl rfl rfl ?_
      refine J.y (op_assign rfl rfl) rfl rfl rfl ?_
      refine J.nil ?_
      refine J.then_n (J.k hK16 ?_)
      refine J.keepE [(4, _), (6, _), (7, _), (11, _), (12, _), (13, _), (14, _)] ⟨rfl, rfl, rfl, rfl, rfl, rfl, rfl, trivial⟩ ?_
      refine J.seq (fun K17 hK17 => ?_)
      refine J.seq (fun K18 hK18 => ?_)
      refine J.region ?_
      refine J.y (op_move rfl rfl) rfl rfl rfl ?_
      refine J.y (op_not rfl rfl) rfl rfl rfl ?_
      refine J.nil ?_
      refine J.then_n (J.k hK18 ?_)
      refine J.keepE [(4, _), (6, _), (7, _), (11, _), (12, _), (13, _), (55, _)] ⟨rfl, rfl, rfl, rfl, rfl, rfl, rfl, trivial⟩ ?_
      refine J.cond rfl (fun h55 => ?_) (fun h55 => ?_)
      ·
        refine J.exit ?_
        refine J.then_x ?_
        refine J.blk_ne rfl ?_
        refine J.then_x ?_
        refine J.blk_eq ?_
        refine J.then_n (J.k hK13 ?_)
        refine J.keepE [(4, _), (6, _)] ⟨rfl, rfl, trivial⟩ ?_
        refine J.seq (fun K19 hK19 => ?_)
        have hfin : rdl t R e' l = (t, R, e') := rdl_no (by rintro ⟨q1, q2⟩; first | (simp [q2] at h55; done) | exact q1 (List.length_eq_zero_iff.1 (by omega)))
        have hx : (rdl 0 [] 0 (secs d at_ size)) = (t, R, e') := hq.symm.trans hfin
        refine J.region ?_
        refine J.y (op_loadBA 2 rfl rfl rfl Tryd.isAgg128 Tryd.sizeOf128 rfl) rfl rfl rfl ?_
        refine J.s (op_storeAll (i := 1) (l := [I 0, .int .u64 0, I 0, .slice none 0 0]) (vs := [I ((at_ : Nat) : Int), W64 (t), I ((e' : Nat) : Int), .slice Ar R.length cr]) rfl rfl rfl rfl rfl Tryd.sizeOf128 rfl rfl) rfl rfl (fun _ _ => ?_)
        change J _ _ _ [F, blk g4 [I ((at_ : Nat) : Int), W64 (t), I ((e' : Nat) : Int), .slice Ar R.length cr] 128, blk g6 [I ((at_ : Nat) : Int), W64 (t), I ((e' : Nat) : Int), .slice Ar R.length cr] 128, m, mr] _
        refine J.y (op_assign rfl rfl) rfl rfl rfl ?_
        refine J.nil ?_
        refine J.then_n (J.k hK19 ?_)
        refine J.keepE [(4, _), (5, _)] ⟨rfl, rfl, trivial⟩ ?_
        refine J.ret ?_
        exact J.done hw0 (fun _ _ h => h) (rv2 rfl (RV.blkA 1 rfl rfl Tryd.isAgg128 Tryd.sizeOf128) rfl) (retOk (Ar, cr, mr) (by rw [hx]; rfl) (by rw [hx]; exact hr) [0, 4] rfl (by decide))
      ·
        refine J.skip ?_
        refine J.then_n (J.k hK17 ?_)
        refine J.keepE [(4, _), (6, _), (7, _), (11, _), (12, _), (13, _)] ⟨rfl, rfl, rfl, rfl, rfl, rfl, trivial⟩ ?_
        refine J.seq (fun K20 hK20 => ?_)
        have hok2 : (recR t R.length l).ok = true := by simpa using h55
        obtain ⟨hr1, hr2, hr3, hr4⟩ := recR_le hok2
        have hne : l ≠ [] := fun h => by have hz := congrArg List.length h; rw [List.length_nil] at hz; omega
        have hcap := hl.2.1
        have hstep := rdl_yes (e := e') hne hok2
        refine J.region ?_
        refine J.y (op_move rfl rfl) rfl rfl rfl ?_
        refine J.y (op_fieldAddr (j := 3) rfl rfl Tryd.underlying128 rfl Tryd.sizeOf55 rfl) rfl rfl rfl ?_
        refine J.y (op_loadB 2 (v := .slice Ar R.length cr) rfl rfl rfl Tryd.isAgg55 rfl) rfl rfl rfl ?_
        refine J.y (op_move rfl rfl) rfl rfl rfl ?_
        refine J.e (op_buildSlice (l := [.tmp 59]) (xs := [[Str ((recR t R.length l).text)]]) rfl rfl rfl rfl Tryd.underlying55 el9 rfl (by decide) (by decide) (by simp)) rfl rfl rfl ?_
        intro g60 _
        change J _ _ _ [F, blk g4 [I 0, .int .u64 0, I 0, .slice none 0 0] 128, blk g6 [I ((at_ : Nat) : Int), W64 (t), I ((e' : Nat) : Int), .slice Ar R.length cr] 128, m, mr, blk g60 [Str ((recR t R.length l).text)] 9] _
        refine J.e (op_append (i := 4) (xs := strsV R) (m2 := blk g60 [Str ((recR t R.length l).text)] 9) (ys := [[Str ((recR t R.length l).text)]]) rfl rfl rfl Tryd.underlying55 Tryd.underlying55 el9 rfl hr (by simp) ((row_lit (q := True) (strsV [(recR t R.length l).text]) rfl (by simp [strsV]) rfl).sl) rfl (by first | omega | (simp only [List.length_append, List.length_cons, List.length_nil, List.length_take, List.length_drop] at *; omega)) (by first | omega | (simp only [List.length_append, List.length_cons, List.length_nil, List.length_take, List.length_drop] at *; omega))) rfl rfl rfl ?_
        rintro ⟨A61, c61, m61⟩ h61
        try dsimp only at h61
        change J _ ((61, .slice A61 (R.length + 1) c61) :: _) _ [F, blk g4 [I 0, .int .u64 0, I 0, .slice none 0 0] 128, blk g6 [I ((at_ : Nat) : Int), W64 (t), I ((e' : Nat) : Int), .slice Ar R.length cr] 128, m, m61, blk g60 [Str ((recR t R.length l).text)] 9] _
        rw [show R.length + 1 = (R ++ [(recR t R.length l).text]).length by rw [List.length_append]; rfl] at h61 ⊢
        rw [← strsV_snoc] at h61
        refine J.y (op_fieldAddr (j := 1) rfl rfl Tryd.underlying128 rfl Tryd.sizeOf108 rfl) rfl rfl rfl ?_
        refine J.s (op_store (i := 2) (l := [I ((at_ : Nat) : Int), W64 (t), I ((e' : Nat) : Int), .slice Ar R.length cr]) (vs := [W64 ((recR t R.length l).turn)]) rfl rfl rfl rfl rfl Tryd.sizeOf108 rfl (by simp)) rfl rfl (fun _ _ => ?_)
        change J _ _ _ [F, blk g4 [I 0, .int .u64 0, I 0, .slice none 0 0] 128, blk g6 [I ((at_ : Nat) : Int), W64 ((recR t R.length l).turn), I ((e' : Nat) : Int), .slice Ar R.length cr] 128, m, m61, blk g60 [Str ((recR t R.length l).text)] 9] _
        refine J.y (op_fieldAddr (j := 3) rfl rfl Tryd.underlying128 rfl Tryd.sizeOf55 rfl) rfl rfl rfl ?_
        refine J.s (op_store (i := 2) (l := [I ((at_ : Nat) : Int), W64 ((recR t R.length l).turn), I ((e' : Nat) : Int), .slice Ar R.length cr]) (vs := [.slice A61 ((R ++ [(recR t R.length l).text]).length) c61]) rfl rfl rfl rfl rfl Tryd.sizeOf55 rfl (by simp)) rfl rfl (fun _ _ => ?_)
        change J _ _ _ [F, blk g4 [I 0, .int .u64 0, I 0, .slice none 0 0] 128, blk g6 [I ((at_ : Nat) : Int), W64 ((recR t R.length l).turn), I ((e' : Nat) : Int), .slice A61 ((R ++ [(recR t R.length l).text]).length) c61] 128, m, m61, blk g60 [Str ((recR t R.length l).text)] 9] _
        refine J.nil ?_
        refine J.then_n (J.k hK20 ?_)
        refine J.keepE [(4, _), (6, _), (7, _), (13, _)] ⟨rfl, rfl, rfl, rfl, trivial⟩ ?_
        refine J.seq (fun K21 hK21 => ?_)
        refine J.region ?_
        refine J.y (op_fieldAddr (j := 2) rfl rfl Tryd.underlying128 rfl Tryd.sizeOf3 rfl) rfl rfl rfl ?_
        refine J.y (op_loadB 2 (v := I ((e' : Nat) : Int)) rfl rfl rfl Tryd.isAgg3 rfl) rfl rfl rfl ?_
        refine J.y (op_move rfl rfl) rfl rfl rfl ?_
        refine J.y ((op_add rfl rfl rfl (by first | omega | (simp only [List.length_append, List.length_cons, List.length_nil, List.length_take, List.length_drop] at *; omega))).as (v' := I ((e' + ((recR t R.length l).n) : Nat) : Int)) (congrArg I (by omega))) rfl rfl rfl ?_
        refine J.y (op_fieldAddr (j := 2) rfl rfl Tryd.underlying128 rfl Tryd.sizeOf3 rfl) rfl rfl rfl ?_
        refine J.s (op_store (i := 2) (l := [I ((at_ : Nat) : Int), W64 ((recR t R.length l).turn), I ((e' : Nat) : Int), .slice A61 ((R ++ [(recR t R.length l).text]).length) c61]) (vs := [I ((e' + ((recR t R.length l).n) : Nat) : Int)]) rfl rfl rfl rfl rfl Tryd.sizeOf3 rfl (by simp)) rfl rfl (fun _ _ => ?_)
        change J _ _ _ [F, blk g4 [I 0, .int .u64 0, I 0, .slice none 0 0] 128, blk g6 [I ((at_ : Nat) : Int), W64 ((recR t R.length l).turn), I ((e' + ((recR t R.length l).n) : Nat) : Int), .slice A61 ((R ++ [(recR t R.length l).text]).length) c61] 128, m, m61, blk g60 [Str ((recR t R.length l).text)] 9] _
        refine J.nil ?_
        refine J.then_n (J.k hK21 ?_)
        refine J.keepE [(4, _), (6, _), (7, _), (13, _)] ⟨rfl, rfl, rfl, rfl, trivial⟩ ?_
        refine J.region ?_
        refine J.y (op_move rfl rfl) rfl rfl rfl ?_
        refine J.y (op_move rfl rfl) rfl rfl rfl ?_
        refine J.y (op_slice (l := (recR t R.length l).n) (h := l.length) rfl rfl Tryd.underlying55 Tryd.sizeOf9 rfl rfl (by first | omega | (simp only [List.length_append, List.length_cons, List.length_nil, List.length_take, List.length_drop] at *; omega))) rfl rfl rfl ?_
        refine J.y (op_assign rfl rfl) rfl rfl rfl ?_
        refine J.nil ?_
        refine J.blk_n ?_
        refine J.then_n ?_
        exact J.kk ((recR t R.length l).turn, R ++ [(recR t R.length l).text], e' + (recR t R.length l).n, A61, c61, m61, if c7 = (recR t R.length l).n then A7 else (A7).map (·.add ((recR t R.length l).n * 1)), c7 - ((recR t R.length l).n), l.drop (recR t R.length l).n) (fun η (hη : _ ∧ η.2.2.2.2.2.2.2.2.length < l.length) => hI2 η hη.1 hη.2) ⟨⟨by dsimp only; rw [List.length_drop]; exact hl.strsFrom (by omega), h61, by dsimp only; rw [← hstep]; exact hq, by dsimp only; rw [List.length_append, List.length_drop, List.length_singleton]; omega, by dsimp only; rw [List.length_drop]; omega, fun s hs => h64 s (List.mem_of_mem_drop hs)⟩, by dsimp only; rw [List.length_drop]; omega⟩ ⟨rfl, rfl, by dsimp only; rw [List.length_drop]; rfl, trivial⟩ (fun _ h => h.pick [0, 1, 2, 3, 4] (by decide))
    ·
      refine J.exit ?_
      refine J.then_x ?_
      refine J.then_x ?_
      refine J.blk_eq ?_
      refine J.then_n (J.k hK13 ?_)
      refine J.keepE [(4, _), (6, _)] ⟨rfl, rfl, trivial⟩ ?_
      refine J.seq (fun K22 hK22 => ?_)
      have hfin : rdl t R e' l = (t, R, e') := rdl_no (by rintro ⟨q1, q2⟩; first | (simp [q2] at h55; done) | exact q1 (List.length_eq_zero_iff.1 (by omega)))
      have hx : (rdl 0 [] 0 (secs d at_ size)) = (t, R, e') := hq.symm.trans hfin
      refine J.region ?_
      refine J.y (op_loadBA 2 rfl rfl rfl Tryd.isAgg128 Tryd.sizeOf128 rfl) rfl rfl rfl ?_
      refine J.s (op_storeAll (i := 1) (l := [I 0, .int .u64 0, I 0, .slice none 0 0]) (vs := [I ((at_ : Nat) : Int), W64 (t), I ((e' : Nat) : Int), .slice Ar R.length cr]) rfl rfl rfl rfl rfl Tryd.sizeOf128 rfl rfl) rfl rfl (fun _ _ => ?_)
      change J _ _ _ [F, blk g4 [I ((at_ : Nat) : Int), W64 (t), I ((e' : Nat) : Int), .slice Ar R.length cr] 128, blk g6 [I ((at_ : Nat) : Int), W64 (t), I ((e' : Nat) : Int), .slice Ar R.length cr] 128, m, mr] _
      refine J.y (op_assign rfl rfl) rfl rfl rfl ?_
      refine J.nil ?_
      refine J.then_n (J.k hK22 ?_)
      refine J.keepE [(4, _), (5, _)] ⟨rfl, rfl, trivial⟩ ?_
      refine J.ret ?_
      exact J.done hw0 (fun _ _ h => h) (rv2 rfl (RV.blkA 1 rfl rfl Tryd.isAgg128 Tryd.sizeOf128) rfl) (retOk (Ar, cr, mr) (by rw [hx]; rfl) (by rw [hx]; exact hr) [0, 4] rfl (by decide))

end Go.Proofs.YtnkfapecbmmpeaaDoor

namespace Go.Proofs.YtnkfapecbmmpeaaDoor
open Go Go.Fw
set_option maxRecDepth 100000
set_option maxHeartbeats 1000000

/-- a half of a book -/
structure Hlf where
  at_ : Nat
  t : UInt64
  R : List (List UInt8)
  e : Nat
def hlf (d : Dk) (at_ size : Nat) : Hlf := ⟨at_, (rdl 0 [] 0 (secs d at_ size)).1, (rdl 0 [] 0 (secs d at_ size)).2.1, (rdl 0 [] 0 (secs d at_ size)).2.2⟩
/-- which half a book has behind the first k are read -/
def hst (d : Dk) (first size : Nat) : Nat → Hlf
  | 0 => ⟨0, 0, [], 0⟩
  | 1 => hlf d first size
  | _ + 2 => if 0 < (hlf d (first + size) size).R.length ∧ ((hlf d first size).R.length = 0 ∨ (hlf d first size).t.toNat < (hlf d (first + size) size).t.toNat) then hlf d (first + size) size else hlf d first size
theorem hlf_eq {d : Dk} {at_ size : Nat} {t : UInt64} {R : List (List UInt8)} {e : Nat} (h : rdl 0 [] 0 (secs d at_ size) = (t, R, e)) : hlf d at_ size = ⟨at_, t, R, e⟩ := by unfold hlf; rw [h]
theorem hst_take {d : Dk} {first size k km at1 e1 e2 : Nat} {t1 t2 : UInt64} {R1 R2 : List (List UInt8)} (hk : k < 2) (hkm : km = k * size) (h1 : hst d first size k = ⟨at1, t1, R1, e1⟩) (h2 : rdl 0 [] 0 (secs d (first + km) size) = (t2, R2, e2))
    (hc : k = 0 ∨ (0 < R2.length ∧ (R1.length = 0 ∨ t1.toNat < t2.toNat))) : hst d first size (k + 1) = ⟨first + km, t2, R2, e2⟩ := by
  have h3 := hlf_eq h2
  match k, hk with
  | 0, _ =>
    rw [Nat.zero_mul] at hkm
    subst hkm
    exact h3
  | 1, _ =>
    rw [Nat.one_mul] at hkm
    subst hkm
    have hc2 := hc.resolve_left (by decide)
    have h4 : hlf d first km = ⟨at1, t1, R1, e1⟩ := h1
    show (if _ then _ else _) = _
    rw [h3, h4, if_pos hc2]
theorem hst_keep {d : Dk} {first size k km at1 e1 e2 : Nat} {t1 t2 : UInt64} {R1 R2 : List (List UInt8)} (hk : k < 2) (hkm : km = k * size) (h1 : hst d first size k = ⟨at1, t1, R1, e1⟩) (h2 : rdl 0 [] 0 (secs d (first + km) size) = (t2, R2, e2))
    (hc : k ≠ 0 ∧ ¬ (0 < R2.length ∧ (R1.length = 0 ∨ t1.toNat < t2.toNat))) : hst d first size (k + 1) = ⟨at1, t1, R1, e1⟩ := by
  have h3 := hlf_eq h2
  match k, hk with
  | 0, _ => exact absurd rfl hc.1
  | 1, _ =>
    rw [Nat.one_mul] at hkm
    subst hkm
    have h4 : hlf d first km = ⟨at1, t1, R1, e1⟩ := h1
    show (if _ then _ else _) = _
    rw [h3, h4, if_neg hc.2]
/-- a book in memory: its block's cells -/
def bkC (gd first size : Nat) (x : Hlf) (A : Option Addr) (c : Nat) (bad : Bool) : List Value := [Ptr gd, I ((first : Nat) : Int), I ((size : Nat) : Int), I ((x.at_ : Nat) : Int), W64 x.t, I ((x.e : Nat) : Int), .slice A x.R.length c, .bool bad]

theorem bopen_ct (F : Hp) (hK : Cells F ⟨1, 0, none⟩ (Sha.K.map W32)) (gd : Nat) (d : Dk) (hok : d.ok) (A : Option Addr) (c : Nat) (B : Option Addr) (e : Nat) (C : Option Addr) (f : Nat) (hc : Cells F ⟨gd, 0, none⟩ (d.cells A c B e C f)) (hL : Sl F 1 A d.last.length c (strsV d.last)) (hW : Sl F 2 B d.wait.length e (writV d.wait)) (hn2 : d.wait.length ≤ 1073741824) (first count : Nat) (h8 : 8 ≤ count) (hfc : first + count ≤ d.last.length) (hoff : d.off = false) :
    Ct Tryd.prog 33 [Ptr gd, I ((first : Nat) : Int), I ((count : Nat) : Int)] [F] (fun x : Nat × Option Addr × Nat × Hp => .tuple #[Ptr x.1, I ((0 : Nat) : Int)]) (fun x => Row x.2.2.2 9 1 x.2.1 (hst d first (count / 2) 2).R.length x.2.2.1 (strsV (hst d first (count / 2) 2).R)) (fun x => [F, blk x.1 (bkC gd first (count / 2) (hst d first (count / 2) 2) x.2.1 x.2.2.1 false) 130, x.2.2.2]) := by
  have hn1 := hok.n1
  refine Ct.walk Tryd.func33 rfl Tryd.ntmps33 rfl (fun w0 hw0 => ?_)
  change J _ [(0, _), (1, _), (2, _)] _ _ _
  refine J.seq (fun K1 hK1 => ?_)
  refine J.region ?_
  refine J.y (op_assign rfl rfl) rfl rfl rfl ?_
  refine J.y (op_assign rfl rfl) rfl rfl rfl ?_
  refine J.nil ?_
  refine J.then_n (J.k hK1 ?_)
  refine J.keepE [(0, _), (1, _), (2, _)] ⟨rfl, rfl, rfl, trivial⟩ ?_
  refine J.seq (fun K2 hK2 => ?_)
  refine J.seq (fun K3 hK3 => ?_)
  refine J.region ?_
  refine J.y (op_move rfl rfl) rfl rfl rfl ?_
  refine J.y ((op_peq Tryd.underlying64 rfl rfl rfl).as (v' := .bool false) rfl) rfl rfl rfl ?_
  refine J.y (op_move rfl rfl) rfl rfl rfl ?_
  refine J.yg (Wan.is rfl rfl rfl rfl rfl) (op_move rfl rfl) rfl rfl ?_
  refine J.yg (Wan.is rfl rfl rfl rfl rfl) ((op_lss rfl rfl rfl).as (v' := .bool false) (congrArg Value.bool (decide_eq_false (by omega)))) rfl rfl ?_
  refine J.y (op_pickF rfl rfl rfl) rfl rfl rfl ?_
  refine J.y (op_move rfl rfl) rfl rfl rfl ?_
  refine J.yg (Wan.is rfl rfl rfl rfl rfl) (op_move rfl rfl) rfl rfl ?_
  refine J.yg (Wan.is rfl rfl rfl rfl rfl) ((op_lss rfl rfl rfl).as (v' := .bool false) (congrArg Value.bool (decide_eq_false (by omega)))) rfl rfl ?_
  refine J.y (op_pickF rfl rfl rfl) rfl rfl rfl ?_
  refine J.y (op_move rfl rfl) rfl rfl rfl ?_
  refine J.yg (Wan.is rfl rfl rfl rfl rfl) (op_move rfl rfl) rfl rfl ?_
  refine J.yg (Wan.is rfl rfl rfl rfl rfl) (op_move rfl rfl) rfl rfl ?_
  refine J.eg (Wan.is rfl rfl rfl rfl rfl) (op_call rfl rfl ent76 (Ct.use0 (fun F' hF => count_ct F' gd d A c B e C f (hc.mono (hF F (by simp)))))) rfl rfl ?_
  intro g25 _
  refine J.yg (Wan.is rfl rfl rfl rfl rfl) ((op_gtr rfl rfl rfl).as (v' := .bool false) (congrArg Value.bool (decide_eq_false (by omega)))) rfl rfl ?_
  refine J.y (op_pickF rfl rfl rfl) rfl rfl rfl ?_
  refine J.y (op_move rfl rfl) rfl rfl rfl ?_
  refine J.yg (Wan.is rfl rfl rfl rfl rfl) (op_move rfl rfl) rfl rfl ?_
  refine J.yg (Wan.is rfl rfl rfl rfl rfl) (op_move rfl rfl) rfl rfl ?_
  refine J.eg (Wan.is rfl rfl rfl rfl rfl) (op_call rfl rfl ent76 (Ct.use0 (fun F' hF => count_ct F' gd d A c B e C f (hc.mono (hF F (by simp)))))) rfl rfl ?_
  intro g31 _
  refine J.yg (Wan.is rfl rfl rfl rfl rfl) (op_move rfl rfl) rfl rfl ?_
  refine J.yg (Wan.is rfl rfl rfl rfl rfl) (op_sub rfl rfl rfl (by first | omega | (simp only [List.length_append, List.length_cons, List.length_nil, List.length_take, List.length_drop] at *; omega))) rfl rfl ?_
  refine J.yg (Wan.is rfl rfl rfl rfl rfl) ((op_gtr rfl rfl rfl).as (v' := .bool false) (congrArg Value.bool (decide_eq_false (by omega)))) rfl rfl ?_
  refine J.y (op_pickF rfl rfl rfl) rfl rfl rfl ?_
  refine J.nil ?_
  refine J.then_n (J.k hK3 ?_)
  refine J.keepE [(0, _), (1, _), (2, _), (35, _)] ⟨rfl, rfl, rfl, rfl, trivial⟩ ?_
  refine J.condF rfl rfl ?_
  refine J.skip ?_
  refine J.then_n (J.k hK2 ?_)
  refine J.keepE [(0, _), (1, _), (2, _)] ⟨rfl, rfl, rfl, trivial⟩ ?_
  refine J.seq (fun K4 hK4 => ?_)
  refine J.region ?_
  refine J.y (op_move rfl rfl) rfl rfl rfl ?_
  refine J.y (op_move rfl rfl) rfl rfl rfl ?_
  refine J.y (op_move rfl rfl) rfl rfl rfl ?_
  refine J.y ((op_quo rfl rfl rfl (by first | omega | (simp only [List.length_append, List.length_cons, List.length_nil, List.length_take, List.length_drop] at *; omega))).as (v' := I ((count / 2 : Nat) : Int)) (congrArg I (by omega))) rfl rfl rfl ?_
  refine J.y (op_buildStruct (l := [(0, .tmp 36), (1, .tmp 37), (2, .tmp 39)]) (vs := [Ptr gd, I ((first : Nat) : Int), I ((count / 2 : Nat) : Int)]) (places := [(0, 1), (1, 1), (2, 1), (3, 4), (7, 1)]) (r := [Ptr gd, I ((first : Nat) : Int), I ((count / 2 : Nat) : Int), I 0, .int .u64 0, I 0, .slice none 0 0, .bool false]) rfl rfl rfl Tryd.underlying130 Tryd.zeroValue130 (fun _ => by kernel_rfl) (by kernel_rfl)) rfl rfl rfl ?_
  refine J.e (op_box (l := [Ptr gd, I ((first : Nat) : Int), I ((count / 2 : Nat) : Int), I 0, .int .u64 0, I 0, .slice none 0 0, .bool false]) rfl rfl rfl) rfl rfl rfl ?_
  intro g41 _
  change J _ _ _ [F, blk g41 [Ptr gd, I ((first : Nat) : Int), I ((count / 2 : Nat) : Int), I 0, .int .u64 0, I 0, .slice none 0 0, .bool false] 130] _
  refine J.y (op_assign rfl rfl) rfl rfl rfl ?_
  refine J.nil ?_
  refine J.then_n (J.k hK4 ?_)
  refine J.keepE [(1, _), (8, _)] ⟨rfl, rfl, trivial⟩ ?_
  refine J.seq (fun K5 hK5 => ?_)
  refine J.seq (fun K6 hK6 => ?_)
  refine J.region ?_
  refine J.y (op_move rfl rfl) rfl rfl rfl ?_
  refine J.nil ?_
  refine J.then_n (J.k hK6 ?_)
  refine J.keepE [(1, _), (8, _), (42, _)] ⟨rfl, rfl, rfl, trivial⟩ ?_
  refine J.block ?_
  refine J.loop (X := Nat × Nat × UInt64 × List (List UInt8) × Nat × Option Addr × Nat × Hp) (fun ζ => [(1, I ((first : Nat) : Int)), (8, Ptr g41), (42, I ((ζ.1 : Nat) : Int))]) (fun ζ => [F, blk g41 [Ptr gd, I ((first : Nat) : Int), I ((count / 2 : Nat) : Int), I ((ζ.2.1 : Nat) : Int), W64 (ζ.2.2.1), I ((ζ.2.2.2.2.1 : Nat) : Int), .slice ζ.2.2.2.2.2.1 ζ.2.2.2.1.length ζ.2.2.2.2.2.2.1, .bool false] 130, ζ.2.2.2.2.2.2.2]) (fun ζ => ζ.1 ≤ 2 ∧ hst d first (count / 2) ζ.1 = ⟨ζ.2.1, ζ.2.2.1, ζ.2.2.2.1, ζ.2.2.2.2.1⟩ ∧ Row ζ.2.2.2.2.2.2.2 9 1 ζ.2.2.2.2.2.1 ζ.2.2.2.1.length ζ.2.2.2.2.2.2.1 (strsV ζ.2.2.2.1)) (fun ζ => 2 - ζ.1) (0, 0, 0, [], 0, none, 0, (fun _ => none)) (⟨Nat.zero_le _, rfl, RowQ.nil⟩) ⟨rfl, rfl, rfl, trivial⟩ (fun _ h => h.empty.pick [0, 1, 2] (by decide)) ?_
  rintro ⟨k, at1, t1, R1, e1, A1, c1, mr⟩ ⟨hk, hq, hr⟩ I0 hI0
  dsimp only at hk hq hr ⊢
  refine J.seq (fun K7 hK7 => ?_)
  refine J.region ?_
  refine J.y (op_lss rfl rfl rfl) rfl rfl rfl ?_
  refine J.nil ?_
  refine J.then_n (J.k hK7 ?_)
  refine J.keepE [(1, _), (8, _), (42, _), (43, _)] ⟨rfl, rfl, rfl, rfl, trivial⟩ ?_
  refine J.seq (fun K8 hK8 => ?_)
  refine J.ite rfl (fun h43 => ?_) (fun h43 => ?_)
  ·
    refine J.skip ?_
    refine J.then_n (J.k hK8 ?_)
    refine J.keepE [(1, _), (8, _), (42, _)] ⟨rfl, rfl, rfl, trivial⟩ ?_
    refine J.seq (fun K9 hK9 => ?_)
    refine J.block ?_
    refine J.seq (fun K10 hK10 => ?_)
    refine J.region ?_
    refine J.y (op_move rfl rfl) rfl rfl rfl ?_
    refine J.y (op_assign rfl rfl) rfl rfl rfl ?_
    refine J.nil ?_
    refine J.then_n (J.k hK10 ?_)
    refine J.keepE [(1, _), (8, _), (9, _), (42, _)] ⟨rfl, rfl, rfl, rfl, trivial⟩ ?_
    refine J.seq (fun K11 hK11 => ?_)
    obtain ⟨km, hkm⟩ : ∃ km, km = k * (count / 2) := ⟨_, rfl⟩
    have hkm2 : km + count / 2 ≤ count := by
      have : k = 0 ∨ k = 1 := by omega
      rcases this with e | e <;> rw [hkm, e] <;> omega
    obtain ⟨t2, R2, e2, hD2⟩ : ∃ t2 R2 e2, rdl 0 [] 0 (secs d (first + km) (count / 2)) = (t2, R2, e2) := ⟨_, _, _, rfl⟩
    refine J.region ?_
    refine J.y (op_move rfl rfl) rfl rfl rfl ?_
    refine J.y (op_move rfl rfl) rfl rfl rfl ?_
    refine J.y (op_move rfl rfl) rfl rfl rfl ?_
    refine J.y (op_move rfl rfl) rfl rfl rfl ?_
    refine J.y (op_nilCheck rfl rfl) rfl rfl rfl ?_
    refine J.y (op_fieldAddr (j := 2) rfl rfl Tryd.underlying130 rfl Tryd.sizeOf3 rfl) rfl rfl rfl ?_
    refine J.y (op_loadB 1 (v := I ((count / 2 : Nat) : Int)) rfl rfl rfl Tryd.isAgg3 rfl) rfl rfl rfl ?_
    refine J.y ((op_mul rfl rfl rfl (by rw [← Int.natCast_mul, ← hkm]; omega)).as (v' := I ((km : Nat) : Int)) (congrArg I (by rw [hkm, Int.natCast_mul]))) rfl rfl rfl ?_
    refine J.y ((op_add rfl rfl rfl (by first | omega | (simp only [List.length_append, List.length_cons, List.length_nil, List.length_take, List.length_drop] at *; omega))).as (v' := I ((first + km : Nat) : Int)) (congrArg I (by omega))) rfl rfl rfl ?_
    refine J.e (op_call rfl rfl ent77 (Ct.use (new := fun x : Option Addr × Nat × Hp => [x.2.2]) (fun F' hF => by have := bread_ct F' (hK.mono (hF F (by simp))) g41 gd ((first : Nat) : Int) (count / 2) _ (Cells.blk0.mono (hF (blk g41 [Ptr gd, I ((first : Nat) : Int), I ((count / 2 : Nat) : Int), I ((at1 : Nat) : Int), W64 (t1), I ((e1 : Nat) : Int), .slice A1 R1.length c1, .bool false] 130) (by simp))) d hok A c B e C f (hc.mono (hF F (by simp))) (hL.mono (hF F (by simp))) (hW.mono (hF F (by simp))) (by omega) hn2 (first + km) (by omega) hoff; rw [hD2] at this; exact this))) rfl rfl rfl ?_
    rintro ⟨A55, c55, m55⟩ h55
    try dsimp only at h55
    change J _ ((55, .tuple #[.agg #[I ((first + km : Nat) : Int), W64 (t2), I ((e2 : Nat) : Int), .slice A55 R2.length c55], I ((0 : Nat) : Int)]) :: _) _ [F, blk g41 [Ptr gd, I ((first : Nat) : Int), I ((count / 2 : Nat) : Int), I ((at1 : Nat) : Int), W64 (t1), I ((e1 : Nat) : Int), .slice A1 R1.length c1, .bool false] 130, mr, m55] _
    refine J.y (op_move rfl rfl) rfl rfl rfl ?_
    refine J.y (op_extract (v := .agg #[I ((first + km : Nat) : Int), W64 (t2), I ((e2 : Nat) : Int), .slice A55 R2.length c55]) rfl rfl rfl) rfl rfl rfl ?_
    refine J.y (op_extract (v := I ((0 : Nat) : Int)) rfl rfl rfl) rfl rfl rfl ?_
    refine J.e (op_alloc (l := [I 0, .int .u64 0, I 0, .slice none 0 0]) rfl Tryd.zeroValue128 rfl) rfl rfl rfl ?_
    intro g10 _
    change J _ _ _ [F, blk g41 [Ptr gd, I ((first : Nat) : Int), I ((count / 2 : Nat) : Int), I ((at1 : Nat) : Int), W64 (t1), I ((e1 : Nat) : Int), .slice A1 R1.length c1, .bool false] 130, mr, m55, blk g10 [I 0, .int .u64 0, I 0, .slice none 0 0] 128] _
    refine J.s (op_storeAll (i := 4) (l := [I 0, .int .u64 0, I 0, .slice none 0 0]) (vs := [I ((first + km : Nat) : Int), W64 (t2), I ((e2 : Nat) : Int), .slice A55 R2.length c55]) rfl rfl rfl rfl rfl Tryd.sizeOf128 rfl rfl) rfl rfl (fun _ _ => ?_)
    change J _ _ _ [F, blk g41 [Ptr gd, I ((first : Nat) : Int), I ((count / 2 : Nat) : Int), I ((at1 : Nat) : Int), W64 (t1), I ((e1 : Nat) : Int), .slice A1 R1.length c1, .bool false] 130, mr, m55, blk g10 [I ((first + km : Nat) : Int), W64 (t2), I ((e2 : Nat) : Int), .slice A55 R2.length c55] 128] _
    refine J.y (op_assign rfl rfl) rfl rfl rfl ?_
    refine J.nil ?_
    refine J.then_n (J.k hK11 ?_)
    refine J.keepE [(1, _), (8, _), (9, _), (10, _), (11, _), (42, _)] ⟨rfl, rfl, rfl, rfl, rfl, rfl, trivial⟩ ?_
    refine J.seq (fun K12 hK12 => ?_)
    refine J.seq (fun K13 hK13 => ?_)
    refine J.region ?_
    refine J.y (op_move rfl rfl) rfl rfl rfl ?_
    refine J.y ((op_neq rfl rfl rfl).as (v' := .bool false) (congrArg Value.bool (decide_eq_false (by decide)))) rfl rfl rfl ?_
    refine J.nil ?_
    refine J.then_n (J.k hK13 ?_)
    refine J.keepE [(1, _), (8, _), (9, _), (10, _), (11, _), (42, _), (59, _)] ⟨rfl, rfl, rfl, rfl, rfl, rfl, rfl, trivial⟩ ?_
    refine J.condF rfl rfl ?_
    refine J.skip ?_
    refine J.then_n (J.k hK12 ?_)
    refine J.keepE [(1, _), (8, _), (9, _), (10, _), (42, _)] ⟨rfl, rfl, rfl, rfl, rfl, trivial⟩ ?_
    refine J.seq (fun K14 hK14 => ?_)
    refine J.draw [F, blk g41 [Ptr gd, I ((first : Nat) : Int), I ((count / 2 : Nat) : Int), I ((at1 : Nat) : Int), W64 (t1), I ((e1 : Nat) : Int), .slice A1 R1.length c1, .bool false] 130, blk g10 [I ((first + km : Nat) : Int), W64 (t2), I ((e2 : Nat) : Int), .slice A55 R2.length c55] 128] [] (.y 0 (.y 1 (.y 2 (.y 3 (.y 4 (.y 5 (.y 6 (.y 7 (.y 8 (.y 9 (.y 10 (.y 11 (.y 12 (.y 13 (.y 14 (.y 15 (.y 16 (.y 17 (.y 18 (.y 19 (.y 20 (.y 21 (.y 22 (.y 23 (.y 24 (.y 25 (.y 26 .nil))))))))))))))))))))))))))) Tryd.wide (by decide +kernel) (by simp) ?_
    refine J.dy rfl (op_move rfl rfl) rfl rfl rfl rfl ?_
    refine J.dy rfl (op_eql rfl rfl rfl) rfl rfl rfl rfl ?_
    refine J.dy rfl (op_move rfl rfl) rfl rfl rfl rfl ?_
    refine J.split (d := 63) rfl (fun h63 => ?_) (fun h63 => ?_)
    ·
      refine J.dno rfl (Wan.is rfl rfl rfl rfl rfl) rfl rfl ?_
      refine J.dno rfl (Wan.is rfl rfl rfl rfl rfl) rfl rfl ?_
      refine J.dno rfl (Wan.is rfl rfl rfl rfl rfl) rfl rfl ?_
      refine J.dno rfl (Wan.is rfl rfl rfl rfl rfl) rfl rfl ?_
      refine J.dno rfl (Wan.is rfl rfl rfl rfl rfl) rfl rfl ?_
      refine J.dno rfl (Wan.un rfl rfl rfl rfl) rfl rfl ?_
      refine J.dno rfl (Wan.un rfl rfl rfl rfl) rfl rfl ?_
      refine J.dno rfl (Wan.un rfl rfl rfl rfl) rfl rfl ?_
      refine J.dno rfl (Wan.un rfl rfl rfl rfl) rfl rfl ?_
      refine J.dno rfl (Wan.un rfl rfl rfl rfl) rfl rfl ?_
      refine J.dno rfl (Wan.un rfl rfl rfl rfl) rfl rfl ?_
      refine J.dno rfl (Wan.un rfl rfl rfl rfl) rfl rfl ?_
      refine J.dno rfl (Wan.un rfl rfl rfl rfl) rfl rfl ?_
      refine J.dno rfl (Wan.un rfl rfl rfl rfl) rfl rfl ?_
      refine J.dno rfl (Wan.un rfl rfl rfl rfl) rfl rfl ?_
      refine J.dno rfl (Wan.un rfl rfl rfl rfl) rfl rfl ?_
      refine J.dno rfl (Wan.un rfl rfl rfl rfl) rfl rfl ?_
      refine J.dno rfl (Wan.un rfl rfl rfl rfl) rfl rfl ?_
      refine J.dno rfl (Wan.un rfl rfl rfl rfl) rfl rfl ?_
      refine J.dno rfl (Wan.un rfl rfl rfl rfl) rfl rfl ?_
      refine J.dno rfl (Wan.un rfl rfl rfl rfl) rfl rfl ?_
      refine J.dno rfl (Wan.un rfl rfl rfl rfl) rfl rfl ?_
      refine J.dno rfl (Wan.is rfl rfl rfl rfl rfl) rfl rfl ?_
      refine J.dy rfl (op_pickT rfl rfl rfl) rfl rfl rfl rfl ?_
      refine J.dnil ?_
      refine J.then_n (J.k hK14 ?_)
      refine J.keepE [(1, _), (8, _), (10, _), (42, _), (87, _)] ⟨rfl, rfl, rfl, rfl, rfl, trivial⟩ ?_
      refine J.condT rfl rfl ?_
      refine J.region ?_
      refine J.y (op_move rfl rfl) rfl rfl rfl ?_
      refine J.y (op_loadBA 4 rfl rfl rfl Tryd.isAgg128 Tryd.sizeOf128 rfl) rfl rfl rfl ?_
      refine J.y (op_nilCheck rfl rfl) rfl rfl rfl ?_
      refine J.y (op_fieldAddr (j := 3) rfl rfl Tryd.underlying130 rfl Tryd.sizeOf128 rfl) rfl rfl rfl ?_
      refine J.s (op_store (i := 1) (l := [Ptr gd, I ((first : Nat) : Int), I ((count / 2 : Nat) : Int), I ((at1 : Nat) : Int), W64 (t1), I ((e1 : Nat) : Int), .slice A1 R1.length c1, .bool false]) (vs := [I ((first + km : Nat) : Int), W64 (t2), I ((e2 : Nat) : Int), .slice A55 R2.length c55]) rfl rfl rfl rfl rfl Tryd.sizeOf128 rfl (by simp)) rfl rfl (fun _ _ => ?_)
      change J _ _ _ [F, blk g41 [Ptr gd, I ((first : Nat) : Int), I ((count / 2 : Nat) : Int), I ((first + km : Nat) : Int), W64 (t2), I ((e2 : Nat) : Int), .slice A55 R2.length c55, .bool false] 130, mr, m55, blk g10 [I ((first + km : Nat) : Int), W64 (t2), I ((e2 : Nat) : Int), .slice A55 R2.length c55] 128] _
      refine J.nil ?_
      refine J.blk_n ?_
      refine J.then_n (J.k hK9 ?_)
      refine J.keepE [(1, _), (8, _), (42, _)] ⟨rfl, rfl, rfl, trivial⟩ ?_
      refine J.region ?_
      refine J.y ((op_add rfl rfl rfl (by first | omega | (simp only [List.length_append, List.length_cons, List.length_nil, List.length_take, List.length_drop] at *; omega))).as (v' := I ((k + 1 : Nat) : Int)) (congrArg I (by omega))) rfl rfl rfl ?_
      refine J.y (op_move rfl rfl) rfl rfl rfl ?_
      refine J.nil ?_
      refine J.then_n ?_
      exact J.kk (k + 1, first + km, t2, R2, e2, A55, c55, m55) (fun η (hη : _ ∧ 2 - η.1 < 2 - k) => hI0 η hη.1 hη.2) ⟨⟨by dsimp only; omega, by dsimp only; exact hst_take (by omega) hkm hq hD2 (by omega), h55⟩, by dsimp only; omega⟩ ⟨rfl, rfl, rfl, trivial⟩ (fun _ h => h.pick [0, 1, 3] (by decide))
    ·
      refine J.dyg rfl (op_fieldAddr (j := 3) rfl rfl Tryd.underlying128 rfl Tryd.sizeOf55 rfl) (Wan.is rfl rfl rfl rfl rfl) rfl rfl rfl ?_
      refine J.dyg rfl (op_loadB 2 (v := .slice A55 R2.length c55) rfl rfl rfl Tryd.isAgg55 rfl) (Wan.is rfl rfl rfl rfl rfl) rfl rfl rfl ?_
      refine J.dyg rfl (op_len Tryd.underlying55 rfl rfl) (Wan.is rfl rfl rfl rfl rfl) rfl rfl rfl ?_
      refine J.dyg rfl (op_gtr rfl rfl rfl) (Wan.is rfl rfl rfl rfl rfl) rfl rfl rfl ?_
      refine J.dyg rfl (op_move rfl rfl) (Wan.is rfl rfl rfl rfl rfl) rfl rfl rfl ?_
      refine J.split (d := 68) rfl (fun h68 => ?_) (fun h68 => ?_)
      ·
        refine J.dyg rfl (op_move rfl rfl) (Wan.is rfl rfl rfl rfl rfl) rfl rfl rfl ?_
        refine J.dyg rfl (op_nilCheck rfl rfl) (Wan.is rfl rfl rfl rfl rfl) rfl rfl rfl ?_
        refine J.dyg rfl (op_fieldAddr (j := 3) rfl rfl Tryd.underlying130 rfl Tryd.sizeOf128 rfl) (Wan.is rfl rfl rfl rfl rfl) rfl rfl rfl ?_
        refine J.dyg rfl (op_fieldAddr (j := 6) rfl rfl Tryd.underlying128 rfl Tryd.sizeOf55 rfl) (Wan.is rfl rfl rfl rfl rfl) rfl rfl rfl ?_
        refine J.dyg rfl (op_loadB 1 (v := .slice A1 R1.length c1) rfl rfl rfl Tryd.isAgg55 rfl) (Wan.is rfl rfl rfl rfl rfl) rfl rfl rfl ?_
        refine J.dyg rfl (op_len Tryd.underlying55 rfl rfl) (Wan.is rfl rfl rfl rfl rfl) rfl rfl rfl ?_
        refine J.dyg rfl (op_eql rfl rfl rfl) (Wan.is rfl rfl rfl rfl rfl) rfl rfl rfl ?_
        refine J.dyg rfl (op_move rfl rfl) (Wan.is rfl rfl rfl rfl rfl) rfl rfl rfl ?_
        refine J.split (d := 76) rfl (fun h76 => ?_) (fun h76 => ?_)
        ·
          refine J.dno rfl (Wan.is rfl rfl rfl rfl rfl) rfl rfl ?_
          refine J.dno rfl (Wan.is rfl rfl rfl rfl rfl) rfl rfl ?_
          refine J.dno rfl (Wan.is rfl rfl rfl rfl rfl) rfl rfl ?_
          refine J.dno rfl (Wan.is rfl rfl rfl rfl rfl) rfl rfl ?_
          refine J.dno rfl (Wan.is rfl rfl rfl rfl rfl) rfl rfl ?_
          refine J.dno rfl (Wan.is rfl rfl rfl rfl rfl) rfl rfl ?_
          refine J.dno rfl (Wan.is rfl rfl rfl rfl rfl) rfl rfl ?_
          refine J.dno rfl (Wan.is rfl rfl rfl rfl rfl) rfl rfl ?_
          refine J.dyg rfl (op_pickT rfl rfl rfl) (Wan.is rfl rfl rfl rfl rfl) rfl rfl rfl ?_
          refine J.dyg rfl (op_pickT rfl rfl rfl) (Wan.is rfl rfl rfl rfl rfl) rfl rfl rfl ?_
          refine J.dy rfl (op_pickF rfl rfl rfl) rfl rfl rfl rfl ?_
          refine J.dnil ?_
          refine J.then_n (J.k hK14 ?_)
          refine J.keepE [(1, _), (8, _), (10, _), (42, _), (87, _)] ⟨rfl, rfl, rfl, rfl, rfl, trivial⟩ ?_
          refine J.condT rfl rfl ?_
          refine J.region ?_
          refine J.y (op_move rfl rfl) rfl rfl rfl ?_
          refine J.y (op_loadBA 4 rfl rfl rfl Tryd.isAgg128 Tryd.sizeOf128 rfl) rfl rfl rfl ?_
          refine J.y (op_nilCheck rfl rfl) rfl rfl rfl ?_
          refine J.y (op_fieldAddr (j := 3) rfl rfl Tryd.underlying130 rfl Tryd.sizeOf128 rfl) rfl rfl rfl ?_
          refine J.s (op_store (i := 1) (l := [Ptr gd, I ((first : Nat) : Int), I ((count / 2 : Nat) : Int), I ((at1 : Nat) : Int), W64 (t1), I ((e1 : Nat) : Int), .slice A1 R1.length c1, .bool false]) (vs := [I ((first + km : Nat) : Int), W64 (t2), I ((e2 : Nat) : Int), .slice A55 R2.length c55]) rfl rfl rfl rfl rfl Tryd.sizeOf128 rfl (by simp)) rfl rfl (fun _ _ => ?_)
          change J _ _ _ [F, blk g41 [Ptr gd, I ((first : Nat) : Int), I ((count / 2 : Nat) : Int), I ((first + km : Nat) : Int), W64 (t2), I ((e2 : Nat) : Int), .slice A55 R2.length c55, .bool false] 130, mr, m55, blk g10 [I ((first + km : Nat) : Int), W64 (t2), I ((e2 : Nat) : Int), .slice A55 R2.length c55] 128] _
          refine J.nil ?_
          refine J.blk_n ?_
          refine J.then_n (J.k hK9 ?_)
          refine J.keepE [(1, _), (8, _), (42, _)] ⟨rfl, rfl, rfl, trivial⟩ ?_
          refine J.region ?_
          refine J.y ((op_add rfl rfl rfl (by first | omega | (simp only [List.length_append, List.length_cons, List.length_nil, List.length_take, List.length_drop] at *; omega))).as (v' := I ((k + 1 : Nat) : Int)) (congrArg I (by omega))) rfl rfl rfl ?_
          refine J.y (op_move rfl rfl) rfl rfl rfl ?_
          refine J.nil ?_
          refine J.then_n ?_
          exact J.kk (k + 1, first + km, t2, R2, e2, A55, c55, m55) (fun η (hη : _ ∧ 2 - η.1 < 2 - k) => hI0 η hη.1 hη.2) ⟨⟨by dsimp only; omega, by dsimp only; exact hst_take (by omega) hkm hq hD2 (by omega), h55⟩, by dsimp only; omega⟩ ⟨rfl, rfl, rfl, trivial⟩ (fun _ h => h.pick [0, 1, 3] (by decide))
        ·
          refine J.dyg rfl (op_fieldAddr (j := 1) rfl rfl Tryd.underlying128 rfl Tryd.sizeOf108 rfl) (Wan.is rfl rfl rfl rfl rfl) rfl rfl rfl ?_
          refine J.dyg rfl (op_loadB 2 (v := W64 (t2)) rfl rfl rfl Tryd.isAgg108 rfl) (Wan.is rfl rfl rfl rfl rfl) rfl rfl rfl ?_
          refine J.dyg rfl (op_move rfl rfl) (Wan.is rfl rfl rfl rfl rfl) rfl rfl rfl ?_
          refine J.dyg rfl (op_nilCheck rfl rfl) (Wan.is rfl rfl rfl rfl rfl) rfl rfl rfl ?_
          refine J.dyg rfl (op_fieldAddr (j := 3) rfl rfl Tryd.underlying130 rfl Tryd.sizeOf128 rfl) (Wan.is rfl rfl rfl rfl rfl) rfl rfl rfl ?_
          refine J.dyg rfl (op_fieldAddr (j := 4) rfl rfl Tryd.underlying128 rfl Tryd.sizeOf108 rfl) (Wan.is rfl rfl rfl rfl rfl) rfl rfl rfl ?_
          refine J.dyg rfl (op_loadB 1 (v := W64 (t1)) rfl rfl rfl Tryd.isAgg108 rfl) (Wan.is rfl rfl rfl rfl rfl) rfl rfl rfl ?_
          refine J.dyg rfl (op_gtr rfl rfl rfl) (Wan.is rfl rfl rfl rfl rfl) rfl rfl rfl ?_
          refine J.dyg rfl (op_pickF rfl rfl rfl) (Wan.is rfl rfl rfl rfl rfl) rfl rfl rfl ?_
          refine J.dyg rfl (op_pickT rfl rfl rfl) (Wan.is rfl rfl rfl rfl rfl) rfl rfl rfl ?_
          refine J.dy rfl (op_pickF rfl rfl rfl) rfl rfl rfl rfl ?_
          refine J.dnil ?_
          refine J.then_n (J.k hK14 ?_)
          refine J.keepE [(1, _), (8, _), (10, _), (42, _), (87, _)] ⟨rfl, rfl, rfl, rfl, rfl, trivial⟩ ?_
          refine J.ite rfl (fun h87 => ?_) (fun h87 => ?_)
          ·
            refine J.region ?_
            refine J.y (op_move rfl rfl) rfl rfl rfl ?_
            refine J.y (op_loadBA 4 rfl rfl rfl Tryd.isAgg128 Tryd.sizeOf128 rfl) rfl rfl rfl ?_
            refine J.y (op_nilCheck rfl rfl) rfl rfl rfl ?_
            refine J.y (op_fieldAddr (j := 3) rfl rfl Tryd.underlying130 rfl Tryd.sizeOf128 rfl) rfl rfl rfl ?_
            refine J.s (op_store (i := 1) (l := [Ptr gd, I ((first : Nat) : Int), I ((count / 2 : Nat) : Int), I ((at1 : Nat) : Int), W64 (t1), I ((e1 : Nat) : Int), .slice A1 R1.length c1, .bool false]) (vs := [I ((first + km : Nat) : Int), W64 (t2), I ((e2 : Nat) : Int), .slice A55 R2.length c55]) rfl rfl rfl rfl rfl Tryd.sizeOf128 rfl (by simp)) rfl rfl (fun _ _ => ?_)
            change J _ _ _ [F, blk g41 [Ptr gd, I ((first : Nat) : Int), I ((count / 2 : Nat) : Int), I ((first + km : Nat) : Int), W64 (t2), I ((e2 : Nat) : Int), .slice A55 R2.length c55, .bool false] 130, mr, m55, blk g10 [I ((first + km : Nat) : Int), W64 (t2), I ((e2 : Nat) : Int), .slice A55 R2.length c55] 128] _
            refine J.nil ?_
            refine J.blk_n ?_
            refine J.then_n (J.k hK9 ?_)
            refine J.keepE [(1, _), (8, _), (42, _)] ⟨rfl, rfl, rfl, trivial⟩ ?_
            refine J.region ?_
            refine J.y ((op_add rfl rfl rfl (by first | omega | (simp only [List.length_append, List.length_cons, List.length_nil, List.length_take, List.length_drop] at *; omega))).as (v' := I ((k + 1 : Nat) : Int)) (congrArg I (by omega))) rfl rfl rfl ?_
            refine J.y (op_move rfl rfl) rfl rfl rfl ?_
            refine J.nil ?_
            refine J.then_n ?_
            exact J.kk (k + 1, first + km, t2, R2, e2, A55, c55, m55) (fun η (hη : _ ∧ 2 - η.1 < 2 - k) => hI0 η hη.1 hη.2) ⟨⟨by dsimp only; omega, by dsimp only; exact hst_take (by omega) hkm hq hD2 (by omega), h55⟩, by dsimp only; omega⟩ ⟨rfl, rfl, rfl, trivial⟩ (fun _ h => h.pick [0, 1, 3] (by decide))
          ·
            refine J.skip ?_
            refine J.blk_n ?_
            refine J.then_n (J.k hK9 ?_)
            refine J.keepE [(1, _), (8, _), (42, _)] ⟨rfl, rfl, rfl, trivial⟩ ?_
            refine J.region ?_
            refine J.y ((op_add rfl rfl rfl (by first | omega | (simp only [List.length_append, List.length_cons, List.length_nil, List.length_take, List.length_drop] at *; omega))).as (v' := I ((k + 1 : Nat) : Int)) (congrArg I (by omega))) rfl rfl rfl ?_
            refine J.y (op_move rfl rfl) rfl rfl rfl ?_
            refine J.nil ?_
            refine J.then_n ?_
            exact J.kk (k + 1, at1, t1, R1, e1, A1, c1, mr) (fun η (hη : _ ∧ 2 - η.1 < 2 - k) => hI0 η hη.1 hη.2) ⟨⟨by dsimp only; omega, by dsimp only; exact hst_keep (by omega) hkm hq hD2 (by omega), hr⟩, by dsimp only; omega⟩ ⟨rfl, rfl, rfl, trivial⟩ (fun _ h => h.pick [0, 1, 2] (by decide))
      ·
        refine J.dno rfl (Wan.is rfl rfl rfl rfl rfl) rfl rfl ?_
        refine J.dno rfl (Wan.is rfl rfl rfl rfl rfl) rfl rfl ?_
        refine J.dno rfl (Wan.is rfl rfl rfl rfl rfl) rfl rfl ?_
        refine J.dno rfl (Wan.is rfl rfl rfl rfl rfl) rfl rfl ?_
        refine J.dno rfl (Wan.is rfl rfl rfl rfl rfl) rfl rfl ?_
        refine J.dno rfl (Wan.is rfl rfl rfl rfl rfl) rfl rfl ?_
        refine J.dno rfl (Wan.is rfl rfl rfl rfl rfl) rfl rfl ?_
        refine J.dno rfl (Wan.is rfl rfl rfl rfl rfl) rfl rfl ?_
        refine J.dno rfl (Wan.un rfl rfl rfl rfl) rfl rfl ?_
        refine J.dno rfl (Wan.un rfl rfl rfl rfl) rfl rfl ?_
        refine J.dno rfl (Wan.un rfl rfl rfl rfl) rfl rfl ?_
        refine J.dno rfl (Wan.un rfl rfl rfl rfl) rfl rfl ?_
        refine J.dno rfl (Wan.un rfl rfl rfl rfl) rfl rfl ?_
        refine J.dno rfl (Wan.un rfl rfl rfl rfl) rfl rfl ?_
        refine J.dno rfl (Wan.un rfl rfl rfl rfl) rfl rfl ?_
        refine J.dno rfl (Wan.un rfl rfl rfl rfl) rfl rfl ?_
        refine J.dno rfl (Wan.is rfl rfl rfl rfl rfl) rfl rfl ?_
        refine J.dyg rfl (op_pickF rfl rfl rfl) (Wan.is rfl rfl rfl rfl rfl) rfl rfl rfl ?_
        refine J.dy rfl (op_pickF rfl rfl rfl) rfl rfl rfl rfl ?_
        refine J.dnil ?_
        refine J.then_n (J.k hK14 ?_)
        refine J.keepE [(1, _), (8, _), (10, _), (42, _), (87, _)] ⟨rfl, rfl, rfl, rfl, rfl, trivial⟩ ?_
        refine J.condF rfl rfl ?_
        refine J.skip ?_
        refine J.blk_n ?_
        refine J.then_n (J.k hK9 ?_)
        refine J.keepE [(1, _), (8, _), (42, _)] ⟨rfl, rfl, rfl, trivial⟩ ?_
        refine J.region ?_
        refine J.y ((op_add rfl rfl rfl (by first | omega | (simp only [List.length_append, List.length_cons, List.length_nil, List.length_take, List.length_drop] at *; omega))).as (v' := I ((k + 1 : Nat) : Int)) (congrArg I (by omega))) rfl rfl rfl ?_
        refine J.y (op_move rfl rfl) rfl rfl rfl ?_
        refine J.nil ?_
        refine J.then_n ?_
        exact J.kk (k + 1, at1, t1, R1, e1, A1, c1, mr) (fun η (hη : _ ∧ 2 - η.1 < 2 - k) => hI0 η hη.1 hη.2) ⟨⟨by dsimp only; omega, by dsimp only; exact hst_keep (by omega) hkm hq hD2 (by omega), hr⟩, by dsimp only; omega⟩ ⟨rfl, rfl, rfl, trivial⟩ (fun _ h => h.pick [0, 1, 2] (by decide))
  ·
    refine J.exit ?_
    refine J.then_x ?_
    refine J.then_x ?_
    refine J.blk_eq ?_
    refine J.then_n (J.k hK5 ?_)
    refine J.keepE [(8, _)] ⟨rfl, trivial⟩ ?_
    refine J.seq (fun K15 hK15 => ?_)
    obtain rfl : k = 2 := by omega
    refine J.region ?_
    refine J.y (op_move rfl rfl) rfl rfl rfl ?_
    refine J.y (op_assign rfl rfl) rfl rfl rfl ?_
    refine J.y (op_assign rfl rfl) rfl rfl rfl ?_
    refine J.nil ?_
    refine J.then_n (J.k hK15 ?_)
    refine J.keepE [(6, _), (7, _)] ⟨rfl, rfl, trivial⟩ ?_
    refine J.ret ?_
    exact J.done hw0 (fun _ _ h => h) (res2 rfl rfl rfl) (retOk (g41, A1, c1, mr) rfl (by rw [hq]; exact hr) [0, 1, 2] (by dsimp only; rw [hq]; rfl) (by decide))

end Go.Proofs.YtnkfapecbmmpeaaDoor

namespace Go.Proofs.YtnkfapecbmmpeaaDoor
open Go Go.Fw
set_option maxRecDepth 100000
set_option maxHeartbeats 1000000
/-! ## one-part records -/
def T1 (tn : UInt64) (nr : Nat) (s : List UInt8) : List UInt8 := (prt tn (UInt64.ofNat nr) s 1 0).text
theorem num16 {nr : Nat} (h : nr < 65536) : (UInt64.ofNat nr).toNat = nr ∧ (UInt64.ofNat nr).toNat < 2 ^ (8 * 2) := by
  rw [ofNat64 (by omega)]; exact ⟨rfl, h⟩
theorem T1_ok {tn : UInt64} {nr : Nat} (s : List UInt8) (ht : tn.toNat < 2 ^ (8 * 4)) (hn : nr < 65536) : (prt tn (UInt64.ofNat nr) s 1 0).ok := prt_ok ht (num16 hn).2 (by decide) (by decide)
theorem T1_len {tn : UInt64} {nr : Nat} (s : List UInt8) (ht : tn.toNat < 2 ^ (8 * 4)) (hn : nr < 65536) : (T1 tn nr s).length = 64 := Prt.text_len (T1_ok s ht hn)
theorem T1_parse {tn : UInt64} {nr : Nat} (s : List UInt8) (ht : tn.toNat < 2 ^ (8 * 4)) (hn : nr < 65536) : parse (T1 tn nr s) = (prt tn (UInt64.ofNat nr) s 1 0, true) := parse_text (T1_ok s ht hn) (bname_len _ _ _)
theorem partsN_one {n : Nat} (h : n ≤ 39) : partsN n = 1 := by
  unfold partsN
  split
  · rfl
  · rw [show (n - 1) / 39 = 0 by omega]
theorem prt_con {tn num : UInt64} {s : List UInt8} (h : s.length ≤ 39) : (prt tn num s 1 0).con = s := by
  show (s.drop (39 * 0)).take 39 = s
  rw [Nat.mul_zero, List.drop_zero, List.take_of_length_le h]
theorem recR_one {turn tn : UInt64} {nr : Nat} {l : List (List UInt8)} {s : List UInt8} (hl : l.getD 0 [] = T1 tn nr s) (h0 : tn.toNat ≠ 0) (ht : tn.toNat < 2 ^ (8 * 4)) (hn : nr < 65536) (hs : s.length ≤ 39) (h1 : 0 < l.length) (hc : 0 < nr → tn.toNat = turn.toNat) :
    recR turn nr l = ⟨tn, s, 1, true⟩ := by
  have hp : parse (l.getD 0 []) = (prt tn (UInt64.ofNat nr) s 1 0, true) := by rw [hl]; exact T1_parse s ht hn
  have hf : recF turn nr l.length (prt tn (UInt64.ofNat nr) s 1 0, true) := ⟨rfl, rfl, h0, (num16 hn).1, h1, hc⟩
  have hq : ∀ i < (prt tn (UInt64.ofNat nr) s 1 0).all, recQ (prt tn (UInt64.ofNat nr) s 1 0) i (parse (l.getD i [])) := fun i hi => by
    have hi0 : i = 0 := by have : i < 1 := hi; omega
    rw [hi0, hp]; exact ⟨rfl, rfl, rfl, rfl, rfl, rfl⟩
  have hcat : catL l (prt tn (UInt64.ofNat nr) s 1 0).all = s := by
    show catL l 0 ++ (parse (l.getD 0 [])).1.con = s
    rw [hp]
    show [] ++ (prt tn (UInt64.ofNat nr) s 1 0).con = s
    rw [prt_con hs, List.nil_append]
  rw [recR_y hp hf hq, hcat, decide_eq_true]
  · rfl
  · exact ⟨(partsN_one hs).symm, rfl⟩
/-- a sector that begins no record -/
def NoPart (s : List UInt8) : Prop := (parse s).2 = false ∨ (parse s).1.turn.toNat = 0
theorem recR_none {turn : UInt64} {nr : Nat} {l : List (List UInt8)} (h : NoPart (l.getD 0 [])) : recR turn nr l = noRec := by
  unfold recR
  rw [if_neg]
  rintro ⟨hf, _⟩
  rcases h with h | h
  · exact absurd hf.1 (by rw [h]; decide)
  · exact hf.2.2.1 h
def Txs (tn : UInt64) : Nat → List (List UInt8) → List (List UInt8)
  | _, [] => []
  | nr, s :: r => T1 tn nr s :: Txs tn (nr + 1) r
theorem Txs_len (tn : UInt64) : ∀ (S : List (List UInt8)) (nr : Nat), (Txs tn nr S).length = S.length
  | [], _ => rfl
  | _ :: r, nr => by rw [Txs, List.length_cons, List.length_cons, Txs_len tn r]
theorem rdl_txs {tn : UInt64} (h0 : tn.toNat ≠ 0) (h1 : tn.toNat < 2 ^ (8 * 4)) : ∀ (S : List (List UInt8)) (t : UInt64) (R : List (List UInt8)) (e : Nat) (J : List (List UInt8)), (∀ s ∈ S, s.length ≤ 39) → R.length + S.length ≤ 65536 → (0 < R.length → tn = t) →
    (∀ t', recR t' (R.length + S.length) J = noRec) → rdl t R e (Txs tn R.length S ++ J) = (if S = [] then t else tn, R ++ S, e + S.length)
  | [], t, R, e, J, _, _, _, hJ => by
    have := hJ t
    rw [List.length_nil, Nat.add_zero] at this
    show rdl t R e J = _
    rw [rdl_no (fun h => by rw [this] at h; exact absurd h.2 (by decide)), if_pos rfl, List.append_nil]; rfl
  | s :: r, t, R, e, J, hS, hn, ht, hJ => by
    have hs := hS s (.head _)
    rw [List.length_cons] at hn hJ
    have hr : recR t R.length (Txs tn R.length (s :: r) ++ J) = ⟨tn, s, 1, true⟩ := recR_one (by rw [Txs]; rfl) h0 h1 (by omega) hs (by rw [Txs]; simp) (fun h => by rw [ht h])
    have hne : Txs tn R.length (s :: r) ++ J ≠ [] := by rw [Txs]; simp
    rw [rdl_yes hne (by rw [hr]), hr]
    dsimp only
    have e1 : (Txs tn R.length (s :: r) ++ J).drop 1 = Txs tn (R ++ [s]).length r ++ J := by
      rw [Txs, List.length_append]; rfl
    rw [e1, rdl_txs h0 h1 r tn (R ++ [s]) (e + 1) J (fun x hx => hS x (.tail _ hx)) (by rw [List.length_append, List.length_singleton]; omega) (fun _ => rfl) (fun t' => by rw [List.length_append, List.length_singleton]; have := hJ t'; rwa [show R.length + 1 + r.length = R.length + (r.length + 1) by omega])]
    rw [if_neg (List.cons_ne_nil s r), List.append_assoc]
    refine Prod.ext_iff.2 ⟨?_, Prod.ext_iff.2 ⟨rfl, ?_⟩⟩
    · dsimp only
      split <;> rfl
    · dsimp only
      rw [List.length_cons]; omega
theorem rdl_none {t : UInt64} {R : List (List UInt8)} {e : Nat} {J : List (List UInt8)} (hJ : ∀ t', recR t' R.length J = noRec) : rdl t R e J = (t, R, e) := rdl_no (fun h => by rw [hJ t] at h; exact absurd h.2 (by decide))
/-! ## a disk that was only written whole -/
theorem zS_no : NoPart zS := zS_part.imp id (fun h => by rw [h]; rfl)
theorem now_calm {d : Dk} (h : d.wait = []) (i : Nat) : d.now i = d.last.getD i [] := by unfold Dk.now; rw [h]; rfl
theorem new_last (n i : Nat) (h : i < n) : (Dk.new n).last.getD i [] = zS := by
  show (List.replicate n (List.replicate 64 0)).getD i [] = zS
  rw [List.getD_eq_getElem?_getD, List.getElem?_replicate, if_pos h]; rfl
theorem secs_get {d : Dk} {at_ n i : Nat} (h : i < n) : (secs d at_ n).getD i [] = d.now (at_ + i) := by
  unfold secs
  rw [List.getD_eq_getElem?_getD, List.getElem?_map, List.getElem?_range h]; rfl
/-- what a disk has behind a record of one part that lasts -/
theorem calm_put1 {d : Dk} (ho : d.off = false) (ha : d.armed = false) (hw : d.wait = []) {p : Nat} {T : List UInt8} (hT : T.length = 64) (hp : p < d.last.length) (h64 : ∀ s ∈ d.last, s.length = 64) :
    (wend d p (fun _ => T) 1) = ({ d with last := d.last.set p T, wait := [] }, 0) := by
  have h0 : d.ready ((p + 0 : Nat) : Int) = 0 := calm_ready ho (i := p + 0) (by omega)
  have hwr := write_in h0 (s := T) (by omega) (calm_burn ha).2
  rw [(calm_burn ha).1] at hwr
  have e1 : wrun d p (fun _ => T) 1 = (d.write ((p + 0 : Nat) : Int) T, d.wErr ((p + 0 : Nat) : Int) T) := wrun_succ rfl
  have hfull : full T = T := by unfold full; rw [hT]; simp
  rw [hwr.1, hwr.2, hw, hfull] at e1
  have h2 : (wrun d p (fun _ => T) 1).2 = 0 := by rw [e1]
  unfold wend
  rw [if_pos h2, e1]
  dsimp only
  have hl : 0 < d.last.length := by omega
  have h3 : ({ d with wait := [] ++ [(((p + 0 : Nat) : Int).toNat, T)] } : Dk).ready 0 = 0 := calm_ready (d := { d with wait := [] ++ [(((p + 0 : Nat) : Int).toNat, T)] }) ho (i := 0) hl
  have h4 := calm_burn (d := { d with wait := [] ++ [(((p + 0 : Nat) : Int).toNat, T)] }) ha
  unfold Dk.sync Dk.sErr
  rw [if_neg (by rw [h3]; decide), if_neg h4.2, if_neg (by rw [h3]; decide), if_neg h4.2, h4.1]
  refine Prod.ext_iff.2 ⟨?_, rfl⟩
  dsimp only
  congr 1
  show lastW d.last (p, T) 64 = d.last.set p T
  unfold lastW tear
  dsimp only
  rw [List.take_of_length_le (by omega), List.drop_of_length_le (by rw [get64 h64 hp]; exact Nat.le_refl _), List.append_nil]

end Go.Proofs.YtnkfapecbmmpeaaDoor
