/- A part of the proof. -/
import Derived.Test.YtfldiegfenndjaaGreatDoorTopCcG23
import Derived.Test.YtfldiegfenndjaaGreatDoorTopCcG8
import Derived.Test.YtfldiegfenndjaaGreatDoorTopCcG20
import Derived.Test.YtfldiegfenndjaaGreatDoorTopCcG16
set_option linter.unusedSimpArgs false
set_option linter.unusedVariables false
namespace Go.Proofs.YtfldiegfenndjaaGreatDoor
open Go Go.Fw Go.Proofs.Tryz
set_option maxRecDepth 100000
set_option maxHeartbeats 1000000
theorem Mk.lvl_16 (l : List (List UInt8)) (hs : ∀ s ∈ l, s.length = 16) : ∀ j, ∀ s ∈ Mk.lvl l j, s.length = 16
 | 0, s, h => hs s h
 | j + 1, s, h => by
  simp only [Mk.lvl, Mk.above, List.mem_map] at h
  obtain ⟨k, _, rfl⟩ := h
  exact Mk.node_length _ _
theorem Mk.path_16 (l : List (List UInt8)) (i h : Nat) (hs : ∀ s ∈ l, s.length = 16) (hl : l.length = 2 ^ h) (hi : i < 2 ^ h) : ∀ s ∈ Mk.path l i h, s.length = 16 := fun s hp => by
 unfold Mk.path at hp
 simp only [List.mem_map, List.mem_range] at hp
 obtain ⟨j, hj, rfl⟩ := hp
 refine Mk.lvl_16 l hs j _ (Mk.getS_mem ?_)
 rw [Mk.lvl_length l h hl j (by omega), show h - j = (h - 1 - j) + 1 by omega, Nat.pow_succ, Nat.mul_comm]
 refine Mk.xor_one _ _ ?_
 rw [Nat.div_lt_iff_lt_mul (Nat.two_pow_pos j), Nat.mul_assoc, ← Nat.pow_add, Nat.mul_comm, ← Nat.pow_succ, show (h - 1 - j + j).succ = h by omega]
 exact hi
theorem Xm.leaves_16 (seed : List UInt8) (k : Nat) : ∀ s ∈ Xm.leaves seed k, s.length = 16 := fun s hs => by
 simp only [Xm.leaves, List.mem_map] at hs
 obtain ⟨i, _, rfl⟩ := hs
 exact Xm.pub_length _ _
theorem Wo.signs_len (seed : List UInt8) (i : Nat) (d : List Nat) : (Wo.signs seed i d 35).length = 35 := by simp [Wo.signs]
def qRK (m : Hp) (g : Nat) (seed : List UInt8) (h : Nat) : Prop := ∃ A c, qAV m ⟨g, 0, none⟩ (qBH seed (Wo.opn seed) (Xm.root seed h) h A (2 ^ h) c) ∧ Sl m 1 A (2 ^ h) c (qAL (Xm.leaves seed (2 ^ h)))
theorem qRK.mono {m m' : Hp} {g : Nat} {seed : List UInt8} {h : Nat} (hk : qRK m g seed h) (hl : Le m m') : qRK m' g seed h := by
 obtain ⟨A, c, h1, h2⟩ := hk
 exact ⟨A, c, h1.mono hl, h2.mono hl⟩
def sgC (seed : List UInt8) (i : Nat) (mg : List UInt8) : List (List UInt8) := Wo.signs seed i (Wo.digs (Xm.digest (Wo.opn seed) i mg)) 35
def sgP (seed : List UInt8) (h i : Nat) : List (List UInt8) := Mk.path (Xm.leaves seed (2 ^ h)) i h
theorem qMb (seed : List UInt8) (i : Nat) (mg : List UInt8) : (sgC seed i mg).length = 35 := Wo.signs_len _ _ _
theorem qTf (seed : List UInt8) (i : Nat) (mg : List UInt8) : ∀ s ∈ sgC seed i mg, s.length = 16 := Wo.signs_16 _ _ _ _
theorem qMa (seed : List UInt8) (h i : Nat) : (sgP seed h i).length = h := Mk.path_length _ _ _
theorem qTe (seed : List UInt8) {h i : Nat} (hi : i < 2 ^ h) : ∀ s ∈ sgP seed h i, s.length = 16 := Mk.path_16 _ _ _ (Xm.leaves_16 _ _) (Xm.leaves_length _ _) hi
theorem qOc (F : Hp) (hK : KF F) (seed : List UInt8) (h : Nat) (hs : seed.length ≤ 1048576) (h6 : h ≤ 6) :
    Ct prog 33 [Str seed, I ((h : Nat) : Int)] [F] (fun x : Nat × Hp => .tuple #[Ptr x.1, I 0]) (fun x => qRK x.2 x.1 seed h) (fun x => [F, x.2]) := fun w0 w hw =>
  (qRO F hK seed h hs h6 w0 w hw).mono fun e w' ⟨x, he, hx, hs'⟩ => ⟨x, he, hx.see, hs'.pick [1, 0] (by decide)⟩
theorem qL3 (F : Hp) (hK : KF F) (g : Nat) (seed : List UInt8) (h : Nat) (hk : qRK F g seed h) (hs : seed.length ≤ 1048576) (h6 : h ≤ 6) (i : Nat) (hi : i < 2 ^ h) (mg : List UInt8) (hm : mg.length ≤ 1048576) :
    Ct prog 45 [Ptr g, I ((i : Nat) : Int), Str mg] [F] (fun x : (Option Addr × Nat × Hp) × (Option Addr × Nat × Hp) => .tuple #[.agg #[I ((i : Nat) : Int), .slice x.1.1 (sgC seed i mg).length x.1.2.1, .slice x.2.1 (sgP seed h i).length x.2.2.1], I 0])
      (fun x => Row x.1.2.2 9 1 x.1.1 (sgC seed i mg).length x.1.2.1 (qAL (sgC seed i mg)) ∧ Row x.2.2.2 9 1 x.2.1 (sgP seed h i).length x.2.2.1 (qAL (sgP seed h i))) (fun x => [F, x.1.2.2, x.2.2.2]) := by
  obtain ⟨A, c, h1, h2⟩ := hk
  rw [qMb, qMa]
  exact qOb F hK g seed h A c h1 h2 hs h6 mg hm i hi
theorem qJQ (F : Hp) (g : Nat) (seed : List UInt8) (h : Nat) (hk : qRK F g seed h) : Ct prog 35 [Ptr g] [F] (fun _ : Unit => .agg #[Str (Wo.opn seed), Str (Xm.root seed h), I ((h : Nat) : Int)]) (fun _ => True) (fun _ => [F]) := by
 obtain ⟨A, c, h1, h2⟩ := hk
 exact qKc F g seed (Wo.opn seed) (Xm.root seed h) h A (2 ^ h) c h1
theorem qJE (seed : List UInt8) (h i : Nat) (hi : i < 2 ^ h) : Mk.climb (Wo.pub seed i) i (sgP seed h i) = Xm.root seed h := by
 have := Mk.climb_root (Xm.leaves seed (2 ^ h)) h i (Xm.leaves_length _ _) hi
 rw [Xm.leaves_get seed _ i hi] at this
 exact this
theorem qI8 {l : List (List UInt8)} (h : ∀ s ∈ l, s.length = 16) : ∀ s ∈ l, s.length ≤ 1048576 := fun s hs => by rw [h s hs]; decide
def qGS (ep : Nat) (bd : Int) (hd : List UInt8) (nm : Int) : Prop := ep ≤ 4294967295 ∧ 0 ≤ bd ∧ bd < 16 ∧ hd.length = 16 ∧ 0 ≤ nm ∧ nm < 64
instance (ep : Nat) (bd : Int) (hd : List UInt8) (nm : Int) : Decidable (qGS ep bd hd nm) := by unfold qGS; infer_instance
def plB (ep bd nm : Nat) : List UInt8 := Sha.numB (UInt64.ofNat ep) 4 ++ Sha.numB (UInt64.ofNat bd) 1 ++ Sha.numB (UInt64.ofNat nm) 2
theorem qM5 (ep bd nm : Nat) : (plB ep bd nm).length = 7 := by unfold plB; simp only [List.length_append, Sha.numB_length]
def atM (ep bd nm : Nat) (hd : List UInt8) : List UInt8 := Sha.tagged 18 [plB ep bd nm, hd]
theorem qOH (ep bd nm : Nat) (hd : List UInt8) : (atM ep bd nm hd).length = 16 := Sha.tagged_length _ _
theorem qLV {ep : Nat} {bd : Int} {hd : List UInt8} {nm : Int} (h1 : (ep : Int) ≤ 4294967295) (h2 : 0 ≤ bd) (h3 : bd < 16) (h4 : (hd.length : Int) = 16) (h5 : 0 ≤ nm) : (nm < 64) = qGS ep bd hd nm := propext ⟨fun h => ⟨by omega, h2, h3, by omega, h5, h⟩, fun h => h.2.2.2.2.2⟩
theorem qLW {ep : Nat} {bd : Int} {hd : List UInt8} {nm : Int} (h : ¬ (ep : Int) ≤ 4294967295 ∨ ¬ 0 ≤ bd ∨ ¬ bd < 16 ∨ ¬ (hd.length : Int) = 16 ∨ ¬ 0 ≤ nm) : false = decide (qGS ep bd hd nm) := by
 symm
 apply decide_eq_false
 unfold qGS
 omega
theorem qOJ (F : Hp) (ep : Nat) (bd : Int) (hd : List UInt8) (nm : Int) (i : Int) (A1 A2 : Option Addr) (n1 c1 n2 c2 : Nat) :
    Ct prog 63 [.agg #[N64 ep, I bd, Str hd, I nm, I i, .slice A1 n1 c1, .slice A2 n2 c2]] [F] (fun _ : Unit => .bool (decide (qGS ep bd hd nm))) (fun _ => True) (fun _ => [F]) := by
  refine Ct.walk func63 rfl ntmps63 rfl (fun w0 hw0 => ?_)
  refine J.g fun K1 hK1 => J.u (qAl rfl rfl rfl) rfl fun g1 _ => J.b rfl <| J.c hK1 <| J.A 1 ?_
  refine J.g fun K2 hK2 => J.a8 0 qE5 qBQ rfl rfl rfl rfl rfl <| J.c4 1 qBq rfl rfl rfl rfl rfl <| J.f (qB4 rfl rfl rfl) rfl <| J.b rfl <| J.c3 (d := 6) rfl (fun h6 => ?_) (fun h6 => ?_)
  ·
    refine J.O (qAA rfl rfl qE5 rfl z3_ rfl) rfl <| J.O (qAF 1 rfl rfl rfl b3_ rfl) rfl <| J.O (qBG rfl rfl rfl) rfl <| J.p 2 rfl <| J.c3 (d := 11) rfl (fun h11 => ?_) (fun h11 => ?_)
    ·
      refine J.O (qAA rfl rfl qE5 rfl z3_ rfl) rfl <| J.O (qAF 1 rfl rfl rfl b3_ rfl) rfl <| J.O (qAS rfl rfl rfl) rfl <| J.p 2 rfl <| J.c3 (d := 16) rfl (fun h16 => ?_) (fun h16 => ?_)
      ·
        refine J.O (qAA rfl rfl qE5 rfl z9_ rfl) rfl <| J.O (qAF 1 rfl rfl rfl b9_ rfl) rfl <| J.O (qA0 u9_ rfl rfl) rfl <| J.O (qAd rfl rfl rfl) rfl <| J.p 2 rfl <| J.c3 (d := 22) rfl (fun h22 => ?_) (fun h22 => ?_)
        ·
          refine J.O (qAA rfl rfl qE5 rfl z3_ rfl) rfl <| J.O (qAF 1 rfl rfl rfl b3_ rfl) rfl <| J.O (qBG rfl rfl rfl) rfl <| J.p 2 rfl <| J.c3 (d := 27) rfl (fun h27 => ?_) (fun h27 => ?_)
          ·
            refine J.O (qAA rfl rfl qE5 rfl z3_ rfl) rfl <| J.O (qAF 1 rfl rfl rfl b3_ rfl) rfl <| J.O (qAS rfl rfl rfl) rfl <| J.f ((by first | exact (qCK rfl rfl rfl).as (v' := .bool (decide (qGS ep bd hd nm))) (congrArg Value.bool (decide_eq_decide.2 (iff_of_eq (qLV (by assumption) (by assumption) (by assumption) (by assumption) (by assumption))))) | exact (qCL rfl rfl rfl).as (v' := .bool (decide (qGS ep bd hd nm))) (congrArg Value.bool (qLW (by omega))))) rfl <| J.b rfl <| J.c hK2 <| J.A 2 ?_
            exact J.D <| J.L hw0 rfl () rfl trivial [0] rfl (by decide)
          refine J.p 3 rfl <| J.f ((by first | exact (qCK rfl rfl rfl).as (v' := .bool (decide (qGS ep bd hd nm))) (congrArg Value.bool (decide_eq_decide.2 (iff_of_eq (qLV (by assumption) (by assumption) (by assumption) (by assumption) (by assumption))))) | exact (qCL rfl rfl rfl).as (v' := .bool (decide (qGS ep bd hd nm))) (congrArg Value.bool (qLW (by omega))))) rfl <| J.b rfl <| J.c hK2 <| J.A 2 ?_
          exact J.D <| J.L hw0 rfl () rfl trivial [0] rfl (by decide)
        refine J.p 8 rfl <| J.f ((by first | exact (qCK rfl rfl rfl).as (v' := .bool (decide (qGS ep bd hd nm))) (congrArg Value.bool (decide_eq_decide.2 (iff_of_eq (qLV (by assumption) (by assumption) (by assumption) (by assumption) (by assumption))))) | exact (qCL rfl rfl rfl).as (v' := .bool (decide (qGS ep bd hd nm))) (congrArg Value.bool (qLW (by omega))))) rfl <| J.b rfl <| J.c hK2 <| J.A 2 ?_
        exact J.D <| J.L hw0 rfl () rfl trivial [0] rfl (by decide)
      refine J.p 14 rfl <| J.f ((by first | exact (qCK rfl rfl rfl).as (v' := .bool (decide (qGS ep bd hd nm))) (congrArg Value.bool (decide_eq_decide.2 (iff_of_eq (qLV (by assumption) (by assumption) (by assumption) (by assumption) (by assumption))))) | exact (qCL rfl rfl rfl).as (v' := .bool (decide (qGS ep bd hd nm))) (congrArg Value.bool (qLW (by omega))))) rfl <| J.b rfl <| J.c hK2 <| J.A 2 ?_
      exact J.D <| J.L hw0 rfl () rfl trivial [0] rfl (by decide)
    refine J.p 19 rfl <| J.f ((by first | exact (qCK rfl rfl rfl).as (v' := .bool (decide (qGS ep bd hd nm))) (congrArg Value.bool (decide_eq_decide.2 (iff_of_eq (qLV (by assumption) (by assumption) (by assumption) (by assumption) (by assumption))))) | exact (qCL rfl rfl rfl).as (v' := .bool (decide (qGS ep bd hd nm))) (congrArg Value.bool (qLW (by omega))))) rfl <| J.b rfl <| J.c hK2 <| J.A 2 ?_
    exact J.D <| J.L hw0 rfl () rfl trivial [0] rfl (by decide)
  refine J.p 24 rfl <| J.f ((by first | exact (qCK rfl rfl rfl).as (v' := .bool (decide (qGS ep bd hd nm))) (congrArg Value.bool (decide_eq_decide.2 (iff_of_eq (qLV (by assumption) (by assumption) (by assumption) (by assumption) (by assumption))))) | exact (qCL rfl rfl rfl).as (v' := .bool (decide (qGS ep bd hd nm))) (congrArg Value.bool (qLW (by omega))))) rfl <| J.b rfl <| J.c hK2 <| J.A 2 ?_
  exact J.D <| J.L hw0 rfl () rfl trivial [0] rfl (by decide)
theorem qOI (F : Hp) (ep bd nm : Nat) (hd : List UInt8) (i : Int) (A1 A2 : Option Addr) (n1 c1 n2 c2 : Nat) (h1 : ep ≤ 4294967295) (h2 : bd < 16) (h3 : nm < 64) (h4 : hd.length = 16) :
    Ct prog 64 [.agg #[N64 ep, I (bd : Nat), Str hd, I (nm : Nat), I i, .slice A1 n1 c1, .slice A2 n2 c2]] [F] (fun _ : Unit => Str (plB ep bd nm)) (fun _ => True) (fun _ => [F]) := by
  refine Ct.walk func64 rfl ntmps64 rfl (fun w0 hw0 => ?_)
  refine J.g fun K1 hK1 => J.u (qAl rfl rfl rfl) rfl fun g1 _ => J.b rfl <| J.c hK1 <| J.A 1 ?_
  refine J.g fun K2 hK2 => J.u (qAf rfl zeroValue188 rfl) rfl fun g3 _ => J.c hK2 <| J.M 1 3 ?_
  refine J.k fun K3 hK3 => J.b5 [blk g1 [N64 ep, I (bd : Nat), Str hd, I (nm : Nat), I i, .slice A1 n1 c1, .slice A2 n2 c2] 52] [] (.y 0 (.y 1 (.y 3 (.y 4 (.y 5 (.y 7 (.y 8 (.y 9 (.e 2 (.e 6 (.e 10 (.e 11 (.y 12 (.y 13 (.y 14 (.y 15 (.y 16 .nil))))))))))))))))) Tryz.wide (by decide +kernel) (by simp) ?_
  refine J.j rfl (qAA rfl rfl qE5 rfl qBQ rfl) rfl rfl <| J.j rfl (qAF 0 rfl rfl rfl qBq rfl) rfl rfl <| J.j rfl (qAA rfl rfl qE5 rfl z3_ rfl) rfl rfl <| J.j rfl (qAF 0 rfl rfl rfl b3_ rfl) rfl rfl <| J.j rfl (qBL rfl rfl u3_ qDu (by omega)) rfl rfl <| J.j rfl (qAA rfl rfl qE5 rfl z3_ rfl) rfl rfl <| J.j rfl (qAF 0 rfl rfl rfl b3_ rfl) rfl rfl <| J.j rfl (qBL rfl rfl u3_ qDu (by omega)) rfl rfl <| J.a7 rfl (qAB rfl rfl ent83 (Ct.use1 2 rfl (fun F' _ => qNN F' (blk g3 [.pointer none, .slice none 0 0, I 0] 188) g3 [] 0 (qIe g3) (by decide) ep (by omega) 4 (by omega) (by omega)))) rfl (by simp) ?_
  rintro m9 hw9
  rw [(qH3 (size := 4) (by omega) (by omega)), qDH, qDe (qH3 (size := 4) (by omega) (by omega)), List.nil_append] at hw9
  refine J.a7 rfl (qAB rfl rfl ent83 (Ct.use1 2 rfl (fun F' _ => qFX F' m9 g3 (Sha.numB (UInt64.ofNat ep) 4) 0 hw9 (by rw [Sha.numB_length]; omega) (UInt64.ofNat bd) 1 (by omega) (by omega)))) rfl (by simp) ?_
  rintro m13 hw13
  rw [(qH3 (size := 1) (by omega) (by omega)), qDH, qDe (qH3 (size := 1) (by omega) (by omega))] at hw13
  refine J.a7 rfl (qAB rfl rfl ent83 (Ct.use1 2 rfl (fun F' _ => qFX F' m13 g3 ((Sha.numB (UInt64.ofNat ep) 4) ++ Sha.numB (UInt64.ofNat bd) 1) 0 hw13 (by rw [List.length_append, Sha.numB_length, Sha.numB_length]; omega) (UInt64.ofNat nm) 2 (by omega) (by omega)))) rfl (by simp) ?_
  rintro m17 hw17
  rw [(qH3 (size := 2) (by omega) (by omega)), qDH, qDe (qH3 (size := 2) (by omega) (by omega))] at hw17
  refine J.a7 rfl (qAB rfl rfl ent86 (Ct.use1 2 rfl (fun F' _ => qHT F' m17 g3 (plB ep bd nm) 0 hw17 (by rw [qM5]; omega)))) rfl (by simp) ?_
  rintro m18 _
  refine J.G ?_
  refine J.d4 (Str (plB ep bd nm)) ?_
  refine J.d4 (I 0) ?_
  refine J.c0 ?_
  refine J.c0 ?_
  refine J.b4 <| J.q (J.H hK3 ?_)
  refine J.A 4 ?_
  refine J.g fun K4 hK4 => J.p 2 rfl <| J.c hK4 <| J.A 2 ?_
  exact J.D <| J.L hw0 rfl () rfl trivial [0] rfl (by decide)
theorem qFq (F : Hp) (hK : KF F) (ep bd nm : Nat) (hd : List UInt8) (i : Int) (A1 A2 : Option Addr) (n1 c1 n2 c2 : Nat) (h1 : ep ≤ 4294967295) (h2 : bd < 16) (h3 : nm < 64) (h4 : hd.length = 16) :
    Ct prog 22 [.agg #[N64 ep, I (bd : Nat), Str hd, I (nm : Nat), I i, .slice A1 n1 c1, .slice A2 n2 c2]] [F] (fun _ : Unit => Str (atM ep bd nm hd)) (fun _ => True) (fun _ => [F]) := by
  refine Ct.walk func22 rfl ntmps22 rfl (fun w0 hw0 => ?_)
  refine J.g fun K1 hK1 => J.u (qAl rfl rfl rfl) rfl fun g1 _ => J.b rfl <| J.c hK1 <| J.A 1 ?_
  refine J.k fun K2 hK2 => J.g fun K3 hK3 => J.c7 1 isAgg52 qFv rfl rfl rfl rfl rfl <| J.u (qAB rfl rfl ent63 (Ct.use0 (fun F' hF => qOJ F' ep bd hd nm i A1 A2 n1 c1 n2 c2))) rfl fun g4 _ => J.f ((qA2 rfl rfl).as (v' := .bool false) (by rw [decide_eq_true (show qGS ep bd hd nm from ⟨h1, by omega, by omega, h4, by omega, by omega⟩)]; rfl)) rfl <| J.c hK3 <| J.M 1 5 ?_
  refine J.b6 ?_
  refine J.a1 hK2 <| J.A 1 ?_
  refine J.k fun K4 hK4 => J.b5 [blk g1 [N64 ep, I (bd : Nat), Str hd, I (nm : Nat), I i, .slice A1 n1 c1, .slice A2 n2 c2] 52] [] (.y 0 (.y 2 (.y 3 (.e 1 (.e 4 (.e 5 (.y 6 .nil))))))) Tryz.wide (by decide +kernel) (by simp) ?_
  refine J.j rfl (qAk 0 rfl rfl rfl isAgg52 qFv rfl) rfl rfl <| J.j rfl (qAA rfl rfl qE5 rfl z9_ rfl) rfl rfl <| J.j rfl (qAF 0 rfl rfl rfl b9_ rfl) rfl rfl <| J.a7 rfl (qAB rfl rfl ent64 (Ct.use0 (fun F' hF => qOI F' ep bd nm hd i A1 A2 n1 c1 n2 c2 h1 h2 h3 h4))) rfl (by simp) fun g7 _ => J.a7 rfl (qAH (l := [.tmp 7, .tmp 9]) (xs := [[Str (plB ep bd nm)], [Str (hd)]]) rfl rfl rfl rfl qAn el9 rfl (by decide) (by decide) (by simp)) rfl (by simp) fun g10 _ => J.a7 rfl (qAB rfl rfl ent44 (Ct.use0 (fun F' hF => qA5 F' (hK.mono (hF _ (by simp))) 18 (some ⟨g10, 0, none⟩) 2 2 [plB ep bd nm, hd] ((slS [plB ep bd nm, hd] rfl).mono (hF (blk g10 (([plB ep bd nm, hd] : List (List UInt8)).map fun s => Str s) 9) (by simp))) (by simp only [List.flatten_cons, List.flatten_nil, List.append_nil, List.length_append, qM5, h4]; decide) (by decide)))) rfl (by simp) fun g11 _ => J.c0 ?_
  refine J.b4 <| J.q (J.H hK4 ?_)
  refine J.A 2 ?_
  exact J.D <| J.L hw0 rfl () rfl trivial [0] rfl (by decide)
theorem qLr (F : Hp) (hK : KF F) (ep bd nm : Nat) (hd : List UInt8) (h1 : ep ≤ 4294967295) (h2 : bd < 16) (h3 : nm < 64) (h4 : hd.length = 16) (o r : List UInt8) (i : Nat) (A1 : Option Addr) (c1 : Nat) (ch : List (List UInt8)) (hch : Sl F 1 A1 35 c1 (qAL ch)) (hc16 : ∀ s ∈ ch, s.length = 16) (A2 : Option Addr) (h c2 : Nat) (pt : List (List UInt8)) (hpt : Sl F 1 A2 h c2 (qAL pt)) (hp16 : ∀ s ∈ pt, s.length = 16) (ho : o.length ≤ 1048576) (h6 : h ≤ 6) (hi : i < 2 ^ h) :
    Ct prog 25 [.agg #[N64 ep, I (bd : Nat), Str hd, I (nm : Nat), I (i : Nat), .slice A1 35 c1, .slice A2 h c2], .agg #[Str o, Str r, I h]] [F] (fun _ : Unit => .bool (decide (Mk.climb (Wo.publicOf o i (Wo.ends o i (Wo.digs (Xm.digest o i (atM ep bd nm hd))) ch 35)) i pt = r))) (fun _ => True) (fun _ => [F]) := by
  refine Ct.walk func25 rfl ntmps25 rfl (fun w0 hw0 => ?_)
  refine J.g fun K1 hK1 => J.u (qAl rfl rfl rfl) rfl fun g2 _ => J.u (qAl rfl rfl rfl) rfl fun g3 _ => J.b rfl <| J.c hK1 <| J.M 2 3 ?_
  refine J.k fun K2 hK2 => J.b5 [blk g2 [N64 ep, I (bd : Nat), Str hd, I (nm : Nat), I (i : Nat), .slice A1 35 c1, .slice A2 h c2] 52, blk g3 [Str o, Str r, I h] 54] [] (.y 0 (.e 1 (.y 2 (.y 3 (.y 4 (.y 6 (.y 7 (.e 5 (.e 8 (.y 9 (.y 10 .nil))))))))))) Tryz.wide (by decide +kernel) (by simp) ?_
  refine J.j rfl (qAk 0 rfl rfl rfl isAgg52 qFv rfl) rfl rfl <| J.a7 rfl (qAB rfl rfl ent63 (Ct.use0 (fun F' hF => (qOJ F' ep bd hd nm (i : Nat) A1 A2 35 c1 h c2).mono (φ2 := fun _ => True) (val2 := fun _ : Unit => .bool true) id (fun _ _ => congrArg Value.bool (decide_eq_true (show qGS ep bd hd nm from ⟨h1, by omega, by omega, h4, by omega, by omega⟩))) (fun _ _ => trivial) (fun _ _ _ _ h => h)))) rfl (by simp) fun g6 _ => J.G ?_
  refine J.b8 rfl (qAk 1 rfl rfl rfl isAgg54 qF5 rfl) rfl rfl <| J.b8 rfl (qAk 0 rfl rfl rfl isAgg52 qFv rfl) rfl rfl <| J.b8 rfl (qAA rfl rfl qE5 rfl sizeOf50 rfl) rfl rfl <| J.b8 rfl (qFU 0 rfl rfl isAgg50 sizeOf50 (vs := [I (i : Nat), .slice A1 35 c1, .slice A2 h c2]) rfl (qAV.blk 4 (fun j u hj => by match j with | 0 => exact hj | 1 => exact hj | 2 => exact hj)) rfl) rfl rfl <| J.f0 rfl (qAB rfl rfl ent22 (Ct.use0 (fun F' hF => qFq F' (hK.mono (hF _ (by simp))) ep bd nm hd (i : Nat) A1 A2 35 c1 h c2 h1 h2 h3 h4))) (Wan.is rfl rfl rfl rfl rfl) rfl rfl (by simp) ?_
  intro g10 _
  refine J.f0 rfl (qAB rfl rfl ent66 (Ct.use0 (fun F' hF => qKb F' (hK.mono (hF _ (by simp))) o r h (atM ep bd nm hd) i A1 c1 ch (hch.mono (hF F (by simp))) hc16 A2 c2 pt (hpt.mono (hF F (by simp))) (qI8 hp16) ho (by rw [qOH]; decide) h6 hi))) (Wan.is rfl rfl rfl rfl rfl) rfl rfl (by simp) ?_
  intro g13 _
  refine J.f4 ?_
  refine J.c0 ?_
  refine J.b4 <| J.q (J.H hK2 ?_)
  refine J.A 4 ?_
  exact J.D <| J.L hw0 rfl () rfl trivial [0] rfl (by decide)
end Go.Proofs.YtfldiegfenndjaaGreatDoor
namespace Go.Proofs.YtfldiegfenndjaaGreatDoor
set_option maxRecDepth 100000
set_option maxHeartbeats 1000000
namespace SM
open SN (qAo qAg forceL qAy)
noncomputable def hd {α : Type} (l : List Nat) (g : Nat → List Nat → α) : α := List.rec (g 0 []) (fun a r _ => g a r) l
noncomputable def w4s (n : Nat) : List Nat → List Nat :=
 Nat.rec (fun _ => []) (fun _ ih l => hd l fun a r => hd r fun b r => hd r fun c r => hd r fun d r => qAo (((a * 256 + b) * 256 + c) * 256 + d) fun x => x :: ih r) n
theorem qOf (n a b c d : Nat) (r : List Nat) : w4s (n + 1) (a :: b :: c :: d :: r) = (((a * 256 + b) * 256 + c) * 256 + d) :: w4s n r := by
 show qAo (((a * 256 + b) * 256 + c) * 256 + d) (fun x => x :: w4s n r) = _
 rw [qAg]
theorem qL7 (l : List UInt8) (i : Nat) : Sha.word (l.drop 4) i = Sha.word l (i + 1) := by
 have e : ∀ k, (l.drop 4).getD (4 * i + k) 0 = l.getD (4 * (i + 1) + k) 0 := fun k => by
  rw [List.getD_eq_getElem?_getD, List.getElem?_drop, ← List.getD_eq_getElem?_getD, show 4 + (4 * i + k) = 4 * (i + 1) + k by omega]
 unfold Sha.word
 exact congr (congr (congr (congrArg Sha.be32 (e 0)) (e 1)) (e 2)) (e 3)
theorem firsts_succ (l : List UInt8) (n : Nat) : Sha.firsts l (n + 1) = Sha.word l 0 :: Sha.firsts (l.drop 4) n := by
 unfold Sha.firsts
 rw [List.range_succ_eq_map, List.map_cons, List.map_map]
 exact congrArg (List.cons _) (List.map_congr_left fun i _ => (qL7 l i).symm)
theorem qQp : ∀ (n : Nat) (l : List UInt8), 4 * n ≤ l.length → w4s n (l.map UInt8.toNat) = (Sha.firsts l n).map UInt32.toNat
 | 0, _, _ => rfl
 | n + 1, l, h => by
  match l, h with
  | a :: b :: c :: d :: r, h =>
   have ih := qQp n r (by simp only [List.length_cons] at h; omega)
   rw [firsts_succ]
   show w4s (n + 1) (a.toNat :: b.toNat :: c.toNat :: d.toNat :: r.map UInt8.toNat) = _
   rw [qOf, ih, List.map_cons]
   congr 1
   have := SN.w4_eq (a :: b :: c :: d :: r) 0
   rw [Nat.mul_zero, List.drop_zero] at this
   exact this
  | [], h => simp at h
  | [_], h => simp only [List.length_cons, List.length_nil] at h; omega
  | [_, _], h => simp only [List.length_cons, List.length_nil] at h; omega
  | [_, _, _], h => simp only [List.length_cons, List.length_nil] at h; omega
noncomputable def cols {α : Type} (L : List (List Nat)) : (List Nat → α) → α :=
 List.rec (fun g => g [0, 0, 0, 0, 0, 0, 0, 0, 0, 0, 0, 0, 0, 0, 0, 0]) (fun ws _ ih g => ih fun acc => forceL (List.zipWith (fun w p => w + 18446744073709551616 * p) ws acc) g) L
def qN3 : List (List Nat) → List Nat
 | [] => [0, 0, 0, 0, 0, 0, 0, 0, 0, 0, 0, 0, 0, 0, 0, 0]
 | ws :: L => List.zipWith (fun w p => w + 18446744073709551616 * p) ws (qN3 L)
theorem qN1 {α : Type} : ∀ (L : List (List Nat)) (g : List Nat → α), cols L g = g (qN3 L)
 | [], _ => rfl
 | ws :: L, g => by
  show cols L (fun acc => forceL (List.zipWith (fun w p => w + 18446744073709551616 * p) ws acc) g) = _
  rw [qN1 L, qAy]; rfl
def wd (M : List (List UInt8)) (j z : Nat) : UInt32 := Sha.word (M.getD z []) j
theorem qLE (n : Nat) (f : Nat → Nat) : qA7 (n + 1) f = f 0 + 18446744073709551616 * qA7 n (fun i => f (i + 1)) := rfl
attribute [local irreducible] qA7 Sha.word
theorem qR8 (b : List UInt8) (M : List (List UInt8)) (j : Nat) : pk (b :: M).length (wd (b :: M) j) = (Sha.word b j).toNat + 18446744073709551616 * pk M.length (wd M j) := by
 have h : ∀ i, wd (b :: M) j (i + 1) = wd M j i := fun i => by unfold wd; rw [List.getD_cons_succ]
 have h0 : wd (b :: M) j 0 = Sha.word b j := by unfold wd; rw [List.getD_cons_zero]
 unfold pk
 rw [List.length_cons, qLE, h0]
 simp only [h]
theorem qL0 {f g : Nat → Nat} : ∀ (l : List Nat), List.zipWith (fun w p => w + 18446744073709551616 * p) (l.map f) (l.map g) = l.map fun j => f j + 18446744073709551616 * g j
 | [] => List.zipWith_nil_left
 | a :: l => by rw [List.map_cons, List.map_cons, List.map_cons, List.zipWith_cons_cons, qL0 l]
theorem qN2 : qN3 [] = (List.range 16).map fun j => pk ([] : List (List UInt8)).length (wd [] j) := by
 have h : ∀ j, pk ([] : List (List UInt8)).length (wd [] j) = 0 := fun j => by
  unfold pk; rw [List.length_nil]; unfold qA7; rfl
 simp only [h]
 decide
theorem qQI (M : List (List UInt8)) : qN3 (M.map fun b => (Sha.firsts b 16).map UInt32.toNat) = (List.range 16).map fun j => pk M.length (wd M j) := by
 induction M with
 | nil => exact qN2
 | cons b M ih =>
  rw [List.map_cons, qN3, ih]
  unfold Sha.firsts
  rw [List.map_map, qL0]
  refine List.map_congr_left fun j _ => ?_
  rw [Function.comp_apply, qR8]
theorem K_len : Sha.K.length = 64 := by decide
noncomputable def oneP {α : Type} (u : Nat) (ws : List Nat) (g : Nat → Nat → Nat → Nat → α) : α :=
 forceL (rdsP u SN.KN (schP u 48 (ws.getD 0 0) (ws.getD 1 0) (ws.getD 2 0) (ws.getD 3 0) (ws.getD 4 0) (ws.getD 5 0) (ws.getD 6 0) (ws.getD 7 0) (ws.getD 8 0) (ws.getD 9 0) (ws.getD 10 0) (ws.getD 11 0) (ws.getD 12 0) (ws.getD 13 0) (ws.getD 14 0) (ws.getD 15 0)) (1779033703 * u) (3144134277 * u) (1013904242 * u) (2773480762 * u) (1359893119 * u) (2600822924 * u) (528734635 * u) (1541459225 * u)) fun r =>
 qAo (qC4 u (1779033703 * u + r.getD 0 0)) fun a => qAo (qC4 u (3144134277 * u + r.getD 1 0)) fun b => qAo (qC4 u (1013904242 * u + r.getD 2 0)) fun c => qAo (qC4 u (2773480762 * u + r.getD 3 0)) fun d => g a b c d
attribute [local irreducible] rdsP schP SN.KN Sha.K
theorem qIU (N : Nat) (k : UInt32) (a : Nat → UInt32) : qC4 (qBC N) (k.toNat * qBC N + pk N a) = pk N fun z => k + a z := by
 rw [qBX]
 unfold pk
 rw [qA1, qDl N (fun z => qT6 (u32 _) (u32 _))]
 exact qAt fun z => SN.add_eq k (a z)
theorem qPr (b : List UInt8) : Sha.mix Sha.init b = Sha.init.add (SN.fold Sha.K (Sha.sched b) Sha.init) := by
 have := SN.fold_rnds (Sha.sched b) Sha.init (Sha.sched_length b) 64 0 rfl
 rw [List.drop_zero, List.drop_zero] at this
 unfold Sha.mix
 rw [← this]; rfl
theorem qNK {α : Type} (M : List (List UInt8)) (g : Nat → Nat → Nat → Nat → α) : oneP (qBC M.length) ((List.range 16).map fun j => pk M.length (wd M j)) g =
    g (pk M.length fun z => (Sha.mix Sha.init (M.getD z [])).a) (pk M.length fun z => (Sha.mix Sha.init (M.getD z [])).b) (pk M.length fun z => (Sha.mix Sha.init (M.getD z [])).c) (pk M.length fun z => (Sha.mix Sha.init (M.getD z [])).d) := by
  unfold oneP
  have hs := qRr M.length 48 (wd M 0) (wd M 1) (wd M 2) (wd M 3) (wd M 4) (wd M 5) (wd M 6) (wd M 7) (wd M 8) (wd M 9) (wd M 10) (wd M 11) (wd M 12) (wd M 13) (wd M 14) (wd M 15)
  have hl := fun z => qQG z 48 [] (wd M 0) (wd M 1) (wd M 2) (wd M 3) (wd M 4) (wd M 5) (wd M 6) (wd M 7) (wd M 8) (wd M 9) (wd M 10) (wd M 11) (wd M 12) (wd M 13) (wd M 14) (wd M 15)
  obtain ⟨W, hW⟩ : ∃ W, W = qTP 48 (wd M 0) (wd M 1) (wd M 2) (wd M 3) (wd M 4) (wd M 5) (wd M 6) (wd M 7) (wd M 8) (wd M 9) (wd M 10) (wd M 11) (wd M 12) (wd M 13) (wd M 14) (wd M 15) := ⟨_, rfl⟩
  rw [← hW] at hs
  simp only [← hW] at hl
  have hl2 : ∀ z, W.map (fun w => w z) = Sha.sched (M.getD z []) := fun z => by
    have := hl z
    rw [List.nil_append, List.nil_append] at this
    rw [← this]; rfl
  have hlen : Sha.K.length = W.length := by
    have := congrArg List.length (hl2 0)
    rw [List.length_map, Sha.sched_length] at this
    rw [this]; exact K_len
  have hr := qR5 M.length Sha.K W (fun _ => Sha.init) hlen
  have e : ∀ k : UInt32, (pk M.length fun _ => k) = k.toNat * qBC M.length := fun k => (qBX M.length k).symm
  have hf : ∀ z, qER Sha.K W (fun _ => Sha.init) z = SN.fold Sha.K (Sha.sched (M.getD z [])) Sha.init := fun z => by
    unfold qER; rw [hl2]
  simp only [hf, e] at hr
  rw [show (((List.range 16).map fun j => pk M.length (wd M j)).getD 0 0) = pk M.length (wd M 0) from rfl, show (((List.range 16).map fun j => pk M.length (wd M j)).getD 1 0) = pk M.length (wd M 1) from rfl, show (((List.range 16).map fun j => pk M.length (wd M j)).getD 2 0) = pk M.length (wd M 2) from rfl, show (((List.range 16).map fun j => pk M.length (wd M j)).getD 3 0) = pk M.length (wd M 3) from rfl, show (((List.range 16).map fun j => pk M.length (wd M j)).getD 4 0) = pk M.length (wd M 4) from rfl, show (((List.range 16).map fun j => pk M.length (wd M j)).getD 5 0) = pk M.length (wd M 5) from rfl, show (((List.range 16).map fun j => pk M.length (wd M j)).getD 6 0) = pk M.length (wd M 6) from rfl, show (((List.range 16).map fun j => pk M.length (wd M j)).getD 7 0) = pk M.length (wd M 7) from rfl, show (((List.range 16).map fun j => pk M.length (wd M j)).getD 8 0) = pk M.length (wd M 8) from rfl, show (((List.range 16).map fun j => pk M.length (wd M j)).getD 9 0) = pk M.length (wd M 9) from rfl, show (((List.range 16).map fun j => pk M.length (wd M j)).getD 10 0) = pk M.length (wd M 10) from rfl, show (((List.range 16).map fun j => pk M.length (wd M j)).getD 11 0) = pk M.length (wd M 11) from rfl, show (((List.range 16).map fun j => pk M.length (wd M j)).getD 12 0) = pk M.length (wd M 12) from rfl, show (((List.range 16).map fun j => pk M.length (wd M j)).getD 13 0) = pk M.length (wd M 13) from rfl, show (((List.range 16).map fun j => pk M.length (wd M j)).getD 14 0) = pk M.length (wd M 14) from rfl, show (((List.range 16).map fun j => pk M.length (wd M j)).getD 15 0) = pk M.length (wd M 15) from rfl, hs, SN.KN_eq]
  obtain ⟨S, hS⟩ : ∃ S : Nat → Sha.St8, S = fun z => SN.fold Sha.K (Sha.sched (M.getD z [])) Sha.init := ⟨_, rfl⟩
  have hSz : ∀ z, SN.fold Sha.K (Sha.sched (M.getD z [])) Sha.init = S z := fun z => by rw [hS]
  have hm : ∀ z, Sha.mix Sha.init (M.getD z []) = Sha.init.add (S z) := fun z => by rw [qPr, hSz]
  simp only [hSz] at hr
  simp only [hm]
  rw [show rdsP (qBC M.length) (Sha.K.map UInt32.toNat) (W.map (pk M.length)) (1779033703 * qBC M.length) (3144134277 * qBC M.length) (1013904242 * qBC M.length) (2773480762 * qBC M.length) (1359893119 * qBC M.length) (2600822924 * qBC M.length) (528734635 * qBC M.length) (1541459225 * qBC M.length) = _ from hr]
  rw [qAy, qAg, qAg, qAg, qAg]
  have h0 : qC4 (qBC M.length) (1779033703 * qBC M.length + pk M.length fun z => (S z).a) = pk M.length fun z => Sha.init.a + (S z).a := qIU M.length Sha.init.a _
  have h1 : qC4 (qBC M.length) (3144134277 * qBC M.length + pk M.length fun z => (S z).b) = pk M.length fun z => Sha.init.b + (S z).b := qIU M.length Sha.init.b _
  have h2 : qC4 (qBC M.length) (1013904242 * qBC M.length + pk M.length fun z => (S z).c) = pk M.length fun z => Sha.init.c + (S z).c := qIU M.length Sha.init.c _
  have h3 : qC4 (qBC M.length) (2773480762 * qBC M.length + pk M.length fun z => (S z).d) = pk M.length fun z => Sha.init.d + (S z).d := qIU M.length Sha.init.d _
  exact congr (congr (congr (congrArg g h0) h1) h2) h3
end SM
end Go.Proofs.YtfldiegfenndjaaGreatDoor
namespace Go.Proofs.YtfldiegfenndjaaGreatDoor
set_option maxRecDepth 100000
set_option maxHeartbeats 1000000
namespace SM
open SN (qAo qAg forceL qAy)
noncomputable def outs (n : Nat) : Nat → Nat → Nat → Nat → List (List Nat) :=
 Nat.rec (fun _ _ _ _ => []) (fun _ ih A B C D => (SN.bytes4 (A % 18446744073709551616) ++ (SN.bytes4 (B % 18446744073709551616) ++ (SN.bytes4 (C % 18446744073709551616) ++ SN.bytes4 (D % 18446744073709551616)))) ::
  qAo (A / 18446744073709551616) fun A => qAo (B / 18446744073709551616) fun B => qAo (C / 18446744073709551616) fun C => qAo (D / 18446744073709551616) fun D => ih A B C D) n
theorem outs_succ (n A B C D : Nat) : outs (n + 1) A B C D = (SN.bytes4 (A % 18446744073709551616) ++ (SN.bytes4 (B % 18446744073709551616) ++ (SN.bytes4 (C % 18446744073709551616) ++ SN.bytes4 (D % 18446744073709551616)))) ::
    qAo (A / 18446744073709551616) fun A => qAo (B / 18446744073709551616) fun B => qAo (C / 18446744073709551616) fun C => qAo (D / 18446744073709551616) fun D => outs n A B C D := rfl
theorem qFO (n : Nat) (f : Nat → Nat) : qA7 (n + 1) f = f 0 + 18446744073709551616 * qA7 n (fun i => f (i + 1)) := rfl
attribute [local irreducible] qA7 outs
theorem qJq (n : Nat) (a : Nat → UInt32) : pk (n + 1) a % 18446744073709551616 = (a 0).toNat := by
 unfold pk
 rw [qFO, Nat.add_mul_mod_self_left]
 exact Nat.mod_eq_of_lt (u64 (a 0))
theorem qJr (n : Nat) (a : Nat → UInt32) : pk (n + 1) a / 18446744073709551616 = pk n (fun i => a (i + 1)) := by
 unfold pk
 rw [qFO, Nat.add_mul_div_left _ _ (by decide), Nat.div_eq_of_lt (u64 (a 0)), Nat.zero_add]
def byt (a b c d : UInt32) : List Nat := SN.bytes4 a.toNat ++ (SN.bytes4 b.toNat ++ (SN.bytes4 c.toNat ++ SN.bytes4 d.toNat))
theorem qSA : ∀ (n : Nat) (a b c d : Nat → UInt32), outs n (pk n a) (pk n b) (pk n c) (pk n d) = (List.range n).map fun z => byt (a z) (b z) (c z) (d z) := by
 intro n
 induction n with
 | zero => intro a b c d; unfold outs; rfl
 | succ n ih =>
  intro a b c d
  rw [outs_succ, qJq, qJq, qJq, qJq, qJr, qJr, qJr, qJr, qAg, qAg, qAg, qAg, ih, List.range_succ_eq_map, List.map_cons, List.map_map]
  rfl
theorem b4 (x : UInt32) : SN.bytes4 x.toNat = (Sha.numB x.toUInt64 4).map UInt8.toNat := by
 rw [SN.bytes4_eq _ (by have := x.toNat_lt; omega)]
 congr 2
 rw [show x.toUInt64 = UInt64.ofNat x.toNat from by apply UInt64.toNat_inj.1; simp]
noncomputable def tagL (tag : Nat) (ls : List (List Nat)) : List Nat := tag :: ls.flatMap fun s => SN.bytes4 s.length ++ s
theorem qRe (tag : UInt8) (ls : List (List UInt8)) (h : (Sha.tagB tag ls).length ≤ 55) : tagL tag.toNat (ls.map (List.map UInt8.toNat)) = (Sha.tagB tag ls).map UInt8.toNat := by
 unfold tagL Sha.tagB
 simp only [List.map_append, List.map_cons, List.map_nil, List.cons_append, List.nil_append]
 congr 1
 rw [Sha.tagB_length] at h
 have h2 : ls.flatten.length ≤ 55 := by omega
 clear h
 induction ls with
 | nil => rfl
 | cons a l ih =>
  simp only [List.flatten_cons, List.length_append] at h2
  rw [List.map_cons, List.flatMap_cons, List.flatMap_cons, List.map_append, List.map_append, List.length_map, ih (by omega), SN.bytes4_eq _ (by omega)]
end SM
end Go.Proofs.YtfldiegfenndjaaGreatDoor
namespace Go.Proofs.YtfldiegfenndjaaGreatDoor
set_option maxRecDepth 100000
set_option maxHeartbeats 1000000
namespace SM
open SN (qAo qAg forceL qAy)
def x16 (a b c d : UInt32) : List UInt8 := Sha.numB a.toUInt64 4 ++ (Sha.numB b.toUInt64 4 ++ (Sha.numB c.toUInt64 4 ++ Sha.numB d.toUInt64 4))
theorem qTq (s : Sha.St8) : (Sha.out s).take 16 = x16 s.a s.b s.c s.d := by
 have e : Sha.out s = x16 s.a s.b s.c s.d ++ (Sha.numB s.e.toUInt64 4 ++ (Sha.numB s.f.toUInt64 4 ++ (Sha.numB s.g.toUInt64 4 ++ Sha.numB s.h.toUInt64 4))) := by
  unfold Sha.out Sha.St8.list x16
  simp only [List.flatMap_cons, List.flatMap_nil, List.append_nil, List.append_assoc]
 rw [e, List.take_left' (by unfold x16; simp only [List.length_append, Sha.numB_length])]
theorem num4 (x : UInt32) : Sha.numB x.toUInt64 4 = [UInt8.ofNat (x.toNat / 2 ^ 24), UInt8.ofNat (x.toNat / 2 ^ 16), UInt8.ofNat (x.toNat / 2 ^ 8), UInt8.ofNat x.toNat] := by
 rw [show x.toUInt64 = UInt64.ofNat x.toNat from by apply UInt64.toNat_inj.1; simp]
 exact R3.four_nat x.toNat (by have := x.toNat_lt; omega)
theorem qUQ (x : UInt32) : Sha.be32 0 0 16 (UInt8.ofNat (x.toNat / 2 ^ 24)) = 4096 + Sha.shr x 24 := by
 apply UInt32.toNat_inj.1
 have hx := x.toNat_lt
 rw [R3.be32_nat, UInt32.toNat_add, R3.shr_nat x 24 (by decide), UInt8.toNat_ofNat']
 show 256 * (256 * (256 * 0 + 0) + 16) + x.toNat / 2 ^ 24 % 256 = (4096 + x.toNat / 2 ^ 24) % 4294967296
 omega
theorem qOE (x y : UInt32) : Sha.be32 (UInt8.ofNat (x.toNat / 2 ^ 16)) (UInt8.ofNat (x.toNat / 2 ^ 8)) (UInt8.ofNat x.toNat) (UInt8.ofNat (y.toNat / 2 ^ 24)) = x * 256 + Sha.shr y 24 := by
 apply UInt32.toNat_inj.1
 have hx := x.toNat_lt
 have hy := y.toNat_lt
 rw [R3.be32_nat, UInt32.toNat_add, UInt32.toNat_mul, R3.shr_nat y 24 (by decide), UInt8.toNat_ofNat', UInt8.toNat_ofNat', UInt8.toNat_ofNat', UInt8.toNat_ofNat']
 show 256 * (256 * (256 * (x.toNat / 2 ^ 16 % 256) + x.toNat / 2 ^ 8 % 256) + x.toNat % 256) + y.toNat / 2 ^ 24 % 256 = (x.toNat * 256 % 4294967296 + y.toNat / 2 ^ 24) % 4294967296
 omega
theorem qUR (x : UInt32) : Sha.be32 (UInt8.ofNat (x.toNat / 2 ^ 16)) (UInt8.ofNat (x.toNat / 2 ^ 8)) (UInt8.ofNat x.toNat) 128 = x * 256 + 128 := by
 apply UInt32.toNat_inj.1
 have hx := x.toNat_lt
 rw [R3.be32_nat, UInt32.toNat_add, UInt32.toNat_mul, UInt8.toNat_ofNat', UInt8.toNat_ofNat', UInt8.toNat_ofNat']
 show 256 * (256 * (256 * (x.toNat / 2 ^ 16 % 256) + x.toNat / 2 ^ 8 % 256) + x.toNat % 256) + 128 = (x.toNat * 256 % 4294967296 + 128) % 4294967296
 omega
def plc (leaf chain k : Nat) : List UInt8 := [0, 0, 0, UInt8.ofNat leaf, UInt8.ofNat chain, UInt8.ofNat k]
def qTQ (o : List UInt8) (j : Nat) : UInt32 := Sha.be32 (o.getD (4 * j + 3) 0) (o.getD (4 * j + 4) 0) (o.getD (4 * j + 5) 0) (o.getD (4 * j + 6) 0)
def qRg (o : List UInt8) (p : UInt32) (a b c d : UInt32) : List UInt32 :=
 [33554432, Sha.be32 16 (o.getD 0 0) (o.getD 1 0) (o.getD 2 0), qTQ o 0, qTQ o 1, qTQ o 2, Sha.be32 (o.getD 15 0) 0 0 0, 100663296, p, 4096 + Sha.shr a 24, a * 256 + Sha.shr b 24, b * 256 + Sha.shr c 24, c * 256 + Sha.shr d 24, d * 256 + 128, 0, 0, 408]
theorem n16 : Sha.numB (UInt64.ofNat 16) 4 = [0, 0, 0, 16] := by decide +kernel
theorem n6 : Sha.numB (UInt64.ofNat 6) 4 = [0, 0, 0, 6] := by decide +kernel
theorem n408 : Sha.numB (8 * UInt64.ofNat 51) 8 = [0, 0, 0, 0, 0, 0, 1, 152] := by decide +kernel
theorem qOq (o0 o1 o2 o3 o4 o5 o6 o7 o8 o9 o10 o11 o12 o13 o14 o15 x0 x1 x2 x3 x4 x5 x6 x7 x8 x9 x10 x11 x12 x13 x14 x15 : UInt8) (leaf chain k : Nat) : Sha.tagB 2 [[o0, o1, o2, o3, o4, o5, o6, o7, o8, o9, o10, o11, o12, o13, o14, o15], plc leaf chain k, [x0, x1, x2, x3, x4, x5, x6, x7, x8, x9, x10, x11, x12, x13, x14, x15]] = [2, 0, 0, 0, 16, o0, o1, o2, o3, o4, o5, o6, o7, o8, o9, o10, o11, o12, o13, o14, o15, 0, 0, 0, 6, 0, 0, 0, UInt8.ofNat leaf, UInt8.ofNat chain, UInt8.ofNat k, 0, 0, 0, 16, x0, x1, x2, x3, x4, x5, x6, x7, x8, x9, x10, x11, x12, x13, x14, x15] := by
 show [2] ++ (Sha.numB (UInt64.ofNat 16) 4 ++ [o0, o1, o2, o3, o4, o5, o6, o7, o8, o9, o10, o11, o12, o13, o14, o15] ++ (Sha.numB (UInt64.ofNat 6) 4 ++ plc leaf chain k ++ (Sha.numB (UInt64.ofNat 16) 4 ++ [x0, x1, x2, x3, x4, x5, x6, x7, x8, x9, x10, x11, x12, x13, x14, x15] ++ []))) = _
 rw [n16, n6]; rfl
theorem pad51 (l : List UInt8) (h : l.length = 51) : Sha.pad l = l ++ [128, 0, 0, 0, 0, 0, 0, 0, 0, 0, 0, 1, 152] := by
 unfold Sha.pad
 rw [h, n408, List.append_assoc, List.append_assoc]; rfl
theorem be_2 : Sha.be32 2 0 0 0 = 33554432 := by decide +kernel
theorem be_6 : Sha.be32 6 0 0 0 = 100663296 := by decide +kernel
theorem be_0 : Sha.be32 0 0 0 0 = 0 := by decide +kernel
theorem qUS : Sha.be32 0 0 1 152 = 408 := by decide +kernel
theorem qMS (o0 o1 o2 o3 o4 o5 o6 o7 o8 o9 o10 o11 o12 o13 o14 o15 x0 x1 x2 x3 x4 x5 x6 x7 x8 x9 x10 x11 x12 x13 x14 x15 : UInt8) (leaf chain k : Nat) : Sha.firsts (Sha.pad [2, 0, 0, 0, 16, o0, o1, o2, o3, o4, o5, o6, o7, o8, o9, o10, o11, o12, o13, o14, o15, 0, 0, 0, 6, 0, 0, 0, UInt8.ofNat leaf, UInt8.ofNat chain, UInt8.ofNat k, 0, 0, 0, 16, x0, x1, x2, x3, x4, x5, x6, x7, x8, x9, x10, x11, x12, x13, x14, x15]) 16 = [(Sha.be32 2 0 0 0), (Sha.be32 16 o0 o1 o2), (Sha.be32 o3 o4 o5 o6), (Sha.be32 o7 o8 o9 o10), (Sha.be32 o11 o12 o13 o14), (Sha.be32 o15 0 0 0), (Sha.be32 6 0 0 0), (Sha.be32 (UInt8.ofNat leaf) (UInt8.ofNat chain) (UInt8.ofNat k) 0), (Sha.be32 0 0 16 x0), (Sha.be32 x1 x2 x3 x4), (Sha.be32 x5 x6 x7 x8), (Sha.be32 x9 x10 x11 x12), (Sha.be32 x13 x14 x15 128), (Sha.be32 0 0 0 0), (Sha.be32 0 0 0 0), (Sha.be32 0 0 1 152)] := by
 rw [pad51 _ rfl]; rfl
theorem qKx (o : List UInt8) (ho : o.length = 16) (leaf chain k : Nat) (a b c d : UInt32) : Sha.firsts (Sha.pad (Sha.tagB 2 [o, plc leaf chain k, x16 a b c d])) 16 = qRg o (Sha.be32 (UInt8.ofNat leaf) (UInt8.ofNat chain) (UInt8.ofNat k) 0) a b c d := by
 unfold qRg
 rw [← qUQ a, ← qOE a b, ← qOE b c, ← qOE c d, ← qUR d]
 unfold x16
 rw [num4, num4, num4, num4]
 match o, ho with
 | [o0, o1, o2, o3, o4, o5, o6, o7, o8, o9, o10, o11, o12, o13, o14, o15], _ =>
  show Sha.firsts (Sha.pad (Sha.tagB 2 [[o0, o1, o2, o3, o4, o5, o6, o7, o8, o9, o10, o11, o12, o13, o14, o15], plc leaf chain k, [UInt8.ofNat (a.toNat / 2 ^ 24), UInt8.ofNat (a.toNat / 2 ^ 16), UInt8.ofNat (a.toNat / 2 ^ 8), UInt8.ofNat a.toNat, UInt8.ofNat (b.toNat / 2 ^ 24), UInt8.ofNat (b.toNat / 2 ^ 16), UInt8.ofNat (b.toNat / 2 ^ 8), UInt8.ofNat b.toNat, UInt8.ofNat (c.toNat / 2 ^ 24), UInt8.ofNat (c.toNat / 2 ^ 16), UInt8.ofNat (c.toNat / 2 ^ 8), UInt8.ofNat c.toNat, UInt8.ofNat (d.toNat / 2 ^ 24), UInt8.ofNat (d.toNat / 2 ^ 16), UInt8.ofNat (d.toNat / 2 ^ 8), UInt8.ofNat d.toNat]])) 16 = _
  rw [qOq, qMS, be_2, be_6, be_0, qUS]
  rfl
end SM
end Go.Proofs.YtfldiegfenndjaaGreatDoor
namespace Go.Proofs.YtfldiegfenndjaaGreatDoor
set_option maxRecDepth 100000
set_option maxHeartbeats 1000000
namespace SM
open SN (qAo qAg forceL qAy)
theorem qG2 : ∀ {n : Nat} {f g : Nat → Nat}, (∀ i, i < n → f i = g i) → qA7 n f = qA7 n g
 | 0, _, _, _ => rfl
 | n + 1, f, g, h => by rw [qA7, qA7, h 0 (by omega), qG2 (fun i hi => h (i + 1) (by omega))]
theorem pk_lt {n : Nat} {a b : Nat → UInt32} (h : ∀ i, i < n → a i = b i) : pk n a = pk n b := qG2 fun i hi => congrArg UInt32.toNat (h i hi)
attribute [local irreducible] qA7 Sha.word Sha.be32 Sha.shr
theorem qNT (N : Nat) (a b : Nat → UInt32) : qC4 (qBC N) (pk N a * 256 + qHW (qBC N) (pk N b) 24) = pk N fun z => a z * 256 + Sha.shr (b z) 24 := by
 rw [qGp N b (by decide) (by decide)]
 unfold pk
 rw [qC9, qA1, qDl N (fun z => by
  have h1 := u32 (a z)
  have h2 := u32 (Sha.shr (b z) 24)
  show (a z).toNat * 256 + (Sha.shr (b z) 24).toNat < 2 ^ 64
  omega)]
 refine qAt fun z => ?_
 show ((a z).toNat * 256 + (Sha.shr (b z) 24).toNat) % 4294967296 = (a z * 256 + Sha.shr (b z) 24).toNat
 rw [UInt32.toNat_add, UInt32.toNat_mul]
 show _ = ((a z).toNat * 256 % 4294967296 + _) % 4294967296
 omega
theorem qUI (N : Nat) (a : Nat → UInt32) : qC4 (qBC N) (pk N a * 256 + 128 * qBC N) = pk N fun z => a z * 256 + 128 := by
 rw [show 128 * qBC N = pk N fun _ => 128 from qBX N 128]
 unfold pk
 rw [qC9, qA1, qDl N (fun z => by
  have h1 := u32 (a z)
  show (a z).toNat * 256 + 128 < 2 ^ 64
  omega)]
 refine qAt fun z => ?_
 show ((a z).toNat * 256 + 128) % 4294967296 = (a z * 256 + 128).toNat
 rw [UInt32.toNat_add, UInt32.toNat_mul]
 show _ = ((a z).toNat * 256 % 4294967296 + 128) % 4294967296
 omega
theorem qTc (N : Nat) (a : Nat → UInt32) : qC4 (qBC N) (4096 * qBC N + qHW (qBC N) (pk N a) 24) = pk N fun z => 4096 + Sha.shr (a z) 24 := by
 rw [qGp N a (by decide) (by decide)]
 exact qIU N 4096 _
noncomputable def stepP {α : Type} (u o0 o1 o2 o3 o4 w A B C D : Nat) (g : Nat → Nat → Nat → Nat → α) : α :=
 forceL [33554432 * u, o0 * u, o1 * u, o2 * u, o3 * u, o4 * u, 100663296 * u, w, qC4 u (4096 * u + qHW u A 24), qC4 u (A * 256 + qHW u B 24), qC4 u (B * 256 + qHW u C 24), qC4 u (C * 256 + qHW u D 24), qC4 u (D * 256 + 128 * u), 0 * u, 0 * u, 408 * u] fun ws => oneP u ws g
def oW (o : List UInt8) : Nat → UInt32
 | 0 => Sha.be32 16 (o.getD 0 0) (o.getD 1 0) (o.getD 2 0)
 | 1 => qTQ o 0
 | 2 => qTQ o 1
 | 3 => qTQ o 2
 | _ => Sha.be32 (o.getD 15 0) 0 0 0
theorem qOt {α : Type} (N : Nat) (o : List UInt8) (ho : o.length = 16) (lf ch : Nat → Nat) (k : Nat) (a b c d : Nat → UInt32) (w : Nat) (hw : w = pk N fun z => Sha.be32 (UInt8.ofNat (lf z)) (UInt8.ofNat (ch z)) (UInt8.ofNat k) 0) (g : Nat → Nat → Nat → Nat → α) :
    ∃ a' b' c' d' : Nat → UInt32, stepP (qBC N) (oW o 0).toNat (oW o 1).toNat (oW o 2).toNat (oW o 3).toNat (oW o 4).toNat w (pk N a) (pk N b) (pk N c) (pk N d) g = g (pk N a') (pk N b') (pk N c') (pk N d') ∧
      ∀ z, z < N → x16 (a' z) (b' z) (c' z) (d' z) = Sha.tagged 2 [o, plc (lf z) (ch z) k, x16 (a z) (b z) (c z) (d z)] := by
  obtain ⟨M, hM⟩ : ∃ M, M = (List.range N).map fun z => Sha.pad (Sha.tagB 2 [o, plc (lf z) (ch z) k, x16 (a z) (b z) (c z) (d z)]) := ⟨_, rfl⟩
  have hlen : M.length = N := by rw [hM, List.length_map, List.length_range]
  have hz : ∀ z, z < N → M.getD z [] = Sha.pad (Sha.tagB 2 [o, plc (lf z) (ch z) k, x16 (a z) (b z) (c z) (d z)]) := fun z h => by
    rw [hM, List.getD_eq_getElem?_getD, List.getElem?_map, List.getElem?_range h]; rfl
  have hwd : ∀ j, j < 16 → pk N (wd M j) = pk N fun z => (qRg o (Sha.be32 (UInt8.ofNat (lf z)) (UInt8.ofNat (ch z)) (UInt8.ofNat k) 0) (a z) (b z) (c z) (d z)).getD j 0 := fun j hj => pk_lt fun z h => by
    have := qKx o ho (lf z) (ch z) k (a z) (b z) (c z) (d z)
    rw [← hz z h] at this
    rw [← this]
    unfold Sha.firsts wd
    generalize M.getD z [] = q
    rw [List.getD_eq_getElem?_getD, List.getElem?_map, List.getElem?_range hj]; rfl
  have hl : [33554432 * qBC N, (oW o 0).toNat * qBC N, (oW o 1).toNat * qBC N, (oW o 2).toNat * qBC N, (oW o 3).toNat * qBC N, (oW o 4).toNat * qBC N, 100663296 * qBC N, w, qC4 (qBC N) (4096 * qBC N + qHW (qBC N) (pk N a) 24), qC4 (qBC N) (pk N a * 256 + qHW (qBC N) (pk N b) 24), qC4 (qBC N) (pk N b * 256 + qHW (qBC N) (pk N c) 24), qC4 (qBC N) (pk N c * 256 + qHW (qBC N) (pk N d) 24), qC4 (qBC N) (pk N d * 256 + 128 * qBC N), 0 * qBC N, 0 * qBC N, 408 * qBC N] = (List.range 16).map fun j => pk M.length (wd M j) := by
    rw [hlen, qTc, qNT, qNT, qNT, qUI, qBX, qBX, qBX, qBX, qBX, hw]
    rw [show 33554432 * qBC N = pk N fun _ => 33554432 from qBX N 33554432, show 100663296 * qBC N = pk N fun _ => 100663296 from qBX N 100663296, show 0 * qBC N = pk N fun _ => 0 from qBX N 0, show 408 * qBC N = pk N fun _ => 408 from qBX N 408]
    show _ = [pk N (wd M 0), pk N (wd M 1), pk N (wd M 2), pk N (wd M 3), pk N (wd M 4), pk N (wd M 5), pk N (wd M 6), pk N (wd M 7), pk N (wd M 8), pk N (wd M 9), pk N (wd M 10), pk N (wd M 11), pk N (wd M 12), pk N (wd M 13), pk N (wd M 14), pk N (wd M 15)]
    rw [hwd 0 (by decide), hwd 1 (by decide), hwd 2 (by decide), hwd 3 (by decide), hwd 4 (by decide), hwd 5 (by decide), hwd 6 (by decide), hwd 7 (by decide), hwd 8 (by decide), hwd 9 (by decide), hwd 10 (by decide), hwd 11 (by decide), hwd 12 (by decide), hwd 13 (by decide), hwd 14 (by decide), hwd 15 (by decide)]
    rfl
  refine ⟨fun z => (Sha.mix Sha.init (M.getD z [])).a, fun z => (Sha.mix Sha.init (M.getD z [])).b, fun z => (Sha.mix Sha.init (M.getD z [])).c, fun z => (Sha.mix Sha.init (M.getD z [])).d, ?_, fun z h => ?_⟩
  · unfold stepP
    rw [qAy, hl]
    have := qNK M g
    rw [hlen] at this
    rw [hlen]
    exact this
  · rw [← qTq, hz z h]
    unfold Sha.tagged Sha.sum
    have h51 : (Sha.tagB 2 [o, plc (lf z) (ch z) k, x16 (a z) (b z) (c z) (d z)]).length = 51 := by
      rw [Sha.tagB_length]
      simp only [List.flatten_cons, List.flatten_nil, List.length_append, List.length_cons, List.length_nil, ho]
      unfold x16 plc
      simp only [List.length_append, Sha.numB_length, List.length_cons, List.length_nil]
    rw [show (Sha.pad (Sha.tagB 2 [o, plc (lf z) (ch z) k, x16 (a z) (b z) (c z) (d z)])).length / 64 = 1 by rw [Sha.pad_length, h51], Sha.mixes, Sha.mixes, Nat.mul_zero, List.drop_zero]
end SM
end Go.Proofs.YtfldiegfenndjaaGreatDoor
namespace Go.Proofs.YtfldiegfenndjaaGreatDoor
set_option maxRecDepth 100000
set_option maxHeartbeats 1000000
attribute [local irreducible] SN.tagN Sha.tagged
namespace SM
open SN (qAo qAg forceL qAy)
noncomputable def runP {α : Type} (u o0 o1 o2 o3 o4 LC : Nat) (n : Nat) : Nat → Nat → Nat → Nat → Nat → (Nat → Nat → Nat → Nat → α) → α :=
 Nat.rec (fun _ A B C D g => g A B C D) (fun _ ih k A B C D g => stepP u o0 o1 o2 o3 o4 (LC + k * 256 * u) A B C D fun A B C D => ih (k + 1) A B C D g) n
theorem qMk {α : Type} (u o0 o1 o2 o3 o4 LC n k A B C D : Nat) (g : Nat → Nat → Nat → Nat → α) : runP u o0 o1 o2 o3 o4 LC (n + 1) k A B C D g = stepP u o0 o1 o2 o3 o4 (LC + k * 256 * u) A B C D fun A B C D => runP u o0 o1 o2 o3 o4 LC n (k + 1) A B C D g := rfl
attribute [local irreducible] qA7 Sha.word Sha.shr stepP runP outs
noncomputable def lcN (N : Nat) : Nat := qA7 N fun z => z / 35 * 16777216 + z % 35 * 65536
theorem qFG {leaf : Nat} (h : leaf < 256) (chain k : Nat) : Wo.place leaf chain k = plc leaf chain k := by
 unfold Wo.place plc
 rw [show leaf / 2 ^ 24 = 0 by omega, show leaf / 2 ^ 16 = 0 by omega, show leaf / 2 ^ 8 = 0 by omega]; rfl
theorem lc_eq {N : Nat} (hN : N ≤ 8960) {k : Nat} (hk : k < 256) : lcN N + k * 256 * qBC N = pk N fun z => Sha.be32 (UInt8.ofNat (z / 35)) (UInt8.ofNat (z % 35)) (UInt8.ofNat k) 0 := by
 unfold lcN pk
 rw [qCr, qA1]
 refine qG2 fun z hz => ?_
 rw [R3.be32_nat, UInt8.toNat_ofNat', UInt8.toNat_ofNat', UInt8.toNat_ofNat']
 have h1 : z / 35 < 256 := by omega
 have h2 : z % 35 < 35 := Nat.mod_lt _ (by decide)
 show z / 35 * 16777216 + z % 35 * 65536 + k * 256 = 256 * (256 * (256 * (z / 35 % 2 ^ 8) + z % 35 % 2 ^ 8) + k % 2 ^ 8) + 0
 rw [Nat.mod_eq_of_lt (show z / 35 < 2 ^ 8 by omega), Nat.mod_eq_of_lt (show z % 35 < 2 ^ 8 by omega), Nat.mod_eq_of_lt (show k < 2 ^ 8 by omega)]
 generalize z / 35 = p
 generalize z % 35 = q
 omega
theorem qRs {α : Type} {N : Nat} (hN : N ≤ 8960) (o : List UInt8) (ho : o.length = 16) (n : Nat) : ∀ (k : Nat) (a b c d : Nat → UInt32) (g : Nat → Nat → Nat → Nat → α), k + n ≤ 256 →
    ∃ a' b' c' d' : Nat → UInt32, runP (qBC N) (oW o 0).toNat (oW o 1).toNat (oW o 2).toNat (oW o 3).toNat (oW o 4).toNat (lcN N) n k (pk N a) (pk N b) (pk N c) (pk N d) g = g (pk N a') (pk N b') (pk N c') (pk N d') ∧
      ∀ z, z < N → x16 (a' z) (b' z) (c' z) (d' z) = Wo.walk o (z / 35) (z % 35) k (x16 (a z) (b z) (c z) (d z)) n := by
  induction n with
  | zero => intro k a b c d g _; exact ⟨a, b, c, d, by unfold runP; rfl, fun z _ => rfl⟩
  | succ n ih =>
    intro k a b c d g hk
    rw [qMk]
    obtain ⟨a1, b1, c1, d1, h1, h2⟩ := qOt N o ho (fun z => z / 35) (fun z => z % 35) k a b c d _ (lc_eq hN (by omega)) (fun A B C D => runP (qBC N) (oW o 0).toNat (oW o 1).toNat (oW o 2).toNat (oW o 3).toNat (oW o 4).toNat (lcN N) n (k + 1) A B C D g)
    obtain ⟨a2, b2, c2, d2, h3, h4⟩ := ih (k + 1) a1 b1 c1 d1 g (by omega)
    refine ⟨a2, b2, c2, d2, h1.trans h3, fun z hz => ?_⟩
    rw [h4 z hz, h2 z hz, ← qFG (by omega)]
    have := Wo.walk_add o (z / 35) (z % 35) k (x16 (a z) (b z) (c z) (d z)) 1 n
    rw [Nat.add_comm 1 n] at this
    exact this
noncomputable def manyW {α : Type} (n : Nat) (ms : List (List Nat)) (g : Nat → Nat → Nat → Nat → Nat → α) : α := qAo (qBC n) fun u => cols (ms.map fun m => w4s 16 (SN.padN m)) fun ws => oneP u ws (g u)
theorem qPu {α : Type} (L : List (List UInt8)) (h : ∀ l ∈ L, l.length ≤ 55) (g : Nat → Nat → Nat → Nat → Nat → α) : ∃ a b c d : Nat → UInt32, manyW L.length (L.map (List.map UInt8.toNat)) g = g (qBC L.length) (pk L.length a) (pk L.length b) (pk L.length c) (pk L.length d) ∧
    ∀ z (hz : z < L.length), x16 (a z) (b z) (c z) (d z) = (Sha.sum L[z]).take 16 := by
  obtain ⟨M, hM⟩ : ∃ M, M = L.map Sha.pad := ⟨_, rfl⟩
  have hlen : M.length = L.length := by rw [hM, List.length_map]
  have e1 : (L.map (List.map UInt8.toNat)).map (fun m => w4s 16 (SN.padN m)) = M.map fun b => (Sha.firsts b 16).map UInt32.toNat := by
    rw [hM, List.map_map, List.map_map]
    refine List.map_congr_left fun l hl => ?_
    have h5 := h l hl
    show w4s 16 (SN.padN (l.map UInt8.toNat)) = (Sha.firsts (Sha.pad l) 16).map UInt32.toNat
    rw [SN.padN_eq l (by omega), qQp 16 _ (by rw [Sha.pad_length]; omega)]
  refine ⟨fun z => (Sha.mix Sha.init (M.getD z [])).a, fun z => (Sha.mix Sha.init (M.getD z [])).b, fun z => (Sha.mix Sha.init (M.getD z [])).c, fun z => (Sha.mix Sha.init (M.getD z [])).d, ?_, fun z hz => ?_⟩
  · unfold manyW
    rw [qAg, e1, qN1, qQI, ← hlen, qNK]
  · have e2 : M.getD z [] = Sha.pad L[z] := by
      rw [hM, List.getD_eq_getElem?_getD, List.getElem?_map, List.getElem?_eq_getElem hz]; rfl
    have h5 := h L[z] (List.getElem_mem hz)
    rw [← qTq, e2]
    unfold Sha.sum
    rw [show (Sha.pad L[z]).length / 64 = 1 by rw [Sha.pad_length]; omega, Sha.mixes, Sha.mixes, Nat.mul_zero, List.drop_zero]
theorem qTA (a b c d : UInt32) : byt a b c d = (x16 a b c d).map UInt8.toNat := by
 unfold byt x16
 rw [b4, b4, b4, b4]
 simp only [List.map_append]
attribute [local irreducible] manyW
noncomputable def topsN (L : Nat) (seed o : List Nat) : List (List Nat) :=
 manyW (35 * L) ((List.range (35 * L)).map fun z => tagL 1 [seed, [0, 0, 0, z / 35, z % 35, 0]]) fun u A B C D =>
  forceL [((16 * 256 + o.getD 0 0) * 256 + o.getD 1 0) * 256 + o.getD 2 0, ((o.getD 3 0 * 256 + o.getD 4 0) * 256 + o.getD 5 0) * 256 + o.getD 6 0, ((o.getD 7 0 * 256 + o.getD 8 0) * 256 + o.getD 9 0) * 256 + o.getD 10 0, ((o.getD 11 0 * 256 + o.getD 12 0) * 256 + o.getD 13 0) * 256 + o.getD 14 0, ((o.getD 15 0 * 256 + 0) * 256 + 0) * 256 + 0, lcN (35 * L)] fun q =>
  runP u (q.getD 0 0) (q.getD 1 0) (q.getD 2 0) (q.getD 3 0) (q.getD 4 0) (q.getD 5 0) 15 0 A B C D fun A B C D => outs (35 * L) A B C D
theorem qOo {L : Nat} (hL : L ≤ 255) (seed : List UInt8) (hs : seed.length ≤ 40) : topsN L (seed.map UInt8.toNat) ((Wo.opn seed).map UInt8.toNat) = (List.range (35 * L)).map fun z => (Wo.walk (Wo.opn seed) (z / 35) (z % 35) 0 (Wo.secret seed (z / 35) (z % 35)) 15).map UInt8.toNat := by
 obtain ⟨o, ho⟩ : ∃ o, o = Wo.opn seed := ⟨_, rfl⟩
 have h16 : o.length = 16 := by rw [ho]; exact Wo.opn_length seed
 rw [← ho]
 obtain ⟨S, hS⟩ : ∃ S, S = (List.range (35 * L)).map fun z => Sha.tagB 1 [seed, plc (z / 35) (z % 35) 0] := ⟨_, rfl⟩
 have hlen : S.length = 35 * L := by rw [hS, List.length_map, List.length_range]
 have hb : ∀ z, (Sha.tagB 1 [seed, plc (z / 35) (z % 35) 0]).length ≤ 55 := fun z => by
  rw [Sha.tagB_length]
  simp only [List.flatten_cons, List.flatten_nil, List.length_append, List.length_cons, List.length_nil]
  unfold plc
  simp only [List.length_cons, List.length_nil]
  omega
 have e1 : (List.range (35 * L)).map (fun z => tagL 1 [seed.map UInt8.toNat, [0, 0, 0, z / 35, z % 35, 0]]) = S.map (List.map UInt8.toNat) := by
  rw [hS, List.map_map]
  refine List.map_congr_left fun z hz => ?_
  have hz2 := List.mem_range.1 hz
  have := qRe 1 [seed, plc (z / 35) (z % 35) 0] (hb z)
  rw [Function.comp_apply, ← this]
  have e2 : (plc (z / 35) (z % 35) 0).map UInt8.toNat = [0, 0, 0, z / 35, z % 35, 0] := by
   unfold plc
   simp only [List.map_cons, List.map_nil]
   rw [UInt8.toNat_ofNat', UInt8.toNat_ofNat', Nat.mod_eq_of_lt (show z / 35 < 2 ^ 8 by omega), Nat.mod_eq_of_lt (show z % 35 < 2 ^ 8 by omega)]; rfl
  rw [List.map_cons, List.map_cons, List.map_nil, e2]; rfl
 have hw : ∀ (p q r s : UInt8), ((p.toNat * 256 + q.toNat) * 256 + r.toNat) * 256 + s.toNat = (Sha.be32 p q r s).toNat := fun p q r s => by rw [R3.be32_nat]; omega
 have hg : ∀ i, (o.map UInt8.toNat).getD i 0 = (o.getD i 0).toNat := fun i => SN.getD_map o i
 unfold topsN
 rw [e1, ← hlen]
 obtain ⟨a, b, c, d, h1, h2⟩ := qPu S (fun l hl => by
  rw [hS] at hl
  obtain ⟨z, _, rfl⟩ := List.mem_map.1 hl
  exact hb z) (fun u A B C D =>
  forceL [((16 * 256 + (o.map UInt8.toNat).getD 0 0) * 256 + (o.map UInt8.toNat).getD 1 0) * 256 + (o.map UInt8.toNat).getD 2 0, (((o.map UInt8.toNat).getD 3 0 * 256 + (o.map UInt8.toNat).getD 4 0) * 256 + (o.map UInt8.toNat).getD 5 0) * 256 + (o.map UInt8.toNat).getD 6 0, (((o.map UInt8.toNat).getD 7 0 * 256 + (o.map UInt8.toNat).getD 8 0) * 256 + (o.map UInt8.toNat).getD 9 0) * 256 + (o.map UInt8.toNat).getD 10 0, (((o.map UInt8.toNat).getD 11 0 * 256 + (o.map UInt8.toNat).getD 12 0) * 256 + (o.map UInt8.toNat).getD 13 0) * 256 + (o.map UInt8.toNat).getD 14 0, (((o.map UInt8.toNat).getD 15 0 * 256 + 0) * 256 + 0) * 256 + 0, lcN S.length] fun q =>
  runP u (q.getD 0 0) (q.getD 1 0) (q.getD 2 0) (q.getD 3 0) (q.getD 4 0) (q.getD 5 0) 15 0 A B C D fun A B C D => outs S.length A B C D)
 refine h1.trans ?_
 obtain ⟨a2, b2, c2, d2, h3, h4⟩ := qRs (N := S.length) (by omega) o h16 15 0 a b c d (fun A B C D => outs S.length A B C D) (by decide)
 rw [qAy]
 have q0 : ((16 * 256 + (o.map UInt8.toNat).getD 0 0) * 256 + (o.map UInt8.toNat).getD 1 0) * 256 + (o.map UInt8.toNat).getD 2 0 = (oW o 0).toNat := by rw [hg, hg, hg]; have h := hw 16 (o.getD 0 0) (o.getD 1 0) (o.getD 2 0); rw [show (16 : UInt8).toNat = 16 from rfl] at h; exact h
 have q1 : (((o.map UInt8.toNat).getD 3 0 * 256 + (o.map UInt8.toNat).getD 4 0) * 256 + (o.map UInt8.toNat).getD 5 0) * 256 + (o.map UInt8.toNat).getD 6 0 = (oW o 1).toNat := by rw [hg, hg, hg, hg]; exact hw _ _ _ _
 have q2 : (((o.map UInt8.toNat).getD 7 0 * 256 + (o.map UInt8.toNat).getD 8 0) * 256 + (o.map UInt8.toNat).getD 9 0) * 256 + (o.map UInt8.toNat).getD 10 0 = (oW o 2).toNat := by rw [hg, hg, hg, hg]; exact hw _ _ _ _
 have q3 : (((o.map UInt8.toNat).getD 11 0 * 256 + (o.map UInt8.toNat).getD 12 0) * 256 + (o.map UInt8.toNat).getD 13 0) * 256 + (o.map UInt8.toNat).getD 14 0 = (oW o 3).toNat := by rw [hg, hg, hg, hg]; exact hw _ _ _ _
 have q4 : (((o.map UInt8.toNat).getD 15 0 * 256 + 0) * 256 + 0) * 256 + 0 = (oW o 4).toNat := by rw [hg]; have h := hw (o.getD 15 0) 0 0 0; rw [show (0 : UInt8).toNat = 0 from rfl] at h; exact h
 rw [q0, q1, q2, q3, q4]
 simp only [List.getD_cons_zero, List.getD_cons_succ]
 rw [h3]
 rw [qSA]
 refine List.map_congr_left fun z hz => ?_
 have hz2 := List.mem_range.1 hz
 rw [qTA, h4 z hz2, h2 z hz2]
 have e3 : (Sha.sum S[z]).take 16 = Wo.secret seed (z / 35) (z % 35) := by
  unfold Wo.secret Sha.tagged
  rw [qFG (by omega)]
  congr 2
  simp only [hS, List.getElem_map, List.getElem_range]
 rw [e3]
end SM
end Go.Proofs.YtfldiegfenndjaaGreatDoor
namespace Go.Proofs.YtfldiegfenndjaaGreatDoor
set_option maxRecDepth 100000
set_option maxHeartbeats 1000000
attribute [local irreducible] SN.tagN Sha.tagged SM.topsN
namespace SM
open SN (qAo qAg forceL qAy)
noncomputable def forceLL {α : Type} (l : List (List Nat)) : (List (List Nat) → α) → α := List.rec (fun g => g []) (fun a _ ih g => forceL a fun x => ih fun r => g (x :: r)) l
theorem qGW {α : Type} : ∀ (l : List (List Nat)) (g : List (List Nat) → α), forceLL l g = g l
 | [], _ => rfl
 | a :: l, g => by
  show forceL a (fun x => forceLL l fun r => g (x :: r)) = g (a :: l)
  rw [qAy, qGW l]
noncomputable def qFr (l : List (List Nat)) : List (List Nat) := (List.range (l.length / 2)).map fun k => SN.tagN 5 [l.getD (2 * k) [], l.getD (2 * k + 1) []]
noncomputable def lvlN (l : List (List Nat)) : Nat → List (List Nat)
 | 0 => l
 | j + 1 => qFr (lvlN l j)
def natL (l : List (List UInt8)) : List (List Nat) := l.map (List.map UInt8.toNat)
theorem qHH (l : List (List UInt8)) (i : Nat) : (natL l).getD i [] = (l.getD i []).map UInt8.toNat := by
 unfold natL
 rw [List.getD_eq_getElem?_getD, List.getD_eq_getElem?_getD, List.getElem?_map]
 cases l[i]? <;> rfl
theorem qIF {l : List (List UInt8)} (h : ∀ x ∈ l, x.length = 16) (i : Nat) : (l.getD i []).length ≤ 16 := by
 rw [List.getD_eq_getElem?_getD]
 by_cases hi : i < l.length
 · rw [List.getElem?_eq_getElem hi]; exact Nat.le_of_eq (h _ (List.getElem_mem hi))
 · rw [List.getElem?_eq_none (by omega)]; exact Nat.zero_le _
theorem qOP (l : List (List UInt8)) (h : ∀ x ∈ l, x.length = 16) : qFr (natL l) = natL (Mk.above l) := by
 unfold qFr Mk.above
 rw [show (natL l).length = l.length from List.length_map _]
 show _ = List.map _ (List.map _ _)
 rw [List.map_map]
 refine List.map_congr_left fun k _ => ?_
 rw [qHH, qHH]
 have h1 := qIF h (2 * k)
 have h2 := qIF h (2 * k + 1)
 exact SN.tagN_eq 5 [l.getD (2 * k) [], l.getD (2 * k + 1) []] (by simp only [List.flatten_cons, List.flatten_nil, List.append_nil, List.length_append, List.length_cons, List.length_nil]; omega)
theorem qQf (l : List (List UInt8)) : ∀ x ∈ Mk.above l, x.length = 16 := fun x hx => by
 obtain ⟨k, _, rfl⟩ := List.mem_map.1 hx
 exact Sha.tagged_length _ _
theorem qNU (l : List (List UInt8)) (h : ∀ x ∈ l, x.length = 16) : ∀ j, lvlN (natL l) j = natL (Mk.lvl l j) ∧ ∀ x ∈ Mk.lvl l j, x.length = 16
 | 0 => ⟨rfl, h⟩
 | j + 1 => by
  obtain ⟨h1, h2⟩ := qNU l h j
  exact ⟨by rw [lvlN, h1, qOP _ h2, Mk.lvl], qQf _⟩
noncomputable def leavesN (L : Nat) (seed : List Nat) : List (List Nat) := forceL (SN.tagN 3 [seed]) fun o => forceLL (topsN L seed o) fun tops =>
 (List.range L).map fun leaf => SN.tagN 4 (o :: [0, 0, 0, leaf, 0, 0] :: (tops.drop (35 * leaf)).take 35)
noncomputable def rootN (h : Nat) (seed : List Nat) : List Nat := (lvlN (leavesN (2 ^ h) seed) h).getD 0 []
theorem qMu {β : Type} (f : Nat → β) (L leaf : Nat) (h : leaf < L) : (((List.range (35 * L)).map f).drop (35 * leaf)).take 35 = (List.range 35).map fun i => f (35 * leaf + i) := by
 apply List.ext_getElem?
 intro i
 rw [List.getElem?_take, List.getElem?_map]
 by_cases hi : i < 35
 · rw [if_pos hi, List.getElem?_drop, List.getElem?_map, List.getElem?_range (by omega), List.getElem?_range hi]; rfl
 · rw [if_neg hi, List.getElem?_eq_none (by rw [List.length_range]; omega)]; rfl
theorem leavesN_eq (L : Nat) (hp : L ≤ 64) (seed : List UInt8) (hs : seed.length ≤ 40) : leavesN L (seed.map UInt8.toNat) = natL (Xm.leaves seed L) := by
 have ho : SN.tagN 3 [seed.map UInt8.toNat] = (Wo.opn seed).map UInt8.toNat := SN.tagN_eq 3 [seed] (by simp only [List.flatten_cons, List.flatten_nil, List.append_nil, List.length_cons, List.length_nil]; omega)
 unfold leavesN
 rw [qAy, qGW, ho, qOo (by omega) seed hs]
 have e : ((List.range (L)).map fun leaf => SN.tagN 4 ((Wo.opn seed).map UInt8.toNat :: [0, 0, 0, leaf, 0, 0] :: (((List.range (35 * L)).map fun z => (Wo.walk (Wo.opn seed) (z / 35) (z % 35) 0 (Wo.secret seed (z / 35) (z % 35)) 15).map UInt8.toNat).drop (35 * leaf)).take 35)) = natL (Xm.leaves seed (L)) := by
  unfold natL Xm.leaves
  rw [List.map_map]
  refine List.map_congr_left fun leaf hl => ?_
  have hl2 := List.mem_range.1 hl
  rw [qMu _ _ _ hl2]
  have e1 : ((List.range 35).map fun i => (Wo.walk (Wo.opn seed) ((35 * leaf + i) / 35) ((35 * leaf + i) % 35) 0 (Wo.secret seed ((35 * leaf + i) / 35) ((35 * leaf + i) % 35)) 15).map UInt8.toNat) = natL (Wo.tops seed leaf 35) := by
   unfold natL Wo.tops
   rw [List.map_map]
   refine List.map_congr_left fun i hi => ?_
   have hi2 := List.mem_range.1 hi
   rw [show (35 * leaf + i) / 35 = leaf by omega, show (35 * leaf + i) % 35 = i by omega]; rfl
  rw [e1]
  have e2 : (Wo.place leaf 0 0).map UInt8.toNat = [0, 0, 0, leaf, 0, 0] := by
   rw [qFG (by omega)]
   unfold plc
   simp only [List.map_cons, List.map_nil]
   rw [UInt8.toNat_ofNat', Nat.mod_eq_of_lt (show leaf < 2 ^ 8 by omega)]; rfl
  have h16 : ∀ x ∈ Wo.tops seed leaf 35, x.length = 16 := fun x hx => by
   obtain ⟨i, _, rfl⟩ := List.mem_map.1 hx
   exact Wo.walk_16 _ _ _ _ _ (Wo.secret_length _ _ _) 15
  have hfl : (Wo.tops seed leaf 35).flatten.length ≤ 100000 := by
   have : ∀ l : List (List UInt8), (∀ x ∈ l, x.length = 16) → l.flatten.length = 16 * l.length := fun l hl => by
    induction l with
    | nil => rfl
    | cons a l ih => rw [List.flatten_cons, List.length_append, ih (fun x hx => hl x (.tail _ hx)), hl a (.head _), List.length_cons]; omega
   rw [this _ h16]
   unfold Wo.tops
   rw [List.length_map, List.length_range]; decide
  have ht := SN.tagN_eq 4 ([Wo.opn seed, Wo.place leaf 0 0] ++ Wo.tops seed leaf 35) (by
   have h35 : (Wo.tops seed leaf 35).length = 35 := by unfold Wo.tops; rw [List.length_map, List.length_range]
   rw [List.flatten_append, List.length_append, List.length_append, h35]
   simp only [List.flatten_cons, List.flatten_nil, List.append_nil, List.length_append, List.length_cons, List.length_nil, Wo.opn_length]
   unfold Wo.place
   simp only [List.length_cons, List.length_nil]
   omega)
  rw [Function.comp_apply]
  show _ = (Wo.pub seed leaf).map UInt8.toNat
  unfold Wo.pub Wo.publicOf
  rw [← ht, List.map_append, List.map_cons, List.map_cons, List.map_nil, e2]
  rfl
 exact e
theorem rootN_eq (h : Nat) (h6 : h ≤ 6) (seed : List UInt8) (hs : seed.length ≤ 40) : rootN h (seed.map UInt8.toNat) = (Xm.root seed h).map UInt8.toNat := by
 unfold rootN
 rw [leavesN_eq (2 ^ h) (Xm.pow_le h h6) seed hs, (qNU _ (fun x hx => by
  obtain ⟨k, _, rfl⟩ := List.mem_map.1 hx
  exact Sha.tagged_length _ _) h).1, qHH]
 rfl
end SM
end Go.Proofs.YtfldiegfenndjaaGreatDoor
namespace Go.Proofs.YtfldiegfenndjaaGreatDoor
set_option maxRecDepth 100000
set_option maxHeartbeats 1000000
attribute [local irreducible] SN.tagN Sha.tagged
theorem qLb : SM.natL (Xm.leaves [97, 117, 100, 105, 116, 111, 114, 97] 4) = [[231, 8, 164, 122, 234, 57, 121, 228, 189, 73, 3, 251, 107, 179, 0, 61], [203, 62, 250, 140, 57, 218, 216, 163, 107, 203, 193, 53, 104, 74, 112, 135], [64, 243, 149, 4, 237, 171, 250, 26, 169, 213, 237, 102, 127, 193, 221, 63], [112, 121, 42, 219, 189, 106, 24, 216, 174, 48, 72, 122, 28, 150, 237, 133]] := by
 rw [← SM.leavesN_eq 4 (by decide) [97, 117, 100, 105, 116, 111, 114, 97] (by decide)]
 decide +kernel
theorem qGw : (Xm.root [97, 117, 100, 105, 116, 111, 114, 97] 2).map UInt8.toNat = [22, 164, 247, 0, 48, 253, 180, 71, 220, 85, 164, 252, 188, 160, 204, 90] := by
 rw [← SM.rootN_eq 2 (by decide) [97, 117, 100, 105, 116, 111, 114, 97] (by decide)]
 unfold SM.rootN
 rw [SM.leavesN_eq 4 (by decide) [97, 117, 100, 105, 116, 111, 114, 97] (by decide), show Xm.leaves [97, 117, 100, 105, 116, 111, 114, 97] (2 ^ 2) = Xm.leaves [97, 117, 100, 105, 116, 111, 114, 97] 4 from rfl, qLb]
 decide +kernel
end Go.Proofs.YtfldiegfenndjaaGreatDoor
namespace Go.Proofs.YtfldiegfenndjaaGreatDoor
set_option maxRecDepth 100000
set_option maxHeartbeats 1000000
attribute [local irreducible] SN.tagN Sha.tagged
theorem qLa : SM.natL (Xm.leaves [97, 117, 100, 105, 116, 111, 114, 98] 4) = [[4, 48, 214, 253, 150, 8, 107, 224, 242, 74, 125, 178, 104, 78, 45, 89], [181, 103, 124, 109, 204, 137, 245, 219, 91, 20, 4, 13, 32, 168, 103, 207], [235, 233, 220, 176, 229, 253, 9, 44, 130, 126, 235, 213, 232, 222, 94, 9], [125, 204, 114, 40, 58, 53, 49, 141, 222, 80, 123, 192, 3, 168, 24, 249]] := by
 rw [← SM.leavesN_eq 4 (by decide) [97, 117, 100, 105, 116, 111, 114, 98] (by decide)]
 decide +kernel
theorem qGv : (Xm.root [97, 117, 100, 105, 116, 111, 114, 98] 2).map UInt8.toNat = [101, 12, 161, 181, 223, 198, 74, 60, 112, 220, 105, 68, 168, 64, 74, 68] := by
 rw [← SM.rootN_eq 2 (by decide) [97, 117, 100, 105, 116, 111, 114, 98] (by decide)]
 unfold SM.rootN
 rw [SM.leavesN_eq 4 (by decide) [97, 117, 100, 105, 116, 111, 114, 98] (by decide), show Xm.leaves [97, 117, 100, 105, 116, 111, 114, 98] (2 ^ 2) = Xm.leaves [97, 117, 100, 105, 116, 111, 114, 98] 4 from rfl, qLa]
 decide +kernel
end Go.Proofs.YtfldiegfenndjaaGreatDoor
namespace Go.Proofs.YtfldiegfenndjaaGreatDoor
set_option maxRecDepth 100000
set_option maxHeartbeats 1000000
attribute [local irreducible] SN.tagN Sha.tagged
theorem qLZ : SM.natL (Xm.leaves [97, 117, 100, 105, 116, 111, 114, 99] 4) = [[2, 45, 57, 30, 201, 111, 61, 146, 173, 198, 83, 130, 3, 77, 41, 86], [83, 5, 230, 27, 232, 63, 134, 247, 227, 242, 193, 29, 117, 61, 159, 141], [52, 28, 142, 41, 175, 164, 164, 183, 55, 52, 143, 43, 168, 202, 32, 241], [221, 7, 194, 248, 148, 204, 187, 159, 23, 180, 89, 107, 186, 193, 136, 235]] := by
 rw [← SM.leavesN_eq 4 (by decide) [97, 117, 100, 105, 116, 111, 114, 99] (by decide)]
 decide +kernel
theorem qGu : (Xm.root [97, 117, 100, 105, 116, 111, 114, 99] 2).map UInt8.toNat = [146, 83, 211, 224, 30, 128, 154, 79, 165, 236, 208, 225, 73, 13, 246, 50] := by
 rw [← SM.rootN_eq 2 (by decide) [97, 117, 100, 105, 116, 111, 114, 99] (by decide)]
 unfold SM.rootN
 rw [SM.leavesN_eq 4 (by decide) [97, 117, 100, 105, 116, 111, 114, 99] (by decide), show Xm.leaves [97, 117, 100, 105, 116, 111, 114, 99] (2 ^ 2) = Xm.leaves [97, 117, 100, 105, 116, 111, 114, 99] 4 from rfl, qLZ]
 decide +kernel
end Go.Proofs.YtfldiegfenndjaaGreatDoor
namespace Go.Proofs.YtfldiegfenndjaaGreatDoor
set_option maxRecDepth 100000
set_option maxHeartbeats 1000000
attribute [local irreducible] SN.tagN Sha.tagged
theorem qLY : SM.natL (Xm.leaves [97, 117, 100, 105, 116, 111, 114, 100] 4) = [[198, 149, 46, 117, 245, 194, 222, 115, 21, 246, 154, 234, 33, 201, 233, 219], [219, 125, 191, 45, 52, 221, 66, 214, 150, 0, 146, 125, 207, 244, 193, 161], [230, 187, 162, 124, 128, 73, 30, 186, 143, 103, 12, 55, 4, 147, 220, 214], [168, 113, 21, 22, 134, 58, 106, 239, 27, 8, 113, 48, 136, 97, 31, 138]] := by
 rw [← SM.leavesN_eq 4 (by decide) [97, 117, 100, 105, 116, 111, 114, 100] (by decide)]
 decide +kernel
theorem qGt : (Xm.root [97, 117, 100, 105, 116, 111, 114, 100] 2).map UInt8.toNat = [148, 225, 153, 219, 213, 181, 119, 81, 164, 172, 175, 225, 88, 150, 136, 15] := by
 rw [← SM.rootN_eq 2 (by decide) [97, 117, 100, 105, 116, 111, 114, 100] (by decide)]
 unfold SM.rootN
 rw [SM.leavesN_eq 4 (by decide) [97, 117, 100, 105, 116, 111, 114, 100] (by decide), show Xm.leaves [97, 117, 100, 105, 116, 111, 114, 100] (2 ^ 2) = Xm.leaves [97, 117, 100, 105, 116, 111, 114, 100] 4 from rfl, qLY]
 decide +kernel
end Go.Proofs.YtfldiegfenndjaaGreatDoor
namespace Go.Proofs.YtfldiegfenndjaaGreatDoor
set_option maxRecDepth 100000
set_option maxHeartbeats 1000000
attribute [local irreducible] SN.tagN Sha.tagged
theorem qLX : SM.natL (Xm.leaves [97, 117, 100, 105, 116, 111, 114, 101] 4) = [[42, 214, 133, 70, 54, 105, 95, 208, 235, 8, 159, 45, 109, 104, 180, 250], [52, 126, 86, 238, 39, 173, 136, 76, 232, 205, 67, 21, 211, 165, 53, 144], [13, 122, 197, 13, 214, 210, 106, 221, 212, 182, 116, 40, 145, 249, 245, 202], [176, 4, 220, 121, 78, 170, 102, 53, 50, 90, 172, 152, 71, 246, 179, 119]] := by
 rw [← SM.leavesN_eq 4 (by decide) [97, 117, 100, 105, 116, 111, 114, 101] (by decide)]
 decide +kernel
theorem qGs : (Xm.root [97, 117, 100, 105, 116, 111, 114, 101] 2).map UInt8.toNat = [70, 197, 109, 249, 108, 48, 180, 93, 6, 9, 118, 143, 33, 233, 157, 204] := by
 rw [← SM.rootN_eq 2 (by decide) [97, 117, 100, 105, 116, 111, 114, 101] (by decide)]
 unfold SM.rootN
 rw [SM.leavesN_eq 4 (by decide) [97, 117, 100, 105, 116, 111, 114, 101] (by decide), show Xm.leaves [97, 117, 100, 105, 116, 111, 114, 101] (2 ^ 2) = Xm.leaves [97, 117, 100, 105, 116, 111, 114, 101] 4 from rfl, qLX]
 decide +kernel
end Go.Proofs.YtfldiegfenndjaaGreatDoor
