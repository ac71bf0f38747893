/- A part of the proof. -/
import Derived.Test.YtfldiegfenndjaaGreatDoorTopCvG8
import Derived.Test.YtfldiegfenndjaaGreatDoorTopCvG17
import Derived.Test.YtfldiegfenndjaaGreatDoorTopCvG18
set_option linter.unusedSimpArgs false
set_option linter.unusedVariables false
namespace Go.Proofs.YtfldiegfenndjaaGreatDoor
open Go Go.Fw Go.Proofs.Tryz
set_option maxRecDepth 100000
set_option maxHeartbeats 1000000
theorem qJS {s bs : List UInt8} (h : s.length ≤ 4096) : qLk s bs 0 = bs ++ Sha.numB (UInt64.ofNat s.length) 2 ++ s ∧ qCa (okT s) 2 0 = 0 := by
 have h1 : okT s = true := decide_eq_true h
 unfold qLk
 rw [h1, qDD, if_pos rfl]
 exact ⟨rfl, rfl⟩
structure Hd where
 ep : Nat
 par : List UInt8
 dep : Int
 aud : Int
 nodes : List (List UInt8)
def qDl (s : List UInt8) : Prop := s = [0] ∨ (s.length = 17 ∧ (s.getD 0 0 = 1 ∨ s.getD 0 0 = 2))
instance (s : List UInt8) : Decidable (qDl s) := by unfold qDl; infer_instance
def Hd.cells (x : Hd) (A : Option Addr) (c : Nat) : List Value := [N64 x.ep, Str x.par, I x.dep, I x.aud, .slice A x.nodes.length c]
def Hd.out (x : Hd) : Prop := 4294967295 < x.ep ∨ x.par.length ≠ 16 ∨ cnt x.dep = 0 ∨ x.aud < 0 ∨ 64 < x.aud
instance (x : Hd) : Decidable x.out := by unfold Hd.out; infer_instance
def Hd.err (x : Hd) : Int := if x.out then 10 else if x.nodes.length ≠ cnt x.dep then 22 else if ∀ s ∈ x.nodes, qDl s then 0 else 4
def ndB (s : List UInt8) : List UInt8 := Sha.numB (UInt64.ofNat s.length) 2 ++ s
def Hd.bytes (x : Hd) : List UInt8 := Sha.numB (UInt64.ofNat x.ep) 4 ++ x.par ++ [UInt8.ofNat x.dep.toNat] ++ [UInt8.ofNat x.aud.toNat] ++ (x.nodes.map ndB).flatten
def Hd.enc (x : Hd) : List UInt8 := if x.err = 0 then x.bytes else []
def Hd.dig (x : Hd) : List UInt8 := if x.err = 0 then Sha.tagged 14 [x.bytes] else []
def Hd.good (x : Hd) : Prop := x.ep < 18446744073709551616 ∧ x.par.length ≤ 1048576 ∧ x.nodes.length ≤ 1073741824
theorem qGW {x : Hd} (h : x.out) : x.err = 10 := if_pos h
theorem qTv {x : Hd} (h : ¬ x.out) (h2 : x.nodes.length ≠ cnt x.dep) : x.err = 22 := by unfold Hd.err; rw [if_neg h, if_pos h2]
theorem err_4 {x : Hd} (h : ¬ x.out) (h2 : ¬ x.nodes.length ≠ cnt x.dep) {s : List UInt8} (hs : s ∈ x.nodes) (hn : ¬ qDl s) : x.err = 4 := by unfold Hd.err; rw [if_neg h, if_neg h2, if_neg (fun e => hn (e s hs))]
theorem qTw {x : Hd} (h : ¬ x.out) (h2 : ¬ x.nodes.length ≠ cnt x.dep) (hs : ∀ s ∈ x.nodes, qDl s) : x.err = 0 := by unfold Hd.err; rw [if_neg h, if_neg h2, if_pos hs]
theorem qNV {x : Hd} (h : x.err = 0) : ¬ x.out ∧ x.nodes.length = cnt x.dep ∧ ∀ s ∈ x.nodes, qDl s := by
  unfold Hd.err at h
  split at h
  · omega
  · rename_i h1
    split at h
    · omega
    · rename_i h2
      split at h
      · rename_i h3; exact ⟨h1, Decidable.not_not.1 h2, h3⟩
      · omega
theorem qJ0 {s : List UInt8} (h : qDl s) : s.length ≤ 17 := by
 rcases h with rfl | ⟨h, _⟩
 · decide
 · omega
theorem qSr {l : List (List UInt8)} {p : List UInt8 → Prop} {k : Nat} (h : k < l.length) (h1 : ∀ s ∈ l.take k, p s) (h2 : p (l.getD k [])) : ∀ s ∈ l.take (k + 1), p s := fun s hs => by
  rw [List.take_succ_eq_append_getElem h] at hs
  rcases List.mem_append.1 hs with h3 | h3
  · exact h1 s h3
  · rw [List.mem_singleton] at h3
    rw [h3]
    rw [List.getD_eq_getElem?_getD, List.getElem?_eq_getElem h] at h2
    exact h2
theorem qNQ {l : List (List UInt8)} {k : Nat} (h : k < l.length) : l.getD k [] ∈ l := by
 rw [List.getD_eq_getElem?_getD, List.getElem?_eq_getElem h]
 exact List.getElem_mem h
theorem u8eq {c : UInt8} (k : UInt8) : ((c.toNat : Int) = (k.toNat : Int)) ↔ c = k := ⟨fun h => UInt8.toNat_inj.1 (by omega), fun h => by rw [h]⟩
theorem qPm (F : Hp) (s : List UInt8) : Ct prog 137 [Str s] [F] (fun _ : Unit => .bool (decide (qDl s))) (fun _ => True) (fun _ => [F]) := by
 refine Ct.walk func137 rfl ntmps137 rfl (fun w0 hw0 => ?_)
 change J _ [(0, _)] _ _ _
 refine J.g fun K1 hK1 => J.b rfl <| J.c hK1 <| J.u 0 ?_
 refine J.g fun K2 hK2 => J.b rfl <| J.f (qBH rfl rfl rfl) rfl <| J.b rfl <| J.c2 (d := 5) rfl (fun h5 => ?_) (fun h5 => ?_)
 ·
  refine J.j 4 rfl <| J.d0 (Wan.un rfl rfl rfl rfl) rfl rfl ?_
  refine J.d0 (Wan.un rfl rfl rfl rfl) rfl rfl ?_
  refine J.d0 (Wan.un rfl rfl rfl rfl) rfl rfl ?_
  refine J.d0 (Wan.un rfl rfl rfl rfl) rfl rfl ?_
  refine J.d0 (Wan.un rfl rfl rfl rfl) rfl rfl ?_
  refine J.d0 (Wan.un rfl rfl rfl rfl) rfl rfl ?_
  refine J.d0 (Wan.un rfl rfl rfl rfl) rfl rfl ?_
  refine J.d0 (Wan.un rfl rfl rfl rfl) rfl rfl ?_
  refine J.j 3 rfl <| J.c hK2 <| J.u 2 ?_
  exact J.D <| J.H hw0 rfl () (congrArg Value.bool (decide_eq_true (show qDl s from .inl h5)).symm) trivial [0] rfl (by decide)
 refine J.b rfl <| J.E (qA7 u9_ rfl rfl) rfl <| J.E (qAa rfl rfl rfl) rfl <| J.b rfl <| J.c2 (d := 9) rfl (fun h9 => ?_) (fun h9 => ?_)
 ·
  refine J.b rfl <| J.E (qBj (i := 0) (c := s.getD 0 0) u9_ rfl rfl rfl (by rw [List.getD_eq_getElem?_getD, List.getElem?_eq_getElem (show 0 < s.length by omega)]; rfl)) rfl ?_
  refine J.E (qAa rfl rfl rfl) rfl <| J.b rfl <| J.c2 (d := 13) rfl (fun h13 => ?_) (fun h13 => ?_)
  ·
   refine J.j 7 rfl <| J.c hK2 <| J.u 2 ?_
   exact J.D <| J.H hw0 rfl () (congrArg Value.bool (decide_eq_true (show qDl s from .inr ⟨by omega, .inl ((u8eq 1).1 h13)⟩)).symm) trivial [0] rfl (by decide)
  refine J.b rfl <| J.E (qBj (i := 0) (c := s.getD 0 0) u9_ rfl rfl rfl (by rw [List.getD_eq_getElem?_getD, List.getElem?_eq_getElem (show 0 < s.length by omega)]; rfl)) rfl ?_
  refine J.E (qAa rfl rfl rfl) rfl <| J.j 4 rfl <| J.c hK2 <| J.u 2 ?_
  exact J.D <| J.H hw0 rfl () (congrArg Value.bool (decide_eq_decide.2 ⟨fun h => (show qDl s from .inr ⟨by omega, .inr ((u8eq 2).1 h)⟩), fun h => by rcases h with h | ⟨_, h | h⟩; exact absurd h h5; exact absurd ((u8eq 1).2 h) h13; exact (u8eq 2).2 h⟩)) trivial [0] rfl (by decide)
 refine J.j 4 rfl <| J.d0 (Wan.un rfl rfl rfl rfl) rfl rfl ?_
 refine J.d0 (Wan.un rfl rfl rfl rfl) rfl rfl ?_
 refine J.d0 (Wan.un rfl rfl rfl rfl) rfl rfl ?_
 refine J.j 4 rfl <| J.c hK2 <| J.u 2 ?_
 exact J.D <| J.H hw0 rfl () (congrArg Value.bool (decide_eq_false (show ¬ qDl s from fun h => by rcases h with h | ⟨h, _⟩; exact h5 h; omega)).symm) trivial [0] rfl (by decide)
theorem qIE (F : Hp) (x : Hd) (A : Option Addr) (c : Nat) (hg : x.good) (hsl : Sl F 1 A x.nodes.length c (qAJ x.nodes)) :
    Ct prog 82 [.agg #[N64 x.ep, Str x.par, I x.dep, I x.aud, .slice A x.nodes.length c]] [F] (fun _ : Unit => I x.err) (fun _ => True) (fun _ => [F]) := by
  obtain ⟨hg1, hg2, hg3⟩ := hg
  refine Ct.walk func82 rfl ntmps82 rfl (fun w0 hw0 => ?_)
  change J _ [(0, _)] _ _ _
  refine J.g fun K1 hK1 => J.q (qAi rfl rfl (l := [N64 x.ep, Str x.par, I x.dep, I x.aud, .slice A x.nodes.length c]) rfl) rfl fun g1 _ => ?_
  change J _ _ _ [F, blk g1 [N64 x.ep, Str x.par, I x.dep, I x.aud, .slice A x.nodes.length c] 39] _
  refine J.b rfl <| J.c hK1 <| J.u 1 ?_
  refine J.g fun K2 hK2 => J.a7 2 qDy z3_ rfl rfl rfl rfl rfl <| J.d2 1 b3_ rfl rfl rfl rfl rfl <| J.q (qAC rfl rfl ent38 (Ct.use0 (fun F' hF => qDG F' x.dep))) rfl fun g8 _ => J.b rfl <| J.c hK2 <| J.G 1 3 ?_
  refine J.p fun K3 hK3 => J.W <| J.g fun K4 hK4 => J.a7 0 qDy qGc rfl rfl rfl rfl rfl <| J.d2 1 qLX rfl rfl rfl rfl rfl <| J.f (qBQ rfl rfl rfl) rfl <| J.b rfl <| J.c2 (d := 13) rfl (fun h13 => ?_) (fun h13 => ?_)
  ·
    refine J.j 20 rfl <| J.c hK4 <| J.O 1 3 9 ?_
    refine J.c9 ?_
    refine J.g fun K5 hK5 => J.b rfl <| J.c hK5 <| J.u 2 ?_
    exact J.D <| J.a9 <| J.Z <| J.H hw0 rfl () (congrArg I (qGW (show x.out by unfold Hd.out; omega)).symm) trivial [0] rfl (by decide)
  refine J.E (qAA (j := 1) rfl rfl qDy rfl z9_ rfl) rfl <| J.E (qAE 1 rfl rfl rfl b9_ rfl) rfl <| J.E (qA7 u9_ rfl rfl) rfl <| J.E (qAz rfl rfl rfl) rfl <| J.j 2 rfl <| J.c2 (d := 19) rfl (fun h19 => ?_) (fun h19 => ?_)
  ·
    refine J.j 14 rfl <| J.c hK4 <| J.O 1 3 9 ?_
    refine J.c9 ?_
    refine J.g fun K6 hK6 => J.b rfl <| J.c hK6 <| J.u 2 ?_
    exact J.D <| J.a9 <| J.Z <| J.H hw0 rfl () (congrArg I (qGW (show x.out by unfold Hd.out; omega)).symm) trivial [0] rfl (by decide)
  refine J.b rfl <| J.E (qAa rfl rfl rfl) rfl <| J.j 2 rfl <| J.c2 (d := 23) rfl (fun h23 => ?_) (fun h23 => ?_)
  ·
    refine J.j 10 rfl <| J.c hK4 <| J.O 1 3 9 ?_
    refine J.c9 ?_
    refine J.g fun K7 hK7 => J.b rfl <| J.c hK7 <| J.u 2 ?_
    exact J.D <| J.a9 <| J.Z <| J.H hw0 rfl () (congrArg I (qGW (show x.out by unfold Hd.out; omega)).symm) trivial [0] rfl (by decide)
  refine J.E (qAA (j := 3) rfl rfl qDy rfl z3_ rfl) rfl <| J.E (qAE 1 rfl rfl rfl b3_ rfl) rfl <| J.E (qAX rfl rfl rfl) rfl <| J.j 2 rfl <| J.c2 (d := 28) rfl (fun h28 => ?_) (fun h28 => ?_)
  ·
    refine J.j 5 rfl <| J.c hK4 <| J.O 1 3 9 ?_
    refine J.c9 ?_
    refine J.g fun K8 hK8 => J.b rfl <| J.c hK8 <| J.u 2 ?_
    exact J.D <| J.a9 <| J.Z <| J.H hw0 rfl () (congrArg I (qGW (show x.out by unfold Hd.out; omega)).symm) trivial [0] rfl (by decide)
  refine J.E (qAA (j := 3) rfl rfl qDy rfl z3_ rfl) rfl <| J.E (qAE 1 rfl rfl rfl b3_ rfl) rfl <| J.E (qBQ rfl rfl rfl) rfl <| J.j 2 rfl <| J.c hK4 <| J.O 1 3 9 ?_
  refine J.a0 rfl (fun h9 => ?_) (fun h9 => ?_)
  ·
    refine J.g fun K9 hK9 => J.b rfl <| J.c hK9 <| J.u 2 ?_
    exact J.D <| J.a9 <| J.Z <| J.H hw0 rfl () (congrArg I (qGW (show x.out by unfold Hd.out; omega)).symm) trivial [0] rfl (by decide)
  refine J.g fun K10 hK10 => J.a7 4 qDy qEe rfl rfl rfl rfl rfl <| J.d2 1 qDv rfl rfl rfl rfl rfl <| J.f (qAh qAo rfl rfl) rfl <| J.b rfl <| J.f (qAz rfl rfl rfl) rfl <| J.b rfl <| J.c hK10 <| J.G 1 33 ?_
  refine J.a0 rfl (fun h33 => ?_) (fun h33 => ?_)
  ·
    refine J.g fun K11 hK11 => J.b rfl <| J.c hK11 <| J.u 2 ?_
    exact J.D <| J.a9 <| J.Z <| J.H hw0 rfl () (congrArg I (qTv (by unfold Hd.out; omega) (by omega)).symm) trivial [0] rfl (by decide)
  refine J.b9 <| J.a5 <| J.A (J.L hK3 ?_)
  refine J.u 1 ?_
  refine J.p fun K12 hK12 => J.p fun K13 hK13 => ?_
  have hno : ¬ x.out := by unfold Hd.out; omega
  have hcn : ¬ x.nodes.length ≠ cnt x.dep := by omega
  refine J.M <| J.a7 4 qDy qEe rfl rfl rfl rfl rfl <| J.d2 1 qDv rfl rfl rfl rfl rfl <| J.f (qAh qAo rfl rfl) rfl <| J.b rfl <| J.c hK13 <| J.O 40 41 42 ?_
  refine J.W <| J.b6 (X := Nat) (fun k => [(40, .slice A x.nodes.length c), (41, I x.nodes.length), (42, I k)]) (fun _ => [F, blk g1 [N64 x.ep, Str x.par, I x.dep, I x.aud, .slice A x.nodes.length c] 39]) (fun k => k ≤ x.nodes.length ∧ ∀ s ∈ x.nodes.take k, qDl s) (fun k => x.nodes.length - k) 0 (⟨Nat.zero_le _, fun s hs => by simp at hs⟩) ⟨rfl, rfl, rfl, trivial⟩ (fun _ h => h) ?_
  intro k ⟨hk, hall⟩ I0 hI0
  refine J.g fun K14 hK14 => J.f (qAX rfl rfl rfl) rfl <| J.c hK14 <| J.T 40 41 42 43 ?_
  refine J.p fun K15 hK15 => J.a0 rfl (fun h43 => ?_) (fun h43 => ?_)
  ·
    refine J.a1 hK15 <| J.O 40 41 42 ?_
    refine J.p fun K16 hK16 => J.W <| J.g fun K17 hK17 => J.f (qAK (i := k) rfl rfl rfl qAo z9_ hsl (by omega)) rfl <| J.f (qAQ rfl rfl b9_ (m := F) (by simp) (hsl.elem (qAZ (qAl [] (show k < x.nodes.length by omega))))) rfl <| J.b rfl <| J.c hK17 <| J.T 5 40 41 42 ?_
    refine J.g fun K18 hK18 => J.b rfl <| J.q (qAC rfl rfl ent137 (Ct.use0 (fun F' hF => qPm F' (x.nodes.getD k [])))) rfl fun g47 _ => J.f (qFR rfl rfl) rfl <| J.c hK18 <| J.T 40 41 42 48 ?_
    refine J.a0 rfl (fun h48 => ?_) (fun h48 => ?_)
    ·
      refine J.g fun K19 hK19 => J.b rfl <| J.c hK19 <| J.u 2 ?_
      exact J.D <| J.a9 <| J.Z <| J.Z <| J.a9 <| J.Z <| J.H hw0 rfl () (congrArg I (err_4 hno hcn (qNQ (show k < x.nodes.length by omega)) h48).symm) trivial [0] rfl (by decide)
    refine J.b9 <| J.a5 <| J.A (J.L hK16 ?_)
    refine J.O 40 41 42 ?_
    exact J.M <| J.f ((qAU rfl rfl rfl (by omega)).nat (k + 1) (by omega)) rfl <| J.b rfl <| J.a6 <| J.A <| J.a8 (k + 1) (fun x2 (hx : _ ∧ x.nodes.length - x2 < x.nodes.length - k) => hI0 x2 hx.1 hx.2) ⟨⟨by omega, qSr (by omega) hall (Decidable.not_not.1 h48)⟩, by omega⟩ ⟨rfl, rfl, rfl, trivial⟩ (fun _ h => h)
  refine J.b5 <| J.a4 <| J.a4 <| J.b7 ?_
  refine J.A (J.L hK12 ?_)
  refine J.c7 [] trivial <| J.p fun K20 hK20 => ?_
  rw [List.take_of_length_le (by omega)] at hall
  refine J.M <| J.b rfl <| J.c hK20 <| J.u 2 ?_
  exact J.D <| J.H hw0 rfl () (congrArg I (qTw hno hcn hall).symm) trivial [0] rfl (by decide)
def Hd.base (x : Hd) : List UInt8 := Sha.numB (UInt64.ofNat x.ep) 4 ++ x.par ++ [UInt8.ofNat x.dep.toNat] ++ [UInt8.ofNat x.aud.toNat]
theorem qQd : ∀ k, k < 65 → Sha.numB (UInt64.ofNat k) 1 = [UInt8.ofNat k] := by decide +kernel
theorem qO9 : ∀ k, k < 65 → okN (UInt64.ofNat k) 1 = true := by decide +kernel
theorem qMo {x : Hd} (h : ¬ x.out) : x.ep ≤ 4294967295 ∧ x.par.length = 16 ∧ (0 ≤ x.dep ∧ x.dep ≤ 4) ∧ 0 ≤ x.aud ∧ x.aud ≤ 64 := by
 have h1 : ¬ cnt x.dep = 0 := fun e => h (.inr (.inr (.inl e)))
 rw [qE3] at h1
 unfold Hd.out at h
 omega
theorem qSB {l : List (List UInt8)} {k : Nat} (h : k < l.length) : ((l.take (k + 1)).map ndB).flatten = ((l.take k).map ndB).flatten ++ ndB (l.getD k []) := by
 rw [List.take_succ_eq_append_getElem h, List.map_append, List.flatten_append, List.map_cons, List.map_nil, List.flatten_cons, List.flatten_nil, List.append_nil, List.getD_eq_getElem?_getD, List.getElem?_eq_getElem h]; rfl
theorem nd_small {l : List (List UInt8)} (h : ∀ s ∈ l, qDl s) : (l.map ndB).flatten.length ≤ 19 * l.length := by
 induction l with
 | nil => exact Nat.zero_le _
 | cons a l ih =>
  have h1 := ih (fun s hs => h s (.tail _ hs))
  have h2 := qJ0 (h a (.head _))
  rw [List.map_cons, List.flatten_cons, List.length_append, List.length_cons]
  unfold ndB at h1 ⊢
  rw [List.length_append, Sha.numB_length]; omega
theorem qKO {x : Hd} (h : ¬ x.out) : x.base.length = 22 := by
 have := qMo h
 unfold Hd.base
 simp only [List.length_append, Sha.numB_length, List.length_singleton]; omega
theorem qLQ (F : Hp) (x : Hd) (A : Option Addr) (c : Nat) (hg : x.good) (hsl : Sl F 1 A x.nodes.length c (qAJ x.nodes)) :
    Ct prog 43 [.agg #[N64 x.ep, Str x.par, I x.dep, I x.aud, .slice A x.nodes.length c]] [F] (fun _ : Unit => .tuple #[Str x.enc, I x.err]) (fun _ => True) (fun _ => [F]) := by
  refine Ct.walk func43 rfl ntmps43 rfl (fun w0 hw0 => ?_)
  change J _ [(0, _)] _ _ _
  refine J.g fun K1 hK1 => J.q (qAi rfl rfl (l := [N64 x.ep, Str x.par, I x.dep, I x.aud, .slice A x.nodes.length c]) rfl) rfl fun g1 _ => ?_
  change J _ _ _ [F, blk g1 [N64 x.ep, Str x.par, I x.dep, I x.aud, .slice A x.nodes.length c] 39] _
  refine J.j 2 rfl <| J.c hK1 <| J.u 1 ?_
  refine J.p fun K2 hK2 => J.g fun K3 hK3 => J.c5 1 qDR qBf rfl rfl rfl rfl rfl <| J.q (qAC rfl rfl ent82 (Ct.use0 (fun F' hF => qIE F' x A c hg (hsl.mono (hF F (by simp)))))) rfl fun g9 _ => J.b rfl <| J.c hK3 <| J.G 1 4 ?_
  refine J.g fun K4 hK4 => J.b rfl <| J.f (qAz rfl rfl rfl) rfl <| J.c hK4 <| J.O 1 4 11 ?_
  refine J.a0 rfl (fun h11 => ?_) (fun h11 => ?_)
  ·
    refine J.g fun K5 hK5 => J.j 3 rfl <| J.c hK5 <| J.G 2 3 ?_
    exact J.D <| J.Z <| J.b8 hw0 (fun _ _ h => h) (qCx rfl rfl rfl) (qA6 () (by unfold Hd.enc; rw [if_neg (by omega)]) trivial [0] rfl (by decide))
  refine J.a1 hK2 <| J.u 1 ?_
  refine J.p fun K6 hK6 => ?_
  have e0 : x.err = 0 := by omega
  obtain ⟨e1, e2, e3⟩ := qNV e0
  obtain ⟨e4, e5, e6, e7, e8⟩ := qMo e1
  have hbl := qKO e1
  have hc16 := qQt x.dep
  refine J.M <| J.q (qAe rfl zeroValue188 rfl) rfl fun g5 _ => ?_
  change J _ _ _ [F, blk g1 [N64 x.ep, Str x.par, I x.dep, I x.aud, .slice A x.nodes.length c] 39, blk g5 _ 188] _
  refine J.c hK6 <| J.G 1 5 ?_
  refine J.p fun K7 hK7 => J.c0 [blk g1 [N64 x.ep, Str x.par, I x.dep, I x.aud, .slice A x.nodes.length c] 39] [] (.y 0 (.y 1 (.y 3 (.y 4 (.y 6 (.y 7 (.y 8 (.y 10 (.y 11 (.y 12 (.e 2 (.e 5 (.e 9 (.e 13 .nil)))))))))))))) Tryz.wide (by decide +kernel) (by simp) ?_
  refine J.k rfl (qAA (j := 0) rfl rfl qDy rfl qGc rfl) rfl rfl <| J.k rfl (qAE 0 rfl rfl rfl qLX rfl) rfl rfl <| J.k rfl (qAA (j := 1) rfl rfl qDy rfl z9_ rfl) rfl rfl <| J.k rfl (qAE 0 rfl rfl rfl b9_ rfl) rfl rfl <| J.k rfl (qAA (j := 2) rfl rfl qDy rfl z3_ rfl) rfl rfl <| J.k rfl (qAE 0 rfl rfl rfl b3_ rfl) rfl rfl <| J.k rfl ((qBs rfl rfl u3_ qIf).as (v' := W64 (UInt64.ofNat x.dep.toNat)) (by rw [show (x.dep % 18446744073709551616).toNat = x.dep.toNat by omega])) rfl rfl <| J.k rfl (qAA (j := 3) rfl rfl qDy rfl z3_ rfl) rfl rfl <| J.k rfl (qAE 0 rfl rfl rfl b3_ rfl) rfl rfl <| J.k rfl ((qBs rfl rfl u3_ qIf).as (v' := W64 (UInt64.ofNat x.aud.toNat)) (by rw [show (x.aud % 18446744073709551616).toNat = x.aud.toNat by omega])) rfl rfl <| J.a2 rfl (qAC rfl rfl ent83 (Ct.use1 2 (m' := fun x : Hp => x) (new := fun _ => []) rfl (fun F' _ => qM2 F' (blk g5 [.pointer none, .slice none 0 0, I 0] 188) g5 [] 0 (qIh g5) (by decide) x.ep (by omega) 4 (by omega) (by omega)))) rfl (by simp) ?_
  rintro m15 hw15
  change J _ _ _ [_, _, m15] _
  rw [qH3 (size := 4) (by omega) (by omega), qDD, qDb (qH3 (size := 4) (by omega) (by omega)), List.nil_append] at hw15
  refine J.a2 rfl (qAC rfl rfl ent84 (Ct.use1 2 (m' := fun x : Hp => x) (new := fun _ => []) rfl (fun F' _ => qHO F' m15 g5 (Sha.numB (UInt64.ofNat x.ep) 4) 0 hw15 (by rw [Sha.numB_length]; omega) x.par (by omega) 16))) rfl (by simp) ?_
  rintro m18 hw18
  change J _ _ _ [_, _, m18] _
  rw [qLo e5, qR5 e5, qDD] at hw18
  refine J.a2 rfl (qAC rfl rfl ent83 (Ct.use1 2 (m' := fun x : Hp => x) (new := fun _ => []) rfl (fun F' _ => qFU F' m18 g5 ((Sha.numB (UInt64.ofNat x.ep) 4) ++ x.par) 0 hw18 (by simp only [List.length_append, Sha.numB_length]; omega) (UInt64.ofNat x.dep.toNat) 1 (by omega) (by omega)))) rfl (by simp) ?_
  rintro m22 hw22
  change J _ _ _ [_, _, m22] _
  rw [qO9 _ (by omega), qDD, qDb (qO9 _ (by omega)), qQd _ (by omega)] at hw22
  refine J.a2 rfl (qAC rfl rfl ent83 (Ct.use1 2 (m' := fun x : Hp => x) (new := fun _ => []) rfl (fun F' _ => qFU F' m22 g5 (((Sha.numB (UInt64.ofNat x.ep) 4) ++ x.par) ++ [UInt8.ofNat x.dep.toNat]) 0 hw22 (by simp only [List.length_append, Sha.numB_length, List.length_singleton]; omega) (UInt64.ofNat x.aud.toNat) 1 (by omega) (by omega)))) rfl (by simp) ?_
  rintro m26 hw26
  change J _ _ _ [_, _, m26] _
  rw [qO9 _ (by omega), qDD, qDb (qO9 _ (by omega)), qQd _ (by omega)] at hw26
  refine J.b3 <| J.A (J.L hK7 ?_)
  refine J.G 1 5 ?_
  refine J.p fun K8 hK8 => J.g fun K9 hK9 => J.a7 4 qDy qEe rfl rfl rfl rfl rfl <| J.d2 1 qDv rfl rfl rfl rfl rfl <| J.f (qAh qAo rfl rfl) rfl <| J.b rfl <| J.c hK9 <| J.T 5 28 29 30 ?_
  refine J.W <| J.b6 (X := Nat × Hp) (fun x2 => [(5, Ptr g5), (28, .slice A x.nodes.length c), (29, I x.nodes.length), (30, I x2.1)]) (fun x2 => [F, blk g1 [N64 x.ep, Str x.par, I x.dep, I x.aud, .slice A x.nodes.length c] 39, x2.2]) (fun x2 => x2.1 ≤ x.nodes.length ∧ Wtr x2.2 g5 (x.base ++ ((x.nodes.take x2.1).map ndB).flatten) 0) (fun x2 => x.nodes.length - x2.1) (0, m26) (⟨Nat.zero_le _, by rw [List.take_zero, List.map_nil, List.flatten_nil, List.append_nil]; exact hw26⟩) ⟨rfl, rfl, rfl, rfl, trivial⟩ (fun _ h => h) ?_
  rintro ⟨k, m⟩ ⟨hk, hw⟩ I0 hI0
  dsimp only at hk hw ⊢
  refine J.g fun K10 hK10 => J.f (qAX rfl rfl rfl) rfl <| J.c hK10 <| J.a3 5 28 29 30 31 ?_
  refine J.p fun K11 hK11 => J.a0 rfl (fun h31 => ?_) (fun h31 => ?_)
  ·
    refine J.a1 hK11 <| J.T 5 28 29 30 ?_
    refine J.p fun K12 hK12 => J.W <| J.g fun K13 hK13 => J.f (qAK (i := k) rfl rfl rfl qAo z9_ hsl (by omega)) rfl <| J.f (qAQ rfl rfl b9_ (m := F) (by simp) (hsl.elem (qAZ (qAl [] (show k < x.nodes.length by omega))))) rfl <| J.b rfl <| J.c hK13 <| J.a3 5 7 28 29 30 ?_
    have hnl := qJ0 (e3 _ (qNQ (show k < x.nodes.length by omega)))
    refine J.M <| J.b rfl <| J.q (qAC rfl rfl ent85 (Ct.use1 2 (m' := fun x : Hp => x) (new := fun _ => []) rfl (fun F' _ => qRJ F' m g5 (x.base ++ ((x.nodes.take k).map ndB).flatten) 0 hw (by have := nd_small (fun s hs => e3 s (List.mem_of_mem_take hs) : ∀ s ∈ x.nodes.take k, qDl s); rw [List.length_take] at this; rw [List.length_append, hbl]; omega) (x.nodes.getD k []) (by omega)))) rfl ?_
    rintro m35 hw35
    change J _ _ _ [F, blk g1 [N64 x.ep, Str x.par, I x.dep, I x.aud, .slice A x.nodes.length c] 39, m35] _
    rw [(qJS (by omega)).1, (qJS (s := x.nodes.getD k []) (bs := []) (by omega)).2, List.append_assoc, List.append_assoc] at hw35
    change Wtr m35 g5 (x.base ++ (((x.nodes.take k).map ndB).flatten ++ ndB (x.nodes.getD k []))) 0 at hw35
    rw [← qSB (by omega)] at hw35
    refine J.a6 <| J.a5 <| J.A (J.L hK12 ?_)
    refine J.T 5 28 29 30 ?_
    exact J.M <| J.f ((qAU rfl rfl rfl (by omega)).nat (k + 1) (by omega)) rfl <| J.b rfl <| J.a6 <| J.A <| J.a8 (k + 1, m35) (fun x2 (hx : _ ∧ x.nodes.length - x2.1 < x.nodes.length - k) => hI0 x2 hx.1 hx.2) ⟨⟨by dsimp only; omega, hw35⟩, by dsimp only; omega⟩ ⟨rfl, rfl, rfl, rfl, trivial⟩ (fun _ h => h)
  refine J.b5 <| J.a4 <| J.a4 <| J.b7 ?_
  refine J.A (J.L hK8 ?_)
  refine J.u 5 ?_
  refine J.p fun K14 hK14 => ?_
  rw [List.take_of_length_le (by omega)] at hw
  change Wtr m g5 x.bytes 0 at hw
  refine J.M <| J.q (qAC rfl rfl ent86 (Ct.use1 2 (m' := fun x : Hp => x) (new := fun _ => []) rfl (fun F' _ => qHT F' m g5 x.bytes 0 hw (by have := nd_small e3; unfold Hd.bytes; unfold Hd.base at hbl; rw [List.length_append, hbl]; omega)))) rfl ?_
  rintro m37 _
  change J _ _ _ [F, blk g1 [N64 x.ep, Str x.par, I x.dep, I x.aud, .slice A x.nodes.length c] 39, m37] _
  refine J.j 4 rfl <| J.c hK14 <| J.G 2 3 ?_
  exact J.D <| J.b8 hw0 (fun _ _ h => h) (qCx rfl rfl rfl) (qA6 () (by unfold Hd.enc; rw [if_pos e0, e0] <;> rfl) trivial [0] rfl (by decide))
theorem qNp {x : Hd} (h : x.err = 0) : x.bytes.length ≤ 326 := by
 obtain ⟨e1, e2, e3⟩ := qNV h
 have h1 := qKO e1
 have h2 := nd_small e3
 have h3 := qQt x.dep
 unfold Hd.bytes
 unfold Hd.base at h1
 rw [List.length_append, h1]; omega
theorem enc_0 {x : Hd} (h : x.err = 0) : x.enc = x.bytes := if_pos h
theorem qAs {x : Hd} (h : x.err = 0) : x.dig.length = 16 := by unfold Hd.dig; rw [if_pos h, Sha.tagged_length]
theorem qSa {x : Hd} : x.dig = [] ↔ x.err ≠ 0 := by
  constructor
  · intro h e
    have := qAs e
    rw [h] at this
    cases this
  · intro h
    unfold Hd.dig
    rw [if_neg h]
theorem qBV (F : Hp) (hK : KF F) (x : Hd) (A : Option Addr) (c : Nat) (hg : x.good) (hsl : Sl F 1 A x.nodes.length c (qAJ x.nodes)) :
    Ct prog 11 [.agg #[N64 x.ep, Str x.par, I x.dep, I x.aud, .slice A x.nodes.length c]] [F] (fun _ : Unit => Str x.dig) (fun _ => True) (fun _ => [F]) := by
  refine Ct.walk func11 rfl ntmps11 rfl (fun w0 hw0 => ?_)
  change J _ [(0, _)] _ _ _
  refine J.g fun K1 hK1 => J.q (qAi rfl rfl (l := [N64 x.ep, Str x.par, I x.dep, I x.aud, .slice A x.nodes.length c]) rfl) rfl fun g1 _ => ?_
  change J _ _ _ [F, blk g1 [N64 x.ep, Str x.par, I x.dep, I x.aud, .slice A x.nodes.length c] 39] _
  refine J.b rfl <| J.c hK1 <| J.u 1 ?_
  refine J.g fun K2 hK2 => J.c5 1 qDR qBf rfl rfl rfl rfl rfl <| J.q (qAC rfl rfl ent43 (Ct.use0 (fun F' hF => qLQ F' x A c hg (hsl.mono (hF F (by simp)))))) rfl fun g7 _ => J.j 5 rfl <| J.c hK2 <| J.G 3 4 ?_
  refine J.p fun K3 hK3 => J.g fun K4 hK4 => J.b rfl <| J.f (qAz rfl rfl rfl) rfl <| J.c hK4 <| J.G 3 11 ?_
  refine J.a0 rfl (fun h11 => ?_) (fun h11 => ?_)
  ·
    refine J.g fun K5 hK5 => J.b rfl <| J.c hK5 <| J.u 2 ?_
    exact J.D <| J.Z <| J.H hw0 rfl () (by unfold Hd.dig; rw [if_neg (by omega)]) trivial [0] rfl (by decide)
  refine J.a1 hK3 <| J.u 3 ?_
  refine J.p fun K6 hK6 => ?_
  have e0 : x.err = 0 := by omega
  refine J.M <| J.f ((qAv rfl rfl).as (v' := Str x.bytes) (congrArg Str (enc_0 e0))) rfl <| J.q (qAH (l := [.tmp 12]) (xs := [[Str (x.bytes)]]) rfl rfl rfl rfl qAo el9 rfl (by decide) (by decide) (by simp)) rfl fun g13 _ => ?_
  change J _ _ _ [F, blk g1 [N64 x.ep, Str x.par, I x.dep, I x.aud, .slice A x.nodes.length c] 39, blk g13 [Str (x.bytes)] 9] _
  refine J.q (qAC rfl rfl ent44 (Ct.use0 (fun F' hF => qA4 F' (hK.mono (hF _ (by simp))) 14 (some ⟨g13, 0, none⟩) 1 1 [x.bytes] ((slS [x.bytes] rfl).mono (hF (blk g13 (([x.bytes] : List (List UInt8)).map fun s => Str s) 9) (by simp))) (by have := qNp e0; simp; omega) (by decide)))) rfl fun g14 _ => J.b rfl <| J.c hK6 <| J.u 2 ?_
  exact J.D <| J.H hw0 rfl () (by unfold Hd.dig; rw [if_pos e0]) trivial [0] rfl (by decide)
def Hd.next (x y : Hd) : Int := if y.err ≠ 0 then y.err else if y.ep = 0 ∨ y.ep - 1 ≠ x.ep then 14 else if x.dig = [] ∨ y.par ≠ x.dig then 15 else if y.dep ≠ x.dep ∨ y.aud < x.aud then 22 else 0
def Hd.same (x y : Hd) : Prop := x.err = 0 ∧ y.err = 0 ∧ x.enc = y.enc
instance (x y : Hd) : Decidable (x.same y) := by unfold Hd.same; infer_instance
theorem qTe {x y : Hd} (h : y.err ≠ 0) : x.next y = y.err := if_pos h
theorem qQh {x y : Hd} (h : ¬ y.err ≠ 0) (h2 : y.ep = 0 ∨ y.ep - 1 ≠ x.ep) : x.next y = 14 := by unfold Hd.next; rw [if_neg h, if_pos h2]
theorem qQg {x y : Hd} (h : ¬ y.err ≠ 0) (h2 : ¬ (y.ep = 0 ∨ y.ep - 1 ≠ x.ep)) (h3 : x.dig = [] ∨ y.par ≠ x.dig) : x.next y = 15 := by unfold Hd.next; rw [if_neg h, if_neg h2, if_pos h3]
theorem qQf {x y : Hd} (h : ¬ y.err ≠ 0) (h2 : ¬ (y.ep = 0 ∨ y.ep - 1 ≠ x.ep)) (h3 : ¬ (x.dig = [] ∨ y.par ≠ x.dig)) (h4 : y.dep ≠ x.dep ∨ y.aud < x.aud) : x.next y = 22 := by unfold Hd.next; rw [if_neg h, if_neg h2, if_neg h3, if_pos h4]
theorem qQe {x y : Hd} (h : ¬ y.err ≠ 0) (h2 : ¬ (y.ep = 0 ∨ y.ep - 1 ≠ x.ep)) (h3 : ¬ (x.dig = [] ∨ y.par ≠ x.dig)) (h4 : ¬ (y.dep ≠ x.dep ∨ y.aud < x.aud)) : x.next y = 0 := by unfold Hd.next; rw [if_neg h, if_neg h2, if_neg h3, if_neg h4]
theorem qPn (F : Hp) (hK : KF F) (x : Hd) (A : Option Addr) (c : Nat) (hg : x.good) (hsl : Sl F 1 A x.nodes.length c (qAJ x.nodes)) (y : Hd) (B : Option Addr) (e : Nat) (hgy : y.good) (hsy : Sl F 1 B y.nodes.length e (qAJ y.nodes)) :
    Ct prog 49 [.agg #[N64 x.ep, Str x.par, I x.dep, I x.aud, .slice A x.nodes.length c], .agg #[N64 y.ep, Str y.par, I y.dep, I y.aud, .slice B y.nodes.length e]] [F] (fun _ : Unit => I (x.next y)) (fun _ => True) (fun _ => [F]) := by
  obtain ⟨hgx1, hgx2, hgx3⟩ := id hg
  obtain ⟨hgy1, hgy2, hgy3⟩ := id hgy
  refine Ct.walk func49 rfl ntmps49 rfl (fun w0 hw0 => ?_)
  change J _ [(0, _), (1, _)] _ _ _
  refine J.g fun K1 hK1 => J.q (qAi rfl rfl (l := [N64 x.ep, Str x.par, I x.dep, I x.aud, .slice A x.nodes.length c]) rfl) rfl fun g2 _ => ?_
  change J _ _ _ [F, blk g2 [N64 x.ep, Str x.par, I x.dep, I x.aud, .slice A x.nodes.length c] 39] _
  refine J.q (qAi rfl rfl (l := [N64 y.ep, Str y.par, I y.dep, I y.aud, .slice B y.nodes.length e]) rfl) rfl fun g3 _ => ?_
  change J _ _ _ [_, _, blk g3 [N64 y.ep, Str y.par, I y.dep, I y.aud, .slice B y.nodes.length e] 39] _
  refine J.b rfl <| J.c hK1 <| J.G 2 3 ?_
  refine J.p fun K2 hK2 => J.c0 [F, blk g2 [N64 x.ep, Str x.par, I x.dep, I x.aud, .slice A x.nodes.length c] 39, blk g3 [N64 y.ep, Str y.par, I y.dep, I y.aud, .slice B y.nodes.length e] 39] [] (.y 0 (.y 2 (.e 1 (.e 3 (.y 4 (.y 5 .nil)))))) Tryz.wide (by decide +kernel) (by simp) ?_
  refine J.k rfl (qAg 2 rfl rfl rfl qDR qBf rfl) rfl rfl <| J.k rfl (qAg 1 rfl rfl rfl qDR qBf rfl) rfl rfl <| J.a2 rfl (qAC rfl rfl ent82 (Ct.use0 (fun F' hF => qIE F' y B e hgy (hsy.mono (hF F (by simp)))))) rfl (by simp) fun g8 _ => J.a2 rfl (qAC rfl rfl ent11 (Ct.use0 (fun F' hF => qBV F' (hK.mo hF) x A c hg (hsl.mono (hF F (by simp)))))) rfl (by simp) fun g10 _ => J.c1 ?_
  refine J.c1 ?_
  refine J.b3 <| J.A (J.L hK2 ?_)
  refine J.T 2 3 5 6 ?_
  refine J.p fun K3 hK3 => J.W <| J.g fun K4 hK4 => J.b rfl <| J.f (qAz rfl rfl rfl) rfl <| J.b rfl <| J.c hK4 <| J.a3 2 3 5 6 11 ?_
  refine J.a0 rfl (fun h11 => ?_) (fun h11 => ?_)
  ·
    refine J.g fun K5 hK5 => J.j 2 rfl <| J.c hK5 <| J.u 4 ?_
    exact J.D <| J.a9 <| J.Z <| J.H hw0 rfl () (congrArg I (qTe (by omega)).symm) trivial [0] rfl (by decide)
  refine J.g fun K6 hK6 => J.a7 0 qDy qGc rfl rfl rfl rfl rfl <| J.d2 2 qLX rfl rfl rfl rfl rfl <| J.f (qAa rfl rfl rfl) rfl <| J.b rfl <| J.c2 (d := 19) rfl (fun h19 => ?_) (fun h19 => ?_)
  ·
    refine J.j 8 rfl <| J.c hK6 <| J.T 2 3 6 15 ?_
    refine J.c9 ?_
    refine J.g fun K7 hK7 => J.b rfl <| J.c hK7 <| J.u 4 ?_
    exact J.D <| J.a9 <| J.Z <| J.H hw0 rfl () (congrArg I (qQh (by omega) (by omega)).symm) trivial [0] rfl (by decide)
  refine J.E (qAA (j := 0) rfl rfl qDy rfl qGc rfl) rfl <| J.E (qAE 2 rfl rfl rfl qLX rfl) rfl <| J.E (qRu (b := 1) rfl rfl rfl (by omega)) rfl <| J.E (qAA (j := 0) rfl rfl qDy rfl qGc rfl) rfl <| J.E (qAE 1 rfl rfl rfl qLX rfl) rfl <| J.E (qAz rfl rfl rfl) rfl <| J.j 2 rfl <| J.c hK6 <| J.T 2 3 6 15 ?_
  refine J.a0 rfl (fun h15 => ?_) (fun h15 => ?_)
  ·
    refine J.g fun K8 hK8 => J.b rfl <| J.c hK8 <| J.u 4 ?_
    exact J.D <| J.a9 <| J.Z <| J.H hw0 rfl () (congrArg I (qQh (by omega) (by omega)).symm) trivial [0] rfl (by decide)
  refine J.g fun K9 hK9 => J.b rfl <| J.f (qBH rfl rfl rfl) rfl <| J.b rfl <| J.c2 (d := 30) rfl (fun h30 => ?_) (fun h30 => ?_)
  ·
    refine J.j 6 rfl <| J.c hK9 <| J.O 2 3 27 ?_
    refine J.c9 ?_
    refine J.g fun K10 hK10 => J.b rfl <| J.c hK10 <| J.u 4 ?_
    exact J.D <| J.a9 <| J.Z <| J.H hw0 rfl () (congrArg I (qQg (by omega) (by omega) (.inl h30)).symm) trivial [0] rfl (by decide)
  refine J.E (qAA (j := 1) rfl rfl qDy rfl z9_ rfl) rfl <| J.E (qAE 2 rfl rfl rfl b9_ rfl) rfl <| J.b rfl <| J.E (qJr rfl rfl rfl) rfl <| J.j 2 rfl <| J.c hK9 <| J.O 2 3 27 ?_
  refine J.a0 rfl (fun h27 => ?_) (fun h27 => ?_)
  ·
    refine J.g fun K11 hK11 => J.b rfl <| J.c hK11 <| J.u 4 ?_
    exact J.D <| J.a9 <| J.Z <| J.H hw0 rfl () (congrArg I (qQg (by omega) (by omega) (.inr h27)).symm) trivial [0] rfl (by decide)
  refine J.g fun K12 hK12 => J.a7 2 qDy z3_ rfl rfl rfl rfl rfl <| J.d2 2 b3_ rfl rfl rfl rfl rfl <| J.a7 2 qDy z3_ rfl rfl rfl rfl rfl <| J.d2 1 b3_ rfl rfl rfl rfl rfl <| J.f (qAz rfl rfl rfl) rfl <| J.b rfl <| J.c2 (d := 42) rfl (fun h42 => ?_) (fun h42 => ?_)
  ·
    refine J.j 7 rfl <| J.c hK12 <| J.u 36 ?_
    refine J.c9 ?_
    refine J.g fun K13 hK13 => J.b rfl <| J.c hK13 <| J.u 4 ?_
    exact J.D <| J.a9 <| J.Z <| J.H hw0 rfl () (congrArg I (qQf (by omega) (by omega) (fun h => h.elim h30 h27) (by omega)).symm) trivial [0] rfl (by decide)
  refine J.E (qAA (j := 3) rfl rfl qDy rfl z3_ rfl) rfl <| J.E (qAE 2 rfl rfl rfl b3_ rfl) rfl <| J.E (qAA (j := 3) rfl rfl qDy rfl z3_ rfl) rfl <| J.E (qAE 1 rfl rfl rfl b3_ rfl) rfl <| J.E (qAX rfl rfl rfl) rfl <| J.j 2 rfl <| J.c hK12 <| J.u 36 ?_
  refine J.a0 rfl (fun h36 => ?_) (fun h36 => ?_)
  ·
    refine J.g fun K14 hK14 => J.b rfl <| J.c hK14 <| J.u 4 ?_
    exact J.D <| J.a9 <| J.Z <| J.H hw0 rfl () (congrArg I (qQf (by omega) (by omega) (fun h => h.elim h30 h27) (by omega)).symm) trivial [0] rfl (by decide)
  refine J.b9 <| J.a5 <| J.A (J.L hK3 ?_)
  refine J.c7 [] trivial <| J.g fun K15 hK15 => J.b rfl <| J.c hK15 <| J.u 4 ?_
  exact J.D <| J.H hw0 rfl () (congrArg I (qQe (by omega) (by omega) (fun h => h.elim h30 h27) (by omega)).symm) trivial [0] rfl (by decide)
theorem el40 : qDu prog 40 [.slice none 0 0] 24 := qDu.of (by kernel_rfl) rfl
theorem qDO {l : List Int} {k : Nat} (h : k < l.length) : (qEn l)[k]? = some [I (l.getD k 0)] := by
 unfold qEn
 rw [List.getElem?_map, List.getElem?_eq_getElem h, List.getD_eq_getElem?_getD, List.getElem?_eq_getElem h]; rfl
structure WnD where
 lA : Option Addr
 lc : Nat
 l : List Int
def WnD.cells (x : WnD) : List Value := [.slice x.lA x.l.length x.lc]
def qB0 : WnD := ⟨none, 0, []⟩
def qKV (l : List WnD) : List (List Value) := l.map WnD.cells
theorem qJU {l : List WnD} {k : Nat} (h : k < l.length) : (qKV l)[k]? = some (l.getD k qB0).cells := by
 unfold qKV
 rw [List.getElem?_map, qAl qB0 h]; rfl
theorem qLn (a : List WnD) (x : WnD) : qKV (a ++ [x]) = qKV a ++ [x.cells] := by simp [qKV]
theorem qGU {α : Type} (l : List α) (x no : α) (j : Nat) (h : j < l.length + 1) : (l ++ [x]).getD j no = if j < l.length then l.getD j no else x := by
  rw [List.getD_eq_getElem?_getD]
  by_cases hlt : j < l.length
  · rw [if_pos hlt, List.getElem?_append_left hlt, ← List.getD_eq_getElem?_getD]
  · obtain rfl : j = l.length := by omega
    rw [if_neg hlt, List.getElem?_append_right (Nat.le_refl _), Nat.sub_self]; rfl
theorem qBL {a b : Hp} (h : Dj a b) : Le a (U [a, b]) := qHJ (qAT.2 (by simpa using h)) (.head _)
theorem qDV {a b : Hp} (h : Dj a b) : Le b (U [a, b]) := qHJ (qAT.2 (by simpa using h)) (.tail _ (.head _))
def qDt (G : Hp) (W : Nat → List Int) (sl : Nat) (ws : List WnD) : Prop := ∀ b, b < ws.length → (ws.getD b qB0).l = (W b).take sl ∧ (ws.getD b qB0).l.length = sl ∧ Sl G 1 (ws.getD b qB0).lA (ws.getD b qB0).l.length (ws.getD b qB0).lc (qEn (ws.getD b qB0).l)
theorem qDt.mono {G G' : Hp} {W : Nat → List Int} {sl : Nat} {ws : List WnD} (h : qDt G W sl ws) (hl : Le G G') : qDt G' W sl ws := fun b hb => ⟨(h b hb).1, (h b hb).2.1, (h b hb).2.2.mono hl⟩
theorem qDt.nil (G : Hp) (W : Nat → List Int) (sl : Nat) : qDt G W sl [] := fun b h => absurd h (Nat.not_lt_zero b)
theorem qDt.snoc {G : Hp} {W : Nat → List Int} {sl : Nat} {ws : List WnD} {x : WnD} (h : qDt G W sl ws) (h1 : x.l = (W ws.length).take sl) (h2 : x.l.length = sl) (h3 : Sl G 1 x.lA x.l.length x.lc (qEn x.l)) : qDt G W sl (ws ++ [x]) := fun b hb => by
 rw [List.length_append, List.length_singleton] at hb
 rw [qGU ws x qB0 b hb]
 split
 · exact h b (by omega)
 · rw [show b = ws.length by omega]; exact ⟨h1, h2, h3⟩
def qSx (dg : List UInt8) (n a sl : Nat) (W : Nat → List Int) : Prop := ∀ b, b < n → ∃ st, Wd.wins 1 a (Sha.Strm.new (Wd.seedOf dg b)) sl = some (W b, st)
theorem qJV {fuel a : Nat} {s0 : Sha.Strm} : ∀ {k : Nat} {x : List Int × Sha.Strm}, Wd.wins fuel a s0 k = some x → x.1.length = a
 | 0, x, h => by
  have : (Wd.start a, s0) = x := Option.some.inj h
  rw [← this]; simp [Wd.start]
 | k + 1, x, h => by
  obtain ⟨z, hz, h2⟩ := Option.bind_eq_some_iff.1 (show (Wd.wins fuel a s0 k).bind _ = some x from h)
  obtain ⟨y, _, h3⟩ := Option.map_eq_some_iff.1 h2
  rw [← h3]
  dsimp only
  rw [List.length_set, List.length_set]; exact qJV hz
structure WnR where
 A : Option Addr
 c : Nat
 mr : Hp
 G : Hp
 ws : List WnD
structure WnP (W : Nat → List Int) (n sl : Nat) (r : WnR) : Prop where
 len : r.ws.length = n
 row : Row r.mr 40 1 r.A r.ws.length r.c (qKV r.ws)
 ok : qDt r.G W sl r.ws
theorem qRS {g a sl : Nat} {l : List Int} (hl : l.length = a) (hs : sl ≤ a) : Sl (blk g (l.map fun x => I x) 3) 1 (some ⟨g, 0, none⟩) (l.take sl).length sl (qEn (l.take sl)) := by
  refine ⟨by simp [qEn], by rw [List.length_take]; omega, fun i x hx => ?_⟩
  unfold qEn at hx
  rw [List.getElem?_map, List.getElem?_take] at hx
  split at hx
  · rename_i hi
    cases hq : l[i]? with
    | none => rw [hq] at hx; cases hx
    | some v =>
      rw [hq] at hx
      have hx2 : [I v] = x := Option.some.inj hx
      subst hx2
      refine ⟨rfl, ⟨g, 0, none⟩, rfl, ?_⟩
      rw [Addr.add_lit]
      exact qAS.blk1 (0 + i * 1) (by rw [List.getElem?_map, Nat.zero_add, Nat.mul_one, hq]; rfl)
  · cases hx
theorem qF6 (F : Hp) (hK : KF F) (x : Hd) (A : Option Addr) (c : Nat) (hg : x.good) (hsl : Sl F 1 A x.nodes.length c (qAJ x.nodes)) (d a sl nd : Nat) (hd : d ≤ 4) (hxd : x.dep = ((d : Nat) : Int)) (hx : x.err = 0) (h1 : 1 ≤ nd) (h2 : nd ≤ sl) (h3 : sl ≤ a) (h4 : a ≤ 64) (W : Nat → List Int) (hW : qSx x.dig (2 ^ d) a sl W) :
    Ct prog 9 [.agg #[N64 x.ep, Str x.par, I x.dep, I x.aud, .slice A x.nodes.length c], I ((a : Nat) : Int), .agg #[I ((sl : Nat) : Int), I ((nd : Nat) : Int)]] [F] (fun r : WnR => .tuple #[.slice r.A r.ws.length r.c, I 0]) (WnP W (2 ^ d) sl) (fun r => [F, r.mr, r.G]) := by
  have hdl := qAs hx
  have hdn : x.dig ≠ [] := fun e => by rw [e] at hdl; exact absurd hdl (by decide)
  have hpw := qS0 hd
  have hcn := qEX hd
  refine Ct.walk func9 rfl ntmps9 rfl (fun w0 hw0 => ?_)
  change J _ [(0, _), (1, _), (2, _)] _ _ _
  refine J.g fun K1 hK1 => J.q (qAi (l := [N64 x.ep, Str (x.par), I (x.dep), I (x.aud), .slice A x.nodes.length c]) rfl rfl rfl) rfl fun g3 _ => ?_
  change J _ _ _ [F, blk g3 [N64 x.ep, Str (x.par), I (x.dep), I (x.aud), .slice A x.nodes.length c] 39] _
  refine J.q (qAi (l := [I ((sl : Nat) : Int), I ((nd : Nat) : Int)]) rfl rfl rfl) rfl fun g5 _ => ?_
  change J _ _ _ [_, _, blk g5 [I ((sl : Nat) : Int), I ((nd : Nat) : Int)] 26] _
  refine J.j 2 rfl <| J.c hK1 <| J.O 1 3 5 ?_
  refine J.g fun K2 hK2 => J.c5 1 qDR qBf rfl rfl rfl rfl rfl <| J.q (qAC rfl rfl ent11 (Ct.use0 (fun F' hF => qBV F' (hK.mo hF) x A c hg (hsl.mono (hF F (by simp)))))) rfl fun g14 _ => J.b rfl <| J.c hK2 <| J.T 1 3 5 8 ?_
  refine J.p fun K3 hK3 => J.g fun K4 hK4 => J.b rfl <| J.f ((qBH rfl rfl rfl).no (hdn)) rfl <| J.b rfl <| J.E (qAA (j := 1) rfl rfl qHg rfl z3_ rfl) rfl <| J.E (qAE 2 (v := I ((nd : Nat) : Int)) rfl rfl rfl b3_ rfl) rfl <| J.E ((qAX rfl rfl rfl).no (by omega)) rfl <| J.j 2 rfl <| J.E (qAA (j := 1) rfl rfl qHg rfl z3_ rfl) rfl <| J.E (qAE 2 (v := I ((nd : Nat) : Int)) rfl rfl rfl b3_ rfl) rfl <| J.E (qAA (j := 0) rfl rfl qHg rfl z3_ rfl) rfl <| J.E (qAE 2 (v := I ((sl : Nat) : Int)) rfl rfl rfl b3_ rfl) rfl <| J.E ((qBQ rfl rfl rfl).no (by omega)) rfl <| J.b rfl <| J.c hK4 <| J.a3 1 3 5 8 28 ?_
  refine J.b2 ?_
  refine J.a1 hK3 <| J.T 1 3 5 8 ?_
  refine J.g fun K5 hK5 => J.b rfl <| J.c hK5 <| J.a3 1 3 5 8 9 ?_
  refine J.p fun K6 hK6 => J.g fun K7 hK7 => J.a7 2 qDy z3_ rfl rfl rfl rfl rfl <| J.f (qAE 1 (v := I (x.dep)) rfl rfl rfl b3_ rfl) rfl <| J.q (qAC rfl rfl ent38 (Ct.use0 (fun F' hF => (by have := qDG F' x.dep; rw [hxd, hcn] at this; rw [hxd]; exact this)))) rfl fun g31 _ => J.b rfl <| J.c hK7 <| J.b1 1 5 8 9 31 32 ?_
  refine J.W <| J.b6 (X := Nat × List WnD × Option Addr × Nat × Hp × Hp) (fun ζ => [(1, I ((a : Nat) : Int)), (5, Ptr g5), (8, Str (x.dig)), (9, .slice ζ.2.2.1 ζ.2.1.length ζ.2.2.2.1), (31, I ((2 ^ d : Nat) : Int)), (32, I ((ζ.1 : Nat) : Int))]) (fun ζ => [ζ.2.2.2.2.2, F, blk g3 [N64 x.ep, Str (x.par), I (x.dep), I (x.aud), .slice A x.nodes.length c] 39, blk g5 [I ((sl : Nat) : Int), I ((nd : Nat) : Int)] 26, ζ.2.2.2.2.1]) (fun ζ => ζ.1 ≤ 2 ^ d ∧ ζ.2.1.length = ζ.1 ∧ Row ζ.2.2.2.2.1 40 1 ζ.2.2.1 ζ.2.1.length ζ.2.2.2.1 (qKV ζ.2.1) ∧ qDt ζ.2.2.2.2.2 W sl ζ.2.1) (fun ζ => 2 ^ d - ζ.1) (0, [], none, 0, (fun _ => none), (fun _ => none)) (⟨Nat.zero_le _, rfl, qCA.nil, qDt.nil _ _ _⟩) ⟨rfl, rfl, rfl, rfl, rfl, rfl, trivial⟩ (fun _ h => h.empty.empty.pick [3, 0, 1, 2, 4] (by decide)) ?_
  rintro ⟨i, ws, Ar, cr, mr, G⟩ ⟨hi, hwsl, hrw, hok⟩ I0 hI0
  dsimp only at hi hwsl hrw hok ⊢
  refine J.g fun K8 hK8 => J.f (qAX rfl rfl rfl) rfl <| J.c hK8 <| J.c3 1 5 8 9 31 32 33 ?_
  refine J.p fun K9 hK9 => J.a0 rfl (fun h33 => ?_) (fun h33 => ?_)
  ·
    refine J.a1 hK9 <| J.b1 1 5 8 9 31 32 ?_
    refine J.p fun K10 hK10 => J.W <| J.g fun K11 hK11 => J.j 2 rfl <| J.c hK11 <| J.c3 1 5 8 9 10 31 32 ?_
    refine J.p fun K12 hK12 => ?_
    obtain ⟨st, hst⟩ := hW i (by omega)
    refine J.M <| J.j 3 rfl <| J.a7 0 qHg z3_ rfl rfl rfl rfl rfl <| J.f (qAE 3 (v := I ((sl : Nat) : Int)) rfl rfl rfl b3_ rfl) rfl <| J.q (qAC rfl rfl ent39 (Ct.use (new := fun g : Nat => [blk g ((W i).map fun x => I x) 3]) (fun F' hF => of_ct F' (hK.mo hF) x.dig (by rw [hdl]; decide) i a sl (by omega) h4 (by omega) h3 1 (W i) st hst))) rfl ?_
    rintro g41 _
    change J _ ((41, .tuple #[.slice (some ⟨g41, 0, none⟩) sl sl, I 0]) :: _) _ [G, F, blk g3 [N64 x.ep, Str (x.par), I (x.dep), I (x.aud), .slice A x.nodes.length c] 39, blk g5 [I ((sl : Nat) : Int), I ((nd : Nat) : Int)] 26, mr, blk g41 ((W i).map fun x => I x) 3] _
    have hwl : (W i).length = a := qJV hst
    have htl : ((W i).take sl).length = sl := by rw [List.length_take]; omega
    rw [show (Value.slice (some ⟨g41, 0, none⟩) sl sl) = .slice (some ⟨g41, 0, none⟩) ((W i).take sl).length sl by rw [htl]]
    refine J.j 5 rfl <| J.c hK12 <| J.d8 1 5 8 9 11 12 31 32 ?_
    refine J.p fun K13 hK13 => J.g fun K14 hK14 => J.b rfl <| J.f ((qAz rfl rfl rfl).no (by decide)) rfl <| J.c hK14 <| J.e4 1 5 8 9 11 12 31 32 45 ?_
    refine J.b2 ?_
    refine J.a1 hK13 <| J.c3 1 5 8 9 11 31 32 ?_
    obtain ⟨wx, hwx⟩ : ∃ x : WnD, x = ⟨(some ⟨g41, 0, none⟩), sl, (W i).take sl⟩ := ⟨_, rfl⟩
    refine J.M <| J.j 2 rfl <| J.q (qAH (l := [.tmp 48]) (xs := [[.slice (some ⟨g41, 0, none⟩) (((W i).take sl).length) sl]]) rfl rfl rfl rfl qRB el40 rfl (by decide) (by decide) (by simp)) rfl fun g49 _ => ?_
    change J _ _ _ [_, _, _, _, _, _, blk g49 [.slice (some ⟨g41, 0, none⟩) (((W i).take sl).length) sl] 40] _
    refine J.q (qAY (i := 4) (xs := qKV ws) (m2 := blk g49 [.slice (some ⟨g41, 0, none⟩) (((W i).take sl).length) sl] 40) (ys := [[.slice (some ⟨g41, 0, none⟩) (((W i).take sl).length) sl]]) rfl rfl rfl qRB qRB el40 rfl hrw (by simp) ((qAn (q := True) (xs := qKV [(⟨(some ⟨g41, 0, none⟩), sl, ((W i).take sl)⟩ : WnD)]) rfl (by intro x hx; rw [List.mem_singleton.1 hx]; rfl)).sl) rfl (by omega) (by omega)) rfl ?_
    rintro ⟨A50, c50, m50⟩ h50
    try dsimp only at h50
    change J _ ((50, .slice A50 (ws.length + 1) c50) :: _) _ [_, _, _, _, m50, _, _] _
    replace h50 : Row m50 40 1 A50 (ws.length + 1) c50 (qKV (ws ++ [wx])) := by rw [qLn, hwx]; exact h50
    rw [show ws.length + 1 = (ws ++ [wx]).length by rw [List.length_append]; rfl] at h50 ⊢
    refine J.b rfl <| J.c4 [0, 5, 1, 2, 3, 4] [G, blk g41 ((W i).map fun x => I x) 3, F, blk g3 [N64 x.ep, Str (x.par), I (x.dep), I (x.aud), .slice A x.nodes.length c] 39, blk g5 [I ((sl : Nat) : Int), I ((nd : Nat) : Int)] 26, m50] rfl (by decide) <| J.c6 (fun hj => ?_)
    refine J.a6 <| J.a5 <| J.A (J.L hK10 ?_)
    refine J.b1 1 5 8 9 31 32 ?_
    exact J.M <| J.f ((qAU rfl rfl rfl (by omega)).nat (i + 1) (by omega)) rfl <| J.b rfl <| J.a6 <| J.A <| J.a8 (i + 1, ws ++ [wx], A50, c50, m50, U [G, blk g41 ((W i).map fun x => I x) 3]) (fun η (hη : _ ∧ 2 ^ d - η.1 < 2 ^ d - i) => hI0 η hη.1 hη.2) ⟨⟨by dsimp only; omega, by dsimp only; rw [List.length_append, hwsl]; rfl, h50, (hok.mono (qBL hj)).snoc (by rw [hwx, hwsl]) (by rw [hwx]; exact htl) (by rw [hwx]; exact (qRS hwl h3).mono (qDV hj))⟩, by first | omega | (dsimp only; omega)⟩ ⟨rfl, rfl, rfl, rfl, rfl, rfl, trivial⟩ (fun _ h => h)
  refine J.b5 <| J.a4 <| J.a4 <| J.b7 ?_
  refine J.A (J.L hK6 ?_)
  refine J.u 9 ?_
  refine J.g fun K15 hK15 => J.j 3 rfl <| J.c hK15 <| J.G 6 7 ?_
  exact J.D <| J.b8 hw0 (fun _ _ h => h) (qCx rfl rfl rfl) (qA6 (⟨Ar, cr, mr, G, ws⟩ : WnR) rfl ⟨by dsimp only; omega, hrw, hok⟩ [1, 4, 0] rfl (by decide))
end Go.Proofs.YtfldiegfenndjaaGreatDoor
