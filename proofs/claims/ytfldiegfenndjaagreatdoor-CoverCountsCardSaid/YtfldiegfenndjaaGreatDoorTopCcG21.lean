/- A part of the proof. -/
import Derived.Test.YtfldiegfenndjaaGreatDoorTopCcG8
import Derived.Test.YtfldiegfenndjaaGreatDoorTopCcG19
import Derived.Test.YtfldiegfenndjaaGreatDoorTopCcG20
import Derived.Test.YtfldiegfenndjaaGreatDoorTopCcG6
set_option linter.unusedSimpArgs false
set_option linter.unusedVariables false
namespace Go.Proofs.YtfldiegfenndjaaGreatDoor
open Go Go.Fw Go.Proofs.Tryz
set_option maxRecDepth 100000
set_option maxHeartbeats 1000000
theorem qJR {s bs : List UInt8} (h : s.length ≤ 4096) : qL5 s bs 0 = bs ++ Sha.numB (UInt64.ofNat s.length) 2 ++ s ∧ qCp (okT s) 2 0 = 0 := by
 have h1 : okT s = true := decide_eq_true h
 unfold qL5
 rw [h1, qDH, if_pos rfl]
 exact ⟨rfl, rfl⟩
structure Hd where
 ep : Nat
 par : List UInt8
 dep : Int
 aud : Int
 nodes : List (List UInt8)
def qDj (s : List UInt8) : Prop := s = [0] ∨ (s.length = 17 ∧ (s.getD 0 0 = 1 ∨ s.getD 0 0 = 2))
instance (s : List UInt8) : Decidable (qDj s) := by unfold qDj; infer_instance
def Hd.cells (x : Hd) (A : Option Addr) (c : Nat) : List Value := [N64 x.ep, Str x.par, I x.dep, I x.aud, .slice A x.nodes.length c]
def Hd.out (x : Hd) : Prop := 4294967295 < x.ep ∨ x.par.length ≠ 16 ∨ cnt x.dep = 0 ∨ x.aud < 0 ∨ 64 < x.aud
instance (x : Hd) : Decidable x.out := by unfold Hd.out; infer_instance
def Hd.err (x : Hd) : Int := if x.out then 10 else if x.nodes.length ≠ cnt x.dep then 22 else if ∀ s ∈ x.nodes, qDj s then 0 else 4
def ndB (s : List UInt8) : List UInt8 := Sha.numB (UInt64.ofNat s.length) 2 ++ s
def Hd.bytes (x : Hd) : List UInt8 := Sha.numB (UInt64.ofNat x.ep) 4 ++ x.par ++ [UInt8.ofNat x.dep.toNat] ++ [UInt8.ofNat x.aud.toNat] ++ (x.nodes.map ndB).flatten
def Hd.enc (x : Hd) : List UInt8 := if x.err = 0 then x.bytes else []
def Hd.dig (x : Hd) : List UInt8 := if x.err = 0 then Sha.tagged 14 [x.bytes] else []
def Hd.good (x : Hd) : Prop := x.ep < 18446744073709551616 ∧ x.par.length ≤ 1048576 ∧ x.nodes.length ≤ 1073741824
theorem qIH {x : Hd} (h : x.out) : x.err = 10 := if_pos h
theorem qUF {x : Hd} (h : ¬ x.out) (h2 : x.nodes.length ≠ cnt x.dep) : x.err = 22 := by unfold Hd.err; rw [if_neg h, if_pos h2]
theorem err_4 {x : Hd} (h : ¬ x.out) (h2 : ¬ x.nodes.length ≠ cnt x.dep) {s : List UInt8} (hs : s ∈ x.nodes) (hn : ¬ qDj s) : x.err = 4 := by unfold Hd.err; rw [if_neg h, if_neg h2, if_neg (fun e => hn (e s hs))]
theorem qUG {x : Hd} (h : ¬ x.out) (h2 : ¬ x.nodes.length ≠ cnt x.dep) (hs : ∀ s ∈ x.nodes, qDj s) : x.err = 0 := by unfold Hd.err; rw [if_neg h, if_neg h2, if_pos hs]
theorem qNq {x : Hd} (h : x.err = 0) : ¬ x.out ∧ x.nodes.length = cnt x.dep ∧ ∀ s ∈ x.nodes, qDj s := by
  unfold Hd.err at h
  split at h
  · omega
  · rename_i h1
    split at h
    · omega
    · rename_i h2
      split at h
      · rename_i h3; exact ⟨h1, Decidable.not_not.1 h2, h3⟩
      · omega
theorem qJ5 {s : List UInt8} (h : qDj s) : s.length ≤ 17 := by
 rcases h with rfl | ⟨h, _⟩
 · decide
 · omega
theorem qTH {l : List (List UInt8)} {p : List UInt8 → Prop} {k : Nat} (h : k < l.length) (h1 : ∀ s ∈ l.take k, p s) (h2 : p (l.getD k [])) : ∀ s ∈ l.take (k + 1), p s := fun s hs => by
  rw [List.take_succ_eq_append_getElem h] at hs
  rcases List.mem_append.1 hs with h3 | h3
  · exact h1 s h3
  · rw [List.mem_singleton] at h3
    rw [h3]
    rw [List.getD_eq_getElem?_getD, List.getElem?_eq_getElem h] at h2
    exact h2
theorem qNl {l : List (List UInt8)} {k : Nat} (h : k < l.length) : l.getD k [] ∈ l := by
 rw [List.getD_eq_getElem?_getD, List.getElem?_eq_getElem h]
 exact List.getElem_mem h
theorem u8eq {c : UInt8} (k : UInt8) : ((c.toNat : Int) = (k.toNat : Int)) ↔ c = k := ⟨fun h => UInt8.toNat_inj.1 (by omega), fun h => by rw [h]⟩
theorem qQB (F : Hp) (s : List UInt8) : Ct prog 137 [Str s] [F] (fun _ : Unit => .bool (decide (qDj s))) (fun _ => True) (fun _ => [F]) := by
 refine Ct.walk func137 rfl ntmps137 rfl (fun w0 hw0 => ?_)
 refine J.g fun K1 hK1 => J.b rfl <| J.c hK1 <| J.A 0 ?_
 refine J.g fun K2 hK2 => J.b rfl <| J.f (qBM rfl rfl rfl) rfl <| J.b rfl <| J.c3 (d := 5) rfl (fun h5 => ?_) (fun h5 => ?_)
 ·
  refine J.p 4 rfl <| J.c9 (Wan.un rfl rfl rfl rfl) rfl rfl ?_
  refine J.c9 (Wan.un rfl rfl rfl rfl) rfl rfl ?_
  refine J.c9 (Wan.un rfl rfl rfl rfl) rfl rfl ?_
  refine J.c9 (Wan.un rfl rfl rfl rfl) rfl rfl ?_
  refine J.c9 (Wan.un rfl rfl rfl rfl) rfl rfl ?_
  refine J.c9 (Wan.un rfl rfl rfl rfl) rfl rfl ?_
  refine J.c9 (Wan.un rfl rfl rfl rfl) rfl rfl ?_
  refine J.c9 (Wan.un rfl rfl rfl rfl) rfl rfl ?_
  refine J.p 3 rfl <| J.c hK2 <| J.A 2 ?_
  exact J.D <| J.L hw0 rfl () (congrArg Value.bool (decide_eq_true (show qDj s from .inl h5)).symm) trivial [0] rfl (by decide)
 refine J.b rfl <| J.O (qA0 u9_ rfl rfl) rfl <| J.O (qAd rfl rfl rfl) rfl <| J.b rfl <| J.c3 (d := 9) rfl (fun h9 => ?_) (fun h9 => ?_)
 ·
  refine J.b rfl <| J.O (qBS (i := 0) (c := s.getD 0 0) u9_ rfl rfl rfl (by rw [List.getD_eq_getElem?_getD, List.getElem?_eq_getElem (show 0 < s.length by omega)]; rfl)) rfl ?_
  refine J.O (qAd rfl rfl rfl) rfl <| J.b rfl <| J.c3 (d := 13) rfl (fun h13 => ?_) (fun h13 => ?_)
  ·
   refine J.p 7 rfl <| J.c hK2 <| J.A 2 ?_
   exact J.D <| J.L hw0 rfl () (congrArg Value.bool (decide_eq_true (show qDj s from .inr ⟨by omega, .inl ((u8eq 1).1 h13)⟩)).symm) trivial [0] rfl (by decide)
  refine J.b rfl <| J.O (qBS (i := 0) (c := s.getD 0 0) u9_ rfl rfl rfl (by rw [List.getD_eq_getElem?_getD, List.getElem?_eq_getElem (show 0 < s.length by omega)]; rfl)) rfl ?_
  refine J.O (qAd rfl rfl rfl) rfl <| J.p 4 rfl <| J.c hK2 <| J.A 2 ?_
  exact J.D <| J.L hw0 rfl () (congrArg Value.bool (decide_eq_decide.2 ⟨fun h => (show qDj s from .inr ⟨by omega, .inr ((u8eq 2).1 h)⟩), fun h => by rcases h with h | ⟨_, h | h⟩; exact absurd h h5; exact absurd ((u8eq 1).2 h) h13; exact (u8eq 2).2 h⟩)) trivial [0] rfl (by decide)
 refine J.p 4 rfl <| J.c9 (Wan.un rfl rfl rfl rfl) rfl rfl ?_
 refine J.c9 (Wan.un rfl rfl rfl rfl) rfl rfl ?_
 refine J.c9 (Wan.un rfl rfl rfl rfl) rfl rfl ?_
 refine J.p 4 rfl <| J.c hK2 <| J.A 2 ?_
 exact J.D <| J.L hw0 rfl () (congrArg Value.bool (decide_eq_false (show ¬ qDj s from fun h => by rcases h with h | ⟨h, _⟩; exact h5 h; omega)).symm) trivial [0] rfl (by decide)
theorem qIE (F : Hp) (x : Hd) (A : Option Addr) (c : Nat) (hg : x.good) (hsl : Sl F 1 A x.nodes.length c (qAL x.nodes)) :
    Ct prog 82 [.agg #[N64 x.ep, Str x.par, I x.dep, I x.aud, .slice A x.nodes.length c]] [F] (fun _ : Unit => I x.err) (fun _ => True) (fun _ => [F]) := by
  obtain ⟨hg1, hg2, hg3⟩ := hg
  refine Ct.walk func82 rfl ntmps82 rfl (fun w0 hw0 => ?_)
  refine J.g fun K1 hK1 => J.u (qAl rfl rfl rfl) rfl fun g1 _ => J.b rfl <| J.c hK1 <| J.A 1 ?_
  refine J.g fun K2 hK2 => J.a8 2 qEb z3_ rfl rfl rfl rfl rfl <| J.c4 1 b3_ rfl rfl rfl rfl rfl <| J.u (qAB rfl rfl ent38 (Ct.use0 (fun F' hF => qEG F' x.dep))) rfl fun g8 _ => J.b rfl <| J.c hK2 <| J.M 1 3 ?_
  refine J.k fun K3 hK3 => J.T <| J.g fun K4 hK4 => J.a8 0 qEb qBQ rfl rfl rfl rfl rfl <| J.c4 1 qBq rfl rfl rfl rfl rfl <| J.f (qBJ rfl rfl rfl) rfl <| J.b rfl <| J.c3 (d := 13) rfl (fun h13 => ?_) (fun h13 => ?_)
  ·
    refine J.p 20 rfl <| J.c hK4 <| J.V 1 3 9 ?_
    refine J.d1 ?_
    refine J.g fun K5 hK5 => J.b rfl <| J.c hK5 <| J.A 2 ?_
    exact J.D <| J.b3 <| J.a5 <| J.L hw0 rfl () (congrArg I (qIH (show x.out by unfold Hd.out; omega)).symm) trivial [0] rfl (by decide)
  refine J.O (qAA rfl rfl qEb rfl z9_ rfl) rfl <| J.O (qAF 1 rfl rfl rfl b9_ rfl) rfl <| J.O (qA0 u9_ rfl rfl) rfl <| J.O (qAx rfl rfl rfl) rfl <| J.p 2 rfl <| J.c3 (d := 19) rfl (fun h19 => ?_) (fun h19 => ?_)
  ·
    refine J.p 14 rfl <| J.c hK4 <| J.V 1 3 9 ?_
    refine J.d1 ?_
    refine J.g fun K6 hK6 => J.b rfl <| J.c hK6 <| J.A 2 ?_
    exact J.D <| J.b3 <| J.a5 <| J.L hw0 rfl () (congrArg I (qIH (show x.out by unfold Hd.out; omega)).symm) trivial [0] rfl (by decide)
  refine J.b rfl <| J.O (qAd rfl rfl rfl) rfl <| J.p 2 rfl <| J.c3 (d := 23) rfl (fun h23 => ?_) (fun h23 => ?_)
  ·
    refine J.p 10 rfl <| J.c hK4 <| J.V 1 3 9 ?_
    refine J.d1 ?_
    refine J.g fun K7 hK7 => J.b rfl <| J.c hK7 <| J.A 2 ?_
    exact J.D <| J.b3 <| J.a5 <| J.L hw0 rfl () (congrArg I (qIH (show x.out by unfold Hd.out; omega)).symm) trivial [0] rfl (by decide)
  refine J.O (qAA rfl rfl qEb rfl z3_ rfl) rfl <| J.O (qAF 1 rfl rfl rfl b3_ rfl) rfl <| J.O (qAS rfl rfl rfl) rfl <| J.p 2 rfl <| J.c3 (d := 28) rfl (fun h28 => ?_) (fun h28 => ?_)
  ·
    refine J.p 5 rfl <| J.c hK4 <| J.V 1 3 9 ?_
    refine J.d1 ?_
    refine J.g fun K8 hK8 => J.b rfl <| J.c hK8 <| J.A 2 ?_
    exact J.D <| J.b3 <| J.a5 <| J.L hw0 rfl () (congrArg I (qIH (show x.out by unfold Hd.out; omega)).symm) trivial [0] rfl (by decide)
  refine J.O (qAA rfl rfl qEb rfl z3_ rfl) rfl <| J.O (qAF 1 rfl rfl rfl b3_ rfl) rfl <| J.O (qBJ rfl rfl rfl) rfl <| J.p 2 rfl <| J.c hK4 <| J.V 1 3 9 ?_
  refine J.a0 rfl (fun h9 => ?_) (fun h9 => ?_)
  ·
    refine J.g fun K9 hK9 => J.b rfl <| J.c hK9 <| J.A 2 ?_
    exact J.D <| J.b3 <| J.a5 <| J.L hw0 rfl () (congrArg I (qIH (show x.out by unfold Hd.out; omega)).symm) trivial [0] rfl (by decide)
  refine J.g fun K10 hK10 => J.a8 4 qEb qEZ rfl rfl rfl rfl rfl <| J.c4 1 qDq rfl rfl rfl rfl rfl <| J.f (qAZ qAn rfl rfl) rfl <| J.b rfl <| J.f (qAx rfl rfl rfl) rfl <| J.b rfl <| J.c hK10 <| J.M 1 33 ?_
  refine J.a0 rfl (fun h33 => ?_) (fun h33 => ?_)
  ·
    refine J.g fun K11 hK11 => J.b rfl <| J.c hK11 <| J.A 2 ?_
    exact J.D <| J.b3 <| J.a5 <| J.L hw0 rfl () (congrArg I (qUF (by unfold Hd.out; omega) (by omega)).symm) trivial [0] rfl (by decide)
  refine J.b7 <| J.a4 <| J.q (J.H hK3 ?_)
  refine J.A 1 ?_
  refine J.k fun K12 hK12 => J.k fun K13 hK13 => ?_
  have hno : ¬ x.out := by unfold Hd.out; omega
  have hcn : ¬ x.nodes.length ≠ cnt x.dep := by omega
  refine J.E <| J.a8 4 qEb qEZ rfl rfl rfl rfl rfl <| J.c4 1 qDq rfl rfl rfl rfl rfl <| J.f (qAZ qAn rfl rfl) rfl <| J.b rfl <| J.c hK13 <| J.V 40 41 42 ?_
  refine J.T <| J.b2 (X := Nat) (fun k => [(40, .slice A x.nodes.length c), (41, I x.nodes.length), (42, I k)]) (fun _ => [F, blk g1 [N64 x.ep, Str x.par, I x.dep, I x.aud, .slice A x.nodes.length c] 39]) (fun k => k ≤ x.nodes.length ∧ ∀ s ∈ x.nodes.take k, qDj s) (fun k => x.nodes.length - k) 0 (⟨Nat.zero_le _, fun s hs => by simp at hs⟩) ⟨rfl, rfl, rfl, trivial⟩ (fun _ h => h) ?_
  intro k ⟨hk, hall⟩ I0 hI0
  refine J.g fun K14 hK14 => J.f (qAS rfl rfl rfl) rfl <| J.c hK14 <| J.W 40 41 42 43 ?_
  refine J.k fun K15 hK15 => J.a0 rfl (fun h43 => ?_) (fun h43 => ?_)
  ·
    refine J.a1 hK15 <| J.V 40 41 42 ?_
    refine J.k fun K16 hK16 => J.T <| J.g fun K17 hK17 => J.f (qAG rfl rfl rfl qAn z9_ hsl (by omega)) rfl <| J.f (qAK rfl rfl b9_ (m := F) (by simp) (hsl.elem (qAa (qAi [] (show k < x.nodes.length by omega))))) rfl <| J.b rfl <| J.c hK17 <| J.W 5 40 41 42 ?_
    refine J.g fun K18 hK18 => J.b rfl <| J.u (qAB rfl rfl ent137 (Ct.use0 (fun F' hF => qQB F' (x.nodes.getD k [])))) rfl fun g47 _ => J.f (qFT rfl rfl) rfl <| J.c hK18 <| J.W 40 41 42 48 ?_
    refine J.a0 rfl (fun h48 => ?_) (fun h48 => ?_)
    ·
      refine J.g fun K19 hK19 => J.b rfl <| J.c hK19 <| J.A 2 ?_
      exact J.D <| J.b3 <| J.a5 <| J.a5 <| J.b3 <| J.a5 <| J.L hw0 rfl () (congrArg I (err_4 hno hcn (qNl (show k < x.nodes.length by omega)) h48).symm) trivial [0] rfl (by decide)
    refine J.b7 <| J.a4 <| J.q (J.H hK16 ?_)
    refine J.V 40 41 42 ?_
    exact J.E <| J.f ((qAO rfl rfl rfl (by omega)).nat (k + 1) (by omega)) rfl <| J.b rfl <| J.a2 <| J.q <| J.a6 (k + 1) (fun x2 (hx : _ ∧ x.nodes.length - x2 < x.nodes.length - k) => hI0 x2 hx.1 hx.2) ⟨⟨by omega, qTH (by omega) hall (Decidable.not_not.1 h48)⟩, by omega⟩ ⟨rfl, rfl, rfl, trivial⟩ (fun _ h => h)
  refine J.b0 <| J.Z <| J.Z <| J.b1 ?_
  refine J.q (J.H hK12 ?_)
  refine J.c6 [] trivial <| J.k fun K20 hK20 => ?_
  rw [List.take_of_length_le (by omega)] at hall
  refine J.E <| J.b rfl <| J.c hK20 <| J.A 2 ?_
  exact J.D <| J.L hw0 rfl () (congrArg I (qUG hno hcn hall).symm) trivial [0] rfl (by decide)
def Hd.base (x : Hd) : List UInt8 := Sha.numB (UInt64.ofNat x.ep) 4 ++ x.par ++ [UInt8.ofNat x.dep.toNat] ++ [UInt8.ofNat x.aud.toNat]
theorem qQy : ∀ k, k < 65 → Sha.numB (UInt64.ofNat k) 1 = [UInt8.ofNat k] := by decide +kernel
theorem qPZ : ∀ k, k < 65 → okN (UInt64.ofNat k) 1 = true := by decide +kernel
theorem qNA {x : Hd} (h : ¬ x.out) : x.ep ≤ 4294967295 ∧ x.par.length = 16 ∧ (0 ≤ x.dep ∧ x.dep ≤ 4) ∧ 0 ≤ x.aud ∧ x.aud ≤ 64 := by
 have h1 : ¬ cnt x.dep = 0 := fun e => h (.inr (.inr (.inl e)))
 rw [qEz] at h1
 unfold Hd.out at h
 omega
theorem qSZ {l : List (List UInt8)} {k : Nat} (h : k < l.length) : ((l.take (k + 1)).map ndB).flatten = ((l.take k).map ndB).flatten ++ ndB (l.getD k []) := by
 rw [List.take_succ_eq_append_getElem h, List.map_append, List.flatten_append, List.map_cons, List.map_nil, List.flatten_cons, List.flatten_nil, List.append_nil, List.getD_eq_getElem?_getD, List.getElem?_eq_getElem h]; rfl
theorem nd_small {l : List (List UInt8)} (h : ∀ s ∈ l, qDj s) : (l.map ndB).flatten.length ≤ 19 * l.length := by
 induction l with
 | nil => exact Nat.zero_le _
 | cons a l ih =>
  have h1 := ih (fun s hs => h s (.tail _ hs))
  have h2 := qJ5 (h a (.head _))
  rw [List.map_cons, List.flatten_cons, List.length_append, List.length_cons]
  unfold ndB at h1 ⊢
  rw [List.length_append, Sha.numB_length]; omega
theorem qKV {x : Hd} (h : ¬ x.out) : x.base.length = 22 := by
 have := qNA h
 unfold Hd.base
 simp only [List.length_append, Sha.numB_length, List.length_singleton]; omega
theorem qLi (F : Hp) (x : Hd) (A : Option Addr) (c : Nat) (hg : x.good) (hsl : Sl F 1 A x.nodes.length c (qAL x.nodes)) :
    Ct prog 43 [.agg #[N64 x.ep, Str x.par, I x.dep, I x.aud, .slice A x.nodes.length c]] [F] (fun _ : Unit => .tuple #[Str x.enc, I x.err]) (fun _ => True) (fun _ => [F]) := by
  refine Ct.walk func43 rfl ntmps43 rfl (fun w0 hw0 => ?_)
  refine J.g fun K1 hK1 => J.u (qAl rfl rfl rfl) rfl fun g1 _ => J.p 2 rfl <| J.c hK1 <| J.A 1 ?_
  refine J.k fun K2 hK2 => J.g fun K3 hK3 => J.c7 1 qEH qB6 rfl rfl rfl rfl rfl <| J.u (qAB rfl rfl ent82 (Ct.use0 (fun F' hF => qIE F' x A c hg (hsl.mono (hF F (by simp)))))) rfl fun g9 _ => J.b rfl <| J.c hK3 <| J.M 1 4 ?_
  refine J.g fun K4 hK4 => J.b rfl <| J.f (qAx rfl rfl rfl) rfl <| J.c hK4 <| J.V 1 4 11 ?_
  refine J.a0 rfl (fun h11 => ?_) (fun h11 => ?_)
  ·
    refine J.g fun K5 hK5 => J.p 3 rfl <| J.c hK5 <| J.M 2 3 ?_
    exact J.D <| J.a5 <| J.c2 hw0 (fun _ _ h => h) (qDb rfl rfl rfl) (qBD () (by unfold Hd.enc; rw [if_neg (by omega)]) trivial [0] rfl (by decide))
  refine J.a1 hK2 <| J.A 1 ?_
  refine J.k fun K6 hK6 => ?_
  have e0 : x.err = 0 := by omega
  obtain ⟨e1, e2, e3⟩ := qNq e0
  obtain ⟨e4, e5, e6, e7, e8⟩ := qNA e1
  have hbl := qKV e1
  have hc16 := qRF x.dep
  refine J.E <| J.u (qAf rfl zeroValue188 rfl) rfl fun g5 _ => J.c hK6 <| J.M 1 5 ?_
  refine J.k fun K7 hK7 => J.b5 [blk g1 [N64 x.ep, Str x.par, I x.dep, I x.aud, .slice A x.nodes.length c] 39] [] (.y 0 (.y 1 (.y 3 (.y 4 (.y 6 (.y 7 (.y 8 (.y 10 (.y 11 (.y 12 (.e 2 (.e 5 (.e 9 (.e 13 .nil)))))))))))))) Tryz.wide (by decide +kernel) (by simp) ?_
  refine J.j rfl (qAA rfl rfl qEb rfl qBQ rfl) rfl rfl <| J.j rfl (qAF 0 rfl rfl rfl qBq rfl) rfl rfl <| J.j rfl (qAA rfl rfl qEb rfl z9_ rfl) rfl rfl <| J.j rfl (qAF 0 rfl rfl rfl b9_ rfl) rfl rfl <| J.j rfl (qAA rfl rfl qEb rfl z3_ rfl) rfl rfl <| J.j rfl (qAF 0 rfl rfl rfl b3_ rfl) rfl rfl <| J.j rfl ((qBx rfl rfl u3_ qDu).as (v' := W64 (UInt64.ofNat x.dep.toNat)) (by rw [show (x.dep % 18446744073709551616).toNat = x.dep.toNat by omega])) rfl rfl <| J.j rfl (qAA rfl rfl qEb rfl z3_ rfl) rfl rfl <| J.j rfl (qAF 0 rfl rfl rfl b3_ rfl) rfl rfl <| J.j rfl ((qBx rfl rfl u3_ qDu).as (v' := W64 (UInt64.ofNat x.aud.toNat)) (by rw [show (x.aud % 18446744073709551616).toNat = x.aud.toNat by omega])) rfl rfl <| J.a7 rfl (qAB rfl rfl ent83 (Ct.use1 2 rfl (fun F' _ => qNN F' (blk g5 [.pointer none, .slice none 0 0, I 0] 188) g5 [] 0 (qIe g5) (by decide) x.ep (by omega) 4 (by omega) (by omega)))) rfl (by simp) ?_
  rintro m15 hw15
  rw [qH3 (size := 4) (by omega) (by omega), qDH, qDe (qH3 (size := 4) (by omega) (by omega)), List.nil_append] at hw15
  refine J.a7 rfl (qAB rfl rfl ent84 (Ct.use1 2 rfl (fun F' _ => qHP F' m15 g5 (Sha.numB (UInt64.ofNat x.ep) 4) 0 hw15 (by rw [Sha.numB_length]; omega) x.par (by omega) 16))) rfl (by simp) ?_
  rintro m18 hw18
  rw [qL9 e5, qST e5, qDH] at hw18
  refine J.a7 rfl (qAB rfl rfl ent83 (Ct.use1 2 rfl (fun F' _ => qFX F' m18 g5 ((Sha.numB (UInt64.ofNat x.ep) 4) ++ x.par) 0 hw18 (by simp only [List.length_append, Sha.numB_length]; omega) (UInt64.ofNat x.dep.toNat) 1 (by omega) (by omega)))) rfl (by simp) ?_
  rintro m22 hw22
  rw [qPZ _ (by omega), qDH, qDe (qPZ _ (by omega)), qQy _ (by omega)] at hw22
  refine J.a7 rfl (qAB rfl rfl ent83 (Ct.use1 2 rfl (fun F' _ => qFX F' m22 g5 (((Sha.numB (UInt64.ofNat x.ep) 4) ++ x.par) ++ [UInt8.ofNat x.dep.toNat]) 0 hw22 (by simp only [List.length_append, Sha.numB_length, List.length_singleton]; omega) (UInt64.ofNat x.aud.toNat) 1 (by omega) (by omega)))) rfl (by simp) ?_
  rintro m26 hw26
  rw [qPZ _ (by omega), qDH, qDe (qPZ _ (by omega)), qQy _ (by omega)] at hw26
  refine J.b4 <| J.q (J.H hK7 ?_)
  refine J.M 1 5 ?_
  refine J.k fun K8 hK8 => J.g fun K9 hK9 => J.a8 4 qEb qEZ rfl rfl rfl rfl rfl <| J.c4 1 qDq rfl rfl rfl rfl rfl <| J.f (qAZ qAn rfl rfl) rfl <| J.b rfl <| J.c hK9 <| J.W 5 28 29 30 ?_
  refine J.T <| J.b2 (X := Nat × Hp) (fun x2 => [(5, Ptr g5), (28, .slice A x.nodes.length c), (29, I x.nodes.length), (30, I x2.1)]) (fun x2 => [F, blk g1 [N64 x.ep, Str x.par, I x.dep, I x.aud, .slice A x.nodes.length c] 39, x2.2]) (fun x2 => x2.1 ≤ x.nodes.length ∧ Wtr x2.2 g5 (x.base ++ ((x.nodes.take x2.1).map ndB).flatten) 0) (fun x2 => x.nodes.length - x2.1) (0, m26) (⟨Nat.zero_le _, by rw [List.take_zero, List.map_nil, List.flatten_nil, List.append_nil]; exact hw26⟩) ⟨rfl, rfl, rfl, rfl, trivial⟩ (fun _ h => h) ?_
  rintro ⟨k, m⟩ ⟨hk, hw⟩ I0 hI0
  dsimp only at hk hw ⊢
  refine J.g fun K10 hK10 => J.f (qAS rfl rfl rfl) rfl <| J.c hK10 <| J.a3 5 28 29 30 31 ?_
  refine J.k fun K11 hK11 => J.a0 rfl (fun h31 => ?_) (fun h31 => ?_)
  ·
    refine J.a1 hK11 <| J.W 5 28 29 30 ?_
    refine J.k fun K12 hK12 => J.T <| J.g fun K13 hK13 => J.f (qAG rfl rfl rfl qAn z9_ hsl (by omega)) rfl <| J.f (qAK rfl rfl b9_ (m := F) (by simp) (hsl.elem (qAa (qAi [] (show k < x.nodes.length by omega))))) rfl <| J.b rfl <| J.c hK13 <| J.a3 5 7 28 29 30 ?_
    have hnl := qJ5 (e3 _ (qNl (show k < x.nodes.length by omega)))
    refine J.E <| J.b rfl <| J.u (qAB rfl rfl ent85 (Ct.use1 2 rfl (fun F' _ => qRd F' m g5 (x.base ++ ((x.nodes.take k).map ndB).flatten) 0 hw (by have := nd_small (fun s hs => e3 s (List.mem_of_mem_take hs) : ∀ s ∈ x.nodes.take k, qDj s); rw [List.length_take] at this; rw [List.length_append, hbl]; omega) (x.nodes.getD k []) (by omega)))) rfl ?_
    rintro m35 hw35
    rw [(qJR (by omega)).1, (qJR (s := x.nodes.getD k []) (bs := []) (by omega)).2, List.append_assoc, List.append_assoc] at hw35
    change Wtr m35 g5 (x.base ++ (((x.nodes.take k).map ndB).flatten ++ ndB (x.nodes.getD k []))) 0 at hw35
    rw [← qSZ (by omega)] at hw35
    refine J.a2 <| J.a4 <| J.q (J.H hK12 ?_)
    refine J.W 5 28 29 30 ?_
    exact J.E <| J.f ((qAO rfl rfl rfl (by omega)).nat (k + 1) (by omega)) rfl <| J.b rfl <| J.a2 <| J.q <| J.a6 (k + 1, m35) (fun x2 (hx : _ ∧ x.nodes.length - x2.1 < x.nodes.length - k) => hI0 x2 hx.1 hx.2) ⟨⟨by dsimp only; omega, hw35⟩, by dsimp only; omega⟩ ⟨rfl, rfl, rfl, rfl, trivial⟩ (fun _ h => h)
  refine J.b0 <| J.Z <| J.Z <| J.b1 ?_
  refine J.q (J.H hK8 ?_)
  refine J.A 5 ?_
  refine J.k fun K14 hK14 => ?_
  rw [List.take_of_length_le (by omega)] at hw
  change Wtr m g5 x.bytes 0 at hw
  refine J.E <| J.u (qAB rfl rfl ent86 (Ct.use1 2 rfl (fun F' _ => qHT F' m g5 x.bytes 0 hw (by have := nd_small e3; unfold Hd.bytes; unfold Hd.base at hbl; rw [List.length_append, hbl]; omega)))) rfl ?_
  rintro m37 _
  refine J.p 4 rfl <| J.c hK14 <| J.M 2 3 ?_
  exact J.D <| J.c2 hw0 (fun _ _ h => h) (qDb rfl rfl rfl) (qBD () (by unfold Hd.enc; rw [if_pos e0, e0] <;> rfl) trivial [0] rfl (by decide))
theorem qN9 {x : Hd} (h : x.err = 0) : x.bytes.length ≤ 326 := by
 obtain ⟨e1, e2, e3⟩ := qNq h
 have h1 := qKV e1
 have h2 := nd_small e3
 have h3 := qRF x.dep
 unfold Hd.bytes
 unfold Hd.base at h1
 rw [List.length_append, h1]; omega
theorem enc_0 {x : Hd} (h : x.err = 0) : x.enc = x.bytes := if_pos h
theorem qBW {x : Hd} (h : x.err = 0) : x.dig.length = 16 := by unfold Hd.dig; rw [if_pos h, Sha.tagged_length]
theorem qCA (F : Hp) (hK : KF F) (x : Hd) (A : Option Addr) (c : Nat) (hg : x.good) (hsl : Sl F 1 A x.nodes.length c (qAL x.nodes)) :
    Ct prog 11 [.agg #[N64 x.ep, Str x.par, I x.dep, I x.aud, .slice A x.nodes.length c]] [F] (fun _ : Unit => Str x.dig) (fun _ => True) (fun _ => [F]) := by
  refine Ct.walk func11 rfl ntmps11 rfl (fun w0 hw0 => ?_)
  refine J.g fun K1 hK1 => J.u (qAl rfl rfl rfl) rfl fun g1 _ => J.b rfl <| J.c hK1 <| J.A 1 ?_
  refine J.g fun K2 hK2 => J.c7 1 qEH qB6 rfl rfl rfl rfl rfl <| J.u (qAB rfl rfl ent43 (Ct.use0 (fun F' hF => qLi F' x A c hg (hsl.mono (hF F (by simp)))))) rfl fun g7 _ => J.p 5 rfl <| J.c hK2 <| J.M 3 4 ?_
  refine J.k fun K3 hK3 => J.g fun K4 hK4 => J.b rfl <| J.f (qAx rfl rfl rfl) rfl <| J.c hK4 <| J.M 3 11 ?_
  refine J.a0 rfl (fun h11 => ?_) (fun h11 => ?_)
  ·
    refine J.g fun K5 hK5 => J.b rfl <| J.c hK5 <| J.A 2 ?_
    exact J.D <| J.a5 <| J.L hw0 rfl () (by unfold Hd.dig; rw [if_neg (by omega)]) trivial [0] rfl (by decide)
  refine J.a1 hK3 <| J.A 3 ?_
  refine J.k fun K6 hK6 => ?_
  have e0 : x.err = 0 := by omega
  refine J.E <| J.f ((qAj rfl rfl).as (v' := Str x.bytes) (congrArg Str (enc_0 e0))) rfl <| J.u (qAH (l := [.tmp 12]) (xs := [[Str (x.bytes)]]) rfl rfl rfl rfl qAn el9 rfl (by decide) (by decide) (by simp)) rfl fun g13 _ => J.u (qAB rfl rfl ent44 (Ct.use0 (fun F' hF => qA5 F' (hK.mono (hF _ (by simp))) 14 (some ⟨g13, 0, none⟩) 1 1 [x.bytes] ((slS [x.bytes] rfl).mono (hF (blk g13 (([x.bytes] : List (List UInt8)).map fun s => Str s) 9) (by simp))) (by have := qN9 e0; simp; omega) (by decide)))) rfl fun g14 _ => J.b rfl <| J.c hK6 <| J.A 2 ?_
  exact J.D <| J.L hw0 rfl () (by unfold Hd.dig; rw [if_pos e0]) trivial [0] rfl (by decide)
def Hd.next (x y : Hd) : Int := if y.err ≠ 0 then y.err else if y.ep = 0 ∨ y.ep - 1 ≠ x.ep then 14 else if x.dig = [] ∨ y.par ≠ x.dig then 15 else if y.dep ≠ x.dep ∨ y.aud < x.aud then 22 else 0
def Hd.same (x y : Hd) : Prop := x.err = 0 ∧ y.err = 0 ∧ x.enc = y.enc
instance (x y : Hd) : Decidable (x.same y) := by unfold Hd.same; infer_instance
theorem qTx {x y : Hd} (h : y.err ≠ 0) : x.next y = y.err := if_pos h
theorem qQ2 {x y : Hd} (h : ¬ y.err ≠ 0) (h2 : y.ep = 0 ∨ y.ep - 1 ≠ x.ep) : x.next y = 14 := by unfold Hd.next; rw [if_neg h, if_pos h2]
theorem qQ1 {x y : Hd} (h : ¬ y.err ≠ 0) (h2 : ¬ (y.ep = 0 ∨ y.ep - 1 ≠ x.ep)) (h3 : x.dig = [] ∨ y.par ≠ x.dig) : x.next y = 15 := by unfold Hd.next; rw [if_neg h, if_neg h2, if_pos h3]
theorem qQ0 {x y : Hd} (h : ¬ y.err ≠ 0) (h2 : ¬ (y.ep = 0 ∨ y.ep - 1 ≠ x.ep)) (h3 : ¬ (x.dig = [] ∨ y.par ≠ x.dig)) (h4 : y.dep ≠ x.dep ∨ y.aud < x.aud) : x.next y = 22 := by unfold Hd.next; rw [if_neg h, if_neg h2, if_neg h3, if_pos h4]
theorem qQz {x y : Hd} (h : ¬ y.err ≠ 0) (h2 : ¬ (y.ep = 0 ∨ y.ep - 1 ≠ x.ep)) (h3 : ¬ (x.dig = [] ∨ y.par ≠ x.dig)) (h4 : ¬ (y.dep ≠ x.dep ∨ y.aud < x.aud)) : x.next y = 0 := by unfold Hd.next; rw [if_neg h, if_neg h2, if_neg h3, if_neg h4]
theorem qQC (F : Hp) (hK : KF F) (x : Hd) (A : Option Addr) (c : Nat) (hg : x.good) (hsl : Sl F 1 A x.nodes.length c (qAL x.nodes)) (y : Hd) (B : Option Addr) (e : Nat) (hgy : y.good) (hsy : Sl F 1 B y.nodes.length e (qAL y.nodes)) :
    Ct prog 49 [.agg #[N64 x.ep, Str x.par, I x.dep, I x.aud, .slice A x.nodes.length c], .agg #[N64 y.ep, Str y.par, I y.dep, I y.aud, .slice B y.nodes.length e]] [F] (fun _ : Unit => I (x.next y)) (fun _ => True) (fun _ => [F]) := by
  obtain ⟨hgx1, hgx2, hgx3⟩ := id hg
  obtain ⟨hgy1, hgy2, hgy3⟩ := id hgy
  refine Ct.walk func49 rfl ntmps49 rfl (fun w0 hw0 => ?_)
  refine J.g fun K1 hK1 => J.u (qAl rfl rfl rfl) rfl fun g2 _ => J.u (qAl rfl rfl rfl) rfl fun g3 _ => ?_
  change J _ _ _ [_, _, blk g3 [N64 y.ep, Str y.par, I y.dep, I y.aud, .slice B y.nodes.length e] 39] _
  refine J.b rfl <| J.c hK1 <| J.M 2 3 ?_
  refine J.k fun K2 hK2 => J.b5 [F, blk g2 [N64 x.ep, Str x.par, I x.dep, I x.aud, .slice A x.nodes.length c] 39, blk g3 [N64 y.ep, Str y.par, I y.dep, I y.aud, .slice B y.nodes.length e] 39] [] (.y 0 (.y 2 (.e 1 (.e 3 (.y 4 (.y 5 .nil)))))) Tryz.wide (by decide +kernel) (by simp) ?_
  refine J.j rfl (qAk 2 rfl rfl rfl qEH qB6 rfl) rfl rfl <| J.j rfl (qAk 1 rfl rfl rfl qEH qB6 rfl) rfl rfl <| J.a7 rfl (qAB rfl rfl ent82 (Ct.use0 (fun F' hF => qIE F' y B e hgy (hsy.mono (hF F (by simp)))))) rfl (by simp) fun g8 _ => J.a7 rfl (qAB rfl rfl ent11 (Ct.use0 (fun F' hF => qCA F' (hK.mo hF) x A c hg (hsl.mono (hF F (by simp)))))) rfl (by simp) fun g10 _ => J.c0 ?_
  refine J.c0 ?_
  refine J.b4 <| J.q (J.H hK2 ?_)
  refine J.W 2 3 5 6 ?_
  refine J.k fun K3 hK3 => J.T <| J.g fun K4 hK4 => J.b rfl <| J.f (qAx rfl rfl rfl) rfl <| J.b rfl <| J.c hK4 <| J.a3 2 3 5 6 11 ?_
  refine J.a0 rfl (fun h11 => ?_) (fun h11 => ?_)
  ·
    refine J.g fun K5 hK5 => J.p 2 rfl <| J.c hK5 <| J.A 4 ?_
    exact J.D <| J.b3 <| J.a5 <| J.L hw0 rfl () (congrArg I (qTx (by omega)).symm) trivial [0] rfl (by decide)
  refine J.g fun K6 hK6 => J.a8 0 qEb qBQ rfl rfl rfl rfl rfl <| J.c4 2 qBq rfl rfl rfl rfl rfl <| J.f (qAd rfl rfl rfl) rfl <| J.b rfl <| J.c3 (d := 19) rfl (fun h19 => ?_) (fun h19 => ?_)
  ·
    refine J.p 8 rfl <| J.c hK6 <| J.W 2 3 6 15 ?_
    refine J.d1 ?_
    refine J.g fun K7 hK7 => J.b rfl <| J.c hK7 <| J.A 4 ?_
    exact J.D <| J.b3 <| J.a5 <| J.L hw0 rfl () (congrArg I (qQ2 (by omega) (by omega)).symm) trivial [0] rfl (by decide)
  refine J.O (qAA (j := 0) rfl rfl qEb rfl qBQ rfl) rfl <| J.O (qAF 2 rfl rfl rfl qBq rfl) rfl <| J.O (qIu (b := 1) rfl rfl rfl (by omega)) rfl <| J.O (qAA (j := 0) rfl rfl qEb rfl qBQ rfl) rfl <| J.O (qAF 1 rfl rfl rfl qBq rfl) rfl <| J.O (qAx rfl rfl rfl) rfl <| J.p 2 rfl <| J.c hK6 <| J.W 2 3 6 15 ?_
  refine J.a0 rfl (fun h15 => ?_) (fun h15 => ?_)
  ·
    refine J.g fun K8 hK8 => J.b rfl <| J.c hK8 <| J.A 4 ?_
    exact J.D <| J.b3 <| J.a5 <| J.L hw0 rfl () (congrArg I (qQ2 (by omega) (by omega)).symm) trivial [0] rfl (by decide)
  refine J.g fun K9 hK9 => J.b rfl <| J.f (qBM rfl rfl rfl) rfl <| J.b rfl <| J.c3 (d := 30) rfl (fun h30 => ?_) (fun h30 => ?_)
  ·
    refine J.p 6 rfl <| J.c hK9 <| J.V 2 3 27 ?_
    refine J.d1 ?_
    refine J.g fun K10 hK10 => J.b rfl <| J.c hK10 <| J.A 4 ?_
    exact J.D <| J.b3 <| J.a5 <| J.L hw0 rfl () (congrArg I (qQ1 (by omega) (by omega) (.inl h30)).symm) trivial [0] rfl (by decide)
  refine J.O (qAA (j := 1) rfl rfl qEb rfl z9_ rfl) rfl <| J.O (qAF 2 rfl rfl rfl b9_ rfl) rfl <| J.b rfl <| J.O (qJu rfl rfl rfl) rfl <| J.p 2 rfl <| J.c hK9 <| J.V 2 3 27 ?_
  refine J.a0 rfl (fun h27 => ?_) (fun h27 => ?_)
  ·
    refine J.g fun K11 hK11 => J.b rfl <| J.c hK11 <| J.A 4 ?_
    exact J.D <| J.b3 <| J.a5 <| J.L hw0 rfl () (congrArg I (qQ1 (by omega) (by omega) (.inr h27)).symm) trivial [0] rfl (by decide)
  refine J.g fun K12 hK12 => J.a8 2 qEb z3_ rfl rfl rfl rfl rfl <| J.c4 2 b3_ rfl rfl rfl rfl rfl <| J.a8 2 qEb z3_ rfl rfl rfl rfl rfl <| J.c4 1 b3_ rfl rfl rfl rfl rfl <| J.f (qAx rfl rfl rfl) rfl <| J.b rfl <| J.c3 (d := 42) rfl (fun h42 => ?_) (fun h42 => ?_)
  ·
    refine J.p 7 rfl <| J.c hK12 <| J.A 36 ?_
    refine J.d1 ?_
    refine J.g fun K13 hK13 => J.b rfl <| J.c hK13 <| J.A 4 ?_
    exact J.D <| J.b3 <| J.a5 <| J.L hw0 rfl () (congrArg I (qQ0 (by omega) (by omega) (fun h => h.elim h30 h27) (by omega)).symm) trivial [0] rfl (by decide)
  refine J.O (qAA (j := 3) rfl rfl qEb rfl z3_ rfl) rfl <| J.O (qAF 2 rfl rfl rfl b3_ rfl) rfl <| J.O (qAA (j := 3) rfl rfl qEb rfl z3_ rfl) rfl <| J.O (qAF 1 rfl rfl rfl b3_ rfl) rfl <| J.O (qAS rfl rfl rfl) rfl <| J.p 2 rfl <| J.c hK12 <| J.A 36 ?_
  refine J.a0 rfl (fun h36 => ?_) (fun h36 => ?_)
  ·
    refine J.g fun K14 hK14 => J.b rfl <| J.c hK14 <| J.A 4 ?_
    exact J.D <| J.b3 <| J.a5 <| J.L hw0 rfl () (congrArg I (qQ0 (by omega) (by omega) (fun h => h.elim h30 h27) (by omega)).symm) trivial [0] rfl (by decide)
  refine J.b7 <| J.a4 <| J.q (J.H hK3 ?_)
  refine J.c6 [] trivial <| J.g fun K15 hK15 => J.b rfl <| J.c hK15 <| J.A 4 ?_
  exact J.D <| J.L hw0 rfl () (congrArg I (qQz (by omega) (by omega) (fun h => h.elim h30 h27) (by omega)).symm) trivial [0] rfl (by decide)
theorem el40 : qDV prog 40 [.slice none 0 0] 24 := qDV.of (by kernel_rfl) rfl
theorem qLh {l : List Int} {k : Nat} (h : k < l.length) : (qEj l)[k]? = some [I (l.getD k 0)] := by
 unfold qEj
 rw [List.getElem?_map, List.getElem?_eq_getElem h, List.getD_eq_getElem?_getD, List.getElem?_eq_getElem h]; rfl
structure WnD where
 lA : Option Addr
 lc : Nat
 l : List Int
def WnD.cells (x : WnD) : List Value := [.slice x.lA x.l.length x.lc]
def qCk : WnD := ⟨none, 0, []⟩
def qLu (l : List WnD) : List (List Value) := l.map WnD.cells
theorem qJT {l : List WnD} {k : Nat} (h : k < l.length) : (qLu l)[k]? = some (l.getD k qCk).cells := by
 unfold qLu
 rw [List.getElem?_map, qAi qCk h]; rfl
theorem qL8 (a : List WnD) (x : WnD) : qLu (a ++ [x]) = qLu a ++ [x.cells] := by simp [qLu]
theorem qCm {α : Type} (l : List α) (x no : α) (j : Nat) (h : j < l.length + 1) : (l ++ [x]).getD j no = if j < l.length then l.getD j no else x := by
  rw [List.getD_eq_getElem?_getD]
  by_cases hlt : j < l.length
  · rw [if_pos hlt, List.getElem?_append_left hlt, ← List.getD_eq_getElem?_getD]
  · obtain rfl : j = l.length := by omega
    rw [if_neg hlt, List.getElem?_append_right (Nat.le_refl _), Nat.sub_self]; rfl
theorem qHK {a b : Hp} (h : Dj a b) : Le a (U [a, b]) := qHJ (qAW.2 (by simpa using h)) (.head _)
theorem qLc {a b : Hp} (h : Dj a b) : Le b (U [a, b]) := qHJ (qAW.2 (by simpa using h)) (.tail _ (.head _))
def qDp (G : Hp) (W : Nat → List Int) (sl : Nat) (ws : List WnD) : Prop := ∀ b, b < ws.length → (ws.getD b qCk).l = (W b).take sl ∧ (ws.getD b qCk).l.length = sl ∧ Sl G 1 (ws.getD b qCk).lA (ws.getD b qCk).l.length (ws.getD b qCk).lc (qEj (ws.getD b qCk).l)
theorem qDp.mono {G G' : Hp} {W : Nat → List Int} {sl : Nat} {ws : List WnD} (h : qDp G W sl ws) (hl : Le G G') : qDp G' W sl ws := fun b hb => ⟨(h b hb).1, (h b hb).2.1, (h b hb).2.2.mono hl⟩
theorem qDp.nil (G : Hp) (W : Nat → List Int) (sl : Nat) : qDp G W sl [] := fun b h => absurd h (Nat.not_lt_zero b)
theorem qDp.snoc {G : Hp} {W : Nat → List Int} {sl : Nat} {ws : List WnD} {x : WnD} (h : qDp G W sl ws) (h1 : x.l = (W ws.length).take sl) (h2 : x.l.length = sl) (h3 : Sl G 1 x.lA x.l.length x.lc (qEj x.l)) : qDp G W sl (ws ++ [x]) := fun b hb => by
 rw [List.length_append, List.length_singleton] at hb
 rw [qCm ws x qCk b hb]
 split
 · exact h b (by omega)
 · rw [show b = ws.length by omega]; exact ⟨h1, h2, h3⟩
def qTN (dg : List UInt8) (n a sl : Nat) (W : Nat → List Int) : Prop := ∀ b, b < n → ∃ st, Wd.wins 1 a (Sha.Strm.new (Wd.seedOf dg b)) sl = some (W b, st)
theorem qJU {fuel a : Nat} {s0 : Sha.Strm} : ∀ {k : Nat} {x : List Int × Sha.Strm}, Wd.wins fuel a s0 k = some x → x.1.length = a
 | 0, x, h => by
  have : (Wd.start a, s0) = x := Option.some.inj h
  rw [← this]; simp [Wd.start]
 | k + 1, x, h => by
  obtain ⟨z, hz, h2⟩ := Option.bind_eq_some_iff.1 (show (Wd.wins fuel a s0 k).bind _ = some x from h)
  obtain ⟨y, _, h3⟩ := Option.map_eq_some_iff.1 h2
  rw [← h3]
  dsimp only
  rw [List.length_set, List.length_set]; exact qJU hz
structure WnR where
 A : Option Addr
 c : Nat
 mr : Hp
 G : Hp
 ws : List WnD
structure WnP (W : Nat → List Int) (n sl : Nat) (r : WnR) : Prop where
 len : r.ws.length = n
 row : Row r.mr 40 1 r.A r.ws.length r.c (qLu r.ws)
 ok : qDp r.G W sl r.ws
theorem qRm {g a sl : Nat} {l : List Int} (hl : l.length = a) (hs : sl ≤ a) : Sl (blk g (l.map fun x => I x) 3) 1 (some ⟨g, 0, none⟩) (l.take sl).length sl (qEj (l.take sl)) := by
  refine ⟨by simp [qEj], by rw [List.length_take]; omega, fun i x hx => ?_⟩
  unfold qEj at hx
  rw [List.getElem?_map, List.getElem?_take] at hx
  split at hx
  · rename_i hi
    cases hq : l[i]? with
    | none => rw [hq] at hx; cases hx
    | some v =>
      rw [hq] at hx
      have hx2 : [I v] = x := Option.some.inj hx
      subst hx2
      refine ⟨rfl, ⟨g, 0, none⟩, rfl, ?_⟩
      rw [Addr.add_lit]
      exact qAV.blk1 (0 + i * 1) (by rw [List.getElem?_map, Nat.zero_add, Nat.mul_one, hq]; rfl)
  · cases hx
theorem qGA (F : Hp) (hK : KF F) (x : Hd) (A : Option Addr) (c : Nat) (hg : x.good) (hsl : Sl F 1 A x.nodes.length c (qAL x.nodes)) (d a sl nd : Nat) (hd : d ≤ 4) (hxd : x.dep = ((d : Nat) : Int)) (hx : x.err = 0) (h1 : 1 ≤ nd) (h2 : nd ≤ sl) (h3 : sl ≤ a) (h4 : a ≤ 64) (W : Nat → List Int) (hW : qTN x.dig (2 ^ d) a sl W) :
    Ct prog 9 [.agg #[N64 x.ep, Str x.par, I x.dep, I x.aud, .slice A x.nodes.length c], I ((a : Nat) : Int), .agg #[I ((sl : Nat) : Int), I ((nd : Nat) : Int)]] [F] (fun r : WnR => .tuple #[.slice r.A r.ws.length r.c, I 0]) (WnP W (2 ^ d) sl) (fun r => [F, r.mr, r.G]) := by
  have hdl := qBW hx
  have hdn : x.dig ≠ [] := fun e => by rw [e] at hdl; exact absurd hdl (by decide)
  have hpw := qTm hd
  have hcn := qFl hd
  refine Ct.walk func9 rfl ntmps9 rfl (fun w0 hw0 => ?_)
  refine J.g fun K1 hK1 => J.u (qAl rfl rfl rfl) rfl fun g3 _ => J.u (qAl rfl rfl rfl) rfl fun g5 _ => J.p 2 rfl <| J.c hK1 <| J.V 1 3 5 ?_
  refine J.g fun K2 hK2 => J.c7 1 qEH qB6 rfl rfl rfl rfl rfl <| J.u (qAB rfl rfl ent11 (Ct.use0 (fun F' hF => qCA F' (hK.mo hF) x A c hg (hsl.mono (hF F (by simp)))))) rfl fun g14 _ => J.b rfl <| J.c hK2 <| J.W 1 3 5 8 ?_
  refine J.k fun K3 hK3 => J.g fun K4 hK4 => J.b rfl <| J.f ((qBM rfl rfl rfl).no (hdn)) rfl <| J.b rfl <| J.O (qAA rfl rfl qOU rfl z3_ rfl) rfl <| J.O (qAF 2 rfl rfl rfl b3_ rfl) rfl <| J.O ((qAS rfl rfl rfl).no (by omega)) rfl <| J.p 2 rfl <| J.O (qAA rfl rfl qOU rfl z3_ rfl) rfl <| J.O (qAF 2 rfl rfl rfl b3_ rfl) rfl <| J.O (qAA rfl rfl qOU rfl z3_ rfl) rfl <| J.O (qAF 2 rfl rfl rfl b3_ rfl) rfl <| J.O ((qBJ rfl rfl rfl).no (by omega)) rfl <| J.b rfl <| J.c hK4 <| J.a3 1 3 5 8 28 ?_
  refine J.b6 ?_
  refine J.a1 hK3 <| J.W 1 3 5 8 ?_
  refine J.g fun K5 hK5 => J.b rfl <| J.c hK5 <| J.a3 1 3 5 8 9 ?_
  refine J.k fun K6 hK6 => J.g fun K7 hK7 => J.a8 2 qEb z3_ rfl rfl rfl rfl rfl <| J.c4 1 b3_ rfl rfl rfl rfl rfl <| J.u (qAB rfl rfl ent38 (Ct.use0 (fun F' hF => (by have := qEG F' x.dep; rw [hxd, hcn] at this; rw [hxd]; exact this)))) rfl fun g31 _ => J.b rfl <| J.c hK7 <| J.a9 1 5 8 9 31 32 ?_
  refine J.T <| J.b2 (X := Nat × List WnD × Option Addr × Nat × Hp × Hp) (fun ζ => [(1, I ((a : Nat) : Int)), (5, Ptr g5), (8, Str (x.dig)), (9, .slice ζ.2.2.1 ζ.2.1.length ζ.2.2.2.1), (31, I ((2 ^ d : Nat) : Int)), (32, I ((ζ.1 : Nat) : Int))]) (fun ζ => [ζ.2.2.2.2.2, F, blk g3 [N64 x.ep, Str (x.par), I (x.dep), I (x.aud), .slice A x.nodes.length c] 39, blk g5 [I ((sl : Nat) : Int), I ((nd : Nat) : Int)] 26, ζ.2.2.2.2.1]) (fun ζ => ζ.1 ≤ 2 ^ d ∧ ζ.2.1.length = ζ.1 ∧ Row ζ.2.2.2.2.1 40 1 ζ.2.2.1 ζ.2.1.length ζ.2.2.2.1 (qLu ζ.2.1) ∧ qDp ζ.2.2.2.2.2 W sl ζ.2.1) (fun ζ => 2 ^ d - ζ.1) (0, [], none, 0, (fun _ => none), (fun _ => none)) (⟨Nat.zero_le _, rfl, qB5.nil, qDp.nil _ _ _⟩) ⟨rfl, rfl, rfl, rfl, rfl, rfl, trivial⟩ (fun _ h => h.empty.empty.pick [3, 0, 1, 2, 4] (by decide)) ?_
  rintro ⟨i, ws, Ar, cr, mr, G⟩ ⟨hi, hwsl, hrw, hok⟩ I0 hI0
  dsimp only at hi hwsl hrw hok ⊢
  refine J.g fun K8 hK8 => J.f (qAS rfl rfl rfl) rfl <| J.c hK8 <| J.b9 1 5 8 9 31 32 33 ?_
  refine J.k fun K9 hK9 => J.a0 rfl (fun h33 => ?_) (fun h33 => ?_)
  ·
    refine J.a1 hK9 <| J.a9 1 5 8 9 31 32 ?_
    refine J.k fun K10 hK10 => J.T <| J.g fun K11 hK11 => J.p 2 rfl <| J.c hK11 <| J.b9 1 5 8 9 10 31 32 ?_
    refine J.k fun K12 hK12 => ?_
    obtain ⟨st, hst⟩ := hW i (by omega)
    refine J.E <| J.p 3 rfl <| J.a8 0 qOU z3_ rfl rfl rfl rfl rfl <| J.c4 3 b3_ rfl rfl rfl rfl rfl <| J.u (qAB rfl rfl ent39 (Ct.use (fun F' hF => of_ct F' (hK.mo hF) x.dig (by rw [hdl]; decide) i a sl (by omega) h4 (by omega) h3 1 (W i) st hst))) rfl ?_
    rintro g41 _
    have hwl : (W i).length = a := qJU hst
    have htl : ((W i).take sl).length = sl := by rw [List.length_take]; omega
    rw [show (Value.slice (some ⟨g41, 0, none⟩) sl sl) = .slice (some ⟨g41, 0, none⟩) ((W i).take sl).length sl by rw [htl]]
    refine J.p 5 rfl <| J.c hK12 <| J.d2 1 5 8 9 11 12 31 32 ?_
    refine J.k fun K13 hK13 => J.g fun K14 hK14 => J.b rfl <| J.f ((qAx rfl rfl rfl).no (by decide)) rfl <| J.c hK14 <| J.d8 1 5 8 9 11 12 31 32 45 ?_
    refine J.b6 ?_
    refine J.a1 hK13 <| J.b9 1 5 8 9 11 31 32 ?_
    obtain ⟨wx, hwx⟩ : ∃ x : WnD, x = ⟨(some ⟨g41, 0, none⟩), sl, (W i).take sl⟩ := ⟨_, rfl⟩
    refine J.E <| J.p 2 rfl <| J.u (qAH (l := [.tmp 48]) (xs := [[.slice (some ⟨g41, 0, none⟩) (((W i).take sl).length) sl]]) rfl rfl rfl rfl qOT el40 rfl (by decide) (by decide) (by simp)) rfl fun g49 _ => J.u (qAb (i := 4) (m2 := blk g49 [.slice (some ⟨g41, 0, none⟩) (((W i).take sl).length) sl] 40) rfl rfl rfl qOT qOT el40 rfl hrw (by simp) ((qAr (q := True) (xs := qLu [(⟨(some ⟨g41, 0, none⟩), sl, ((W i).take sl)⟩ : WnD)]) rfl (by intro x hx; rw [List.mem_singleton.1 hx]; rfl)).sl) rfl (by omega) (by omega)) rfl ?_
    rintro ⟨A50, c50, m50⟩ h50
    try dsimp only at h50
    replace h50 : Row m50 40 1 A50 (ws.length + 1) c50 (qLu (ws ++ [wx])) := by rw [qL8, hwx]; exact h50
    rw [show ws.length + 1 = (ws ++ [wx]).length by rw [List.length_append]; rfl] at h50 ⊢
    refine J.b rfl <| J.c5 [0, 5, 1, 2, 3, 4] [G, blk g41 ((W i).map fun x => I x) 3, F, blk g3 [N64 x.ep, Str (x.par), I (x.dep), I (x.aud), .slice A x.nodes.length c] 39, blk g5 [I ((sl : Nat) : Int), I ((nd : Nat) : Int)] 26, m50] rfl (by decide) <| J.d9 (fun hj => ?_)
    refine J.a2 <| J.a4 <| J.q (J.H hK10 ?_)
    refine J.a9 1 5 8 9 31 32 ?_
    exact J.E <| J.f ((qAO rfl rfl rfl (by omega)).nat (i + 1) (by omega)) rfl <| J.b rfl <| J.a2 <| J.q <| J.a6 (i + 1, ws ++ [wx], A50, c50, m50, U [G, blk g41 ((W i).map fun x => I x) 3]) (fun η (hη : _ ∧ 2 ^ d - η.1 < 2 ^ d - i) => hI0 η hη.1 hη.2) ⟨⟨by dsimp only; omega, by dsimp only; rw [List.length_append, hwsl]; rfl, h50, (hok.mono (qHK hj)).snoc (by rw [hwx, hwsl]) (by rw [hwx]; exact htl) (by rw [hwx]; exact (qRm hwl h3).mono (qLc hj))⟩, by first | omega | (dsimp only; omega)⟩ ⟨rfl, rfl, rfl, rfl, rfl, rfl, trivial⟩ (fun _ h => h)
  refine J.b0 <| J.Z <| J.Z <| J.b1 ?_
  refine J.q (J.H hK6 ?_)
  refine J.A 9 ?_
  refine J.g fun K15 hK15 => J.p 3 rfl <| J.c hK15 <| J.M 6 7 ?_
  exact J.D <| J.c2 hw0 (fun _ _ h => h) (qDb rfl rfl rfl) (qBD (⟨Ar, cr, mr, G, ws⟩ : WnR) rfl ⟨by dsimp only; omega, hrw, hok⟩ [1, 4, 0] rfl (by decide))
theorem ent94 : qAC prog 94 := qAC.of func94 rfl (by kernel_rfl)
theorem ent185 : qAC prog 185 := qAC.of func185 rfl (by kernel_rfl)
theorem ent219 : qAC prog 219 := qAC.of func219 rfl (by kernel_rfl)
theorem ent242 : qAC prog 242 := qAC.of func242 rfl (by kernel_rfl)
theorem qHu (F : Hp) (k : List UInt8) (z : Int) : Ct prog 94 [Str (k), I (z)] [F] (fun _ : Unit => .bool (decide (k.length = 16 ∧ 0 ≤ z ∧ z ≤ 128))) (fun _ => True) (fun _ => [F]) := by
 refine Ct.walk func94 rfl ntmps94 rfl (fun w0 hw0 => ?_)
 refine J.g fun K1 hK1 => J.b rfl <| J.c hK1 <| J.M 0 1 ?_
 refine J.g fun K2 hK2 => J.b rfl <| J.f (qA0 u9_ rfl rfl) rfl <| J.f (qAd rfl rfl rfl) rfl <| J.b rfl <| J.c3 (d := 8) rfl (fun h8 => ?_) (fun h8 => ?_)
 ·
  refine J.b rfl <| J.O (qBG rfl rfl rfl) rfl <| J.p 2 rfl <| J.c3 (d := 12) rfl (fun h12 => ?_) (fun h12 => ?_)
  ·
   refine J.b rfl <| J.O (qB4 rfl rfl rfl) rfl <| J.p 2 rfl <| J.c hK2 <| J.A 4 ?_
   exact J.D <| J.L hw0 rfl () (by first | rw [decide_eq_false (by omega)] | rw [decide_eq_true (by omega)] | exact congrArg Value.bool (decide_eq_decide.2 (by omega))) trivial [0] rfl (by decide)
  refine J.p 4 rfl <| J.c hK2 <| J.A 4 ?_
  exact J.D <| J.L hw0 rfl () (by first | rw [decide_eq_false (by omega)] | rw [decide_eq_true (by omega)] | exact congrArg Value.bool (decide_eq_decide.2 (by omega))) trivial [0] rfl (by decide)
 refine J.p 8 rfl <| J.c hK2 <| J.A 4 ?_
 exact J.D <| J.L hw0 rfl () (by first | rw [decide_eq_false (by omega)] | rw [decide_eq_true (by omega)] | exact congrArg Value.bool (decide_eq_decide.2 (by omega))) trivial [0] rfl (by decide)
theorem qMM (F : Hp) (k : List UInt8) (hk : k.length = 16) (d : Nat) (hd : d < 128) : Ct prog 101 [Str (k), I ((d : Nat) : Int)] [F] (fun _ : Unit => Str (qE8 k d)) (fun _ => True) (fun _ => [F]) := by
 refine Ct.walk func101 rfl ntmps101 rfl (fun w0 hw0 => ?_)
 refine J.g fun K1 hK1 => J.b rfl <| J.c hK1 <| J.M 0 1 ?_
 refine J.g fun K2 hK2 => J.b rfl <| J.u (qGM rfl rfl u9_ qBP u5_) rfl ?_
 rintro ⟨g7, c7, m7⟩ h7
 try dsimp only at h7
 change J _ ((7, .slice (some ⟨g7, 0, none⟩) k.length c7) :: _) _ [F, m7] _
 refine J.b rfl <| J.c hK2 <| J.M 1 5 ?_
 refine J.k fun K3 hK3 => J.b5 [F, m7] [11] (.y 0 (.y 1 (.y 2 (.y 3 (.y 4 (.y 5 (.y 6 (.y 7 (.y 8 (.y 9 (.y 10 (.e 11 .nil)))))))))))) Tryz.wide (by decide +kernel) (by simp) ?_
 refine J.G ?_
 refine J.G ?_
 refine J.j rfl ((qJv rfl rfl rfl (by first | omega | (simp only [List.length_append, List.length_cons, List.length_nil, List.length_take, List.length_drop] at *; omega))).nat (d / 8) (by omega)) rfl rfl <| J.j rfl (qAJ (i := d / 8) (j := 0 + (d / 8) * 1) rfl rfl rfl qBP z5_ (by first | omega | (simp only [List.length_append, List.length_cons, List.length_nil, List.length_take, List.length_drop] at *; omega)) (by omega)) rfl rfl <| J.j rfl (qAK rfl rfl b5_ (m := m7) (by simp) (h7.sl.cells (qBj (qAi 0 (by first | omega | (simp only [List.length_append, List.length_cons, List.length_nil, List.length_take, List.length_drop] at *; omega)))))) rfl rfl <| J.G ?_
 refine J.j rfl ((qFS rfl rfl rfl (by first | omega | (simp only [List.length_append, List.length_cons, List.length_nil, List.length_take, List.length_drop] at *; omega))).nat (d % 8) (by omega)) rfl rfl <| J.j rfl ((qAs rfl rfl rfl (by omega)).nat (7 - d % 8) (by omega)) rfl rfl <| J.j rfl ((qSG (a := 1) (m := 7 - d % 8) rfl rfl rfl).as (v' := B8 (UInt8.ofNat (1 * 2 ^ (7 - d % 8)))) (by rw [Nat.min_eq_left (by omega)]; rfl)) rfl rfl <| J.j rfl (qSE rfl rfl rfl) rfl rfl <| J.j rfl (qAJ (i := d / 8) (j := 0 + (d / 8) * 1) rfl rfl rfl qBP z5_ (by first | omega | (simp only [List.length_append, List.length_cons, List.length_nil, List.length_take, List.length_drop] at *; omega)) (by omega)) rfl rfl <| J.c8 rfl (qA9 (i := 1) (k := d / 8) (off := 0) (b := [B8 (k.getD (d / 8) 0 ^^^ UInt8.ofNat (1 * 2 ^ (7 - d % 8)))]) rfl rfl rfl rfl h7 (vs := [B8 (k.getD (d / 8) 0 ^^^ UInt8.ofNat (1 * 2 ^ (7 - d % 8)))]) rfl z5_ rfl (by omega) (qBj (qAi 0 (by first | omega | (simp only [List.length_append, List.length_cons, List.length_nil, List.length_take, List.length_drop] at *; omega)))) rfl (Nat.le_refl _)) rfl rfl rfl ?_
 rintro m2_1 hm2_1
 rw [qEV] at hm2_1
 refine J.b4 <| J.q (J.H hK3 ?_)
 refine J.A 5 ?_
 refine J.g fun K4 hK4 => J.b rfl <| J.f (qBB rfl rfl qBP u5_ u9_ (m := m2_1) (by simp) hm2_1.sl) rfl <| J.b rfl <| J.c hK4 <| J.A 4 ?_
 exact J.D <| J.L hw0 rfl () (by unfold qE8; rfl) trivial [0] rfl (by decide)
theorem qPK (F : Hp) (s : List UInt8) : Ct prog 185 [Str (s)] [F] (fun _ : Unit => .bool (qNR s)) (fun _ => True) (fun _ => [F]) := by
 refine Ct.walk func185 rfl ntmps185 rfl (fun w0 hw0 => ?_)
 refine J.g fun K1 hK1 => J.b rfl <| J.c hK1 <| J.A 0 ?_
 refine J.g fun K2 hK2 => J.b rfl <| J.f (qBM rfl rfl rfl) rfl <| J.b rfl <| J.c3 (d := 5) rfl (fun h5 => ?_) (fun h5 => ?_)
 ·
  refine J.p 4 rfl <| J.c9 (Wan.un rfl rfl rfl rfl) rfl rfl ?_
  refine J.c9 (Wan.un rfl rfl rfl rfl) rfl rfl ?_
  refine J.c9 (Wan.un rfl rfl rfl rfl) rfl rfl ?_
  refine J.c9 (Wan.un rfl rfl rfl rfl) rfl rfl ?_
  refine J.c9 (Wan.un rfl rfl rfl rfl) rfl rfl ?_
  refine J.c9 (Wan.un rfl rfl rfl rfl) rfl rfl ?_
  refine J.c9 (Wan.un rfl rfl rfl rfl) rfl rfl ?_
  refine J.c9 (Wan.un rfl rfl rfl rfl) rfl rfl ?_
  refine J.p 3 rfl <| J.c hK2 <| J.A 2 ?_
  exact J.D <| J.L hw0 rfl () (by first | rw [qJ6 (by assumption)] | rw [qEe (by omega) (by omega)] | rw [qDD (by assumption) (by omega)] | (by_cases q : (s.getD 0 0).toNat = 2; rw [qEe (by omega) (.inr q), decide_eq_true (by omega)]; rw [qDD (by assumption) (by omega), decide_eq_false (by omega)])) trivial [0] rfl (by decide)
 refine J.b rfl <| J.O (qA0 u9_ rfl rfl) rfl <| J.O (qAd rfl rfl rfl) rfl <| J.b rfl <| J.c3 (d := 9) rfl (fun h9 => ?_) (fun h9 => ?_)
 ·
  refine J.b rfl <| J.O (qBS (c := s.getD 0 0) u9_ rfl rfl rfl (qAi 0 (by first | omega | (simp only [List.length_append, List.length_cons, List.length_nil, List.length_take, List.length_drop] at *; omega)))) rfl <| J.O (qAd rfl rfl rfl) rfl <| J.b rfl <| J.c3 (d := 13) rfl (fun h13 => ?_) (fun h13 => ?_)
  ·
   refine J.p 7 rfl <| J.c hK2 <| J.A 2 ?_
   exact J.D <| J.L hw0 rfl () (by first | rw [qJ6 (by assumption)] | rw [qEe (by omega) (by omega)] | rw [qDD (by assumption) (by omega)] | (by_cases q : (s.getD 0 0).toNat = 2; rw [qEe (by omega) (.inr q), decide_eq_true (by omega)]; rw [qDD (by assumption) (by omega), decide_eq_false (by omega)])) trivial [0] rfl (by decide)
  refine J.b rfl <| J.O (qBS (c := s.getD 0 0) u9_ rfl rfl rfl (qAi 0 (by first | omega | (simp only [List.length_append, List.length_cons, List.length_nil, List.length_take, List.length_drop] at *; omega)))) rfl <| J.O (qAd rfl rfl rfl) rfl <| J.p 4 rfl <| J.c hK2 <| J.A 2 ?_
  exact J.D <| J.L hw0 rfl () (by first | rw [qJ6 (by assumption)] | rw [qEe (by omega) (by omega)] | rw [qDD (by assumption) (by omega)] | (by_cases q : (s.getD 0 0).toNat = 2; rw [qEe (by omega) (.inr q), decide_eq_true (by omega)]; rw [qDD (by assumption) (by omega), decide_eq_false (by omega)])) trivial [0] rfl (by decide)
 refine J.p 4 rfl <| J.c9 (Wan.un rfl rfl rfl rfl) rfl rfl ?_
 refine J.c9 (Wan.un rfl rfl rfl rfl) rfl rfl ?_
 refine J.c9 (Wan.un rfl rfl rfl rfl) rfl rfl ?_
 refine J.p 4 rfl <| J.c hK2 <| J.A 2 ?_
 exact J.D <| J.L hw0 rfl () (by first | rw [qJ6 (by assumption)] | rw [qEe (by omega) (by omega)] | rw [qDD (by assumption) (by omega)] | (by_cases q : (s.getD 0 0).toNat = 2; rw [qEe (by omega) (.inr q), decide_eq_true (by omega)]; rw [qDD (by assumption) (by omega), decide_eq_false (by omega)])) trivial [0] rfl (by decide)
theorem qNh (F : Hp) (A : Option Addr) (c : Nat) (bs : List (List UInt8)) (hs : Sl F 1 A bs.length c (qAL bs)) (th : Bool) (pk pv k : List UInt8) (d : Nat) (hg : qOR bs th pk pv k d) : Ct prog 149 [.agg #[.slice A bs.length c, .bool (th), Str (pk), Str (pv)], Str (k), I ((d : Nat) : Int)] [F] (fun _ : Unit => .bool true) (fun _ => True) (fun _ => [F]) := by
 have hle := hg.le
 have hk16 := hg.k16
 refine Ct.walk func149 rfl ntmps149 rfl (fun w0 hw0 => ?_)
 refine J.g fun K1 hK1 => J.u (qAl rfl rfl rfl) rfl fun g3 _ => J.b rfl <| J.c hK1 <| J.V 1 2 3 ?_
 refine J.g fun K2 hK2 => J.a8 0 qDX qEZ rfl rfl rfl rfl rfl <| J.c4 1 qDq rfl rfl rfl rfl rfl <| J.f (qAZ qAn rfl rfl) rfl <| J.b rfl <| J.c hK2 <| J.W 1 2 3 7 ?_
 refine J.k fun K3 hK3 => J.g fun K4 hK4 => J.p 2 rfl <| J.u (qAB rfl rfl ent94 (Ct.use0 (fun F' hF => qHu F' k ((d : Nat) : Int)))) rfl fun g16 _ => J.f ((qA2 rfl rfl).as (v' := .bool false) (by rw [decide_eq_true (show k.length = 16 ∧ (0 : Int) ≤ ((d : Nat) : Int) ∧ ((d : Nat) : Int) ≤ 128 from ⟨hk16, by omega, by omega⟩)]; rfl)) rfl <| J.p 3 rfl <| J.O (qAs rfl rfl rfl (by first | omega | (simp only [List.length_append, List.length_cons, List.length_nil, List.length_take, List.length_drop] at *; omega))) rfl <| J.O ((qBJ rfl rfl rfl).no (by omega)) rfl <| J.b rfl <| J.c hK4 <| J.a3 1 2 3 7 23 ?_
 refine J.b6 ?_
 refine J.a1 hK3 <| J.W 1 2 3 7 ?_
 refine J.k fun K5 hK5 => J.g fun K6 hK6 => J.a8 0 qDX qEZ rfl rfl rfl rfl rfl <| J.c4 1 qDq rfl rfl rfl rfl rfl <| J.f (qAZ qAn rfl rfl) rfl <| J.b rfl <| J.c hK6 <| J.b9 1 2 3 7 25 26 27 ?_
 refine J.T <| J.b2 (X := Nat) (fun ζ => [(1, Str (k)), (2, I ((d : Nat) : Int)), (3, Ptr g3), (7, I ((bs.length : Nat) : Int)), (25, .slice A bs.length c), (26, I ((bs.length : Nat) : Int)), (27, I ((ζ : Nat) : Int))]) (fun ζ => [F, blk g3 [.slice A bs.length c, .bool (th), Str (pk), Str (pv)] 58]) (fun ζ => ζ ≤ bs.length) (fun ζ => bs.length - ζ) 0 (Nat.zero_le _) ⟨rfl, rfl, rfl, rfl, rfl, rfl, rfl, trivial⟩ (fun _ h => h) ?_
 rintro i hi I0 hI0
 refine J.g fun K7 hK7 => J.f (qAS rfl rfl rfl) rfl <| J.c hK7 <| J.d2 1 2 3 7 25 26 27 28 ?_
 refine J.k fun K8 hK8 => J.a0 rfl (fun h28 => ?_) (fun h28 => ?_)
 ·
  refine J.a1 hK8 <| J.b9 1 2 3 7 25 26 27 ?_
  refine J.k fun K9 hK9 => J.T <| J.g fun K10 hK10 => J.f (qAG rfl rfl rfl qAn z9_ hs (by first | omega | (simp only [List.length_append, List.length_cons, List.length_nil, List.length_take, List.length_drop] at *; omega))) rfl <| J.f (qAK rfl rfl b9_ (m := F) (by simp) (hs.elem (qAa (qAi [] (by first | omega | (simp only [List.length_append, List.length_cons, List.length_nil, List.length_take, List.length_drop] at *; omega)))))) rfl <| J.b rfl <| J.c hK10 <| J.d2 1 2 3 7 9 25 26 27 ?_
  refine J.g fun K11 hK11 => J.b rfl <| J.u (qAB rfl rfl ent185 (Ct.use0 (fun F' hF => qPK F' (bs.getD i [])))) rfl fun g32 _ => J.f ((qA2 rfl rfl).as (v' := .bool false) (by rw [hg.nodes i (by omega)]; rfl)) rfl <| J.c hK11 <| J.d2 1 2 3 7 25 26 27 33 ?_
  refine J.b6 ?_
  refine J.b7 <| J.a4 <| J.q (J.H hK9 ?_)
  refine J.b9 1 2 3 7 25 26 27 ?_
  exact J.E <| J.f ((qAO rfl rfl rfl (by first | omega | (simp only [List.length_append, List.length_cons, List.length_nil, List.length_take, List.length_drop] at *; omega))).nat (i + 1) (by omega)) rfl <| J.b rfl <| J.a2 <| J.q <| J.a6 (i + 1) (fun η (hη : _ ∧ bs.length - η < bs.length - i) => hI0 η hη.1 hη.2) ⟨(by omega), by first | omega | (dsimp only; omega)⟩ ⟨rfl, rfl, rfl, rfl, rfl, rfl, rfl, trivial⟩ (fun _ h => h)
 refine J.b0 <| J.Z <| J.Z <| J.b1 ?_
 refine J.q (J.H hK5 ?_)
 refine J.W 1 2 3 7 ?_
 refine J.k fun K12 hK12 => J.g fun K13 hK13 => J.b rfl <| J.f (qBJ rfl rfl rfl) rfl <| J.c hK13 <| J.a3 1 2 3 7 36 ?_
 refine J.a0 rfl (fun h36 => ?_) (fun h36 => ?_)
 ·
  obtain ⟨hl1, hl2⟩ := hg.last (by omega)
  refine J.g fun K14 hK14 => J.a8 0 qDX qEZ rfl rfl rfl rfl rfl <| J.c4 1 qDq rfl rfl rfl rfl rfl <| J.b rfl <| J.f ((qAs rfl rfl rfl (by omega)).nat (bs.length - 1) (by omega)) rfl <| J.f (qAG rfl rfl rfl qAn z9_ hs (by first | omega | (simp only [List.length_append, List.length_cons, List.length_nil, List.length_take, List.length_drop] at *; omega))) rfl <| J.f (qAK rfl rfl b9_ (m := F) (by simp) (hs.elem (qAa (qAi [] (by first | omega | (simp only [List.length_append, List.length_cons, List.length_nil, List.length_take, List.length_drop] at *; omega)))))) rfl <| J.b rfl <| J.c hK14 <| J.a3 1 2 3 7 10 ?_
  refine J.g fun K15 hK15 => J.b rfl <| J.f ((qBM rfl rfl rfl).no (hl1)) rfl <| J.b rfl <| J.O (qAA rfl rfl qDX rfl z4_ rfl) rfl <| J.O (qAF 1 rfl rfl rfl b4_ rfl) rfl <| J.O (qA2 rfl rfl) rfl <| J.b rfl <| J.f8 (d := 49) rfl (fun h49 => ?_) (fun h49 => ?_)
  ·
   refine J.b rfl ?_
   have hl3 := qPz (hl2 (by simpa using h49))
   refine J.O (qBS (c := (bs.getD (bs.length - 1) []).getD 0 0) u9_ rfl rfl rfl (qAi 0 (by first | omega | (simp only [List.length_append, List.length_cons, List.length_nil, List.length_take, List.length_drop] at *; omega)))) rfl <| J.O ((qAx rfl rfl rfl).no (by have := hl2 (by simpa using h49); omega)) rfl <| J.p 2 rfl <| J.c hK15 <| J.a3 1 2 3 7 54 ?_
   refine J.b6 ?_
   refine J.a1 hK12 <| J.W 1 2 3 7 ?_
   refine J.k fun K16 hK16 => J.g fun K17 hK17 => J.a8 1 qDX z4_ rfl rfl rfl rfl rfl <| J.c4 1 b4_ rfl rfl rfl rfl rfl <| J.f (qA2 rfl rfl) rfl <| J.c hK17 <| J.a3 1 2 3 7 57 ?_
   refine J.d0 rfl (fun h57 => ?_) (fun h57 => ?_)
   ·
    refine J.g fun K18 hK18 => J.a8 2 qDX z9_ rfl rfl rfl rfl rfl <| J.c4 1 b9_ rfl rfl rfl rfl rfl <| J.f ((qBM rfl rfl rfl).yes ((hg.no (by simpa using h57)).1)) rfl <| J.b rfl <| J.O (qAA rfl rfl qDX rfl z9_ rfl) rfl <| J.O (qAF 1 rfl rfl rfl b9_ rfl) rfl <| J.O ((qBM rfl rfl rfl).yes ((hg.no (by simpa using h57)).2)) rfl <| J.p 2 rfl <| J.c hK18 <| J.A 6 ?_
    exact J.D <| J.a5 <| J.L hw0 rfl () (by first | rfl | (rw [Int.toNat_natCast, Nat.min_eq_left (by omega), (hg.yes (by simpa using h57)).2])) trivial [0] rfl (by decide)
   refine J.a1 hK16 <| J.W 1 2 3 7 ?_
   refine J.g fun K19 hK19 => J.a8 2 qDX z9_ rfl rfl rfl rfl rfl <| J.c4 1 b9_ rfl rfl rfl rfl rfl <| J.f (qA0 u9_ rfl rfl) rfl <| J.f ((qAd rfl rfl rfl).yes (by have := (hg.yes (by simpa using h57)).1; omega)) rfl <| J.b rfl <| J.O (qAA rfl rfl qDX rfl z9_ rfl) rfl <| J.O (qAF 1 rfl rfl rfl b9_ rfl) rfl <| J.p 3 rfl <| J.O ((qAO rfl rfl rfl (by first | omega | (simp only [List.length_append, List.length_cons, List.length_nil, List.length_take, List.length_drop] at *; omega))).nat (d + bs.length) (by omega)) rfl ?_
   have hpl := (hg.yes (by simpa using h57)).1
   refine J.d7 (qAB rfl rfl ent100 (Ct.use0 (fun F' hF => qEF F' pk (by omega) k (by omega) ((d + bs.length : Nat) : Int)))) rfl fun g77 _ => J.p 2 rfl <| J.c hK19 <| J.A 6 ?_
   exact J.D <| J.L hw0 rfl () (by first | rfl | (rw [Int.toNat_natCast, Nat.min_eq_left (by omega), (hg.yes (by simpa using h57)).2])) trivial [0] rfl (by decide)
  refine J.p 5 rfl <| J.c hK15 <| J.a3 1 2 3 7 54 ?_
  refine J.b6 ?_
  refine J.a1 hK12 <| J.W 1 2 3 7 ?_
  refine J.k fun K20 hK20 => J.g fun K21 hK21 => J.a8 1 qDX z4_ rfl rfl rfl rfl rfl <| J.c4 1 b4_ rfl rfl rfl rfl rfl <| J.f (qA2 rfl rfl) rfl <| J.c hK21 <| J.a3 1 2 3 7 57 ?_
  refine J.d0 rfl (fun h57 => ?_) (fun h57 => ?_)
  ·
   refine J.g fun K22 hK22 => J.a8 2 qDX z9_ rfl rfl rfl rfl rfl <| J.c4 1 b9_ rfl rfl rfl rfl rfl <| J.f ((qBM rfl rfl rfl).yes ((hg.no (by simpa using h57)).1)) rfl <| J.b rfl <| J.O (qAA rfl rfl qDX rfl z9_ rfl) rfl <| J.O (qAF 1 rfl rfl rfl b9_ rfl) rfl <| J.O ((qBM rfl rfl rfl).yes ((hg.no (by simpa using h57)).2)) rfl <| J.p 2 rfl <| J.c hK22 <| J.A 6 ?_
   exact J.D <| J.a5 <| J.L hw0 rfl () (by first | rfl | (rw [Int.toNat_natCast, Nat.min_eq_left (by omega), (hg.yes (by simpa using h57)).2])) trivial [0] rfl (by decide)
  refine J.a1 hK20 <| J.W 1 2 3 7 ?_
  refine J.g fun K23 hK23 => J.a8 2 qDX z9_ rfl rfl rfl rfl rfl <| J.c4 1 b9_ rfl rfl rfl rfl rfl <| J.f (qA0 u9_ rfl rfl) rfl <| J.f ((qAd rfl rfl rfl).yes (by have := (hg.yes (by simpa using h57)).1; omega)) rfl <| J.b rfl <| J.O (qAA rfl rfl qDX rfl z9_ rfl) rfl <| J.O (qAF 1 rfl rfl rfl b9_ rfl) rfl <| J.p 3 rfl <| J.O ((qAO rfl rfl rfl (by first | omega | (simp only [List.length_append, List.length_cons, List.length_nil, List.length_take, List.length_drop] at *; omega))).nat (d + bs.length) (by omega)) rfl ?_
  have hpl := (hg.yes (by simpa using h57)).1
  refine J.d7 (qAB rfl rfl ent100 (Ct.use0 (fun F' hF => qEF F' pk (by omega) k (by omega) ((d + bs.length : Nat) : Int)))) rfl fun g77 _ => J.p 2 rfl <| J.c hK23 <| J.A 6 ?_
  exact J.D <| J.L hw0 rfl () (by first | rfl | (rw [Int.toNat_natCast, Nat.min_eq_left (by omega), (hg.yes (by simpa using h57)).2])) trivial [0] rfl (by decide)
 refine J.a1 hK12 <| J.W 1 2 3 7 ?_
 refine J.k fun K24 hK24 => J.g fun K25 hK25 => J.a8 1 qDX z4_ rfl rfl rfl rfl rfl <| J.c4 1 b4_ rfl rfl rfl rfl rfl <| J.f (qA2 rfl rfl) rfl <| J.c hK25 <| J.a3 1 2 3 7 57 ?_
 refine J.d0 rfl (fun h57 => ?_) (fun h57 => ?_)
 ·
  refine J.g fun K26 hK26 => J.a8 2 qDX z9_ rfl rfl rfl rfl rfl <| J.c4 1 b9_ rfl rfl rfl rfl rfl <| J.f ((qBM rfl rfl rfl).yes ((hg.no (by simpa using h57)).1)) rfl <| J.b rfl <| J.O (qAA rfl rfl qDX rfl z9_ rfl) rfl <| J.O (qAF 1 rfl rfl rfl b9_ rfl) rfl <| J.O ((qBM rfl rfl rfl).yes ((hg.no (by simpa using h57)).2)) rfl <| J.p 2 rfl <| J.c hK26 <| J.A 6 ?_
  exact J.D <| J.a5 <| J.L hw0 rfl () (by first | rfl | (rw [Int.toNat_natCast, Nat.min_eq_left (by omega), (hg.yes (by simpa using h57)).2])) trivial [0] rfl (by decide)
 refine J.a1 hK24 <| J.W 1 2 3 7 ?_
 refine J.g fun K27 hK27 => J.a8 2 qDX z9_ rfl rfl rfl rfl rfl <| J.c4 1 b9_ rfl rfl rfl rfl rfl <| J.f (qA0 u9_ rfl rfl) rfl <| J.f ((qAd rfl rfl rfl).yes (by have := (hg.yes (by simpa using h57)).1; omega)) rfl <| J.b rfl <| J.O (qAA rfl rfl qDX rfl z9_ rfl) rfl <| J.O (qAF 1 rfl rfl rfl b9_ rfl) rfl <| J.p 3 rfl <| J.O ((qAO rfl rfl rfl (by first | omega | (simp only [List.length_append, List.length_cons, List.length_nil, List.length_take, List.length_drop] at *; omega))).nat (d + bs.length) (by omega)) rfl ?_
 have hpl := (hg.yes (by simpa using h57)).1
 refine J.d7 (qAB rfl rfl ent100 (Ct.use0 (fun F' hF => qEF F' pk (by omega) k (by omega) ((d + bs.length : Nat) : Int)))) rfl fun g77 _ => J.p 2 rfl <| J.c hK27 <| J.A 6 ?_
 exact J.D <| J.L hw0 rfl () (by first | rfl | (rw [Int.toNat_natCast, Nat.min_eq_left (by omega), (hg.yes (by simpa using h57)).2])) trivial [0] rfl (by decide)
theorem qQT (F : Hp) (B : Option Addr) (n e : Nat) : Ct prog 219 [.slice B n e] [F] (fun x : Nat => .func (.func 242) #[] #[Ptr x]) (fun _ => True) (fun x => [F, blk x [.slice B n e] 37]) := by
 refine Ct.walk func219 rfl ntmps219 rfl (fun w0 hw0 => ?_)
 refine J.g fun K1 hK1 => J.u (qAl rfl rfl rfl) rfl fun g1 _ => J.b rfl <| J.c hK1 <| J.A 1 ?_
 refine J.g fun K2 hK2 => J.f (qBh rfl rfl) rfl <| J.b rfl <| J.c hK2 <| J.A 2 ?_
 exact J.D <| J.L hw0 rfl g1 rfl trivial [0, 1] rfl (by decide)
theorem qOF (Fr : Hp) (gB : Nat) (B : Option Addr) (W : List (List UInt8)) (e : Nat) (hn2 : W.length ≤ 1073741824) (ha : qAV Fr ⟨gB, 0, none⟩ [.slice B W.length e]) (hs : Sl Fr 1 B W.length e (qAL W)) :
    qJP prog 242 [Ptr gB] Fr (fun i => [I ((W.length - 1 - i : Nat) : Int), Str (W.getD (W.length - 1 - i) [])]) W.length := by
  refine qJP.walk func242 rfl ntmps242 rfl (fun {X} M IY S l x0 w0 hw0 h0 hY => ?_)
  refine J.g fun K1 hK1 => J.f (qAK rfl rfl qDq (m := Fr) (by simp) (ha)) rfl <| J.f (qAZ qAn rfl rfl) rfl <| J.f ((qAs rfl rfl rfl (by omega)).as (v' := I ((W.length : Int) - 1 - ((0 : Nat) : Int))) (congrArg I (by omega))) rfl <| J.b rfl <| J.c hK1 <| J.V 0 1 3 ?_
  refine J.T <| J.b2 (X := Nat × X) (fun y => [(0, .func (.yield l) #[] #[]), (1, Ptr gB), (3, I ((W.length : Int) - 1 - (y.1 : Int)))]) (fun y => [Fr, M y.2]) (fun y => y.1 ≤ W.length ∧ IY y.1 y.2) (fun y => W.length - y.1) (0, x0) (⟨Nat.zero_le _, h0⟩) ⟨rfl, rfl, rfl, trivial⟩ (fun _ h => h) ?_
  rintro ⟨i, x⟩ ⟨hi, hI⟩ I0 hI0
  dsimp only at hi hI ⊢
  refine J.k fun K2 hK2 => J.g fun K3 hK3 => J.b rfl <| J.f (qBG rfl rfl rfl) rfl <| J.c hK3 <| J.W 0 1 3 8 ?_
  refine J.a0 rfl (fun h8 => ?_) (fun h8 => ?_)
  ·
    refine J.a1 hK2 <| J.V 0 1 3 ?_
    refine J.k fun K4 hK4 => J.T <| J.k fun K5 hK5 => J.g2 ?_
    refine J.d3 (qAj rfl rfl) rfl rfl rfl ?_
    refine J.d3 ((qAj rfl rfl).nat (W.length - 1 - i) (by omega)) rfl rfl rfl ?_
    refine J.d3 (qAK rfl rfl qDq (m := Fr) (by simp) (ha)) rfl rfl rfl ?_
    refine J.d3 ((qAj rfl rfl).nat (W.length - 1 - i) (by omega)) rfl rfl rfl ?_
    refine J.d3 (qAG rfl rfl rfl qAn z9_ hs (by first | omega | (simp only [List.length_append, List.length_cons, List.length_nil, List.length_take, List.length_drop] at *; omega))) rfl rfl rfl ?_
    refine J.d3 (qAK rfl rfl b9_ (m := Fr) (by simp) (hs.elem (qAa (qAi [] (by first | omega | (simp only [List.length_append, List.length_cons, List.length_nil, List.length_take, List.length_drop] at *; omega)))))) rfl rfl rfl ?_
    refine J.g3 (ex := []) rfl rfl rfl rfl rfl rfl (hY i x (by omega) hI) ?_
    rintro x' b hb1 hb2
    cases b
    ·
      have hyb := hb2 rfl
      refine J.d3 (qA2 rfl rfl) rfl rfl rfl ?_
      refine J.f3 ?_
      refine J.q (J.H hK5 ?_)
      refine J.W 0 1 3 18 ?_
      refine J.d1 ?_
      exact J.D <| J.b3 <| J.a5 <| J.a5 <| J.b3 <| J.c2 hw0 (fun _ _ h => h) (qLx rfl) (fun w hs => ⟨x', ⟨_, rfl⟩, .inr hyb, hs⟩)
    have hyb := hb1 rfl
    refine J.d3 (qA2 rfl rfl) rfl rfl rfl ?_
    refine J.f3 ?_
    refine J.q (J.H hK5 ?_)
    refine J.W 0 1 3 18 ?_
    refine J.b6 ?_
    refine J.b7 <| J.a4 <| J.q (J.H hK4 ?_)
    refine J.V 0 1 3 ?_
    exact J.E <| J.b rfl <| J.f ((qAs rfl rfl rfl (by omega)).as (v' := I ((W.length : Int) - 1 - ((i + 1 : Nat) : Int))) (congrArg I (by omega))) rfl <| J.b rfl <| J.a2 <| J.q <| J.a6 (i + 1, x') (fun y (hy : _ ∧ W.length - y.1 < W.length - i) => hI0 y hy.1 hy.2) ⟨⟨by dsimp only; omega, hyb⟩, by dsimp only; omega⟩ ⟨rfl, rfl, rfl, trivial⟩ (fun _ h => h)
  refine J.b0 <| J.Z <| J.Z <| J.b1 ?_
  exact J.e4 hw0 (fun _ _ h => h) (qLx rfl) (fun w hs => ⟨x, ⟨_, rfl⟩, .inl (by rw [show W.length = i by omega]; exact hI), hs⟩)
theorem qHx (F : Hp) (hK : KF F) (A : Option Addr) (c : Nat) (bs : List (List UInt8)) (hs : Sl F 1 A bs.length c (qAL bs)) (th : Bool) (pk pv xx k : List UInt8) (d : Nat) (hle : d + bs.length ≤ 128) (hk16 : k.length = 16) (hsm : ∀ s ∈ bs, s.length ≤ 17) (hx : xx.length ≤ 17) :
    Ct prog 186 [.agg #[.slice A bs.length c, .bool (th), Str (pk), Str (pv)], Str xx, Str k, I ((d : Nat) : Int)] [F] (fun _ : Unit => Str (clm k d bs xx bs.length)) (fun _ => True) (fun _ => [F]) := by
  refine Ct.walk func186 rfl ntmps186 rfl (fun w0 hw0 => ?_)
  refine J.g fun K1 hK1 => J.u (qAl rfl rfl rfl) rfl fun g4 _ => J.u (qAl rfl rfl rfl) rfl fun g5 _ => J.u (qAl rfl rfl rfl) rfl fun g6 _ => J.u (qAl rfl rfl rfl) rfl fun g7 _ => J.b rfl <| J.c hK1 <| J.W 4 5 6 7 ?_
  refine J.k fun K2 hK2 => J.g fun K3 hK3 => J.a8 0 qDX qEZ rfl rfl rfl rfl rfl <| J.c4 1 qDq rfl rfl rfl rfl rfl <| J.u (qAB rfl rfl ent219 (Ct.use (fun F' _ => qQT F' A bs.length c))) rfl ?_
  rintro gB _
  refine J.c hK3 <| J.W 5 6 7 13 ?_
  refine J.T <| J.c5 [2, 0, 1, 3, 4, 5] [blk g5 [Str (xx)] 9, F, blk g4 [.slice A bs.length c, .bool (th), Str (pk), Str (pv)] 58, blk g6 [Str (k)] 9, blk g7 [I ((d : Nat) : Int)] 3, blk gB [.slice A bs.length c] 37] rfl (by decide) <| J.h2 (fun x : List UInt8 => [blk g5 [Str (x)] 9]) [F, blk g4 [.slice A bs.length c, .bool (th), Str (pk), Str (pv)] 58, blk g6 [Str (k)] 9, blk g7 [I ((d : Nat) : Int)] 3, blk gB [.slice A bs.length c] 37] (fun i x => x = clm k d bs xx i) (fun _ _ => False) xx rfl ent242 (fun Fr hF => qOF Fr gB A bs c (by omega) (qAV.blk0.mono (hF (blk gB [.slice A bs.length c] 37) (by simp))) (hs.mono (hF F (by simp)))) (fun _ _ => rfl) rfl (rfl) ?_ ?_ ?_
  ·
    intro i x l wa wb hi hI K4 Post4 hK4 hN4 hR4 hE4
    subst hI
    obtain ⟨y, hy⟩ : ∃ y, y = clm k d bs xx i := ⟨_, rfl⟩
    obtain ⟨s, hsd⟩ : ∃ s, s = bs.getD (bs.length - 1 - i) [] := ⟨_, rfl⟩
    have hyl : y.length ≤ 17 := by rw [hy]; exact qIQ hsm hx i
    have hsl : s.length ≤ 17 := by rw [hsd, List.getD_eq_getElem?_getD, List.getElem?_eq_getElem (show bs.length - 1 - i < bs.length by omega)]; exact hsm _ (List.getElem_mem _)
    rw [← hy, ← hsd]
    refine J.h1 (fun K5 hK5 => ?_)
    refine J.e6 ?_
    refine J.b rfl <| J.e7 ?_
    refine J.q (J.H hK5 ?_)
    refine J.a3 5 6 7 9 15 ?_
    refine J.e6 ?_
    refine J.b rfl <| J.e7 ?_
    refine J.q (hK4 _ _ ?_)
    refine J.a3 5 6 7 9 10 ?_
    refine J.g1 ?_
    refine J.h1 (fun K6 hK6 => ?_)
    refine J.e6 ?_
    refine J.c4 3 b9_ rfl rfl rfl rfl rfl <| J.c4 4 b3_ rfl rfl rfl rfl rfl <| J.b rfl <| J.f ((qAO rfl rfl rfl (by omega)).nat (d + (bs.length - 1 - i)) (by omega)) rfl <| J.u (qAB rfl rfl ent147 (Ct.use0 (fun F' hF => qKS F' k (by omega) (d + (bs.length - 1 - i)) (by omega)))) rfl fun g20 _ => J.f (qAd rfl rfl rfl) rfl <| J.e7 ?_
    refine J.q (J.H hK6 ?_)
    refine J.V 5 10 21 ?_
    refine J.i0 rfl (fun h21 => ?_) (fun h21 => ?_)
    ·
      refine J.e6 ?_
      refine J.c4 0 b9_ rfl rfl rfl rfl rfl <| J.b rfl <| J.u (qAB rfl rfl ent177 (Ct.use0 (fun F' hF => qEm F' (hK.mo hF) y s (by omega) (by omega)))) rfl fun g24 _ => J.c1 (qAR (l := [Str (y)]) (i := 0) (vs := [Str (Sb.join y s)]) rfl rfl rfl rfl rfl z9_ rfl rfl) rfl rfl fun _ _ => J.e7 ?_
      refine J.a4 ?_
      exact hN4 _ (Sb.join y s) (by rw [clm, up, if_pos (by omega), ← hy, ← hsd])
    refine J.e6 ?_
    refine J.b rfl <| J.c4 0 b9_ rfl rfl rfl rfl rfl <| J.u (qAB rfl rfl ent177 (Ct.use0 (fun F' hF => qEm F' (hK.mo hF) s y (by omega) (by omega)))) rfl fun g27 _ => J.c1 (qAR (l := [Str (y)]) (i := 0) (vs := [Str (Sb.join s y)]) rfl rfl rfl rfl rfl z9_ rfl rfl) rfl rfl fun _ _ => J.e7 ?_
    refine J.a4 ?_
    exact hN4 _ (Sb.join s y) (by rw [clm, up, if_neg (by omega), ← hy, ← hsd])
  ·
    intro w4 x hx4 hI
    subst hI
    refine J.a4 <| J.q (J.H hK2 ?_)
    refine J.A 5 ?_
    refine J.g fun K7 hK7 => J.c4 0 b9_ rfl rfl rfl rfl rfl <| J.b rfl <| J.c hK7 <| J.A 8 ?_
    exact J.D <| J.g4 hw0 hx4 (fun _ _ h => h) (qOW rfl rfl) (qBD () rfl trivial [1] rfl (by decide))
  intro w4 x c hx4 hS
  exact hS.elim
end Go.Proofs.YtfldiegfenndjaaGreatDoor
