/- A part of the proof: contracts of functions of the program, each for every state of the heaps that it names. -/
import Derived.Test.YtnkfapecbmmpeaaDoorTopSiG10
import Derived.Test.YtnkfapecbmmpeaaDoorTopSiG6
set_option linter.unusedSimpArgs false
set_option linter.unusedVariables false
namespace Go.Proofs.YtnkfapecbmmpeaaDoor
set_option maxRecDepth 100000
set_option maxHeartbeats 1000000

namespace SN
def force {α : Type} (n : Nat) (g : Nat → α) : α := Nat.rec (g 0) (fun m _ => g (Nat.succ m)) n
theorem force_eq {α : Type} (n : Nat) (g : Nat → α) : force n g = g n := by cases n <;> rfl
noncomputable def forceL {α : Type} (l : List Nat) : (List Nat → α) → α := List.rec (fun g => g []) (fun a _ ih g => force a fun x => ih fun r => g (x :: r)) l
theorem forceL_eq {α : Type} : ∀ (l : List Nat) (g : List Nat → α), forceL l g = g l
  | [], _ => rfl
  | a :: l, g => by
    show force a (fun x => forceL l fun r => g (x :: r)) = g (a :: l)
    rw [force_eq, forceL_eq l]
def rot (x r q : Nat) : Nat := x / r + x % r * q
noncomputable def sch (n : Nat) : Nat → Nat → Nat → Nat → Nat → Nat → Nat → Nat → Nat → Nat → Nat → Nat → Nat → Nat → Nat → Nat → List Nat :=
  Nat.rec (fun a b c d e f g h i j k l m n o p => [a, b, c, d, e, f, g, h, i, j, k, l, m, n, o, p])
    (fun _ ih a b c d e f g h i j k l m n o p => a :: force ((a + Nat.xor (Nat.xor (rot b 128 33554432) (rot b 262144 16384)) (b / 8) + j + Nat.xor (Nat.xor (rot o 131072 32768) (rot o 524288 8192)) (o / 1024)) % 4294967296) fun x => ih b c d e f g h i j k l m n o p x) n
noncomputable def rds (kw : List Nat) : List Nat → Nat → Nat → Nat → Nat → Nat → Nat → Nat → Nat → List Nat :=
  List.rec (fun _ a b c d e f g h => [a, b, c, d, e, f, g, h])
    (fun k _ ih ws a b c d e f g h => List.rec [] (fun w ws _ =>
      force ((h + Nat.xor (Nat.xor (rot e 64 67108864) (rot e 2048 2097152)) (rot e 33554432 128) + Nat.xor (Nat.land e f) (Nat.land (4294967295 - e) g) + k + w) % 4294967296) fun t1 =>
      force ((t1 + (Nat.xor (Nat.xor (rot a 4 1073741824) (rot a 8192 524288)) (rot a 4194304 1024) + Nat.xor (Nat.xor (Nat.land a b) (Nat.land a c)) (Nat.land b c))) % 4294967296) fun x =>
      force ((d + t1) % 4294967296) fun y => ih ws x a b c y e f g) ws) kw
theorem rds_step (k w : Nat) (ks ws : List Nat) (a b c d e f g h : Nat) : rds (k :: ks) (w :: ws) a b c d e f g h =
      force ((h + Nat.xor (Nat.xor (rot e 64 67108864) (rot e 2048 2097152)) (rot e 33554432 128) + Nat.xor (Nat.land e f) (Nat.land (4294967295 - e) g) + k + w) % 4294967296) fun t1 =>
      force ((t1 + (Nat.xor (Nat.xor (rot a 4 1073741824) (rot a 8192 524288)) (rot a 4194304 1024) + Nat.xor (Nat.xor (Nat.land a b) (Nat.land a c)) (Nat.land b c))) % 4294967296) fun x =>
      force ((d + t1) % 4294967296) fun y => rds ks ws x a b c y e f g := rfl
theorem sch_step (n' a b c d e f g h i j k l m n o p : Nat) : sch (n' + 1) a b c d e f g h i j k l m n o p = a :: force ((a + Nat.xor (Nat.xor (rot b 128 33554432) (rot b 262144 16384)) (b / 8) + j + Nat.xor (Nat.xor (rot o 131072 32768) (rot o 524288 8192)) (o / 1024)) % 4294967296) fun x => sch n' b c d e f g h i j k l m n o p x := rfl
theorem rds_nil (ws : List Nat) (a b c d e f g h : Nat) : rds [] ws a b c d e f g h = [a, b, c, d, e, f, g, h] := rfl
theorem sch_zero (a b c d e f g h i j k l m n o p : Nat) : sch 0 a b c d e f g h i j k l m n o p = [a, b, c, d, e, f, g, h, i, j, k, l, m, n, o, p] := rfl
attribute [local irreducible] rds sch
theorem rot_eq (x : UInt32) (r : Nat) (h1 : 1 ≤ r) (h2 : r < 32) : rot x.toNat (2 ^ r) (4294967296 / 2 ^ r) = (Sha.rotr x r).toNat := (R3.rotr_nat x r h1 h2).symm
theorem xor_eq (a b : UInt32) : Nat.xor a.toNat b.toNat = (a ^^^ b).toNat := (UInt32.toNat_xor a b).symm
theorem and_eq (a b : UInt32) : Nat.land a.toNat b.toNat = (a &&& b).toNat := (UInt32.toNat_and a b).symm
theorem not_eq (a : UInt32) : 4294967295 - a.toNat = (~~~ a).toNat := by simp
theorem rds_cons (k w : UInt32) (ks ws : List Nat) (s : Sha.St8) : rds (k.toNat :: ks) (w.toNat :: ws) s.a.toNat s.b.toNat s.c.toNat s.d.toNat s.e.toNat s.f.toNat s.g.toNat s.h.toNat =
    rds ks ws (Sha.rnd w k s).a.toNat (Sha.rnd w k s).b.toNat (Sha.rnd w k s).c.toNat (Sha.rnd w k s).d.toNat (Sha.rnd w k s).e.toNat (Sha.rnd w k s).f.toNat (Sha.rnd w k s).g.toNat (Sha.rnd w k s).h.toNat := by
  obtain ⟨S1, hS1⟩ : ∃ x, x = Sha.rotr s.e 6 ^^^ Sha.rotr s.e 11 ^^^ Sha.rotr s.e 25 := ⟨_, rfl⟩
  obtain ⟨CH, hCH⟩ : ∃ x, x = s.e &&& s.f ^^^ ~~~ s.e &&& s.g := ⟨_, rfl⟩
  obtain ⟨T1, hT1⟩ : ∃ x, x = s.h + S1 + CH + k + w := ⟨_, rfl⟩
  obtain ⟨S0, hS0⟩ : ∃ x, x = Sha.rotr s.a 2 ^^^ Sha.rotr s.a 13 ^^^ Sha.rotr s.a 22 := ⟨_, rfl⟩
  obtain ⟨MJ, hMJ⟩ : ∃ x, x = s.a &&& s.b ^^^ s.a &&& s.c ^^^ s.b &&& s.c := ⟨_, rfl⟩
  have hrn : Sha.rnd w k s = ⟨T1 + (S0 + MJ), s.a, s.b, s.c, s.d + T1, s.e, s.f, s.g⟩ := by rw [hT1, hS0, hMJ, hS1, hCH]; rfl
  have e1 : Nat.xor (Nat.xor (rot s.e.toNat 64 67108864) (rot s.e.toNat 2048 2097152)) (rot s.e.toNat 33554432 128) = S1.toNat := by
    rw [show rot s.e.toNat 64 67108864 = _ from rot_eq s.e 6 (by decide) (by decide), show rot s.e.toNat 2048 2097152 = _ from rot_eq s.e 11 (by decide) (by decide), show rot s.e.toNat 33554432 128 = _ from rot_eq s.e 25 (by decide) (by decide), xor_eq, xor_eq, ← hS1]
  have e2 : Nat.xor (Nat.land s.e.toNat s.f.toNat) (Nat.land (4294967295 - s.e.toNat) s.g.toNat) = CH.toNat := by rw [not_eq, and_eq, and_eq, xor_eq, ← hCH]
  have e3 : Nat.xor (Nat.xor (rot s.a.toNat 4 1073741824) (rot s.a.toNat 8192 524288)) (rot s.a.toNat 4194304 1024) = S0.toNat := by
    rw [show rot s.a.toNat 4 1073741824 = _ from rot_eq s.a 2 (by decide) (by decide), show rot s.a.toNat 8192 524288 = _ from rot_eq s.a 13 (by decide) (by decide), show rot s.a.toNat 4194304 1024 = _ from rot_eq s.a 22 (by decide) (by decide), xor_eq, xor_eq, ← hS0]
  have e4 : Nat.xor (Nat.xor (Nat.land s.a.toNat s.b.toNat) (Nat.land s.a.toNat s.c.toNat)) (Nat.land s.b.toNat s.c.toNat) = MJ.toNat := by rw [and_eq, and_eq, and_eq, xor_eq, xor_eq, ← hMJ]
  have t1 : (s.h.toNat + S1.toNat + CH.toNat + k.toNat + w.toNat) % 4294967296 = T1.toNat := by rw [hT1]; simp only [UInt32.toNat_add]; omega
  have t2 : (T1.toNat + (S0.toNat + MJ.toNat)) % 4294967296 = (T1 + (S0 + MJ)).toNat := by simp only [UInt32.toNat_add]; omega
  have t3 : (s.d.toNat + T1.toNat) % 4294967296 = (s.d + T1).toNat := by simp only [UInt32.toNat_add]
  rw [hrn, rds_step, force_eq, e1, e2, t1, force_eq, e3, e4, t2, force_eq, t3]
def fold (ks ws : List UInt32) (s : Sha.St8) : Sha.St8 := (ks.zip ws).foldl (fun s kw => Sha.rnd kw.2 kw.1 s) s
theorem fold_cons (k w : UInt32) (ks ws : List UInt32) (s : Sha.St8) : fold (k :: ks) (w :: ws) s = fold ks ws (Sha.rnd w k s) := by unfold fold; rw [List.zip_cons_cons, List.foldl_cons]
theorem fold_nil (ws : List UInt32) (s : Sha.St8) : fold [] ws s = s := by unfold fold; rw [List.zip_nil_left, List.foldl_nil]
theorem rds_fold (ks : List UInt32) : ∀ (ws : List UInt32) (s : Sha.St8), ks.length = ws.length → rds (ks.map UInt32.toNat) (ws.map UInt32.toNat) s.a.toNat s.b.toNat s.c.toNat s.d.toNat s.e.toNat s.f.toNat s.g.toNat s.h.toNat = (fold ks ws s).list.map UInt32.toNat := by
  induction ks with
  | nil =>
    intro ws s h
    cases ws with
    | nil => rw [List.map_nil, rds_nil, fold_nil, Sha.St8.list]; rfl
    | cons _ _ => cases h
  | cons k ks ih =>
    intro ws s h
    cases ws with
    | nil => cases h
    | cons w ws =>
      rw [List.map_cons, List.map_cons, rds_cons k w (ks.map UInt32.toNat) (ws.map UInt32.toNat) s, fold_cons, ih ws (Sha.rnd w k s) (by simpa using h)]
theorem fold_rnds (ws : List UInt32) (s : Sha.St8) (hw : ws.length = 64) : ∀ m i, i + m = 64 → fold (Sha.K.drop i) (ws.drop i) (Sha.rnds ws s i) = Sha.rnds ws s 64
  | 0, i, h => by
    obtain rfl : i = 64 := by omega
    rw [List.drop_of_length_le (l := ws) (by omega), List.drop_of_length_le (l := Sha.K) (Nat.le_refl 64), fold_nil]
  | m + 1, i, h => by
    have h1 : i < Sha.K.length := by show i < 64; omega
    have h2 : i < ws.length := by omega
    rw [List.drop_eq_getElem_cons h1, List.drop_eq_getElem_cons h2, fold_cons]
    have e : Sha.rnd ws[i] Sha.K[i] (Sha.rnds ws s i) = Sha.rnds ws s (i + 1) := by
      rw [Sha.rnds, List.getD_eq_getElem?_getD, List.getD_eq_getElem?_getD, List.getElem?_eq_getElem h1, List.getElem?_eq_getElem h2]; rfl
    rw [e]
    exact fold_rnds ws s hw m (i + 1) (by omega)
theorem exts_succ' (l : List UInt32) : ∀ n, Sha.exts (n + 1) l = Sha.exts n (Sha.ext l)
  | 0 => rfl
  | n + 1 => by rw [Sha.exts, exts_succ' l n]; rfl
theorem getD_pre (p l : List UInt32) (k : Nat) : (p ++ l).getD (p.length + k) 0 = l.getD k 0 := by
  rw [List.getD_eq_getElem?_getD, List.getElem?_append_right (by omega), Nat.add_sub_cancel_left, ← List.getD_eq_getElem?_getD]
theorem sg0_eq (b : UInt32) : Nat.xor (Nat.xor (rot b.toNat 128 33554432) (rot b.toNat 262144 16384)) (b.toNat / 8) = (Sha.sg0 b).toNat := by
  have h1 : rot b.toNat 128 33554432 = (Sha.rotr b 7).toNat := rot_eq b 7 (by decide) (by decide)
  have h2 : rot b.toNat 262144 16384 = (Sha.rotr b 18).toNat := rot_eq b 18 (by decide) (by decide)
  have h3 : b.toNat / 8 = (Sha.shr b 3).toNat := (R3.shr_nat b 3 (by decide)).symm
  rw [h1, h2, h3, xor_eq, xor_eq]; unfold Sha.sg0; rfl
theorem sg1_eq (b : UInt32) : Nat.xor (Nat.xor (rot b.toNat 131072 32768) (rot b.toNat 524288 8192)) (b.toNat / 1024) = (Sha.sg1 b).toNat := by
  have h1 : rot b.toNat 131072 32768 = (Sha.rotr b 17).toNat := rot_eq b 17 (by decide) (by decide)
  have h2 : rot b.toNat 524288 8192 = (Sha.rotr b 19).toNat := rot_eq b 19 (by decide) (by decide)
  have h3 : b.toNat / 1024 = (Sha.shr b 10).toNat := (R3.shr_nat b 10 (by decide)).symm
  rw [h1, h2, h3, xor_eq, xor_eq]; unfold Sha.sg1; rfl
theorem ext_eq (q : List UInt32) (a b c d e f g h i j k l m n' o p : UInt32) : Sha.ext (q ++ [a, b, c, d, e, f, g, h, i, j, k, l, m, n', o, p]) = (q ++ [a]) ++ [b, c, d, e, f, g, h, i, j, k, l, m, n', o, p, a + Sha.sg0 b + j + Sha.sg1 o] := by
  have hlen : (q ++ [a, b, c, d, e, f, g, h, i, j, k, l, m, n', o, p]).length = q.length + 16 := by rw [List.length_append]; rfl
  unfold Sha.ext
  have g0 : (q ++ [a, b, c, d, e, f, g, h, i, j, k, l, m, n', o, p]).getD (q.length + 0) 0 = a := getD_pre q [a, b, c, d, e, f, g, h, i, j, k, l, m, n', o, p] 0
  have g1 : (q ++ [a, b, c, d, e, f, g, h, i, j, k, l, m, n', o, p]).getD (q.length + 1) 0 = b := getD_pre q [a, b, c, d, e, f, g, h, i, j, k, l, m, n', o, p] 1
  have g9 : (q ++ [a, b, c, d, e, f, g, h, i, j, k, l, m, n', o, p]).getD (q.length + 9) 0 = j := getD_pre q [a, b, c, d, e, f, g, h, i, j, k, l, m, n', o, p] 9
  have g14 : (q ++ [a, b, c, d, e, f, g, h, i, j, k, l, m, n', o, p]).getD (q.length + 14) 0 = o := getD_pre q [a, b, c, d, e, f, g, h, i, j, k, l, m, n', o, p] 14
  rw [hlen, show q.length + 16 - 16 = q.length + 0 by omega, show q.length + 16 - 15 = q.length + 1 by omega, show q.length + 16 - 7 = q.length + 9 by omega, show q.length + 16 - 2 = q.length + 14 by omega, g0, g1, g9, g14]
  generalize a + Sha.sg0 b + j + Sha.sg1 o = x
  simp only [List.append_assoc, List.cons_append, List.nil_append]
theorem sch_sum (a b j o : UInt32) : (a.toNat + (Sha.sg0 b).toNat + j.toNat + (Sha.sg1 o).toNat) % 4294967296 = (a + Sha.sg0 b + j + Sha.sg1 o).toNat := by
  generalize Sha.sg0 b = x
  generalize Sha.sg1 o = y
  simp only [UInt32.toNat_add]; omega
theorem sch_exts (n : Nat) : ∀ (q : List UInt32) (a b c d e f g h i j k l m n' o p : UInt32), (Sha.exts n (q ++ [a, b, c, d, e, f, g, h, i, j, k, l, m, n', o, p])).map UInt32.toNat = q.map UInt32.toNat ++ sch n a.toNat b.toNat c.toNat d.toNat e.toNat f.toNat g.toNat h.toNat i.toNat j.toNat k.toNat l.toNat m.toNat n'.toNat o.toNat p.toNat := by
  induction n with
  | zero => intro q a b c d e f g h i j k l m n' o p; rw [Sha.exts, List.map_append, sch_zero]; rfl
  | succ n ih =>
    intro q a b c d e f g h i j k l m n' o p
    rw [exts_succ', ext_eq, ih (q ++ [a]), sch_step, force_eq, sg0_eq, sg1_eq, sch_sum]
    generalize sch n b.toNat c.toNat d.toNat e.toNat f.toNat g.toNat h.toNat i.toNat j.toNat k.toNat l.toNat m.toNat n'.toNat o.toNat p.toNat _ = z
    simp only [List.map_append, List.append_assoc, List.map_cons, List.map_nil, List.cons_append, List.nil_append]
/-- four bytes -/
def w4 (l : List Nat) : Nat := ((l.getD 0 0 * 256 + l.getD 1 0) * 256 + l.getD 2 0) * 256 + l.getD 3 0
theorem getD_map (l : List UInt8) (i : Nat) : (l.map UInt8.toNat).getD i 0 = (l.getD i 0).toNat := by
  rw [List.getD_eq_getElem?_getD, List.getD_eq_getElem?_getD, List.getElem?_map]
  cases l[i]? <;> rfl
theorem w4_eq (l : List UInt8) (i : Nat) : w4 ((l.map UInt8.toNat).drop (4 * i)) = (Sha.word l i).toNat := by
  have hg : ∀ k, (((l.map UInt8.toNat).drop (4 * i)).getD k 0) = (l.getD (4 * i + k) 0).toNat := fun k => by
    rw [List.getD_eq_getElem?_getD, List.getElem?_drop, ← List.getD_eq_getElem?_getD, getD_map]
  unfold w4 Sha.word
  rw [hg, hg, hg, hg, R3.be32_nat, Nat.add_zero]
  omega
noncomputable def mixN (ks : List Nat) (b : List Nat) (A B C D E F G H : Nat) : List Nat :=
  force (w4 b) fun a0 => force (w4 (b.drop 4)) fun a1 => force (w4 (b.drop 8)) fun a2 => force (w4 (b.drop 12)) fun a3 =>
  force (w4 (b.drop 16)) fun a4 => force (w4 (b.drop 20)) fun a5 => force (w4 (b.drop 24)) fun a6 => force (w4 (b.drop 28)) fun a7 =>
  force (w4 (b.drop 32)) fun a8 => force (w4 (b.drop 36)) fun a9 => force (w4 (b.drop 40)) fun a10 => force (w4 (b.drop 44)) fun a11 =>
  force (w4 (b.drop 48)) fun a12 => force (w4 (b.drop 52)) fun a13 => force (w4 (b.drop 56)) fun a14 => force (w4 (b.drop 60)) fun a15 =>
  rds ks (sch 48 a0 a1 a2 a3 a4 a5 a6 a7 a8 a9 a10 a11 a12 a13 a14 a15) A B C D E F G H
def KN : List Nat := [1116352408, 1899447441, 3049323471, 3921009573, 961987163, 1508970993, 2453635748, 2870763221, 3624381080, 310598401, 607225278, 1426881987, 1925078388, 2162078206, 2614888103, 3248222580, 3835390401, 4022224774, 264347078, 604807628, 770255983, 1249150122, 1555081692, 1996064986, 2554220882, 2821834349, 2952996808, 3210313671, 3336571891, 3584528711, 113926993, 338241895, 666307205, 773529912, 1294757372, 1396182291, 1695183700, 1986661051, 2177026350, 2456956037, 2730485921, 2820302411, 3259730800, 3345764771, 3516065817, 3600352804, 4094571909, 275423344, 430227734, 506948616, 659060556, 883997877, 958139571, 1322822218, 1537002063, 1747873779, 1955562222, 2024104815, 2227730452, 2361852424, 2428436474, 2756734187, 3204031479, 3329325298]
theorem KN_eq : KN = Sha.K.map UInt32.toNat := by decide +kernel
theorem mixN_eq (b : List UInt8) (s : Sha.St8) : mixN KN (b.map UInt8.toNat) s.a.toNat s.b.toNat s.c.toNat s.d.toNat s.e.toNat s.f.toNat s.g.toNat s.h.toNat = (Sha.rnds (Sha.sched b) s 64).list.map UInt32.toNat := by
  have hw := fun i => w4_eq b i
  have h0 := hw 0; have h1 := hw 1; have h2 := hw 2; have h3 := hw 3; have h4 := hw 4; have h5 := hw 5; have h6 := hw 6; have h7 := hw 7
  have h8 := hw 8; have h9 := hw 9; have h10 := hw 10; have h11 := hw 11; have h12 := hw 12; have h13 := hw 13; have h14 := hw 14; have h15 := hw 15
  simp only [Nat.reduceMul, Nat.mul_zero, List.drop_zero] at h0 h1 h2 h3 h4 h5 h6 h7 h8 h9 h10 h11 h12 h13 h14 h15
  unfold mixN
  simp only [force_eq]
  rw [h0, h1, h2, h3, h4, h5, h6, h7, h8, h9, h10, h11, h12, h13, h14, h15]
  have hs := sch_exts 48 [] (Sha.word b 0) (Sha.word b 1) (Sha.word b 2) (Sha.word b 3) (Sha.word b 4) (Sha.word b 5) (Sha.word b 6) (Sha.word b 7) (Sha.word b 8) (Sha.word b 9) (Sha.word b 10) (Sha.word b 11) (Sha.word b 12) (Sha.word b 13) (Sha.word b 14) (Sha.word b 15)
  have hf : [] ++ [Sha.word b 0, Sha.word b 1, Sha.word b 2, Sha.word b 3, Sha.word b 4, Sha.word b 5, Sha.word b 6, Sha.word b 7, Sha.word b 8, Sha.word b 9, Sha.word b 10, Sha.word b 11, Sha.word b 12, Sha.word b 13, Sha.word b 14, Sha.word b 15] = Sha.firsts b 16 := rfl
  rw [hf, List.map_nil, List.nil_append] at hs
  rw [← hs, show Sha.exts 48 (Sha.firsts b 16) = Sha.sched b from rfl, KN_eq, rds_fold _ _ _ (by rw [Sha.sched_length]; rfl)]
  have := fold_rnds (Sha.sched b) s (Sha.sched_length b) 64 0 rfl
  rw [List.drop_zero, List.drop_zero] at this
  rw [show Sha.rnds (Sha.sched b) s 0 = s from rfl] at this
  rw [this]
/-- block for block -/
noncomputable def blocks (n : Nat) : List Nat → Nat → Nat → Nat → Nat → Nat → Nat → Nat → Nat → List Nat :=
  Nat.rec (fun _ a b c d e f g h => [a, b, c, d, e, f, g, h])
    (fun _ ih p a b c d e f g h => forceL (mixN KN p a b c d e f g h) fun r =>
      force ((a + r.getD 0 0) % 4294967296) fun a' => force ((b + r.getD 1 0) % 4294967296) fun b' => force ((c + r.getD 2 0) % 4294967296) fun c' => force ((d + r.getD 3 0) % 4294967296) fun d' =>
      force ((e + r.getD 4 0) % 4294967296) fun e' => force ((f + r.getD 5 0) % 4294967296) fun f' => force ((g + r.getD 6 0) % 4294967296) fun g' => force ((h + r.getD 7 0) % 4294967296) fun h' =>
      ih (p.drop 64) a' b' c' d' e' f' g' h') n
theorem mixes_succ (s : Sha.St8) (p : List UInt8) : ∀ k, Sha.mixes s p (k + 1) = Sha.mixes (Sha.mix s p) (p.drop 64) k
  | 0 => by rw [Sha.mixes, Sha.mixes, Sha.mixes, Nat.mul_zero, List.drop_zero]
  | k + 1 => by
    rw [Sha.mixes, mixes_succ s p k, Sha.mixes, List.drop_drop]
    congr 2
    omega
theorem blocks_step (n : Nat) (p : List Nat) (a b c d e f g h : Nat) : blocks (n + 1) p a b c d e f g h = forceL (mixN KN p a b c d e f g h) fun r => force ((a + r.getD 0 0) % 4294967296) fun a' => force ((b + r.getD 1 0) % 4294967296) fun b' => force ((c + r.getD 2 0) % 4294967296) fun c' => force ((d + r.getD 3 0) % 4294967296) fun d' => force ((e + r.getD 4 0) % 4294967296) fun e' => force ((f + r.getD 5 0) % 4294967296) fun f' => force ((g + r.getD 6 0) % 4294967296) fun g' => force ((h + r.getD 7 0) % 4294967296) fun h' => blocks n (p.drop 64) a' b' c' d' e' f' g' h' := rfl
theorem blocks_zero (p : List Nat) (a b c d e f g h : Nat) : blocks 0 p a b c d e f g h = [a, b, c, d, e, f, g, h] := rfl
attribute [local irreducible] blocks mixN KN
theorem add_eq (x y : UInt32) : (x.toNat + y.toNat) % 4294967296 = (x + y).toNat := by simp only [UInt32.toNat_add]
theorem g0 (r : Sha.St8) : (r.list.map UInt32.toNat).getD 0 0 = r.a.toNat := rfl
theorem f0 (s r : Sha.St8) : (s.add r).a = s.a + r.a := rfl
theorem g1 (r : Sha.St8) : (r.list.map UInt32.toNat).getD 1 0 = r.b.toNat := rfl
theorem f1 (s r : Sha.St8) : (s.add r).b = s.b + r.b := rfl
theorem g2 (r : Sha.St8) : (r.list.map UInt32.toNat).getD 2 0 = r.c.toNat := rfl
theorem f2 (s r : Sha.St8) : (s.add r).c = s.c + r.c := rfl
theorem g3 (r : Sha.St8) : (r.list.map UInt32.toNat).getD 3 0 = r.d.toNat := rfl
theorem f3 (s r : Sha.St8) : (s.add r).d = s.d + r.d := rfl
theorem g4 (r : Sha.St8) : (r.list.map UInt32.toNat).getD 4 0 = r.e.toNat := rfl
theorem f4 (s r : Sha.St8) : (s.add r).e = s.e + r.e := rfl
theorem g5 (r : Sha.St8) : (r.list.map UInt32.toNat).getD 5 0 = r.f.toNat := rfl
theorem f5 (s r : Sha.St8) : (s.add r).f = s.f + r.f := rfl
theorem g6 (r : Sha.St8) : (r.list.map UInt32.toNat).getD 6 0 = r.g.toNat := rfl
theorem f6 (s r : Sha.St8) : (s.add r).g = s.g + r.g := rfl
theorem g7 (r : Sha.St8) : (r.list.map UInt32.toNat).getD 7 0 = r.h.toNat := rfl
theorem f7 (s r : Sha.St8) : (s.add r).h = s.h + r.h := rfl
theorem blocks_eq (n : Nat) : ∀ (p : List UInt8) (s : Sha.St8), blocks n (p.map UInt8.toNat) s.a.toNat s.b.toNat s.c.toNat s.d.toNat s.e.toNat s.f.toNat s.g.toNat s.h.toNat = (Sha.mixes s p n).list.map UInt32.toNat := by
  induction n with
  | zero => intro p s; rw [blocks_zero, Sha.mixes]; rfl
  | succ n ih =>
    intro p s
    have hm := mixN_eq p s
    generalize hr : Sha.rnds (Sha.sched p) s 64 = r at hm
    have hmx : Sha.mix s p = s.add r := by unfold Sha.mix; rw [hr]
    have hi := ih (p.drop 64) (s.add r)
    rw [mixes_succ, hmx, ← hi, blocks_step, forceL_eq, hm, force_eq, force_eq, force_eq, force_eq, force_eq, force_eq, force_eq, force_eq]
    have h0 : (s.a.toNat + (r.list.map UInt32.toNat).getD 0 0) % 4294967296 = (s.add r).a.toNat := by rw [g0, f0, add_eq]
    have h1 : (s.b.toNat + (r.list.map UInt32.toNat).getD 1 0) % 4294967296 = (s.add r).b.toNat := by rw [g1, f1, add_eq]
    have h2 : (s.c.toNat + (r.list.map UInt32.toNat).getD 2 0) % 4294967296 = (s.add r).c.toNat := by rw [g2, f2, add_eq]
    have h3 : (s.d.toNat + (r.list.map UInt32.toNat).getD 3 0) % 4294967296 = (s.add r).d.toNat := by rw [g3, f3, add_eq]
    have h4 : (s.e.toNat + (r.list.map UInt32.toNat).getD 4 0) % 4294967296 = (s.add r).e.toNat := by rw [g4, f4, add_eq]
    have h5 : (s.f.toNat + (r.list.map UInt32.toNat).getD 5 0) % 4294967296 = (s.add r).f.toNat := by rw [g5, f5, add_eq]
    have h6 : (s.g.toNat + (r.list.map UInt32.toNat).getD 6 0) % 4294967296 = (s.add r).g.toNat := by rw [g6, f6, add_eq]
    have h7 : (s.h.toNat + (r.list.map UInt32.toNat).getD 7 0) % 4294967296 = (s.add r).h.toNat := by rw [g7, f7, add_eq]
    rw [List.map_drop, h0, h1, h2, h3, h4, h5, h6, h7]
def bytes4 (x : Nat) : List Nat := [x / 16777216 % 256, x / 65536 % 256, x / 256 % 256, x % 256]
theorem bytes4_eq (x : Nat) (h : x < 18446744073709551616) : bytes4 x = (Sha.numB (UInt64.ofNat x) 4).map UInt8.toNat := by
  rw [R3.four_nat x h]
  simp [bytes4, UInt8.toNat_ofNat']
noncomputable def padN (l : List Nat) : List Nat := l ++ 128 :: List.replicate ((119 - l.length % 64) % 64) 0 ++ (bytes4 (8 * l.length / 4294967296) ++ bytes4 (8 * l.length))
theorem padN_eq (l : List UInt8) (h : l.length < 1152921504606846976) : padN (l.map UInt8.toNat) = (Sha.pad l).map UInt8.toNat := by
  unfold padN Sha.pad
  simp only [List.map_append, List.length_map, List.map_replicate, List.map_cons, List.map_nil, List.append_assoc, List.cons_append, List.nil_append]
  have e : (8 * UInt64.ofNat l.length).toNat = 8 * l.length := by
    rw [UInt64.toNat_mul, UInt64.toNat_ofNat', Nat.mod_eq_of_lt (show l.length < 2 ^ 64 by omega)]
    exact Nat.mod_eq_of_lt (by show 8 * l.length < 18446744073709551616; omega)
  have h8 : (Sha.numB (8 * UInt64.ofNat l.length) 8).map UInt8.toNat = bytes4 (8 * l.length / 4294967296) ++ bytes4 (8 * l.length) := by
    unfold Sha.numB
    rw [e]
    simp [List.range_succ, R3.u8_of64, bytes4, UInt8.toNat_ofNat', Nat.div_div_eq_div_mul]
  rw [h8]
  rfl
noncomputable def sumN (l : List Nat) : List Nat := forceL (padN l) fun p => (blocks (p.length / 64) p 1779033703 3144134277 1013904242 2773480762 1359893119 2600822924 528734635 1541459225).flatMap bytes4
theorem sumN_eq (l : List UInt8) (h : l.length < 1152921504606846976) : sumN (l.map UInt8.toNat) = (Sha.sum l).map UInt8.toNat := by
  unfold sumN
  rw [forceL_eq, padN_eq l h, List.length_map]
  have hb := blocks_eq ((Sha.pad l).length / 64) (Sha.pad l) Sha.init
  rw [show blocks ((Sha.pad l).length / 64) ((Sha.pad l).map UInt8.toNat) 1779033703 3144134277 1013904242 2773480762 1359893119 2600822924 528734635 1541459225 = _ from hb]
  unfold Sha.sum Sha.out
  generalize (Sha.mixes Sha.init (Sha.pad l) ((Sha.pad l).length / 64)).list = L
  induction L with
  | nil => rfl
  | cons x L ih =>
    rw [List.map_cons, List.flatMap_cons, List.flatMap_cons, List.map_append, ih, bytes4_eq _ (by have := x.toNat_lt; omega)]
    congr 2
    rw [show x.toUInt64 = UInt64.ofNat x.toNat from by apply UInt64.toNat_inj.1; simp]
noncomputable def tagN (tag : Nat) (ls : List (List Nat)) : List Nat := (sumN (tag :: ls.flatMap fun s => bytes4 s.length ++ s)).take 16
theorem tagN_eq (tag : UInt8) (ls : List (List UInt8)) (h : ls.flatten.length + 4 * ls.length < 1152921504606846975) : tagN tag.toNat (ls.map (List.map UInt8.toNat)) = (Sha.tagged tag ls).map UInt8.toNat := by
  unfold tagN Sha.tagged
  have e : tag.toNat :: (ls.map (List.map UInt8.toNat)).flatMap (fun s => bytes4 s.length ++ s) = (Sha.tagB tag ls).map UInt8.toNat := by
    unfold Sha.tagB
    simp only [List.map_append, List.map_cons, List.map_nil, List.cons_append, List.nil_append]
    congr 1
    induction ls with
    | nil => rfl
    | cons a l ih =>
      simp only [List.flatten_cons, List.length_append, List.length_cons] at h
      rw [List.map_cons, List.flatMap_cons, List.flatMap_cons, List.map_append, List.map_append, List.length_map, ih (by omega), bytes4_eq _ (by omega)]
  rw [e, sumN_eq _ (by rw [Sha.tagB_length]; omega), List.map_take]
end SN

end Go.Proofs.YtnkfapecbmmpeaaDoor
