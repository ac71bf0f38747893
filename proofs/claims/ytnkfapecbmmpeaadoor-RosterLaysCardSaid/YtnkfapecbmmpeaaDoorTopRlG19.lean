/- A part of the proof: contracts of functions of the program, each for every state of the heaps that it names. -/
import Derived.Test.YtnkfapecbmmpeaaDoorTopRlG18
import Derived.Test.YtnkfapecbmmpeaaDoorTopRlG15
set_option linter.unusedSimpArgs false
set_option linter.unusedVariables false
namespace Go.Proofs.YtnkfapecbmmpeaaDoor
open Go Go.Fw
set_option maxRecDepth 100000
set_option maxHeartbeats 1000000
theorem ent54 : Enters Tryd.prog 54 := Enters.of Tryd.func54 rfl (by kernel_rfl)
theorem ent56 : Enters Tryd.prog 56 := Enters.of Tryd.func56 rfl (by kernel_rfl)

theorem wtr_new (g : Nat) : Wtr (blk g [.pointer none, .slice none 0 0, I 0] 104) g [] 0 :=
  ⟨[.pointer none, .slice none 0 0, I 0], fun _ => none, none, 0, none, by funext k; simp only [U]; cases blk g [.pointer none, .slice none 0 0, I 0] 104 k <;> rfl, fun _ => .inr rfl, rfl, ⟨rfl, .inl rfl, rfl, RowQ.nil, .inl rfl⟩, rfl⟩
theorem wfix_len (s : List UInt8) (n : Nat) (bs : List UInt8) (bad : Int) : (wfix s n bs bad).length ≤ bs.length + n := by
  unfold wfix fbad okF
  by_cases h1 : s.length = n <;> by_cases h2 : bad = 0 <;> simp [h1, h2]
theorem wnum_len (n : UInt64) (size : Nat) (bs : List UInt8) (bad : Int) : (wnum n size bs bad).length ≤ bs.length + size := by
  unfold wnum
  split
  · rw [List.length_append, Sha.numB_length]; omega
  · omega
theorem okF_t {s : List UInt8} {n : Nat} (h : s.length = n) : okF s n = true := decide_eq_true h
theorem okF_f {s : List UInt8} {n : Nat} (h : ¬ s.length = n) : okF s n = false := decide_eq_false h
theorem fbad_t (e bad : Int) : fbad true e bad = bad := by simp [fbad]
theorem fbad_f (e : Int) (he : e ≠ 0) : ∀ bad, fbad false e bad ≠ 0 := fun bad => by
  unfold fbad; split <;> simp_all
theorem wfix_t {s : List UInt8} {n : Nat} (h : s.length = n) (bs : List UInt8) : wfix s n bs 0 = bs ++ s := by
  unfold wfix; rw [okF_t h, fbad_t]; simp

def pubOk (o r : List UInt8) (h : Int) : Prop := 0 ≤ h ∧ h ≤ 6 ∧ o.length = 16 ∧ r.length = 16
instance (o r : List UInt8) (h : Int) : Decidable (pubOk o r h) := by unfold pubOk; infer_instance
def pubEnc (o r : List UInt8) (h : Int) : List UInt8 := if pubOk o r h then o ++ r ++ [UInt8.ofNat h.toNat] else []
def pubErr (o r : List UInt8) (h : Int) : Int := if pubOk o r h then 0 else 10
theorem numB1 : ∀ k, k < 7 → Sha.numB (UInt64.ofNat k) 1 = [UInt8.ofNat k] := by decide
theorem okN1 : ∀ k, k < 7 → okN (UInt64.ofNat k) 1 = true := by decide
def pbad (o r : List UInt8) : Int := fbad (okF r 16) 10 (fbad (okF o 16) 10 0)
def pbs (o r : List UInt8) : List UInt8 := wfix r 16 (wfix o 16 [] 0) (fbad (okF o 16) 10 0)
theorem pub_bad (o r : List UInt8) (k : Nat) (hk : k ≤ 6) : fbad (okN (UInt64.ofNat k) 1) 10 (pbad o r) = pubErr o r k := by
  rw [okN1 k (by omega), fbad_t]
  unfold pbad pubErr pubOk okF fbad
  by_cases h1 : o.length = 16 <;> by_cases h2 : r.length = 16 <;> simp [h1, h2] <;> omega
theorem pub_bs (o r : List UInt8) (k : Nat) (hk : k ≤ 6) (h : pubErr o r k = 0) : wnum (UInt64.ofNat k) 1 (pbs o r) (pbad o r) = pubEnc o r k := by
  have hb := pub_bad o r k hk
  unfold wnum pubEnc
  rw [hb, h, if_pos rfl, numB1 k (by omega)]
  unfold pubErr at h
  split at h
  · rename_i h1
    rw [if_pos h1]
    have h2 := h1
    unfold pubOk at h2
    unfold pbs
    rw [wfix_t h2.2.2.1, okF_t h2.2.2.1, fbad_t, wfix_t h2.2.2.2]; simp
  · omega
theorem pub_nil {o r : List UInt8} {h : Int} (hn : ¬ pubErr o r h = 0) : pubEnc o r h = [] := by
  unfold pubErr at hn; unfold pubEnc
  split at hn
  · omega
  · rename_i h1; rw [if_neg h1]
theorem pub_no {o r : List UInt8} {h : Int} (hn : h < 0 ∨ 6 < h) : Value.tuple #[Str [], I 10] = .tuple #[Str (pubEnc o r h), I (pubErr o r h)] := by
  have h1 : ¬ pubOk o r h := by unfold pubOk; omega
  unfold pubEnc pubErr
  rw [if_neg h1, if_neg h1]
theorem pub_val (o r : List UInt8) (k : Nat) (hk : k ≤ 6) : Value.tuple #[Str (if fbad (okN (UInt64.ofNat k) 1) 10 (pbad o r) = 0 then wnum (UInt64.ofNat k) 1 (pbs o r) (pbad o r) else []), I (fbad (okN (UInt64.ofNat k) 1) 10 (pbad o r))] = .tuple #[Str (pubEnc o r k), I (pubErr o r k)] := by
  rw [pub_bad o r k hk]
  by_cases h : pubErr o r k = 0
  · rw [if_pos h, pub_bs o r k hk h]
  · rw [if_neg h, pub_nil h]

theorem pencode_ct (F : Hp) (o r : List UInt8) (h : Int) (ho : o.length ≤ 1048576) (hr : r.length ≤ 1048576) :
    Ct Tryd.prog 17 [.agg #[Str o, Str r, I h]] [F] (fun _ : Unit => .tuple #[Str (pubEnc o r h), I (pubErr o r h)]) (fun _ => True) (fun _ => [F]) := by
  refine Ct.walk Tryd.func17 rfl Tryd.ntmps17 rfl (fun w0 hw0 => ?_)
  change J _ [(0, _)] _ _ _
  refine J.seq (fun K1 hK1 => ?_)
  refine J.region ?_
  refine J.e (op_box rfl rfl (l := [Str o, Str r, I h]) rfl) rfl rfl rfl ?_
  intro g1 _
  change J _ _ _ [F, blk g1 [Str o, Str r, I h] 32] _
  refine J.y (op_assign rfl rfl) rfl rfl rfl ?_
  refine J.y (op_assign rfl rfl) rfl rfl rfl ?_
  refine J.nil ?_
  refine J.then_n (J.k hK1 ?_)
  refine J.keepE [(1, _)] ⟨rfl, trivial⟩ ?_
  refine J.seq (fun K2 hK2 => ?_)
  refine J.seq (fun K3 hK3 => ?_)
  refine J.region ?_
  refine J.y (op_fieldAddr (j := 2) rfl rfl Tryd.underlying32 rfl Tryd.sizeOf3 rfl) rfl rfl rfl ?_
  refine J.y (op_loadB 1 rfl rfl rfl Tryd.isAgg3 rfl) rfl rfl rfl ?_
  refine J.y (op_lss rfl rfl rfl) rfl rfl rfl ?_
  refine J.y (op_move rfl rfl) rfl rfl rfl ?_
  refine J.split (d := 8) rfl (fun h8 => ?_) (fun h8 => ?_)
  ·
    refine J.no (Wan.is rfl rfl rfl rfl rfl) rfl rfl ?_
    refine J.no (Wan.is rfl rfl rfl rfl rfl) rfl rfl ?_
    refine J.no (Wan.is rfl rfl rfl rfl rfl) rfl rfl ?_
    refine J.y (op_pickT rfl rfl rfl) rfl rfl rfl ?_
    refine J.nil ?_
    refine J.then_n (J.k hK3 ?_)
    refine J.keepE [(1, _), (12, _)] ⟨rfl, rfl, trivial⟩ ?_
    refine J.condT rfl rfl ?_
    refine J.seq (fun K4 hK4 => ?_)
    refine J.region ?_
    refine J.y (op_assign rfl rfl) rfl rfl rfl ?_
    refine J.y (op_assign rfl rfl) rfl rfl rfl ?_
    refine J.nil ?_
    refine J.then_n (J.k hK4 ?_)
    refine J.keepE [(2, _), (3, _)] ⟨rfl, rfl, trivial⟩ ?_
    refine J.ret ?_
    refine J.then_r ?_
    exact J.done hw0 (fun _ _ h => h) (res2 rfl rfl rfl) (retOk () (pub_no (by omega)) trivial [0] rfl (by decide))
  ·
    refine J.yg (Wan.is rfl rfl rfl rfl rfl) (op_fieldAddr (j := 2) rfl rfl Tryd.underlying32 rfl Tryd.sizeOf3 rfl) rfl rfl ?_
    refine J.yg (Wan.is rfl rfl rfl rfl rfl) (op_loadB 1 rfl rfl rfl Tryd.isAgg3 rfl) rfl rfl ?_
    refine J.yg (Wan.is rfl rfl rfl rfl rfl) (op_gtr rfl rfl rfl) rfl rfl ?_
    refine J.y (op_pickF rfl rfl rfl) rfl rfl rfl ?_
    refine J.nil ?_
    refine J.then_n (J.k hK3 ?_)
    refine J.keepE [(1, _), (12, _)] ⟨rfl, rfl, trivial⟩ ?_
    refine J.ite rfl (fun h12 => ?_) (fun h12 => ?_)
    ·
      refine J.seq (fun K5 hK5 => ?_)
      refine J.region ?_
      refine J.y (op_assign rfl rfl) rfl rfl rfl ?_
      refine J.y (op_assign rfl rfl) rfl rfl rfl ?_
      refine J.nil ?_
      refine J.then_n (J.k hK5 ?_)
      refine J.keepE [(2, _), (3, _)] ⟨rfl, rfl, trivial⟩ ?_
      refine J.ret ?_
      refine J.then_r ?_
      exact J.done hw0 (fun _ _ h => h) (res2 rfl rfl rfl) (retOk () (pub_no (by omega)) trivial [0] rfl (by decide))
    ·
      refine J.skip ?_
      refine J.then_n (J.k hK2 ?_)
      refine J.keepE [(1, _)] ⟨rfl, trivial⟩ ?_
      refine J.seq (fun K6 hK6 => ?_)
      obtain ⟨k, hk⟩ := Int.eq_ofNat_of_zero_le (show 0 ≤ h by omega)
      have hk6 : k ≤ 6 := by omega
      refine J.region ?_
      refine J.e (op_alloc rfl Tryd.zeroValue104 rfl) rfl rfl rfl ?_
      intro g4 _
      change J _ _ _ [F, blk g1 [Str o, Str r, I h] 32, blk g4 _ 104] _
      refine J.nil ?_
      refine J.then_n (J.k hK6 ?_)
      refine J.keepE [(1, _), (4, _)] ⟨rfl, rfl, trivial⟩ ?_
      refine J.seq (fun K7 hK7 => ?_)
      refine J.draw [blk g1 [Str o, Str r, I h] 32] [] (.y 0 (.y 1 (.y 3 (.y 4 (.y 6 (.y 7 (.y 8 (.e 2 (.e 5 (.e 9 (.e 10 (.y 11 (.y 12 (.y 13 (.y 14 .nil))))))))))))))) Tryd.wide (by decide +kernel) (by simp) ?_
      refine J.dy rfl (op_fieldAddr (j := 0) rfl rfl Tryd.underlying32 rfl Tryd.sizeOf9 rfl) rfl rfl rfl rfl ?_
      refine J.dy rfl (op_loadB 0 rfl rfl rfl Tryd.isAgg9 rfl) rfl rfl rfl rfl ?_
      refine J.dy rfl (op_fieldAddr (j := 1) rfl rfl Tryd.underlying32 rfl Tryd.sizeOf9 rfl) rfl rfl rfl rfl ?_
      refine J.dy rfl (op_loadB 0 rfl rfl rfl Tryd.isAgg9 rfl) rfl rfl rfl rfl ?_
      refine J.dy rfl (op_fieldAddr (j := 2) rfl rfl Tryd.underlying32 rfl Tryd.sizeOf3 rfl) rfl rfl rfl rfl ?_
      refine J.dy rfl (op_loadB 0 rfl rfl rfl Tryd.isAgg3 rfl) rfl rfl rfl rfl ?_
      refine J.dy rfl ((op_cvZ_i64_u64 rfl rfl Tryd.underlying3 Tryd.underlying108).as (v' := W64 (UInt64.ofNat k)) (by rw [show (h % 18446744073709551616).toNat = k by omega])) rfl rfl rfl rfl ?_
      refine J.de rfl (op_call rfl rfl ent54 (Ct.use1 2 (m' := fun x : Hp => x) (new := fun _ => []) rfl (fun F' _ => fixed_ct F' (blk g4 [.pointer none, .slice none 0 0, I 0] 104) g4 [] 0 (wtr_new g4) (by decide) o (by omega) 16))) rfl rfl rfl (by simp) ?_
      rintro m15 hw15
      change J _ _ _ [F, blk g1 [Str o, Str r, I h] 32, m15] _
      refine J.de rfl (op_call rfl rfl ent54 (Ct.use1 2 (m' := fun x : Hp => x) (new := fun _ => []) rfl (fun F' _ => fixed_ct F' m15 g4 (wfix o 16 [] 0) (fbad (okF o 16) 10 0) hw15 (by have := wfix_len o 16 [] 0; simp only [List.length_nil] at this; omega) r (by omega) 16))) rfl rfl rfl (by simp) ?_
      rintro m18 hw18
      change J _ _ _ [F, blk g1 [Str o, Str r, I h] 32, m18] _
      refine J.de rfl (op_call rfl rfl ent55 (Ct.use1 2 (m' := fun x : Hp => x) (new := fun _ => []) rfl (fun F' _ => num_ct F' m18 g4 (pbs o r) (pbad o r) hw18 (by have := wfix_len o 16 [] 0; have h2 := wfix_len r 16 (wfix o 16 [] 0) (fbad (okF o 16) 10 0); simp only [List.length_nil] at this; unfold pbs; omega) (UInt64.ofNat k) 1 (by omega) (by omega)))) rfl rfl rfl (by simp) ?_
      rintro m22 hw22
      change J _ _ _ [F, blk g1 [Str o, Str r, I h] 32, m22] _
      refine J.de rfl (op_call rfl rfl ent56 (Ct.use1 2 (m' := fun x : Hp => x) (new := fun _ => []) rfl (fun F' _ => bytes_ct F' m22 g4 (wnum (UInt64.ofNat k) 1 (pbs o r) (pbad o r)) (fbad (okN (UInt64.ofNat k) 1) 10 (pbad o r)) hw22 (by have := wfix_len o 16 [] 0; have h2 := wfix_len r 16 (wfix o 16 [] 0) (fbad (okF o 16) 10 0); have h3 := wnum_len (UInt64.ofNat k) 1 (pbs o r) (pbad o r); simp only [List.length_nil] at this; unfold pbs at h3 ⊢; omega)))) rfl rfl rfl (by simp) ?_
      rintro m23 hw23
      change J _ _ _ [F, blk g1 [Str o, Str r, I h] 32, m23] _
      refine J.dy rfl (op_extract (v := Str (if fbad (okN (UInt64.ofNat k) 1) 10 (pbad o r) = 0 then wnum (UInt64.ofNat k) 1 (pbs o r) (pbad o r) else [])) rfl rfl rfl) rfl rfl rfl rfl ?_
      refine J.dy rfl (op_extract (v := I (fbad (okN (UInt64.ofNat k) 1) 10 (pbad o r))) rfl rfl rfl) rfl rfl rfl rfl ?_
      refine J.dy rfl (op_assign rfl rfl) rfl rfl rfl rfl ?_
      refine J.dy rfl (op_assign rfl rfl) rfl rfl rfl rfl ?_
      refine J.dnil ?_
      refine J.then_n (J.k hK7 ?_)
      refine J.keepE [(2, _), (3, _)] ⟨rfl, rfl, trivial⟩ ?_
      refine J.ret ?_
      exact J.done hw0 (fun _ _ h => h) (res2 rfl rfl rfl) (retOk () (by subst hk; exact pub_val o r k hk6) trivial [0] rfl (by decide))

theorem eqPub (d : Nat) (o r o' r' : List UInt8) (h h' : Int) (w : World) : (Op.equalIn (d + 2) 32 (.agg #[Str o, Str r, I h]) (.agg #[Str o', Str r', I h'])).run Tryd.prog w = .ok (decide (o = o' ∧ r = r' ∧ h = h')) w := by
  have u3 := Tryd.underlying3
  have a3 := Tryd.isAgg3
  have us := Tryd.underlying9
  have ag := Tryd.isAgg9
  have hS : Tryd.prog.underlying 32 = some (.struct (Tryd.prog.fieldsOf 32)) := by kernel_rfl
  have hp : Tryd.prog.stoodInHeld 32 = false := by kernel_rfl
  rw [show d + 2 = (d + 1) + 1 from rfl, run_equalIn_struct w (d + 1) 32 _ _ hS hp]
  simp only [Program.fieldsOf, Tryd.underlying32]
  have hi : ∀ (a b : Int) (w : World), (Op.equalIn (d + 1) 3 (.int .i64 a) (.int .i64 b)).run Tryd.prog w = .ok (a == b) w := fun a b w => run_equalIn_int w d 3 .i64 .i64 a b u3
  have hs : ∀ (a b : List UInt8) (w : World), (Op.equalIn (d + 1) 9 (Str a) (Str b)).run Tryd.prog w = .ok (decide (a = b)) w := fun a b w => by rw [run_equalIn_string w d 9 _ _ us, bytes_beq]
  simp only [Op.eqFields]
  simp [part, a3, ag, hi, hs]
  by_cases h1 : o = o' <;> by_cases h2 : r = r' <;> by_cases h3 : h = h' <;> simp [h1, h2, h3]

end Go.Proofs.YtnkfapecbmmpeaaDoor

namespace Go.Proofs.YtnkfapecbmmpeaaDoor
set_option maxRecDepth 100000
set_option maxHeartbeats 1000000

namespace SN
def force {α : Type} (n : Nat) (g : Nat → α) : α := Nat.rec (g 0) (fun m _ => g (Nat.succ m)) n
theorem force_eq {α : Type} (n : Nat) (g : Nat → α) : force n g = g n := by cases n <;> rfl
noncomputable def forceL {α : Type} (l : List Nat) : (List Nat → α) → α := List.rec (fun g => g []) (fun a _ ih g => force a fun x => ih fun r => g (x :: r)) l
theorem forceL_eq {α : Type} : ∀ (l : List Nat) (g : List Nat → α), forceL l g = g l
  | [], _ => rfl
  | a :: l, g => by
    show force a (fun x => forceL l fun r => g (x :: r)) = g (a :: l)
    rw [force_eq, forceL_eq l]
def rot (x r q : Nat) : Nat := x / r + x % r * q
noncomputable def sch (n : Nat) : Nat → Nat → Nat → Nat → Nat → Nat → Nat → Nat → Nat → Nat → Nat → Nat → Nat → Nat → Nat → Nat → List Nat :=
  Nat.rec (fun a b c d e f g h i j k l m n o p => [a, b, c, d, e, f, g, h, i, j, k, l, m, n, o, p])
    (fun _ ih a b c d e f g h i j k l m n o p => a :: force ((a + Nat.xor (Nat.xor (rot b 128 33554432) (rot b 262144 16384)) (b / 8) + j + Nat.xor (Nat.xor (rot o 131072 32768) (rot o 524288 8192)) (o / 1024)) % 4294967296) fun x => ih b c d e f g h i j k l m n o p x) n
noncomputable def rds (kw : List Nat) : List Nat → Nat → Nat → Nat → Nat → Nat → Nat → Nat → Nat → List Nat :=
  List.rec (fun _ a b c d e f g h => [a, b, c, d, e, f, g, h])
    (fun k _ ih ws a b c d e f g h => List.rec [] (fun w ws _ =>
      force ((h + Nat.xor (Nat.xor (rot e 64 67108864) (rot e 2048 2097152)) (rot e 33554432 128) + Nat.xor (Nat.land e f) (Nat.land (4294967295 - e) g) + k + w) % 4294967296) fun t1 =>
      force ((t1 + (Nat.xor (Nat.xor (rot a 4 1073741824) (rot a 8192 524288)) (rot a 4194304 1024) + Nat.xor (Nat.xor (Nat.land a b) (Nat.land a c)) (Nat.land b c))) % 4294967296) fun x =>
      force ((d + t1) % 4294967296) fun y => ih ws x a b c y e f g) ws) kw
theorem rds_step (k w : Nat) (ks ws : List Nat) (a b c d e f g h : Nat) : rds (k :: ks) (w :: ws) a b c d e f g h =
      force ((h + Nat.xor (Nat.xor (rot e 64 67108864) (rot e 2048 2097152)) (rot e 33554432 128) + Nat.xor (Nat.land e f) (Nat.land (4294967295 - e) g) + k + w) % 4294967296) fun t1 =>
      force ((t1 + (Nat.xor (Nat.xor (rot a 4 1073741824) (rot a 8192 524288)) (rot a 4194304 1024) + Nat.xor (Nat.xor (Nat.land a b) (Nat.land a c)) (Nat.land b c))) % 4294967296) fun x =>
      force ((d + t1) % 4294967296) fun y => rds ks ws x a b c y e f g := rfl
theorem sch_step (n' a b c d e f g h i j k l m n o p : Nat) : sch (n' + 1) a b c d e f g h i j k l m n o p = a :: force ((a + Nat.xor (Nat.xor (rot b 128 33554432) (rot b 262144 16384)) (b / 8) + j + Nat.xor (Nat.xor (rot o 131072 32768) (rot o 524288 8192)) (o / 1024)) % 4294967296) fun x => sch n' b c d e f g h i j k l m n o p x := rfl
theorem rds_nil (ws : List Nat) (a b c d e f g h : Nat) : rds [] ws a b c d e f g h = [a, b, c, d, e, f, g, h] := rfl
theorem sch_zero (a b c d e f g h i j k l m n o p : Nat) : sch 0 a b c d e f g h i j k l m n o p = [a, b, c, d, e, f, g, h, i, j, k, l, m, n, o, p] := rfl
attribute [local irreducible] rds sch
theorem rot_eq (x : UInt32) (r : Nat) (h1 : 1 ≤ r) (h2 : r < 32) : rot x.toNat (2 ^ r) (4294967296 / 2 ^ r) = (Sha.rotr x r).toNat := (R3.rotr_nat x r h1 h2).symm
theorem xor_eq (a b : UInt32) : Nat.xor a.toNat b.toNat = (a ^^^ b).toNat := (UInt32.toNat_xor a b).symm
theorem and_eq (a b : UInt32) : Nat.land a.toNat b.toNat = (a &&& b).toNat := (UInt32.toNat_and a b).symm
theorem not_eq (a : UInt32) : 4294967295 - a.toNat = (~~~ a).toNat := by simp
theorem rds_cons (k w : UInt32) (ks ws : List Nat) (s : Sha.St8) : rds (k.toNat :: ks) (w.toNat :: ws) s.a.toNat s.b.toNat s.c.toNat s.d.toNat s.e.toNat s.f.toNat s.g.toNat s.h.toNat =
    rds ks ws (Sha.rnd w k s).a.toNat (Sha.rnd w k s).b.toNat (Sha.rnd w k s).c.toNat (Sha.rnd w k s).d.toNat (Sha.rnd w k s).e.toNat (Sha.rnd w k s).f.toNat (Sha.rnd w k s).g.toNat (Sha.rnd w k s).h.toNat := by
  obtain ⟨S1, hS1⟩ : ∃ x, x = Sha.rotr s.e 6 ^^^ Sha.rotr s.e 11 ^^^ Sha.rotr s.e 25 := ⟨_, rfl⟩
  obtain ⟨CH, hCH⟩ : ∃ x, x = s.e &&& s.f ^^^ ~~~ s.e &&& s.g := ⟨_, rfl⟩
  obtain ⟨T1, hT1⟩ : ∃ x, x = s.h + S1 + CH + k + w := ⟨_, rfl⟩
  obtain ⟨S0, hS0⟩ : ∃ x, x = Sha.rotr s.a 2 ^^^ Sha.rotr s.a 13 ^^^ Sha.rotr s.a 22 := ⟨_, rfl⟩
  obtain ⟨MJ, hMJ⟩ : ∃ x, x = s.a &&& s.b ^^^ s.a &&& s.c ^^^ s.b &&& s.c := ⟨_, rfl⟩
  have hrn : Sha.rnd w k s = ⟨T1 + (S0 + MJ), s.a, s.b, s.c, s.d + T1, s.e, s.f, s.g⟩ := by rw [hT1, hS0, hMJ, hS1, hCH]; rfl
  have e1 : Nat.xor (Nat.xor (rot s.e.toNat 64 67108864) (rot s.e.toNat 2048 2097152)) (rot s.e.toNat 33554432 128) = S1.toNat := by
    rw [show rot s.e.toNat 64 67108864 = _ from rot_eq s.e 6 (by decide) (by decide), show rot s.e.toNat 2048 2097152 = _ from rot_eq s.e 11 (by decide) (by decide), show rot s.e.toNat 33554432 128 = _ from rot_eq s.e 25 (by decide) (by decide), xor_eq, xor_eq, ← hS1]
  have e2 : Nat.xor (Nat.land s.e.toNat s.f.toNat) (Nat.land (4294967295 - s.e.toNat) s.g.toNat) = CH.toNat := by rw [not_eq, and_eq, and_eq, xor_eq, ← hCH]
  have e3 : Nat.xor (Nat.xor (rot s.a.toNat 4 1073741824) (rot s.a.toNat 8192 524288)) (rot s.a.toNat 4194304 1024) = S0.toNat := by
    rw [show rot s.a.toNat 4 1073741824 = _ from rot_eq s.a 2 (by decide) (by decide), show rot s.a.toNat 8192 524288 = _ from rot_eq s.a 13 (by decide) (by decide), show rot s.a.toNat 4194304 1024 = _ from rot_eq s.a 22 (by decide) (by decide), xor_eq, xor_eq, ← hS0]
  have e4 : Nat.xor (Nat.xor (Nat.land s.a.toNat s.b.toNat) (Nat.land s.a.toNat s.c.toNat)) (Nat.land s.b.toNat s.c.toNat) = MJ.toNat := by rw [and_eq, and_eq, and_eq, xor_eq, xor_eq, ← hMJ]
  have t1 : (s.h.toNat + S1.toNat + CH.toNat + k.toNat + w.toNat) % 4294967296 = T1.toNat := by rw [hT1]; simp only [UInt32.toNat_add]; omega
  have t2 : (T1.toNat + (S0.toNat + MJ.toNat)) % 4294967296 = (T1 + (S0 + MJ)).toNat := by simp only [UInt32.toNat_add]; omega
  have t3 : (s.d.toNat + T1.toNat) % 4294967296 = (s.d + T1).toNat := by simp only [UInt32.toNat_add]
  rw [hrn, rds_step, force_eq, e1, e2, t1, force_eq, e3, e4, t2, force_eq, t3]
def fold (ks ws : List UInt32) (s : Sha.St8) : Sha.St8 := (ks.zip ws).foldl (fun s kw => Sha.rnd kw.2 kw.1 s) s
theorem fold_cons (k w : UInt32) (ks ws : List UInt32) (s : Sha.St8) : fold (k :: ks) (w :: ws) s = fold ks ws (Sha.rnd w k s) := by unfold fold; rw [List.zip_cons_cons, List.foldl_cons]
theorem fold_nil (ws : List UInt32) (s : Sha.St8) : fold [] ws s = s := by unfold fold; rw [List.zip_nil_left, List.foldl_nil]
theorem rds_fold (ks : List UInt32) : ∀ (ws : List UInt32) (s : Sha.St8), ks.length = ws.length → rds (ks.map UInt32.toNat) (ws.map UInt32.toNat) s.a.toNat s.b.toNat s.c.toNat s.d.toNat s.e.toNat s.f.toNat s.g.toNat s.h.toNat = (fold ks ws s).list.map UInt32.toNat := by
  induction ks with
  | nil =>
    intro ws s h
    cases ws with
    | nil => rw [List.map_nil, rds_nil, fold_nil, Sha.St8.list]; rfl
    | cons _ _ => cases h
  | cons k ks ih =>
    intro ws s h
    cases ws with
    | nil => cases h
    | cons w ws =>
      rw [List.map_cons, List.map_cons, rds_cons k w (ks.map UInt32.toNat) (ws.map UInt32.toNat) s, fold_cons, ih ws (Sha.rnd w k s) (by simpa using h)]
theorem fold_rnds (ws : List UInt32) (s : Sha.St8) (hw : ws.length = 64) : ∀ m i, i + m = 64 → fold (Sha.K.drop i) (ws.drop i) (Sha.rnds ws s i) = Sha.rnds ws s 64
  | 0, i, h => by
    obtain rfl : i = 64 := by omega
    rw [List.drop_of_length_le (l := ws) (by omega), List.drop_of_length_le (l := Sha.K) (Nat.le_refl 64), fold_nil]
  | m + 1, i, h => by
    have h1 : i < Sha.K.length := by show i < 64; omega
    have h2 : i < ws.length := by omega
    rw [List.drop_eq_getElem_cons h1, List.drop_eq_getElem_cons h2, fold_cons]
    have e : Sha.rnd ws[i] Sha.K[i] (Sha.rnds ws s i) = Sha.rnds ws s (i + 1) := by
      rw [Sha.rnds, List.getD_eq_getElem?_getD, List.getD_eq_getElem?_getD, List.getElem?_eq_getElem h1, List.getElem?_eq_getElem h2]; rfl
    rw [e]
    exact fold_rnds ws s hw m (i + 1) (by omega)
theorem exts_succ' (l : List UInt32) : ∀ n, Sha.exts (n + 1) l = Sha.exts n (Sha.ext l)
  | 0 => rfl
  | n + 1 => by rw [Sha.exts, exts_succ' l n]; rfl
theorem getD_pre (p l : List UInt32) (k : Nat) : (p ++ l).getD (p.length + k) 0 = l.getD k 0 := by
  rw [List.getD_eq_getElem?_getD, List.getElem?_append_right (by omega), Nat.add_sub_cancel_left, ← List.getD_eq_getElem?_getD]
theorem sg0_eq (b : UInt32) : Nat.xor (Nat.xor (rot b.toNat 128 33554432) (rot b.toNat 262144 16384)) (b.toNat / 8) = (Sha.sg0 b).toNat := by
  have h1 : rot b.toNat 128 33554432 = (Sha.rotr b 7).toNat := rot_eq b 7 (by decide) (by decide)
  have h2 : rot b.toNat 262144 16384 = (Sha.rotr b 18).toNat := rot_eq b 18 (by decide) (by decide)
  have h3 : b.toNat / 8 = (Sha.shr b 3).toNat := (R3.shr_nat b 3 (by decide)).symm
  rw [h1, h2, h3, xor_eq, xor_eq]; unfold Sha.sg0; rfl
theorem sg1_eq (b : UInt32) : Nat.xor (Nat.xor (rot b.toNat 131072 32768) (rot b.toNat 524288 8192)) (b.toNat / 1024) = (Sha.sg1 b).toNat := by
  have h1 : rot b.toNat 131072 32768 = (Sha.rotr b 17).toNat := rot_eq b 17 (by decide) (by decide)
  have h2 : rot b.toNat 524288 8192 = (Sha.rotr b 19).toNat := rot_eq b 19 (by decide) (by decide)
  have h3 : b.toNat / 1024 = (Sha.shr b 10).toNat := (R3.shr_nat b 10 (by decide)).symm
  rw [h1, h2, h3, xor_eq, xor_eq]; unfold Sha.sg1; rfl
theorem ext_eq (q : List UInt32) (a b c d e f g h i j k l m n' o p : UInt32) : Sha.ext (q ++ [a, b, c, d, e, f, g, h, i, j, k, l, m, n', o, p]) = (q ++ [a]) ++ [b, c, d, e, f, g, h, i, j, k, l, m, n', o, p, a + Sha.sg0 b + j + Sha.sg1 o] := by
  have hlen : (q ++ [a, b, c, d, e, f, g, h, i, j, k, l, m, n', o, p]).length = q.length + 16 := by rw [List.length_append]; rfl
  unfold Sha.ext
  have g0 : (q ++ [a, b, c, d, e, f, g, h, i, j, k, l, m, n', o, p]).getD (q.length + 0) 0 = a := getD_pre q [a, b, c, d, e, f, g, h, i, j, k, l, m, n', o, p] 0
  have g1 : (q ++ [a, b, c, d, e, f, g, h, i, j, k, l, m, n', o, p]).getD (q.length + 1) 0 = b := getD_pre q [a, b, c, d, e, f, g, h, i, j, k, l, m, n', o, p] 1
  have g9 : (q ++ [a, b, c, d, e, f, g, h, i, j, k, l, m, n', o, p]).getD (q.length + 9) 0 = j := getD_pre q [a, b, c, d, e, f, g, h, i, j, k, l, m, n', o, p] 9
  have g14 : (q ++ [a, b, c, d, e, f, g, h, i, j, k, l, m, n', o, p]).getD (q.length + 14) 0 = o := getD_pre q [a, b, c, d, e, f, g, h, i, j, k, l, m, n', o, p] 14
  rw [hlen, show q.length + 16 - 16 = q.length + 0 by omega, show q.length + 16 - 15 = q.length + 1 by omega, show q.length + 16 - 7 = q.length + 9 by omega, show q.length + 16 - 2 = q.length + 14 by omega, g0, g1, g9, g14]
  generalize a + Sha.sg0 b + j + Sha.sg1 o = x
  simp only [List.append_assoc, List.cons_append, List.nil_append]
theorem sch_sum (a b j o : UInt32) : (a.toNat + (Sha.sg0 b).toNat + j.toNat + (Sha.sg1 o).toNat) % 4294967296 = (a + Sha.sg0 b + j + Sha.sg1 o).toNat := by
  generalize Sha.sg0 b = x
  generalize Sha.sg1 o = y
  simp only [UInt32.toNat_add]; omega
theorem sch_exts (n : Nat) : ∀ (q : List UInt32) (a b c d e f g h i j k l m n' o p : UInt32), (Sha.exts n (q ++ [a, b, c, d, e, f, g, h, i, j, k, l, m, n', o, p])).map UInt32.toNat = q.map UInt32.toNat ++ sch n a.toNat b.toNat c.toNat d.toNat e.toNat f.toNat g.toNat h.toNat i.toNat j.toNat k.toNat l.toNat m.toNat n'.toNat o.toNat p.toNat := by
  induction n with
  | zero => intro q a b c d e f g h i j k l m n' o p; rw [Sha.exts, List.map_append, sch_zero]; rfl
  | succ n ih =>
    intro q a b c d e f g h i j k l m n' o p
    rw [exts_succ', ext_eq, ih (q ++ [a]), sch_step, force_eq, sg0_eq, sg1_eq, sch_sum]
    generalize sch n b.toNat c.toNat d.toNat e.toNat f.toNat g.toNat h.toNat i.toNat j.toNat k.toNat l.toNat m.toNat n'.toNat o.toNat p.toNat _ = z
    simp only [List.map_append, List.append_assoc, List.map_cons, List.map_nil, List.cons_append, List.nil_append]
/-- four bytes -/
def w4 (l : List Nat) : Nat := ((l.getD 0 0 * 256 + l.getD 1 0) * 256 + l.getD 2 0) * 256 + l.getD 3 0
theorem getD_map (l : List UInt8) (i : Nat) : (l.map UInt8.toNat).getD i 0 = (l.getD i 0).toNat := by
  rw [List.getD_eq_getElem?_getD, List.getD_eq_getElem?_getD, List.getElem?_map]
  cases l[i]? <;> rfl
theorem w4_eq (l : List UInt8) (i : Nat) : w4 ((l.map UInt8.toNat).drop (4 * i)) = (Sha.word l i).toNat := by
  have hg : ∀ k, (((l.map UInt8.toNat).drop (4 * i)).getD k 0) = (l.getD (4 * i + k) 0).toNat := fun k => by
    rw [List.getD_eq_getElem?_getD, List.getElem?_drop, ← List.getD_eq_getElem?_getD, getD_map]
  unfold w4 Sha.word
  rw [hg, hg, hg, hg, R3.be32_nat, Nat.add_zero]
  omega
noncomputable def mixN (ks : List Nat) (b : List Nat) (A B C D E F G H : Nat) : List Nat :=
  force (w4 b) fun a0 => force (w4 (b.drop 4)) fun a1 => force (w4 (b.drop 8)) fun a2 => force (w4 (b.drop 12)) fun a3 =>
  force (w4 (b.drop 16)) fun a4 => force (w4 (b.drop 20)) fun a5 => force (w4 (b.drop 24)) fun a6 => force (w4 (b.drop 28)) fun a7 =>
  force (w4 (b.drop 32)) fun a8 => force (w4 (b.drop 36)) fun a9 => force (w4 (b.drop 40)) fun a10 => force (w4 (b.drop 44)) fun a11 =>
  force (w4 (b.drop 48)) fun a12 => force (w4 (b.drop 52)) fun a13 => force (w4 (b.drop 56)) fun a14 => force (w4 (b.drop 60)) fun a15 =>
  rds ks (sch 48 a0 a1 a2 a3 a4 a5 a6 a7 a8 a9 a10 a11 a12 a13 a14 a15) A B C D E F G H
def KN : List Nat := [1116352408, 1899447441, 3049323471, 3921009573, 961987163, 1508970993, 2453635748, 2870763221, 3624381080, 310598401, 607225278, 1426881987, 1925078388, 2162078206, 2614888103, 3248222580, 3835390401, 4022224774, 264347078, 604807628, 770255983, 1249150122, 1555081692, 1996064986, 2554220882, 2821834349, 2952996808, 3210313671, 3336571891, 3584528711, 113926993, 338241895, 666307205, 773529912, 1294757372, 1396182291, 1695183700, 1986661051, 2177026350, 2456956037, 2730485921, 2820302411, 3259730800, 3345764771, 3516065817, 3600352804, 4094571909, 275423344, 430227734, 506948616, 659060556, 883997877, 958139571, 1322822218, 1537002063, 1747873779, 1955562222, 2024104815, 2227730452, 2361852424, 2428436474, 2756734187, 3204031479, 3329325298]
theorem KN_eq : KN = Sha.K.map UInt32.toNat := by decide +kernel
theorem mixN_eq (b : List UInt8) (s : Sha.St8) : mixN KN (b.map UInt8.toNat) s.a.toNat s.b.toNat s.c.toNat s.d.toNat s.e.toNat s.f.toNat s.g.toNat s.h.toNat = (Sha.rnds (Sha.sched b) s 64).list.map UInt32.toNat := by
  have hw := fun i => w4_eq b i
  have h0 := hw 0; have h1 := hw 1; have h2 := hw 2; have h3 := hw 3; have h4 := hw 4; have h5 := hw 5; have h6 := hw 6; have h7 := hw 7
  have h8 := hw 8; have h9 := hw 9; have h10 := hw 10; have h11 := hw 11; have h12 := hw 12; have h13 := hw 13; have h14 := hw 14; have h15 := hw 15
  simp only [Nat.reduceMul, Nat.mul_zero, List.drop_zero] at h0 h1 h2 h3 h4 h5 h6 h7 h8 h9 h10 h11 h12 h13 h14 h15
  unfold mixN
  simp only [force_eq]
  rw [h0, h1, h2, h3, h4, h5, h6, h7, h8, h9, h10, h11, h12, h13, h14, h15]
  have hs := sch_exts 48 [] (Sha.word b 0) (Sha.word b 1) (Sha.word b 2) (Sha.word b 3) (Sha.word b 4) (Sha.word b 5) (Sha.word b 6) (Sha.word b 7) (Sha.word b 8) (Sha.word b 9) (Sha.word b 10) (Sha.word b 11) (Sha.word b 12) (Sha.word b 13) (Sha.word b 14) (Sha.word b 15)
  have hf : [] ++ [Sha.word b 0, Sha.word b 1, Sha.word b 2, Sha.word b 3, Sha.word b 4, Sha.word b 5, Sha.word b 6, Sha.word b 7, Sha.word b 8, Sha.word b 9, Sha.word b 10, Sha.word b 11, Sha.word b 12, Sha.word b 13, Sha.word b 14, Sha.word b 15] = Sha.firsts b 16 := rfl
  rw [hf, List.map_nil, List.nil_append] at hs
  rw [← hs, show Sha.exts 48 (Sha.firsts b 16) = Sha.sched b from rfl, KN_eq, rds_fold _ _ _ (by rw [Sha.sched_length]; rfl)]
  have := fold_rnds (Sha.sched b) s (Sha.sched_length b) 64 0 rfl
  rw [List.drop_zero, List.drop_zero] at this
  rw [show Sha.rnds (Sha.sched b) s 0 = s from rfl] at this
  rw [this]
/-- block for block -/
noncomputable def blocks (n : Nat) : List Nat → Nat → Nat → Nat → Nat → Nat → Nat → Nat → Nat → List Nat :=
  Nat.rec (fun _ a b c d e f g h => [a, b, c, d, e, f, g, h])
    (fun _ ih p a b c d e f g h => forceL (mixN KN p a b c d e f g h) fun r =>
      force ((a + r.getD 0 0) % 4294967296) fun a' => force ((b + r.getD 1 0) % 4294967296) fun b' => force ((c + r.getD 2 0) % 4294967296) fun c' => force ((d + r.getD 3 0) % 4294967296) fun d' =>
      force ((e + r.getD 4 0) % 4294967296) fun e' => force ((f + r.getD 5 0) % 4294967296) fun f' => force ((g + r.getD 6 0) % 4294967296) fun g' => force ((h + r.getD 7 0) % 4294967296) fun h' =>
      ih (p.drop 64) a' b' c' d' e' f' g' h') n
theorem mixes_succ (s : Sha.St8) (p : List UInt8) : ∀ k, Sha.mixes s p (k + 1) = Sha.mixes (Sha.mix s p) (p.drop 64) k
  | 0 => by rw [Sha.mixes, Sha.mixes, Sha.mixes, Nat.mul_zero, List.drop_zero]
  | k + 1 => by
    rw [Sha.mixes, mixes_succ s p k, Sha.mixes, List.drop_drop]
    congr 2
    omega
theorem blocks_step (n : Nat) (p : List Nat) (a b c d e f g h : Nat) : blocks (n + 1) p a b c d e f g h = forceL (mixN KN p a b c d e f g h) fun r => force ((a + r.getD 0 0) % 4294967296) fun a' => force ((b + r.getD 1 0) % 4294967296) fun b' => force ((c + r.getD 2 0) % 4294967296) fun c' => force ((d + r.getD 3 0) % 4294967296) fun d' => force ((e + r.getD 4 0) % 4294967296) fun e' => force ((f + r.getD 5 0) % 4294967296) fun f' => force ((g + r.getD 6 0) % 4294967296) fun g' => force ((h + r.getD 7 0) % 4294967296) fun h' => blocks n (p.drop 64) a' b' c' d' e' f' g' h' := rfl
theorem blocks_zero (p : List Nat) (a b c d e f g h : Nat) : blocks 0 p a b c d e f g h = [a, b, c, d, e, f, g, h] := rfl
attribute [local irreducible] blocks mixN KN
theorem add_eq (x y : UInt32) : (x.toNat + y.toNat) % 4294967296 = (x + y).toNat := by simp only [UInt32.toNat_add]
theorem g0 (r : Sha.St8) : (r.list.map UInt32.toNat).getD 0 0 = r.a.toNat := rfl
theorem f0 (s r : Sha.St8) : (s.add r).a = s.a + r.a := rfl
theorem g1 (r : Sha.St8) : (r.list.map UInt32.toNat).getD 1 0 = r.b.toNat := rfl
theorem f1 (s r : Sha.St8) : (s.add r).b = s.b + r.b := rfl
theorem g2 (r : Sha.St8) : (r.list.map UInt32.toNat).getD 2 0 = r.c.toNat := rfl
theorem f2 (s r : Sha.St8) : (s.add r).c = s.c + r.c := rfl
theorem g3 (r : Sha.St8) : (r.list.map UInt32.toNat).getD 3 0 = r.d.toNat := rfl
theorem f3 (s r : Sha.St8) : (s.add r).d = s.d + r.d := rfl
theorem g4 (r : Sha.St8) : (r.list.map UInt32.toNat).getD 4 0 = r.e.toNat := rfl
theorem f4 (s r : Sha.St8) : (s.add r).e = s.e + r.e := rfl
theorem g5 (r : Sha.St8) : (r.list.map UInt32.toNat).getD 5 0 = r.f.toNat := rfl
theorem f5 (s r : Sha.St8) : (s.add r).f = s.f + r.f := rfl
theorem g6 (r : Sha.St8) : (r.list.map UInt32.toNat).getD 6 0 = r.g.toNat := rfl
theorem f6 (s r : Sha.St8) : (s.add r).g = s.g + r.g := rfl
theorem g7 (r : Sha.St8) : (r.list.map UInt32.toNat).getD 7 0 = r.h.toNat := rfl
theorem f7 (s r : Sha.St8) : (s.add r).h = s.h + r.h := rfl
theorem blocks_eq (n : Nat) : ∀ (p : List UInt8) (s : Sha.St8), blocks n (p.map UInt8.toNat) s.a.toNat s.b.toNat s.c.toNat s.d.toNat s.e.toNat s.f.toNat s.g.toNat s.h.toNat = (Sha.mixes s p n).list.map UInt32.toNat := by
  induction n with
  | zero => intro p s; rw [blocks_zero, Sha.mixes]; rfl
  | succ n ih =>
    intro p s
    have hm := mixN_eq p s
    generalize hr : Sha.rnds (Sha.sched p) s 64 = r at hm
    have hmx : Sha.mix s p = s.add r := by unfold Sha.mix; rw [hr]
    have hi := ih (p.drop 64) (s.add r)
    rw [mixes_succ, hmx, ← hi, blocks_step, forceL_eq, hm, force_eq, force_eq, force_eq, force_eq, force_eq, force_eq, force_eq, force_eq]
    have h0 : (s.a.toNat + (r.list.map UInt32.toNat).getD 0 0) % 4294967296 = (s.add r).a.toNat := by rw [g0, f0, add_eq]
    have h1 : (s.b.toNat + (r.list.map UInt32.toNat).getD 1 0) % 4294967296 = (s.add r).b.toNat := by rw [g1, f1, add_eq]
    have h2 : (s.c.toNat + (r.list.map UInt32.toNat).getD 2 0) % 4294967296 = (s.add r).c.toNat := by rw [g2, f2, add_eq]
    have h3 : (s.d.toNat + (r.list.map UInt32.toNat).getD 3 0) % 4294967296 = (s.add r).d.toNat := by rw [g3, f3, add_eq]
    have h4 : (s.e.toNat + (r.list.map UInt32.toNat).getD 4 0) % 4294967296 = (s.add r).e.toNat := by rw [g4, f4, add_eq]
    have h5 : (s.f.toNat + (r.list.map UInt32.toNat).getD 5 0) % 4294967296 = (s.add r).f.toNat := by rw [g5, f5, add_eq]
    have h6 : (s.g.toNat + (r.list.map UInt32.toNat).getD 6 0) % 4294967296 = (s.add r).g.toNat := by rw [g6, f6, add_eq]
    have h7 : (s.h.toNat + (r.list.map UInt32.toNat).getD 7 0) % 4294967296 = (s.add r).h.toNat := by rw [g7, f7, add_eq]
    rw [List.map_drop, h0, h1, h2, h3, h4, h5, h6, h7]
def bytes4 (x : Nat) : List Nat := [x / 16777216 % 256, x / 65536 % 256, x / 256 % 256, x % 256]
theorem bytes4_eq (x : Nat) (h : x < 18446744073709551616) : bytes4 x = (Sha.numB (UInt64.ofNat x) 4).map UInt8.toNat := by
  rw [R3.four_nat x h]
  simp [bytes4, UInt8.toNat_ofNat']
noncomputable def padN (l : List Nat) : List Nat := l ++ 128 :: List.replicate ((119 - l.length % 64) % 64) 0 ++ (bytes4 (8 * l.length / 4294967296) ++ bytes4 (8 * l.length))
theorem padN_eq (l : List UInt8) (h : l.length < 1152921504606846976) : padN (l.map UInt8.toNat) = (Sha.pad l).map UInt8.toNat := by
  unfold padN Sha.pad
  simp only [List.map_append, List.length_map, List.map_replicate, List.map_cons, List.map_nil, List.append_assoc, List.cons_append, List.nil_append]
  have e : (8 * UInt64.ofNat l.length).toNat = 8 * l.length := by
    rw [UInt64.toNat_mul, UInt64.toNat_ofNat', Nat.mod_eq_of_lt (show l.length < 2 ^ 64 by omega)]
    exact Nat.mod_eq_of_lt (by show 8 * l.length < 18446744073709551616; omega)
  have h8 : (Sha.numB (8 * UInt64.ofNat l.length) 8).map UInt8.toNat = bytes4 (8 * l.length / 4294967296) ++ bytes4 (8 * l.length) := by
    unfold Sha.numB
    rw [e]
    simp [List.range_succ, R3.u8_of64, bytes4, UInt8.toNat_ofNat', Nat.div_div_eq_div_mul]
  rw [h8]
  rfl
noncomputable def sumN (l : List Nat) : List Nat := forceL (padN l) fun p => (blocks (p.length / 64) p 1779033703 3144134277 1013904242 2773480762 1359893119 2600822924 528734635 1541459225).flatMap bytes4
theorem sumN_eq (l : List UInt8) (h : l.length < 1152921504606846976) : sumN (l.map UInt8.toNat) = (Sha.sum l).map UInt8.toNat := by
  unfold sumN
  rw [forceL_eq, padN_eq l h, List.length_map]
  have hb := blocks_eq ((Sha.pad l).length / 64) (Sha.pad l) Sha.init
  rw [show blocks ((Sha.pad l).length / 64) ((Sha.pad l).map UInt8.toNat) 1779033703 3144134277 1013904242 2773480762 1359893119 2600822924 528734635 1541459225 = _ from hb]
  unfold Sha.sum Sha.out
  generalize (Sha.mixes Sha.init (Sha.pad l) ((Sha.pad l).length / 64)).list = L
  induction L with
  | nil => rfl
  | cons x L ih =>
    rw [List.map_cons, List.flatMap_cons, List.flatMap_cons, List.map_append, ih, bytes4_eq _ (by have := x.toNat_lt; omega)]
    congr 2
    rw [show x.toUInt64 = UInt64.ofNat x.toNat from by apply UInt64.toNat_inj.1; simp]
noncomputable def tagN (tag : Nat) (ls : List (List Nat)) : List Nat := (sumN (tag :: ls.flatMap fun s => bytes4 s.length ++ s)).take 16
theorem tagN_eq (tag : UInt8) (ls : List (List UInt8)) (h : ls.flatten.length + 4 * ls.length < 1152921504606846975) : tagN tag.toNat (ls.map (List.map UInt8.toNat)) = (Sha.tagged tag ls).map UInt8.toNat := by
  unfold tagN Sha.tagged
  have e : tag.toNat :: (ls.map (List.map UInt8.toNat)).flatMap (fun s => bytes4 s.length ++ s) = (Sha.tagB tag ls).map UInt8.toNat := by
    unfold Sha.tagB
    simp only [List.map_append, List.map_cons, List.map_nil, List.cons_append, List.nil_append]
    congr 1
    induction ls with
    | nil => rfl
    | cons a l ih =>
      simp only [List.flatten_cons, List.length_append, List.length_cons] at h
      rw [List.map_cons, List.flatMap_cons, List.flatMap_cons, List.map_append, List.map_append, List.length_map, ih (by omega), bytes4_eq _ (by omega)]
  rw [e, sumN_eq _ (by rw [Sha.tagB_length]; omega), List.map_take]
theorem of_toNat {a b : List UInt8} (h : a.map UInt8.toNat = b.map UInt8.toNat) : a = b := by
  induction a generalizing b with
  | nil => cases b with
    | nil => rfl
    | cons _ _ => cases h
  | cons x a ih => cases b with
    | nil => cases h
    | cons y b =>
      rw [List.map_cons, List.map_cons, List.cons.injEq] at h
      rw [UInt8.toNat_inj.1 h.1, ih h.2]
end SN

end Go.Proofs.YtnkfapecbmmpeaaDoor

namespace Go.Proofs.YtnkfapecbmmpeaaDoor
set_option maxRecDepth 100000
set_option maxHeartbeats 1000000

def placeN : List (List Nat) := [[105, 72, 128, 237, 61, 5, 50, 182, 223, 75, 24, 94, 147, 245, 19, 39],
  [88, 245, 185, 155, 41, 107, 180, 138, 125, 166, 83, 171, 115, 216, 18, 165],
  [93, 80, 203, 230, 14, 126, 127, 19, 21, 244, 174, 144, 89, 226, 94, 228],
  [148, 10, 18, 170, 77, 162, 171, 186, 8, 98, 48, 154, 194, 169, 63, 108],
  [236, 85, 91, 97, 199, 175, 137, 90, 50, 65, 185, 193, 130, 224, 18, 81],
  [79, 166, 20, 31, 51, 117, 145, 24, 240, 79, 98, 79, 106, 240, 3, 239],
  [238, 121, 90, 181, 53, 208, 204, 57, 93, 94, 55, 236, 103, 150, 52, 189],
  [206, 246, 68, 71, 242, 240, 44, 227, 11, 163, 124, 42, 109, 136, 184, 223],
  [102, 153, 141, 118, 18, 20, 90, 81, 197, 162, 183, 200, 132, 241, 168, 231],
  [105, 185, 227, 83, 69, 124, 42, 97, 92, 121, 35, 66, 28, 255, 32, 8],
  [63, 79, 253, 228, 120, 212, 65, 1, 74, 138, 77, 92, 45, 83, 29, 6],
  [6, 68, 43, 83, 187, 176, 175, 5, 40, 111, 126, 28, 241, 42, 58, 162],
  [84, 209, 206, 161, 181, 40, 188, 84, 7, 18, 199, 241, 13, 30, 46, 161],
  [176, 37, 113, 44, 248, 46, 217, 3, 30, 200, 199, 117, 42, 191, 130, 40],
  [31, 198, 219, 239, 77, 143, 38, 133, 43, 141, 86, 40, 35, 16, 12, 192]]
attribute [local irreducible] SN.tagN Sha.tagged
theorem placeN_eq : (List.range 15).map (fun i => SN.tagN 15 [[0, i]]) = placeN := by decide +kernel
/-- the place of a number -/
def placeK (n : Nat) : List UInt8 := Sha.tagged 15 [[UInt8.ofNat (n / 256), UInt8.ofNat n]]
theorem placeK_len (n : Nat) : (placeK n).length = 16 := Sha.tagged_length _ _
theorem placeK_nat {i : Nat} (hi : i < 15) : (placeK i).map UInt8.toNat = placeN.getD i [] := by
  have h := SN.tagN_eq 15 [[UInt8.ofNat (i / 256), UInt8.ofNat i]] (by simp)
  have h2 : SN.tagN 15 [[0, i]] = (placeK i).map UInt8.toNat := by
    rw [← placeK] at h
    rw [← h]
    have e1 : (UInt8.ofNat (i / 256)).toNat = 0 := by rw [show i / 256 = 0 by omega]; rfl
    have e2 : (UInt8.ofNat i).toNat = i := by rw [UInt8.toNat_ofNat']; omega
    show SN.tagN 15 [[0, i]] = SN.tagN 15 [[(UInt8.ofNat (i / 256)).toNat, (UInt8.ofNat i).toNat]]
    rw [e1, e2]
  rw [← h2, ← placeN_eq, List.getD_eq_getElem?_getD, List.getElem?_map, List.getElem?_range hi]; rfl
theorem placeN_ne : ∀ i j : Fin 15, i ≠ j → placeN.getD i.val [] ≠ placeN.getD j.val [] := by decide +kernel
theorem placeK_ne {i j : Nat} (hi : i < 15) (hj : j < 15) (h : i ≠ j) : placeK i ≠ placeK j := fun e =>
  placeN_ne ⟨i, hi⟩ ⟨j, hj⟩ (fun q => h (congrArg Fin.val q)) (by rw [← placeK_nat hi, ← placeK_nat hj, e])

end Go.Proofs.YtnkfapecbmmpeaaDoor

namespace Go.Proofs.YtnkfapecbmmpeaaDoor
open Go Go.Fw
set_option maxRecDepth 100000
set_option maxHeartbeats 1000000

theorem takes3 (l : List Nat) (s : List UInt8) : l.foldl RS.take ⟨s, 3⟩ = ⟨s, 3⟩ := by
  induction l with
  | nil => rfl
  | cons n l ih => exact ih
theorem take_ok {s : List UInt8} {n : Nat} (h : n ≤ s.length) : (⟨s, 0⟩ : RS).take n = ⟨s.drop n, 0⟩ := by simp [RS.take, h]
theorem take_no {s : List UInt8} {n : Nat} (h : ¬ n ≤ s.length) : (⟨s, 0⟩ : RS).take n = ⟨s, 3⟩ := by simp [RS.take, h]
theorem out_ok {s : List UInt8} {n : Nat} (h : n ≤ s.length) : (⟨s, 0⟩ : RS).out n = s.take n := by simp [RS.out, h]
theorem last_takes (l : List Nat) : ∀ s : List UInt8, (l.foldl RS.take ⟨s, 0⟩).last = if s.length < l.sum then 3 else if l.sum < s.length then 2 else 0 := by
  induction l with
  | nil =>
    intro s
    cases s <;> simp [RS.last]
  | cons n l ih =>
    intro s
    by_cases h : n ≤ s.length
    · rw [List.foldl_cons, take_ok h, ih, List.length_drop, List.sum_cons]
      by_cases h1 : s.length < n + l.sum
      · rw [if_pos (by omega), if_pos h1]
      · rw [if_neg (by omega), if_neg h1]
        by_cases h2 : n + l.sum < s.length
        · rw [if_pos (by omega), if_pos h2]
        · rw [if_neg (by omega), if_neg h2]
    · rw [List.foldl_cons, take_no h, takes3, List.sum_cons, if_pos (by omega)]
      simp [RS.last]
theorem natB_one (c : UInt8) : natB [c] = c.toNat := by simp [natB]
def dpE (s : List UInt8) : Int := if s.length < 33 then 3 else if 33 < s.length then 2 else if 6 < (s.getD 32 0).toNat then 4 else 0
def dpO (s : List UInt8) : List UInt8 := if dpE s = 0 then s.take 16 else []
def dpR (s : List UInt8) : List UInt8 := if dpE s = 0 then (s.drop 16).take 16 else []
def dpH (s : List UInt8) : Nat := if dpE s = 0 then (s.getD 32 0).toNat else 0
def dpV (s : List UInt8) : Value := .tuple #[.agg #[Str (dpO s), Str (dpR s), I (dpH s)], I (dpE s)]
theorem dpV_no {s : List UInt8} {e : Int} (h : dpE s = e) (he : e ≠ 0) : Value.tuple #[.agg #[Str [], Str [], I 0], I e] = dpV s := by
  unfold dpV dpO dpR dpH
  rw [h, if_neg he, if_neg he, if_neg he]; rfl
theorem dp_last (s : List UInt8) : ((((⟨s, 0⟩ : RS).take 16).take 16).take 1).last = if s.length < 33 then 3 else if 33 < s.length then 2 else 0 := last_takes [16, 16, 1] s
theorem dp_num {s : List UInt8} (h : ((((⟨s, 0⟩ : RS).take 16).take 16).take 1).last = 0) : s.length = 33 ∧ (⟨s, 0⟩ : RS).out 16 = s.take 16 ∧ ((⟨s, 0⟩ : RS).take 16).out 16 = (s.drop 16).take 16 ∧ natB ((((⟨s, 0⟩ : RS).take 16).take 16).out 1) = (s.getD 32 0).toNat := by
  rw [dp_last] at h
  have hl : s.length = 33 := by
    by_cases h1 : s.length < 33
    · rw [if_pos h1] at h; omega
    · rw [if_neg h1] at h
      by_cases h2 : 33 < s.length
      · rw [if_pos h2] at h; omega
      · omega
  refine ⟨hl, out_ok (by omega), ?_, ?_⟩
  · rw [take_ok (by omega), out_ok (by rw [List.length_drop]; omega)]
  · rw [take_ok (by omega), take_ok (by rw [List.length_drop]; omega), out_ok (by rw [List.length_drop, List.length_drop]; omega), List.drop_drop]
    rw [List.drop_eq_getElem_cons (show 16 + 16 < s.length by omega), List.take_succ_cons, List.take_zero, natB_one]
    rw [List.getD_eq_getElem?_getD, List.getElem?_eq_getElem (show 32 < s.length by omega)]; rfl
theorem dp_e {s : List UInt8} (h : ¬ ((((⟨s, 0⟩ : RS).take 16).take 16).take 1).last = 0) : dpE s = ((((⟨s, 0⟩ : RS).take 16).take 16).take 1).last := by
  rw [dp_last] at h ⊢
  unfold dpE
  by_cases h1 : s.length < 33
  · rw [if_pos h1, if_pos h1]
  · rw [if_neg h1, if_neg h1]
    rw [if_neg h1] at h
    by_cases h2 : 33 < s.length
    · rw [if_pos h2, if_pos h2]
    · rw [if_neg h2] at h; exact absurd rfl h
theorem dp_ok {s : List UInt8} (h : ((((⟨s, 0⟩ : RS).take 16).take 16).take 1).last = 0) (h6 : ¬ 6 < (s.getD 32 0).toNat) : dpE s = 0 := by
  unfold dpE
  have := dp_num h
  rw [if_neg (by omega), if_neg (by omega), if_neg h6]
theorem pubEnc_len {o r : List UInt8} {h : Int} (he : pubErr o r h = 0) : (pubEnc o r h).length = 33 := by
  unfold pubErr at he; unfold pubEnc
  split at he
  · rename_i h1
    rw [if_pos h1]
    have h2 := h1
    unfold pubOk at h2
    simp only [List.length_append, List.length_singleton]
    omega
  · omega
theorem numN_ct (F m : Hp) (g : Nat) (bs : List UInt8) (bad : Int) (hw : Wtr m g bs bad) (hlen : bs.length ≤ 1099511627776) (n : Nat) (hn : n < 18446744073709551616) (size : Nat) (h1 : 1 ≤ size) (h8 : size < 8) :
    Ct Tryd.prog 55 [Ptr g, N64 n, I size] [m, F] (fun _ : Hp => Ptr g) (fun m' => Wtr m' g (wnum (UInt64.ofNat n) size bs bad) (fbad (okN (UInt64.ofNat n) size) 10 bad)) (fun m' => [m', F]) := by
  rw [N_W hn]
  exact num_ct F m g bs bad hw hlen (UInt64.ofNat n) size h1 h8
theorem okN_t {n size : Nat} (hn : n < 18446744073709551616) (h : n < 2 ^ (8 * size)) : okN (UInt64.ofNat n) size = true := by
  unfold okN
  rw [ofNat64 hn]
  exact decide_eq_true h
theorem dp_4 {s : List UInt8} (h : ((((⟨s, 0⟩ : RS).take 16).take 16).take 1).last = 0) (h6 : 6 < (s.getD 32 0).toNat) : dpE s = 4 := by
  unfold dpE
  have := dp_num h
  rw [if_neg (by omega), if_neg (by omega), if_pos h6]

theorem numB_zero (n : UInt64) : Sha.numB n 0 = [] := rfl
theorem numB_cons (n t : Nat) (hn : n < 18446744073709551616) (ht : t < 8) : Sha.numB (UInt64.ofNat n) (t + 1) = UInt8.ofNat (n / 256 ^ t % 256) :: Sha.numB (UInt64.ofNat n) t := by
  unfold Sha.numB
  rw [List.range_succ_eq_map, List.map_cons, List.map_map]
  congr 1
  · rw [ofNat64 hn, Nat.min_eq_left (by omega), show t + 1 - 1 - 0 = t by omega, Nat.pow_mul]
    apply UInt8.toNat_inj.1
    rw [UInt64.toNat_toUInt8, ofNat64 (Nat.lt_of_le_of_lt (Nat.div_le_self _ _) hn), UInt8.toNat_ofNat']; simp
  · apply List.map_congr_left
    intro i hi
    rw [List.mem_range] at hi
    simp only [Function.comp, Nat.succ_eq_add_one, ofNat64 hn]
    rw [show t + 1 - 1 - (i + 1) = t - 1 - i by omega]
theorem pow_le8 (t : Nat) (ht : t ≤ 8) : 256 ^ t ≤ 18446744073709551616 := Nat.le_trans (Nat.pow_le_pow_right (by omega) ht) (by decide)

def noughts : List UInt8 := List.replicate 16 0
theorem natB_foldl (l : List UInt8) : ∀ a : Nat, l.foldl (fun n c => n * 256 + c.toNat) a = a * 256 ^ l.length + natB l := by
  induction l with
  | nil => intro a; simp [natB]
  | cons c l ih =>
    intro a
    unfold natB
    rw [List.foldl_cons, List.foldl_cons, ih, ih (0 * 256 + c.toNat), List.length_cons, Nat.pow_succ, Nat.add_mul, Nat.add_mul, Nat.mul_assoc, Nat.mul_comm 256]
    omega
theorem natB_cons (c : UInt8) (l : List UInt8) : natB (c :: l) = c.toNat * 256 ^ l.length + natB l := by
  rw [natB, List.foldl_cons, natB_foldl, Nat.zero_mul, Nat.zero_add]
theorem natB_numB (n : Nat) (hn : n < 18446744073709551616) : ∀ t, t ≤ 8 → natB (Sha.numB (UInt64.ofNat n) t) = n % 256 ^ t := by
  intro t
  induction t with
  | zero => intro _; rw [numB_zero]; simp [natB, Nat.mod_one]
  | succ t ih =>
    intro ht
    rw [numB_cons n t hn (by omega), natB_cons, Sha.numB_length, ih (by omega), UInt8.toNat_ofNat', show (2 ^ 8 : Nat) = 256 from rfl, Nat.mod_mod, Nat.pow_succ, Nat.mod_mul, Nat.mul_comm, Nat.add_comm]
theorem numB_add (c m t : Nat) (hc : c * 256 ^ t + m < 18446744073709551616) : ∀ k, k ≤ t → k ≤ 8 → Sha.numB (UInt64.ofNat (c * 256 ^ t + m)) k = Sha.numB (UInt64.ofNat m) k := by
  intro k
  induction k with
  | zero => intro _ _; rfl
  | succ k ih =>
    intro hk h8
    rw [numB_cons _ k hc (by omega), numB_cons m k (by omega) (by omega), ih (by omega) (by omega)]
    congr 2
    obtain ⟨d, rfl⟩ : ∃ d, t = k + 1 + d := ⟨t - k - 1, by omega⟩
    have e : c * 256 ^ (k + 1 + d) = 256 ^ k * (c * 256 ^ d * 256) := by rw [Nat.pow_add, Nat.pow_succ]; ac_rfl
    rw [e, Nat.mul_add_div (Nat.pow_pos (by omega)), Nat.mul_comm, Nat.mul_add_mod]
theorem numB_natB : ∀ (l : List UInt8), l.length ≤ 8 → Sha.numB (UInt64.ofNat (natB l)) l.length = l := by
  intro l
  induction l with
  | nil => intro _; rfl
  | cons c l ih =>
    intro hl
    rw [List.length_cons] at hl
    have h1 := natB_lt (c :: l)
    have h2 := pow_le8 (l.length + 1) hl
    have h3 := natB_lt l
    rw [List.length_cons] at h1
    rw [natB_cons] at h1 ⊢
    rw [List.length_cons, numB_cons _ _ (by omega) (by omega), numB_add _ _ _ (by omega) _ (Nat.le_refl _) (by omega), ih (by omega)]
    congr 1
    apply UInt8.toNat_inj.1
    have h4 := c.toNat_lt
    rw [UInt8.toNat_ofNat', Nat.mul_comm, Nat.mul_add_div (Nat.pow_pos (by omega)), Nat.div_eq_of_lt h3]
    simp only [Nat.reducePow] at h4 ⊢
    omega
/-! ## reading texts, one behind the other -/
def tb (s : List UInt8) : List UInt8 := Sha.numB (UInt64.ofNat s.length) 2 ++ s
theorem natB_c (c : UInt8) : natB [c] = c.toNat := by simp [natB]
theorem take_inv {st : RS} {n : Nat} (h : (st.take n).bad = 0) : st.bad = 0 ∧ n ≤ st.s.length ∧ st.take n = ⟨st.s.drop n, 0⟩ ∧ st.out n = st.s.take n := by
  obtain ⟨s, b⟩ := st
  unfold RS.take at h ⊢
  unfold RS.out
  dsimp only at h ⊢
  by_cases hb : b = 0
  · rw [if_pos hb] at h ⊢
    by_cases hn : n ≤ s.length
    · rw [if_pos hn] at h ⊢
      exact ⟨hb, hn, rfl, if_pos ⟨hb, hn⟩⟩
    · rw [if_neg hn] at h; cases h
  · rw [if_neg hb] at h; exact absurd h hb
theorem take_bad {st : RS} {n : Nat} (h : st.bad ≠ 0) : st.take n = st := by unfold RS.take; rw [if_neg h]
theorem out_bad {st : RS} {n : Nat} (h : st.bad ≠ 0) : st.out n = [] := by unfold RS.out; rw [if_neg (fun e => h e.1)]
theorem textR_bad {st : RS} (h : st.bad ≠ 0) : st.textR = st := by
  unfold RS.textR
  rw [out_bad h, if_neg (by decide), take_bad h, take_bad h]
def RS.after : RS → Nat → RS
  | st, 0 => st
  | st, k + 1 => (st.after k).textR
def RS.tx (st : RS) (k : Nat) : List (List UInt8) := (List.range k).map fun j => (st.after j).textS
theorem after_zero (st : RS) : st.after 0 = st := rfl
theorem after_succ (st : RS) (k : Nat) : st.after (k + 1) = (st.after k).textR := rfl
theorem tx_zero (st : RS) : st.tx 0 = [] := rfl
theorem tx_succ (st : RS) (k : Nat) : st.tx (k + 1) = st.tx k ++ [(st.after k).textS] := by unfold RS.tx; rw [List.range_succ, List.map_append]; rfl
theorem tx_length (st : RS) (k : Nat) : (st.tx k).length = k := by unfold RS.tx; rw [List.length_map, List.length_range]
theorem after_front (st : RS) (k : Nat) : st.after (k + 1) = st.textR.after k := by
  induction k with
  | zero => rfl
  | succ k ih => rw [after_succ, ih, after_succ]
theorem tx_front (st : RS) (k : Nat) : st.tx (k + 1) = st.textS :: st.textR.tx k := by
  unfold RS.tx
  rw [List.range_succ_eq_map, List.map_cons, List.map_map]
  refine List.cons_eq_cons.2 ⟨rfl, List.map_congr_left fun j _ => ?_⟩
  show (st.after (j + 1)).textS = _
  rw [after_front]
theorem after_bad {st : RS} (h : st.bad ≠ 0) (k : Nat) : st.after k = st := by
  induction k with
  | zero => rfl
  | succ k ih => rw [after_succ, ih, textR_bad h]
theorem last_zero {st : RS} (h : st.last = 0) : st.bad = 0 ∧ st.s = [] := by
  unfold RS.last at h
  by_cases hb : st.bad = 0
  · rw [if_pos hb] at h
    by_cases hs : st.s = []
    · exact ⟨hb, hs⟩
    · rw [if_neg hs] at h; cases h
  · rw [if_neg hb] at h; exact absurd h hb
theorem text_inv {t : List UInt8} (h : (⟨t, 0⟩ : RS).textR.bad = 0) : ∃ r, t = tb (⟨t, 0⟩ : RS).textS ++ r ∧ (⟨t, 0⟩ : RS).textR = ⟨r, 0⟩ := by
  unfold RS.textR at h ⊢
  unfold RS.textS
  by_cases h1 : 4096 < natB ((⟨t, 0⟩ : RS).out 2)
  · rw [if_pos h1] at h
    unfold RS.form at h
    by_cases h2 : ((⟨t, 0⟩ : RS).take 2).bad = 0
    · rw [if_pos h2] at h; cases h
    · rw [if_neg h2] at h; exact absurd h h2
  · rw [if_neg h1] at h
    rw [if_neg h1, if_neg h1]
    obtain ⟨a1, a2, a3, a4⟩ := take_inv h
    obtain ⟨b1, b2, b3, b4⟩ := take_inv a1
    rw [b3] at a2 a3 a4
    rw [b3]
    refine ⟨_, ?_, a3⟩
    rw [a4]
    dsimp only at a2 b2 b4 ⊢
    have e : ((t.drop 2).take (natB ((⟨t, 0⟩ : RS).out 2))).length = natB ((⟨t, 0⟩ : RS).out 2) := by rw [List.length_take]; omega
    have hn := numB_natB (t.take 2) (by rw [List.length_take]; omega)
    rw [show (t.take 2).length = 2 by rw [List.length_take]; omega] at hn
    unfold tb
    rw [e, b4, hn, List.append_assoc, List.take_append_drop, List.take_append_drop]
theorem text_fwd {x : List UInt8} (r : List UInt8) (h : x.length ≤ 4096) : (⟨tb x ++ r, 0⟩ : RS).textS = x ∧ (⟨tb x ++ r, 0⟩ : RS).textR = ⟨r, 0⟩ := by
  have hN : (Sha.numB (UInt64.ofNat x.length) 2).length = 2 := Sha.numB_length _ _
  have e1 : (⟨tb x ++ r, 0⟩ : RS).out 2 = Sha.numB (UInt64.ofNat x.length) 2 := by
    rw [out_ok (by unfold tb; simp only [List.length_append, hN]; omega)]
    unfold tb
    rw [List.append_assoc, List.take_left' hN]
  have e2 : (⟨tb x ++ r, 0⟩ : RS).take 2 = ⟨x ++ r, 0⟩ := by
    rw [take_ok (by unfold tb; simp only [List.length_append, hN]; omega)]
    unfold tb
    rw [List.append_assoc, List.drop_left' hN]
  have e3 : natB (Sha.numB (UInt64.ofNat x.length) 2) = x.length := by
    rw [natB_numB _ (by omega) 2 (by decide)]; exact Nat.mod_eq_of_lt (by omega)
  unfold RS.textS RS.textR
  rw [e1, e2, e3, if_neg (by omega), if_neg (by omega), out_ok (by rw [List.length_append]; omega), take_ok (by rw [List.length_append]; omega), List.take_left' rfl, List.drop_left' rfl]
  exact ⟨rfl, rfl⟩
theorem all_fwd : ∀ (l : List (List UInt8)) (r : List UInt8), (∀ x ∈ l, x.length ≤ 4096) → (⟨(l.map tb).flatten ++ r, 0⟩ : RS).after l.length = ⟨r, 0⟩ ∧ (⟨(l.map tb).flatten ++ r, 0⟩ : RS).tx l.length = l
  | [], r, _ => ⟨rfl, rfl⟩
  | x :: l, r, h => by
    have h1 := text_fwd ((l.map tb).flatten ++ r) (h x (.head _))
    have h2 := all_fwd l r (fun y hy => h y (.tail _ hy))
    rw [List.map_cons, List.flatten_cons, List.append_assoc, List.length_cons, after_front, tx_front, h1.1, h1.2]
    exact ⟨h2.1, by rw [h2.2]⟩
theorem all_inv : ∀ (k : Nat) (t : List UInt8), ((⟨t, 0⟩ : RS).after k).bad = 0 → ∃ r, t = (((⟨t, 0⟩ : RS).tx k).map tb).flatten ++ r ∧ (⟨t, 0⟩ : RS).after k = ⟨r, 0⟩
  | 0, t, _ => ⟨t, rfl, rfl⟩
  | k + 1, t, h => by
    rw [after_front] at h
    by_cases hb : (⟨t, 0⟩ : RS).textR.bad = 0
    · obtain ⟨r, e1, e2⟩ := text_inv hb
      rw [e2] at h
      obtain ⟨r', e3, e4⟩ := all_inv k r h
      refine ⟨r', ?_, by rw [after_front, e2]; exact e4⟩
      rw [tx_front, e2, List.map_cons, List.flatten_cons, List.append_assoc, ← e3]; exact e1
    · rw [after_bad hb] at h; exact absurd h hb
theorem byte_lt {st : RS} : natB (st.out 1) < 256 := by
  have := natB_lt (st.out 1)
  have h2 := st.out_len 1
  exact Nat.lt_of_lt_of_le this (Nat.le_trans (Nat.pow_le_pow_right (by decide) h2) (by decide))
theorem four_lt {st : RS} : natB (st.out 4) < 4294967296 := by
  have := natB_lt (st.out 4)
  have h2 := st.out_len 4
  exact Nat.lt_of_lt_of_le this (Nat.le_trans (Nat.pow_le_pow_right (by decide) h2) (by decide))
theorem last_in (st : RS) (h : st.bad = 0 ∨ st.bad = 3 ∨ st.bad = 4) : st.last = 0 ∨ st.last = 2 ∨ st.last = 3 ∨ st.last = 4 := by
  unfold RS.last
  by_cases hb : st.bad = 0
  · rw [if_pos hb]
    split <;> simp
  · rw [if_neg hb]; omega
theorem take_in {st : RS} {n : Nat} (h : st.bad = 0 ∨ st.bad = 3 ∨ st.bad = 4) : (st.take n).bad = 0 ∨ (st.take n).bad = 3 ∨ (st.take n).bad = 4 := by
  unfold RS.take
  split
  · split <;> simp
  · exact h
theorem after_in {st : RS} (h : st.bad = 0 ∨ st.bad = 3 ∨ st.bad = 4) : ∀ k, (st.after k).bad = 0 ∨ (st.after k).bad = 3 ∨ (st.after k).bad = 4
  | 0 => h
  | k + 1 => by
    rw [after_succ]
    unfold RS.textR
    split
    · unfold RS.form
      split
      · simp
      · exact take_in (after_in h k)
    · exact take_in (take_in (after_in h k))
theorem one_byte {l : List UInt8} (h : l.length = 1) : [UInt8.ofNat (natB l)] = l := by
  match l, h with
  | [c], _ =>
    rw [natB_c]
    congr 1
    apply UInt8.toNat_inj.1
    rw [UInt8.toNat_ofNat']; exact Nat.mod_eq_of_lt c.toNat_lt

theorem wtrN (g : Nat) : Wtr (blk g [.pointer none, .slice none 0 0, I 0] 104) g [] 0 :=
  ⟨[.pointer none, .slice none 0 0, I 0], fun _ => none, none, 0, none, by funext k; simp only [U]; cases blk g [.pointer none, .slice none 0 0, I 0] 104 k <;> rfl, fun _ => .inr rfl, rfl, ⟨rfl, .inl rfl, rfl, RowQ.nil, .inl rfl⟩, rfl⟩
theorem fbad_tt (e : Int) : fbad true e 0 = 0 := by unfold fbad; rw [if_neg (by simp)]
theorem numG_ct (F m : Hp) (g : Nat) (bs : List UInt8) (hw : Wtr m g bs 0) (hlen : bs.length ≤ 1099511627776) (k size : Nat) (h1 : 1 ≤ size) (h8 : size < 8) (hk : k < 2 ^ (8 * size)) :
    Ct Tryd.prog 55 [Ptr g, N64 k, I size] [m, F] (fun _ : Hp => Ptr g) (fun m' => Wtr m' g (bs ++ Sha.numB (UInt64.ofNat k) size) 0) (fun m' => [m', F]) := by
  have hlt : k < 18446744073709551616 := Nat.lt_of_lt_of_le hk (Nat.le_trans (Nat.pow_le_pow_right (by decide) (show 8 * size ≤ 64 by omega)) (by decide))
  have hn : (UInt64.ofNat k).toNat = k := ofNat64 hlt
  have e : okN (UInt64.ofNat k) size = true := by unfold okN; rw [hn]; exact decide_eq_true hk
  have h := num_ct F m g bs 0 hw hlen (UInt64.ofNat k) size h1 h8
  rw [wnum_ok e, e, fbad_tt] at h
  rw [N_W hlt]; exact h
theorem textG_ct (F m : Hp) (g : Nat) (bs : List UInt8) (hw : Wtr m g bs 0) (hlen : bs.length ≤ 1099511627776) (s : List UInt8) (hs : s.length ≤ 4096) :
    Ct Tryd.prog 96 [Ptr g, Str s] [m, F] (fun _ : Hp => Ptr g) (fun m' => Wtr m' g (bs ++ tb s) 0) (fun m' => [m', F]) := by
  have h := text_ct F m g bs 0 hw hlen s (by omega)
  have e : okT s = true := decide_eq_true hs
  have e2 : wtext s bs 0 = bs ++ tb s := by unfold wtext tb; rw [e, fbad_tt, if_pos rfl, List.append_assoc]
  rw [e2, e, fbad_tt] at h; exact h
theorem fixG_ct (F m : Hp) (g : Nat) (bs : List UInt8) (hw : Wtr m g bs 0) (hlen : bs.length ≤ 1099511627776) (s : List UInt8) (size : Nat) (hs : s.length = size) (h8 : size ≤ 1048576) :
    Ct Tryd.prog 54 [Ptr g, Str s, I size] [m, F] (fun _ : Hp => Ptr g) (fun m' => Wtr m' g (bs ++ s) 0) (fun m' => [m', F]) := by
  have h := fixed_ct F m g bs 0 hw hlen s (by omega) size
  have e : okF s size = true := decide_eq_true hs
  have e2 : wfix s size bs 0 = bs ++ s := by unfold wfix; rw [e, fbad_tt, if_pos rfl]
  rw [e2, e, fbad_tt] at h; exact h
theorem bytesG_ct (F m : Hp) (g : Nat) (bs : List UInt8) (hw : Wtr m g bs 0) (hlen : bs.length ≤ 1099511627776) :
    Ct Tryd.prog 56 [Ptr g] [m, F] (fun _ : Hp => .tuple #[Str bs, I ((0 : Nat) : Int)]) (fun m' => Wtr m' g bs 0) (fun m' => [m', F]) := by
  have h := bytes_ct F m g bs 0 hw (by omega)
  rw [if_pos rfl] at h; exact h
/-! ## a proof in bytes -/
theorem tb_len (s : List UInt8) : (tb s).length = 2 + s.length := by unfold tb; rw [List.length_append, Sha.numB_length]
theorem tbs_len {l : List (List UInt8)} (h : ∀ s ∈ l, s.length ≤ 4096) : (l.map tb).flatten.length ≤ 4098 * l.length := by
  induction l with
  | nil => exact Nat.zero_le _
  | cons a l ih =>
    have h1 := ih (fun s hs => h s (.tail _ hs))
    have h2 := h a (.head _)
    rw [List.map_cons, List.flatten_cons, List.length_append, List.length_cons, tb_len]; omega
theorem tbs_take {l : List (List UInt8)} {k : Nat} (h : k < l.length) : ((l.take (k + 1)).map tb).flatten = ((l.take k).map tb).flatten ++ tb (l.getD k []) := by
  rw [List.take_succ_eq_append_getElem h, List.map_append, List.flatten_append, List.map_cons, List.map_nil, List.flatten_cons, List.flatten_nil, List.append_nil, List.getD_eq_getElem?_getD, List.getElem?_eq_getElem h]; rfl
theorem textS_len (st : RS) : st.textS.length ≤ 4096 := by
  unfold RS.textS
  split
  · exact Nat.zero_le _
  · have := (st.take 2).out_len (natB (st.out 2)); omega
theorem tx_small (st : RS) (k : Nat) : ∀ s ∈ st.tx k, s.length ≤ 4096 := fun s hs => by
  unfold RS.tx at hs
  obtain ⟨j, _, rfl⟩ := List.mem_map.1 hs
  exact textS_len _
theorem numB1b : ∀ k, k < 256 → Sha.numB (UInt64.ofNat k) 1 = [UInt8.ofNat k] := by decide +kernel
def b01 (t : Bool) : UInt8 := if t = true then 1 else 0
def n01 (t : Bool) : Nat := if t = true then 1 else 0
def pfB (bs : List (List UInt8)) (th : Bool) (pk pv : List UInt8) : List UInt8 := [UInt8.ofNat bs.length] ++ (bs.map tb).flatten ++ [b01 th] ++ tb pk ++ tb pv
def pd1 (s : List UInt8) : RS := (⟨s, 0⟩ : RS).take 1
def pdn (s : List UInt8) : Nat := natB ((⟨s, 0⟩ : RS).out 1)
def pd2 (s : List UInt8) : RS := (pd1 s).after (min (pdn s) 128)
def pdb (s : List UInt8) : List (List UInt8) := (pd1 s).tx (min (pdn s) 128)
def pdt (s : List UInt8) : Nat := natB ((pd2 s).out 1)
def pd3 (s : List UInt8) : RS := (pd2 s).take 1
def pd4 (s : List UInt8) : RS := (pd3 s).textR
def pd5 (s : List UInt8) : RS := (pd4 s).textR
def pdE (s : List UInt8) : Int := if (pd5 s).last ≠ 0 then (pd5 s).last else if 128 < pdn s ∨ 1 < pdt s then 4 else 0
def pdB (s : List UInt8) : List (List UInt8) := if pdE s = 0 then pdb s else []
def pdT (s : List UInt8) : Bool := if pdE s = 0 then decide (pdt s = 1) else false
def pdK (s : List UInt8) : List UInt8 := if pdE s = 0 then (pd3 s).textS else []
def pdV (s : List UInt8) : List UInt8 := if pdE s = 0 then (pd4 s).textS else []
theorem pdb_len (s : List UInt8) : (pdb s).length ≤ 128 := by unfold pdb; rw [tx_length]; exact Nat.min_le_right _ _
theorem pdB_len (s : List UInt8) : (pdB s).length ≤ 128 := by
  unfold pdB
  split
  · exact pdb_len s
  · exact Nat.zero_le _
theorem pdB_small (s : List UInt8) : ∀ x ∈ pdB s, x.length ≤ 4096 := by
  unfold pdB
  split
  · exact tx_small _ _
  · simp
theorem pdK_small (s : List UInt8) : (pdK s).length ≤ 4096 := by
  unfold pdK
  split
  · exact textS_len _
  · exact Nat.zero_le _
theorem pdV_small (s : List UInt8) : (pdV s).length ≤ 4096 := by
  unfold pdV
  split
  · exact textS_len _
  · exact Nat.zero_le _
theorem textR_in {st : RS} (h : st.bad = 0 ∨ st.bad = 3 ∨ st.bad = 4) : st.textR.bad = 0 ∨ st.textR.bad = 3 ∨ st.textR.bad = 4 := after_in h 1
theorem pdE_in (s : List UInt8) : pdE s = 0 ∨ pdE s = 2 ∨ pdE s = 3 ∨ pdE s = 4 := by
  unfold pdE
  have := last_in (pd5 s) (textR_in (textR_in (take_in (after_in (take_in (.inl rfl)) _))))
  split
  · omega
  · split <;> omega
theorem pd_fwd {bs : List (List UInt8)} {th : Bool} {pk pv : List UInt8} (hb : bs.length ≤ 128) (h : ∀ s ∈ bs, s.length ≤ 4096) (h1 : pk.length ≤ 4096) (h2 : pv.length ≤ 4096) :
    pdE (pfB bs th pk pv) = 0 ∧ pdB (pfB bs th pk pv) = bs ∧ pdT (pfB bs th pk pv) = th ∧ pdK (pfB bs th pk pv) = pk ∧ pdV (pfB bs th pk pv) = pv := by
  obtain ⟨s, hs⟩ : ∃ s, s = pfB bs th pk pv := ⟨_, rfl⟩
  rw [← hs]
  have e0 : s = UInt8.ofNat bs.length :: ((bs.map tb).flatten ++ (b01 th :: (tb pk ++ (tb pv ++ [])))) := by rw [hs]; unfold pfB; simp
  have hn : pdn s = bs.length := by
    unfold pdn
    rw [e0, out_ok (by rw [List.length_cons]; omega), List.take_succ_cons, List.take_zero, natB_c, UInt8.toNat_ofNat']; omega
  have e1 : pd1 s = ⟨(bs.map tb).flatten ++ (b01 th :: (tb pk ++ (tb pv ++ []))), 0⟩ := by
    unfold pd1
    rw [e0, take_ok (by rw [List.length_cons]; omega)]; rfl
  have hm : min bs.length 128 = bs.length := Nat.min_eq_left hb
  obtain ⟨f1, f2⟩ := all_fwd bs (b01 th :: (tb pk ++ (tb pv ++ []))) h
  have e2 : pd2 s = ⟨b01 th :: (tb pk ++ (tb pv ++ [])), 0⟩ := by unfold pd2; rw [e1, hn, hm, f1]
  have eb : pdb s = bs := by unfold pdb; rw [e1, hn, hm, f2]
  have et : pdt s = n01 th := by
    unfold pdt
    rw [e2, out_ok (by rw [List.length_cons]; omega), List.take_succ_cons, List.take_zero, natB_c]
    unfold b01 n01; cases th <;> rfl
  have e3 : pd3 s = ⟨tb pk ++ (tb pv ++ []), 0⟩ := by
    unfold pd3
    rw [e2, take_ok (by rw [List.length_cons]; omega)]; rfl
  obtain ⟨g1, g2⟩ := text_fwd (tb pv ++ []) h1
  have e4 : pd4 s = ⟨tb pv ++ [], 0⟩ := by unfold pd4; rw [e3, g2]
  obtain ⟨g3, g4⟩ := text_fwd [] h2
  have e5 : pd5 s = ⟨[], 0⟩ := by unfold pd5; rw [e4, g4]
  have hE : pdE s = 0 := by
    unfold pdE
    rw [e5, if_neg (by unfold RS.last; simp), hn, et, if_neg]
    unfold n01
    split <;> omega
  refine ⟨hE, ?_, ?_, ?_, ?_⟩
  · unfold pdB; rw [if_pos hE, eb]
  · unfold pdT; rw [if_pos hE, et]; unfold n01; cases th <;> rfl
  · unfold pdK; rw [if_pos hE, e3, g1]
  · unfold pdV; rw [if_pos hE, e4, g3]
theorem pd_inv {s : List UInt8} (hE : pdE s = 0) : pfB (pdB s) (pdT s) (pdK s) (pdV s) = s := by
  have h := hE
  unfold pdE at h
  split at h
  · rename_i h1; exact absurd h h1
  rename_i h1
  split at h
  · cases h
  rename_i h2
  obtain ⟨hb, hs⟩ := last_zero (Decidable.not_not.1 h1)
  have hb4 : (pd4 s).bad = 0 := by
    by_cases e : (pd4 s).bad = 0
    · exact e
    · unfold pd5 at hb; rw [textR_bad e] at hb; exact absurd hb e
  have hb3 : (pd3 s).bad = 0 := by
    by_cases e : (pd3 s).bad = 0
    · exact e
    · unfold pd4 at hb4; rw [textR_bad e] at hb4; exact absurd hb4 e
  obtain ⟨c1, c2, c3, c4⟩ := take_inv (st := pd2 s) hb3
  have hb1 : (pd1 s).bad = 0 := by
    by_cases e : (pd1 s).bad = 0
    · exact e
    · unfold pd2 at c1; rw [after_bad e] at c1; exact absurd c1 e
  obtain ⟨a1, a2, a3, a4⟩ := take_inv (st := (⟨s, 0⟩ : RS)) hb1
  dsimp only at a2 a3 a4
  have e1 : pd1 s = ⟨s.drop 1, 0⟩ := a3
  have hm : min (pdn s) 128 = pdn s := Nat.min_eq_left (by omega)
  obtain ⟨r, f1, f2⟩ := all_inv (pdn s) (s.drop 1) (by rw [← e1, ← hm]; exact c1)
  have e2 : pd2 s = ⟨r, 0⟩ := by unfold pd2; rw [hm, e1, f2]
  have eb : pdb s = (⟨s.drop 1, 0⟩ : RS).tx (pdn s) := by unfold pdb; rw [hm, e1]
  rw [e2] at c2 c3 c4
  dsimp only at c2 c3 c4
  have e3 : pd3 s = ⟨r.drop 1, 0⟩ := by unfold pd3; rw [e2]; exact c3
  have hb4' : (⟨r.drop 1, 0⟩ : RS).textR.bad = 0 := by rw [← e3]; exact hb4
  obtain ⟨r2, g1, g2⟩ := text_inv hb4'
  have e4 : pd4 s = ⟨r2, 0⟩ := by unfold pd4; rw [e3, g2]
  have hb5' : (⟨r2, 0⟩ : RS).textR.bad = 0 := by rw [← e4]; exact hb
  obtain ⟨r3, g3, g4⟩ := text_inv hb5'
  have e5 : pd5 s = ⟨r3, 0⟩ := by unfold pd5; rw [e4, g4]
  have hr3 : r3 = [] := by rw [e5] at hs; exact hs
  have hlen : (pdb s).length = pdn s := by unfold pdb; rw [tx_length, hm]
  have o1 := one_byte (l := s.take 1) (by rw [List.length_take]; omega)
  have o2 := one_byte (l := r.take 1) (by rw [List.length_take]; omega)
  have hpt : pdt s = natB (r.take 1) := by unfold pdt; rw [e2, c4]
  have hpn : pdn s = natB (s.take 1) := by unfold pdn; rw [a4]
  have h01 : [b01 (decide (pdt s = 1))] = r.take 1 := by
    rw [← o2, ← hpt]
    have h3 : pdt s = 0 ∨ pdt s = 1 := by omega
    rcases h3 with h3 | h3 <;> rw [h3] <;> rfl
  unfold pdB pdT pdK pdV
  rw [if_pos hE, if_pos hE, if_pos hE, if_pos hE]
  unfold pfB
  rw [hlen, h01, hpn, o1, eb, e3, e4]
  have k1 : (s.drop 1) = ((((⟨s.drop 1, 0⟩ : RS).tx (pdn s)).map tb).flatten ++ (r.take 1 ++ (tb (⟨r.drop 1, 0⟩ : RS).textS ++ (tb (⟨r2, 0⟩ : RS).textS)))) := by
    rw [hr3, List.append_nil] at g3
    rw [← g3, ← g1, List.take_append_drop]; exact f1
  have k2 : s = s.take 1 ++ s.drop 1 := (List.take_append_drop 1 s).symm
  conv => rhs; rw [k2, k1]
  simp only [List.append_assoc, hpn]
theorem pd_bad {s : List UInt8} (h : pdE s ≠ 0) : pdB s = [] ∧ pdT s = false ∧ pdK s = [] ∧ pdV s = [] := ⟨if_neg h, if_neg h, if_neg h, if_neg h⟩
theorem pd_good {s : List UInt8} (h : pdE s = 0) : pdB s = pdb s ∧ pdT s = decide (pdt s = 1) ∧ pdK s = (pd3 s).textS ∧ pdV s = (pd4 s).textS := ⟨if_pos h, if_pos h, if_pos h, if_pos h⟩
theorem pdE_last {s : List UInt8} (h : (pd5 s).last ≠ 0) : pdE s = (pd5 s).last := if_pos h
theorem pdE_4 {s : List UInt8} (h : ¬ (pd5 s).last ≠ 0) (h2 : 128 < pdn s ∨ 1 < pdt s) : pdE s = 4 := by unfold pdE; rw [if_neg h, if_pos h2]
theorem pdE_0 {s : List UInt8} (h : ¬ (pd5 s).last ≠ 0) (h2 : ¬ (128 < pdn s ∨ 1 < pdt s)) : pdE s = 0 := by unfold pdE; rw [if_neg h, if_neg h2]

end Go.Proofs.YtnkfapecbmmpeaaDoor
