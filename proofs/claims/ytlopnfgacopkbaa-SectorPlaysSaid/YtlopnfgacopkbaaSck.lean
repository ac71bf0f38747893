/- A part of the proof: contracts of functions of the program, each for every state of the heaps that it names. -/
import Derived.Test.YtlopnfgacopkbaaScp
import Derived.Test.YtlopnfgacopkbaaFwR
set_option linter.unusedSimpArgs false
set_option linter.unusedVariables false
namespace Go.Proofs.Ytlopnfgacopkbaa
open Go Go.Fw
set_option maxRecDepth 100000
set_option maxHeartbeats 1000000
theorem ent6 : Enters Try.prog 6 := Enters.of Try.func6 rfl (by kernel_rfl)
theorem ent10 : Enters Try.prog 10 := Enters.of Try.func10 rfl (by kernel_rfl)

structure Act9 where
  what : Int
  at_ : Int
  n : Int
  text : List UInt8
  kE : Option Addr
  kq : Nat
  keep : List UInt8
def Act9.cells (a : Act9) : List Value := [I a.what, I a.at_, I a.n, Str a.text, .slice a.kE a.keep.length a.kq]
def noA : Act9 := ⟨0, 0, 0, [], none, 0, []⟩
def actsV (l : List Act9) : List (List Value) := l.map Act9.cells
theorem actsV_get {l : List Act9} {k : Nat} (h : k < l.length) : (actsV l)[k]? = some (l.getD k noA).cells := by
  unfold actsV
  rw [List.getElem?_map, getSome noA h]; rfl
/-- several rows behind one heap: an append to one of them -/
theorem op_appendF {P : Program} {env : Env} {Ms rest : List Hp} {o : Oper} {t u e : TypeId} {x y : Operand} {A : Option Addr} {n c : Nat} {xs ys : List (List Value)} {B : Option Addr} {k c2 : Nat} {z : List Value} {by' : Nat} {j : Nat} {m m2 : Hp}
    (hdj : Djs Ms) (ho : o.op = .call { callee := .builtin .append, args := #[x, y], argTypes := #[t, u] }) (hx : ev env x = some (.slice A n c)) (hy : ev env y = some (.slice B k c2))
    (hu : P.underlying t = some (.slice e)) (hu2 : P.underlying u = some (.slice e)) (he : Elem P e z by') (hi : Ms[j]? = some m) (hr : Row m e z.length A n c xs) (hm : m2 ∈ rest) (hs2 : Sl m2 z.length B k c2 ys)
    (h1 : ys.all (fun x => x.all Value.oneCell') = true) (hb : (n + k) * by' ≤ 140737488355328) (h63 : n + k ≤ 9223372036854775807) :
    EOp P env (U Ms :: rest) o (fun x : Option Addr × Nat × Hp => .slice x.1 (n + k) x.2.1) (fun x => Row x.2.2 e z.length x.1 (n + k) x.2.1 (xs ++ ys) ∧ Djs (Ms.set j x.2.2)) (fun x => U (Ms.set j x.2.2) :: rest) := fun nn a w0 w next Q hk hs hn => by
  have hj : j < Ms.length := (List.getElem?_eq_some_iff.1 hi).1
  have h := op_append (ms := Ms ++ rest) ho hx hy hu hu2 he (i := j) (by rw [List.getElem?_append_left hj]; exact hi) hr (List.mem_append_right _ hm) hs2 h1 hb h63
  refine h nn a w0 w next Q hk (hs.splitUs hdj) (fun x w' hx' hs' => ?_)
  dsimp only at hs'
  rw [List.set_append_left _ _ hj] at hs'
  exact hn x w' ⟨hx', hs'.joinUs.1⟩ hs'.joinUs.2

def at3 (a : Act9) : Nat := (a.at_ % 4).toNat
theorem at3_lt (a : Act9) : at3 a < 4 := by unfold at3; omega
def tx (a : Act9) : List UInt8 := a.text.take 64
theorem tx_le (a : Act9) : (tx a).length ≤ 64 := by unfold tx; rw [List.length_take]; omega
def wr (a : Act9) : Wri := (at3 a, full (tx a))
def kdw (l : List Act9) (k : Nat) : List Wri := (List.range k).map fun j => wr (l.getD j noA)
theorem kdw_zero (l : List Act9) : kdw l 0 = [] := rfl
theorem kdw_succ (l : List Act9) (k : Nat) : kdw l (k + 1) = kdw l k ++ [wr (l.getD k noA)] := by unfold kdw; rw [List.range_succ, List.map_append]; rfl
theorem kdw_len (l : List Act9) (k : Nat) : (kdw l k).length = k := by unfold kdw; rw [List.length_map, List.length_range]
theorem kdw_get (l : List Act9) {k n : Nat} (h : k < n) : (kdw l n).getD k (0, []) = wr (l.getD k noA) := by
  unfold kdw
  rw [List.getD_eq_getElem?_getD, List.getElem?_map, List.getElem?_range h]; rfl
/-- a disk of four sectors on which the first k writings wait -/
def kD (L : List (List UInt8)) (l : List Act9) (k : Nat) : Dk := ⟨L, kdw l k, false, false, 0, []⟩
def Four (L : List (List UInt8)) : Prop := L.length = 4 ∧ ∀ s ∈ L, s.length = 64
theorem kD_ok {L : List (List UInt8)} (h : Four L) (l : List Act9) (k : Nat) : (kD L l k).ok :=
  ⟨⟨h.2, fun w hw => by
    obtain ⟨j, _, rfl⟩ := List.mem_map.1 hw
    exact ⟨by show at3 _ < L.length; rw [h.1]; exact at3_lt _, full_len (tx_le _)⟩, by show 0 < L.length; rw [h.1]; decide, by show L.length ≤ _; rw [h.1]; decide⟩, (fun e => nomatch e), ⟨by show -9223372036854775808 ≤ (0 : Int); decide, by show (0 : Int) ≤ _; decide⟩⟩
theorem kD_ready {L : List (List UInt8)} (h : Four L) (l : List Act9) (k : Nat) {i : Nat} (hi : i < 4) : (kD L l k).ready (i : Int) = 0 := by
  unfold Dk.ready kD
  dsimp only
  rw [if_neg (by decide), h.1, if_neg (by omega)]
theorem kD_burns (L : List (List UInt8)) (l : List Act9) (k : Nat) : ¬ (kD L l k).burns := fun e => nomatch e.1
theorem kD_burn (L : List (List UInt8)) (l : List Act9) (k : Nat) : (kD L l k).burn = kD L l k := if_neg (fun e => nomatch e)
theorem kD_write {L : List (List UInt8)} (h : Four L) (l : List Act9) (k : Nat) : (kD L l k).write (at3 (l.getD k noA) : Nat) (tx (l.getD k noA)) = kD L l (k + 1) ∧ (kD L l k).wErr (at3 (l.getD k noA) : Nat) (tx (l.getD k noA)) = 0 := by
  have := write_in (kD_ready h l k (at3_lt (l.getD k noA))) (tx_le (l.getD k noA)) (kD_burns L l k)
  refine ⟨this.1.trans ?_, this.2⟩
  rw [kD_burn]
  unfold kD
  rw [kdw_succ]; rfl
/-- what the law says that is last -/
def kl (L : List (List UInt8)) (l : List Act9) : Nat → List (List UInt8)
  | 0 => L
  | k + 1 => (kl L l k).set (at3 (l.getD k noA)) (full (tx (l.getD k noA)))
theorem kl_four {L : List (List UInt8)} (h : Four L) (l : List Act9) : ∀ k, Four (kl L l k)
  | 0 => h
  | k + 1 => ⟨by rw [kl, List.length_set]; exact (kl_four h l k).1, fun s hs => by
    rw [kl] at hs
    rcases List.mem_or_eq_of_mem_set hs with hs | rfl
    · exact (kl_four h l k).2 s hs
    · exact full_len (tx_le _)⟩
theorem tear_all {o t : List UInt8} (ho : o.length = 64) (ht : t.length = 64) : tear o t 64 = t := by
  unfold tear
  rw [List.take_of_length_le (by omega), List.drop_of_length_le (by omega), List.append_nil]
theorem sync_kl {L : List (List UInt8)} (h : Four L) (l : List Act9) (n : Nat) : ∀ k, k ≤ n → syncL L (kdw l n) k = kl L l k
  | 0, _ => rfl
  | k + 1, hk => by
    rw [syncL, sync_kl h l n k (by omega), kdw_get l (show k < n by omega), kl]
    unfold lastW wr
    rw [tear_all (get64 (kl_four h l k).2 (by rw [(kl_four h l k).1]; exact at3_lt _)) (full_len (tx_le _))]
theorem kD_sync {L : List (List UInt8)} (h : Four L) (l : List Act9) (n : Nat) (m : List Act9) : (kD L l n).sync = kD (kl L l n) m 0 ∧ (kD L l n).sErr = 0 := by
  unfold Dk.sync Dk.sErr
  have h0 := kD_ready h l n (i := 0) (by decide)
  rw [if_neg (by rw [show (0 : Int) = ((0 : Nat) : Int) from rfl, h0]; decide), if_neg (kD_burns L l n), if_neg (by rw [show (0 : Int) = ((0 : Nat) : Int) from rfl, h0]; decide), if_neg (kD_burns L l n)]
  refine ⟨?_, rfl⟩
  rw [kD_burn]
  show (⟨syncL L (kdw l n) (kdw l n).length, [], false, false, 0, []⟩ : Dk) = ⟨kl L l n, [], false, false, 0, []⟩
  rw [kdw_len, sync_kl h l n n (Nat.le_refl _)]
/-- the texts that were written to sector j -/
def kt (l : List Act9) (j : Nat) : Nat → List (List UInt8)
  | 0 => []
  | k + 1 => if at3 (l.getD k noA) = j then kt l j k ++ [full (tx (l.getD k noA))] else kt l j k
theorem kt_64 (l : List Act9) (j : Nat) : ∀ k, ∀ s ∈ kt l j k, s.length = 64
  | 0 => fun s hs => nomatch hs
  | k + 1 => fun s hs => by
    rw [kt] at hs
    split at hs
    · rcases List.mem_append.1 hs with hs | hs
      · exact kt_64 l j k s hs
      · simp only [List.mem_singleton] at hs; subst hs; exact full_len (tx_le _)
    · exact kt_64 l j k s hs
theorem kt_len (l : List Act9) (j : Nat) : ∀ k, (kt l j k).length ≤ k
  | 0 => Nat.zero_le _
  | k + 1 => by
    have := kt_len l j k
    rw [kt]
    split
    · rw [List.length_append]; simp only [List.length_singleton]; omega
    · omega
/-- what a power failure leaves of each byte -/
theorem cut_byte {L : List (List UInt8)} (h : Four L) (m : List Act9) (K : List UInt8) (n : Nat) (i b : Nat) (hi : i < 4) : ∀ k, k ≤ n → ((cutL L (kdw m n) K k).getD i []).getD b 0 = (L.getD i []).getD b 0 ∨ ∃ t ∈ kt m i k, ((cutL L (kdw m n) K k).getD i []).getD b 0 = t.getD b 0
  | 0, _ => .inl rfl
  | k + 1, hk => by
    have ih := cut_byte h m K n i b hi k (by omega)
    have hl := cutL_len9 L (kdw m n) K k
    have ih' : ∀ t, ((cutL L (kdw m n) K k).getD i []).getD b 0 = t.getD b 0 → t ∈ kt m i k → ∃ t ∈ kt m i (k + 1), ((cutL L (kdw m n) K k).getD i []).getD b 0 = t.getD b 0 := fun t h1 h2 => by
      refine ⟨t, ?_, h1⟩
      rw [kt]
      split
      · exact List.mem_append_left _ h2
      · exact h2
    rw [cutL]
    split
    · rw [kdw_get m (show k < n by omega)]
      unfold lastW wr
      by_cases he : at3 (m.getD k noA) = i
      · have e : ((cutL L (kdw m n) K k).set (at3 (m.getD k noA)) (tear ((cutL L (kdw m n) K k).getD (at3 (m.getD k noA)) []) (full (tx (m.getD k noA))) (min (K.getD k 0).toNat 64))).getD i [] = tear ((cutL L (kdw m n) K k).getD i []) (full (tx (m.getD k noA))) (min (K.getD k 0).toNat 64) := by
          rw [he, List.getD_eq_getElem?_getD, List.getElem?_set_self (by rw [hl, h.1]; exact hi)]; rfl
        rw [e]
        have h64 : ((cutL L (kdw m n) K k).getD i []).length = 64 := get64 (cutL_64 h.2 (fun w hw => (kD_ok h m n).w64 w hw) k (by show k ≤ (kdw m n).length; rw [kdw_len]; omega)) (by show i < (cutL L (kdw m n) K k).length; rw [hl, h.1]; exact hi)
        have hf : (full (tx (m.getD k noA))).length = 64 := full_len (tx_le _)
        by_cases hb : b < min (K.getD k 0).toNat 64
        · right
          refine ⟨full (tx (m.getD k noA)), by rw [kt, if_pos he]; exact List.mem_append_right _ (.head _), ?_⟩
          unfold tear
          have hq : min (K.getD k 0).toNat 64 ≤ 64 := Nat.min_le_right _ _
          obtain ⟨q, hqe⟩ : ∃ q, q = min (K.getD k 0).toNat 64 := ⟨_, rfl⟩
          rw [← hqe] at hb hq ⊢
          rw [List.getD_eq_getElem?_getD, List.getElem?_append_left (by rw [List.length_take, hf]; omega), List.getElem?_take_of_lt hb, ← List.getD_eq_getElem?_getD]
        · have e2 : (tear ((cutL L (kdw m n) K k).getD i []) (full (tx (m.getD k noA))) (min (K.getD k 0).toNat 64)).getD b 0 = ((cutL L (kdw m n) K k).getD i []).getD b 0 := by
            unfold tear
            have hq : min (K.getD k 0).toNat 64 ≤ 64 := Nat.min_le_right _ _
            obtain ⟨q, hqe⟩ : ∃ q, q = min (K.getD k 0).toNat 64 := ⟨_, rfl⟩
            rw [← hqe] at hb hq ⊢
            rw [List.getD_eq_getElem?_getD, List.getElem?_append_right (by rw [List.length_take, hf]; omega), List.length_take, hf, Nat.min_eq_left hq, List.getElem?_drop, show q + (b - q) = b by omega, ← List.getD_eq_getElem?_getD]
          rw [e2]
          rcases ih with ih | ⟨t, h1, h2⟩
          · exact .inl ih
          · exact .inr (ih' t h2 h1)
      · have e : ((cutL L (kdw m n) K k).set (at3 (m.getD k noA)) (tear ((cutL L (kdw m n) K k).getD (at3 (m.getD k noA)) []) (full (tx (m.getD k noA))) (min (K.getD k 0).toNat 64))).getD i [] = (cutL L (kdw m n) K k).getD i [] := by
          rw [List.getD_eq_getElem?_getD, List.getElem?_set_ne he, ← List.getD_eq_getElem?_getD]
        rw [e]
        rcases ih with ih | ⟨t, h1, h2⟩
        · exact .inl ih
        · exact .inr (ih' t h2 h1)
    · rcases ih with ih | ⟨t, h1, h2⟩
      · exact .inl ih
      · exact .inr (ih' t h2 h1)
theorem cut_nil (L : List (List UInt8)) (W : List Wri) : ∀ k, cutL L W [] k = L
  | 0 => rfl
  | k + 1 => by rw [cutL, if_neg (by simp)]; exact cut_nil L W k

def L00 : List (List UInt8) := (List.replicate 4 (full []))
theorem L00_four : Four L00 := ⟨List.length_replicate, fun s hs => by rw [List.eq_of_mem_replicate hs]; decide⟩
theorem new_kD (l : List Act9) : Dk.new 4 = kD L00 l 0 := rfl
def hcs (l : List Act9) (k : Nat) (Hs : List (Option Addr × Nat)) : List Value := (List.range 4).map fun j => Value.slice (Hs.getD j (none, 0)).1 (kt l j k).length (Hs.getD j (none, 0)).2
theorem hcs_len (l : List Act9) (k : Nat) (Hs : List (Option Addr × Nat)) : (hcs l k Hs).length = 4 := rfl
theorem hcs_get (l : List Act9) (k : Nat) (Hs : List (Option Addr × Nat)) {j : Nat} (h : j < 4) : (hcs l k Hs)[j]? = some (.slice (Hs.getD j (none, 0)).1 (kt l j k).length (Hs.getD j (none, 0)).2) := by
  unfold hcs
  rw [List.getElem?_map, List.getElem?_range h]; rfl
theorem hcs_set (l : List Act9) (k : Nat) {Hs : List (Option Addr × Nat)} (h4 : Hs.length = 4) (A : Option Addr) (c : Nat) : setAt (hcs l k Hs) (at3 (l.getD k noA)) [.slice A ((kt l (at3 (l.getD k noA)) k).length + 1) c] = hcs l (k + 1) (Hs.set (at3 (l.getD k noA)) (A, c)) := by
  have hj := at3_lt (l.getD k noA)
  obtain ⟨j, hje⟩ : ∃ j, j = at3 (l.getD k noA) := ⟨_, rfl⟩
  rw [← hje] at hj ⊢
  have e : setAt (hcs l k Hs) j [.slice A ((kt l j k).length + 1) c] = (hcs l k Hs).set j (.slice A ((kt l j k).length + 1) c) := by
    have := setAt_map (fun v : Value => v) (hcs l k Hs) j (.slice A ((kt l j k).length + 1) c) (by rw [hcs_len]; exact hj)
    rwa [List.map_id'', List.map_id''] at this <;> exact fun _ => rfl
  rw [e]
  apply List.ext_getElem?
  intro i
  by_cases hi : i < 4
  · rw [hcs_get _ _ _ hi]
    by_cases hij : j = i
    · subst hij
      rw [List.getElem?_set_self (by rw [hcs_len]; exact hi), kt, if_pos hje.symm, List.length_append, List.getD_eq_getElem?_getD, List.getElem?_set_self (by omega)]; rfl
    · rw [List.getElem?_set_ne hij, hcs_get _ _ _ hi, kt, if_neg (by rw [← hje]; exact hij), List.getD_eq_getElem?_getD (l := Hs.set j (A, c)), List.getElem?_set_ne hij, ← List.getD_eq_getElem?_getD]
  · rw [List.getElem?_eq_none (by rw [List.length_set, hcs_len]; omega), List.getElem?_eq_none (by rw [hcs_len]; omega)]
def noH : Hp := fun _ => none
def Fam (Ms : List Hp) (Hs : List (Option Addr × Nat)) (l : List Act9) (k : Nat) : Prop := Ms.length = 4 ∧ Hs.length = 4 ∧ Djs Ms ∧ ∀ j, j < 4 → Row (Ms.getD j noH) 9 1 (Hs.getD j (none, 0)).1 (kt l j k).length (Hs.getD j (none, 0)).2 (strsV (kt l j k))
theorem fam0 (l : List Act9) : Fam [noH, noH, noH, noH] [(none, 0), (none, 0), (none, 0), (none, 0)] l 0 := by
  refine ⟨rfl, rfl, ⟨fun _ => .inl rfl, fun _ => .inl rfl, fun _ => .inl rfl, fun _ => .inl rfl, trivial⟩, fun j hj => ?_⟩
  match j, hj with
  | 0, _ => exact RowQ.nil
  | 1, _ => exact RowQ.nil
  | 2, _ => exact RowQ.nil
  | 3, _ => exact RowQ.nil
theorem fam_step {Ms : List Hp} {Hs : List (Option Addr × Nat)} {l : List Act9} {k : Nat} (h : Fam Ms Hs l k) {A : Option Addr} {c : Nat} {m : Hp} (hd : Djs (Ms.set (at3 (l.getD k noA)) m)) (hr : Row m 9 1 A ((kt l (at3 (l.getD k noA)) k).length + 1) c (strsV (kt l (at3 (l.getD k noA)) k) ++ strsV [full (tx (l.getD k noA))])) :
    Fam (Ms.set (at3 (l.getD k noA)) m) (Hs.set (at3 (l.getD k noA)) (A, c)) l (k + 1) := by
  obtain ⟨h1, h2, h3, h4⟩ := h
  refine ⟨by rw [List.length_set]; exact h1, by rw [List.length_set]; exact h2, hd, fun i hi => ?_⟩
  by_cases hij : at3 (l.getD k noA) = i
  · subst hij
    rw [List.getD_eq_getElem?_getD, List.getElem?_set_self (by omega), List.getD_eq_getElem?_getD (l := Hs.set _ _), List.getElem?_set_self (by omega), kt, if_pos rfl, List.length_append, strsV_app]; exact hr
  · rw [List.getD_eq_getElem?_getD, List.getElem?_set_ne hij, ← List.getD_eq_getElem?_getD, List.getD_eq_getElem?_getD (l := Hs.set _ _), List.getElem?_set_ne hij, ← List.getD_eq_getElem?_getD, kt, if_neg hij]; exact h4 i hi
theorem Djs_getLe {Ms : List Hp} (h : Djs Ms) {j : Nat} (hj : j < Ms.length) : Le (Ms.getD j noH) (U Ms) := le_U h (by rw [List.getD_eq_getElem?_getD, List.getElem?_eq_getElem hj]; exact List.getElem_mem hj)
def okB (C L : List (List UInt8)) (l : List Act9) (n i b j : Nat) : Prop := (C.getD i []).getD b 0 = (L.getD i []).getD b 0 ∨ ∃ t ∈ (kt l i n).take j, (C.getD i []).getD b 0 = t.getD b 0
noncomputable instance (C L : List (List UInt8)) (l : List Act9) (n i b j : Nat) : Decidable (okB C L l n i b j) := Classical.propDecidable _
theorem okB_step {C L : List (List UInt8)} {l : List Act9} {n i b j : Nat} (hj : j < (kt l i n).length) : okB C L l n i b (j + 1) ↔ (okB C L l n i b j ∨ (C.getD i []).getD b 0 = ((kt l i n).getD j []).getD b 0) := by
  unfold okB
  rw [List.take_succ_eq_append_getElem hj]
  have e : (kt l i n)[j] = (kt l i n).getD j [] := by rw [List.getD_eq_getElem?_getD, List.getElem?_eq_getElem hj]; rfl
  rw [e]
  constructor
  · rintro (h | ⟨t, ht, h⟩)
    · exact .inl (.inl h)
    · rcases List.mem_append.1 ht with ht | ht
      · exact .inl (.inr ⟨t, ht, h⟩)
      · simp only [List.mem_singleton] at ht; subst ht; exact .inr h
  · rintro ((h | ⟨t, ht, h⟩) | h)
    · exact .inl h
    · exact .inr ⟨t, List.mem_append_left _ ht, h⟩
    · exact .inr ⟨_, List.mem_append_right _ (.head _), h⟩
theorem byte_eq {a b : UInt8} : ((a.toNat : Int) = (b.toNat : Int)) ↔ a = b := ⟨fun h => UInt8.toNat_inj.1 (by omega), fun h => by rw [h]⟩
theorem getB {s : List UInt8} {k : Nat} (h : k < s.length) : s[k]? = some (s.getD k 0) := getSome 0 h
theorem ok0_of {C L : List (List UInt8)} {l : List Act9} {n i b : Nat} : okB C L l n i b 0 ↔ (C.getD i []).getD b 0 = (L.getD i []).getD b 0 := by
  unfold okB
  rw [List.take_zero]
  exact ⟨fun h => h.elim id (fun ⟨_, h, _⟩ => nomatch h), .inl⟩

theorem st_ready {L : List (List UInt8)} (h : Four L) (l : List Act9) (n : Nat) (K : List UInt8) {i : Nat} (hi : i < 4) : (((kD L l n).cut K).start).ready (i : Int) = 0 := by
  unfold Dk.ready
  show (if false = true then (8 : Int) else if (i : Int) < 0 ∨ (((cutL L (kdw l n) K (kdw l n).length).length : Nat) : Int) ≤ i then 10 else 0) = 0
  rw [if_neg (by decide), cutL_len9, h.1, if_neg (by omega)]
theorem st_read {L : List (List UInt8)} (h : Four L) (l : List Act9) (n : Nat) (K : List UInt8) {i : Nat} (hi : i < 4) : (((kD L l n).cut K).start).read (i : Int) = (cutL L (kdw l n) K n).getD i [] := by
  rw [read_in (st_ready h l n K hi)]
  unfold Dk.now
  show (seek [] (Int.toNat i) 0).getD ((cutL L (kdw l n) K (kdw l n).length).getD (Int.toNat i) []) = _
  rw [seek_zero, kdw_len]; rfl

theorem sectorKeeps_ct (F : Hp) (A0 : Option Addr) (c0 : Nat) (l0 : List Act9) (hl0 : Sl F 5 A0 l0.length c0 (actsV l0)) (A1 : Option Addr) (c1 : Nat) (l1 : List Act9) (hl1 : Sl F 5 A1 l1.length c1 (actsV l1)) (E : Option Addr) (q : Nat) (K : List UInt8) (hK : Sl F 1 E K.length q (bytesV K)) (hKn : K.length ≤ 9223372036854775807) (hn0 : l0.length ≤ 9223372036854775807) (hn1 : l1.length ≤ 9223372036854775807) :
    Ct Try.prog 3 [.slice A0 l0.length c0, .slice A1 l1.length c1, .slice E K.length q] [F] (fun _ : Unit => .bool true) (fun _ => True) (fun _ => [F]) := by
  refine Ct.walk Try.func3 rfl Try.ntmps3 rfl (fun w0 hw0 => ?_)
  change J _ [(0, _), (1, _), (2, _)] _ _ _
  refine J.seq (fun K1 hK1 => ?_)
  refine J.region ?_
  refine J.y (op_assign rfl rfl) rfl rfl rfl ?_
  refine J.nil ?_
  refine J.then_n (J.k hK1 ?_)
  refine J.keepE [(0, _), (1, _), (2, _)] ⟨rfl, rfl, rfl, trivial⟩ ?_
  refine J.seq (fun K2 hK2 => ?_)
  refine J.seq (fun K3 hK3 => ?_)
  refine J.region ?_
  refine J.e (op_call rfl rfl ent6 (Ct.use0 (fun F' hF => speaks09_ct F'))) rfl rfl rfl ?_
  intro g23 _
  refine J.y ((op_not rfl rfl).as (v' := .bool false) rfl) rfl rfl rfl ?_
  refine J.nil ?_
  refine J.then_n (J.k hK3 ?_)
  refine J.keepE [(0, _), (1, _), (2, _), (24, _)] ⟨rfl, rfl, rfl, rfl, trivial⟩ ?_
  refine J.condF rfl rfl ?_
  refine J.skip ?_
  refine J.then_n (J.k hK2 ?_)
  refine J.keepE [(0, _), (1, _), (2, _)] ⟨rfl, rfl, rfl, trivial⟩ ?_
  refine J.seq (fun K4 hK4 => ?_)
  refine J.region ?_
  refine J.e (op_call rfl rfl ent7 (Ct.use (new := fun x : Nat × Hp => [x.2]) (fun F' _ => new_ok_ct F' 4 (by decide) (by decide)))) rfl rfl rfl ?_
  rintro ⟨g7, m7⟩ hb7
  try dsimp only at hb7
  change J _ _ _ [F, m7] _
  refine J.y (op_move rfl rfl) rfl rfl rfl ?_
  refine J.y (op_extract (v := Ptr g7) rfl rfl rfl) rfl rfl rfl ?_
  refine J.y (op_extract (v := I 0) rfl rfl rfl) rfl rfl rfl ?_
  refine J.y (op_assign rfl rfl) rfl rfl rfl ?_
  refine J.y (op_assign rfl rfl) rfl rfl rfl ?_
  refine J.nil ?_
  refine J.then_n (J.k hK4 ?_)
  refine J.keepE [(0, _), (1, _), (2, _), (7, _)] ⟨rfl, rfl, rfl, rfl, trivial⟩ ?_
  refine J.seq (fun K5 hK5 => ?_)
  refine J.region ?_
  refine J.e (op_alloc rfl Try.zeroValue29 rfl) rfl rfl rfl ?_
  intro g9 _
  change J _ _ _ [F, m7, blk g9 _ 29] _
  refine J.e (op_alloc rfl Try.zeroValue29 rfl) rfl rfl rfl ?_
  intro g10 _
  change J _ _ _ [F, m7, blk g9 _ 29, blk g10 _ 29] _
  refine J.nil ?_
  refine J.then_n (J.k hK5 ?_)
  refine J.keepE [(0, _), (1, _), (2, _), (7, _), (9, _), (10, _)] ⟨rfl, rfl, rfl, rfl, rfl, rfl, trivial⟩ ?_
  refine J.seq (fun K6 hK6 => ?_)
  refine J.seq (fun K7 hK7 => ?_)
  refine J.region ?_
  refine J.y (op_assign rfl rfl) rfl rfl rfl ?_
  refine J.nil ?_
  refine J.then_n (J.k hK7 ?_)
  refine J.keepE [(0, _), (1, _), (2, _), (7, _), (9, _), (10, _), (11, _)] ⟨rfl, rfl, rfl, rfl, rfl, rfl, rfl, trivial⟩ ?_
  refine J.block ?_
  refine J.loop (X := Nat) (fun k => [(0, .slice A0 l0.length c0), (1, .slice A1 l1.length c1), (2, .slice E K.length q), (7, Ptr g7), (9, Ptr g9), (10, Ptr g10), (11, I k)]) (fun k => [F, m7, blk g9 ((List.replicate k (full []) ++ List.replicate (4 - k) []).map Str) 29, blk g10 [Str [], Str [], Str [], Str []] 29]) (fun k => k ≤ 4) (fun k => 4 - k) 0 (Nat.zero_le _) ⟨rfl, rfl, rfl, rfl, rfl, rfl, rfl, trivial⟩ (fun _ h => h) ?_
  intro k hk I0 hI0
  refine J.seq (fun K8 hK8 => ?_)
  refine J.seq (fun K9 hK9 => ?_)
  refine J.region ?_
  refine J.y (op_move rfl rfl) rfl rfl rfl ?_
  refine J.y (op_lss rfl rfl rfl) rfl rfl rfl ?_
  refine J.nil ?_
  refine J.then_n (J.k hK9 ?_)
  refine J.keepE [(0, _), (1, _), (2, _), (7, _), (9, _), (10, _), (11, _), (30, _)] ⟨rfl, rfl, rfl, rfl, rfl, rfl, rfl, rfl, trivial⟩ ?_
  refine J.ite rfl (fun h30 => ?_) (fun h30 => ?_)
  ·
    refine J.skip ?_
    refine J.then_n (J.k hK8 ?_)
    refine J.keepE [(0, _), (1, _), (2, _), (7, _), (9, _), (10, _), (11, _)] ⟨rfl, rfl, rfl, rfl, rfl, rfl, rfl, trivial⟩ ?_
    refine J.seq (fun K10 hK10 => ?_)
    refine J.block ?_
    refine J.region ?_
    refine J.y (op_move rfl rfl) rfl rfl rfl ?_
    refine J.e (op_call rfl rfl ent8 (Ct.use0 (fun F' hF => full_ct F' [] (by decide)))) rfl rfl rfl ?_
    intro g34 _
    refine J.y (op_indexAddrJ (i := k) (j := k) rfl rfl rfl Try.underlying29 Try.sizeOf9 (by omega) (by omega)) rfl rfl rfl ?_
    refine J.s (op_store (i := 2) (vs := [Str (full [])]) rfl rfl rfl rfl rfl Try.sizeOf9 rfl (by rw [List.length_map, rep_len _ _ (by omega)]; show k + 1 ≤ 4; omega)) rfl rfl (fun _ _ => ?_)
    change J _ _ _ [F, m7, blk g9 (setAt ((List.replicate k (full []) ++ List.replicate (4 - k) []).map Str) k [Str (full [])]) 29, blk g10 [Str [], Str [], Str [], Str []] 29] _
    refine J.nil ?_
    refine J.blk_n ?_
    refine J.then_n (J.k hK10 ?_)
    refine J.keepE [(0, _), (1, _), (2, _), (7, _), (9, _), (10, _), (11, _)] ⟨rfl, rfl, rfl, rfl, rfl, rfl, rfl, trivial⟩ ?_
    refine J.region ?_
    refine J.y (op_move rfl rfl) rfl rfl rfl ?_
    refine J.y ((op_add rfl rfl rfl (by first | omega | (refine ⟨?_, ?_⟩ <;> omega))).as (v' := I ((k + 1 : Nat) : Int)) (congrArg I (by omega))) rfl rfl rfl ?_
    refine J.y (op_assign rfl rfl) rfl rfl rfl ?_
    refine J.nil ?_
    refine J.then_n ?_
    exact J.kk (k + 1) (fun y (hy : _ ∧ 4 - y < 4 - k) => hI0 y hy.1 hy.2) ⟨by omega, by omega⟩ ⟨rfl, rfl, rfl, rfl, rfl, rfl, rfl, trivial⟩ (fun _ h => by rw [setAt_map Str _ _ _ (by rw [rep_len _ _ hk]; omega), rep_set _ _ (by omega)] at h; exact h)
  ·
    refine J.exit ?_
    refine J.then_x ?_
    refine J.then_x ?_
    refine J.blk_eq ?_
    refine J.then_n (J.k hK6 ?_)
    refine J.keepE [(0, _), (1, _), (2, _), (7, _), (9, _), (10, _)] ⟨rfl, rfl, rfl, rfl, rfl, rfl, trivial⟩ ?_
    refine J.cut (fun x : Nat × Hp => [(1, .slice A1 l1.length c1), (2, .slice E K.length q), (7, Ptr g7), (9, Ptr g9), (10, Ptr g10)]) (fun x => [F, x.2, blk g9 ((kl L00 l0 x.1).map Str) 29, blk g10 [Str [], Str [], Str [], Str []] 29]) (fun x => x.1 ≤ 10 ∧ Dsk x.2 g7 (kD L00 l0 x.1) none 0) (fun K11 hK11 => ?_) ?_
    ·
      refine J.seq (fun K12 hK12 => ?_)
      refine J.region ?_
      refine J.y (op_assign rfl rfl) rfl rfl rfl ?_
      refine J.nil ?_
      refine J.then_n (J.k hK12 ?_)
      refine J.keepE [(0, _), (1, _), (2, _), (7, _), (9, _), (10, _), (12, _)] ⟨rfl, rfl, rfl, rfl, rfl, rfl, rfl, trivial⟩ ?_
      refine J.block ?_
      have hk4 : k = 4 := by omega
      subst hk4
      refine J.loop (X := Nat × Hp) (fun x => [(0, .slice A0 l0.length c0), (1, .slice A1 l1.length c1), (2, .slice E K.length q), (7, Ptr g7), (9, Ptr g9), (10, Ptr g10), (12, I x.1)]) (fun x => [F, x.2, blk g9 ((kl L00 l0 x.1).map Str) 29, blk g10 [Str [], Str [], Str [], Str []] 29]) (fun x => x.1 ≤ 10 ∧ Dsk x.2 g7 (kD L00 l0 x.1) none 0) (fun x => 10 - x.1) (0, m7) (⟨Nat.zero_le _, hb7⟩) ⟨rfl, rfl, rfl, rfl, rfl, rfl, rfl, trivial⟩ (fun _ h => h) ?_
      rintro ⟨k, d⟩ ⟨hk, hb⟩ I2 hI2
      dsimp only at hk hb ⊢
      refine J.seq (fun K13 hK13 => ?_)
      refine J.seq (fun K14 hK14 => ?_)
      refine J.region ?_
      refine J.y (op_move rfl rfl) rfl rfl rfl ?_
      refine J.y (op_move rfl rfl) rfl rfl rfl ?_
      refine J.y (op_len Try.underlying22 rfl rfl) rfl rfl rfl ?_
      refine J.y (op_lss rfl rfl rfl) rfl rfl rfl ?_
      refine J.y (op_move rfl rfl) rfl rfl rfl ?_
      refine J.split (d := 40) rfl (fun h40 => ?_) (fun h40 => ?_)
      ·
        refine J.yg (Wan.is rfl rfl rfl rfl rfl) (op_move rfl rfl) rfl rfl ?_
        refine J.yg (Wan.is rfl rfl rfl rfl rfl) (op_lss rfl rfl rfl) rfl rfl ?_
        refine J.y (op_pickT rfl rfl rfl) rfl rfl rfl ?_
        refine J.nil ?_
        refine J.then_n (J.k hK14 ?_)
        refine J.keepE [(0, _), (1, _), (2, _), (7, _), (9, _), (10, _), (12, _), (43, _)] ⟨rfl, rfl, rfl, rfl, rfl, rfl, rfl, rfl, trivial⟩ ?_
        refine J.ite rfl (fun h43 => ?_) (fun h43 => ?_)
        ·
          refine J.skip ?_
          refine J.then_n (J.k hK13 ?_)
          refine J.keepE [(0, _), (1, _), (2, _), (7, _), (9, _), (10, _), (12, _)] ⟨rfl, rfl, rfl, rfl, rfl, rfl, rfl, trivial⟩ ?_
          refine J.seq (fun K15 hK15 => ?_)
          refine J.block ?_
          refine J.seq (fun K16 hK16 => ?_)
          have hkl : k < l0.length := by omega
          obtain ⟨ga, oa, hA⟩ := hl0.at (show 0 < l0.length by omega)
          have hlA := hl0
          rw [hA] at hlA
          refine J.draw [F] [] (.y 0 (.y 1 (.y 2 (.y 3 (.y 4 (.y 5 (.y 6 (.y 7 (.y 8 (.y 9 (.y 10 (.y 11 (.y 12 (.y 13 .nil)))))))))))))) Try.wide (by decide +kernel) (by simp) ?_
          refine J.dy rfl (op_move rfl rfl) rfl rfl rfl rfl ?_
          refine J.dy rfl (op_move rfl rfl) rfl rfl rfl rfl ?_
          refine J.dy rfl (op_indexAddr (i := k) rfl rfl rfl Try.underlying22 Try.sizeOf32 hl0 (by omega)) rfl rfl rfl rfl ?_
          refine J.dy rfl (op_fieldAddr (j := oa + k * 5 + 3) (off := oa + k * 5) (g := ga) rfl (by show some _ = some _; rw [hA, elemAt_mk]) Try.underlying32 rfl Try.sizeOf9 rfl) rfl rfl rfl rfl ?_
          refine J.dy rfl (op_load rfl rfl Try.isAgg9 (m := F) (by simp) (v := Str (l0.getD k noA).text) (hlA.cell (actsV_get hkl) (k := 3) rfl)) rfl rfl rfl rfl ?_
          refine J.dy rfl (op_move rfl rfl) rfl rfl rfl rfl ?_
          refine J.dy rfl (op_move rfl rfl) rfl rfl rfl rfl ?_
          refine J.dy rfl (op_indexAddr (i := k) rfl rfl rfl Try.underlying22 Try.sizeOf32 hl0 (by omega)) rfl rfl rfl rfl ?_
          refine J.dy rfl (op_fieldAddr (j := oa + k * 5 + 3) (off := oa + k * 5) (g := ga) rfl (by show some _ = some _; rw [hA, elemAt_mk]) Try.underlying32 rfl Try.sizeOf9 rfl) rfl rfl rfl rfl ?_
          refine J.dy rfl (op_load rfl rfl Try.isAgg9 (m := F) (by simp) (v := Str (l0.getD k noA).text) (hlA.cell (actsV_get hkl) (k := 3) rfl)) rfl rfl rfl rfl ?_
          refine J.dy rfl (op_slen Try.underlying9 rfl rfl) rfl rfl rfl rfl ?_
          refine J.dy rfl ((op_min rfl rfl rfl).as (v' := I ((min (l0.getD k noA).text.length 64 : Nat) : Int)) (congrArg I (by omega))) rfl rfl rfl rfl ?_
          refine J.dy rfl ((op_sslice (l := 0) (h := min (l0.getD k noA).text.length 64) Try.underlying9 rfl rfl rfl rfl ⟨by omega, by omega⟩).as (v' := Str (tx (l0.getD k noA))) (congrArg Str (Sha.take_min' _ _))) rfl rfl rfl rfl ?_
          refine J.dy rfl (op_assign rfl rfl) rfl rfl rfl rfl ?_
          refine J.dnil ?_
          refine J.then_n (J.k hK16 ?_)
          refine J.keepE [(0, _), (1, _), (2, _), (7, _), (9, _), (10, _), (12, _), (13, _)] ⟨rfl, rfl, rfl, rfl, rfl, rfl, rfl, rfl, trivial⟩ ?_
          refine J.seq (fun K17 hK17 => ?_)
          refine J.seq (fun K18 hK18 => ?_)
          refine J.region ?_
          refine J.y (op_move rfl rfl) rfl rfl rfl ?_
          refine J.y (op_move rfl rfl) rfl rfl rfl ?_
          refine J.y (op_move rfl rfl) rfl rfl rfl ?_
          refine J.y (op_indexAddr (i := k) rfl rfl rfl Try.underlying22 Try.sizeOf32 hl0 (by omega)) rfl rfl rfl ?_
          refine J.y (op_fieldAddr (j := oa + k * 5 + 1) (off := oa + k * 5) (g := ga) rfl (by show some _ = some _; rw [hA, elemAt_mk]) Try.underlying32 rfl Try.sizeOf3 rfl) rfl rfl rfl ?_
          refine J.y (op_load rfl rfl Try.isAgg3 (m := F) (by simp) (v := I (l0.getD k noA).at_) (hlA.cell (actsV_get hkl) (k := 1) rfl)) rfl rfl rfl ?_
          refine J.y ((op_maskI 2 rfl rfl rfl (by decide) (by decide)).as (v' := I (at3 (l0.getD k noA) : Nat)) (congrArg I (by unfold at3; omega))) rfl rfl rfl ?_
          refine J.y (op_move rfl rfl) rfl rfl rfl ?_
          refine J.e (op_call rfl rfl ent9 (Ct.use1 1 (m' := fun x : Hp => x) (new := fun _ => []) rfl (fun F' hF => write_ct F' d g7 (kD L00 l0 k) none 0 hb (kD_ok L00_four l0 k) (by show (kdw l0 k).length ≤ _; rw [kdw_len]; omega) Sl.nil (Nat.zero_le _) (at3 (l0.getD k noA) : Nat) (tx (l0.getD k noA)) (by have := tx_le (l0.getD k noA); omega)))) rfl rfl rfl ?_
          rintro m67 hb67
          change J _ _ _ [F, m67, blk g9 ((kl L00 l0 k).map Str) 29, blk g10 [Str [], Str [], Str [], Str []] 29] _
          rw [(kD_write L00_four l0 k).1] at hb67
          refine J.y ((op_neq rfl rfl rfl).as (v' := .bool false) (congrArg Value.bool (decide_eq_false (by rw [(kD_write L00_four l0 k).2]; decide)))) rfl rfl rfl ?_
          refine J.nil ?_
          refine J.then_n (J.k hK18 ?_)
          refine J.keepE [(0, _), (1, _), (2, _), (7, _), (9, _), (10, _), (12, _), (13, _), (68, _)] ⟨rfl, rfl, rfl, rfl, rfl, rfl, rfl, rfl, rfl, trivial⟩ ?_
          refine J.condF rfl rfl ?_
          refine J.skip ?_
          refine J.then_n (J.k hK17 ?_)
          refine J.keepE [(0, _), (1, _), (2, _), (7, _), (9, _), (10, _), (12, _), (13, _)] ⟨rfl, rfl, rfl, rfl, rfl, rfl, rfl, rfl, trivial⟩ ?_
          refine J.draw [F] [9] (.y 0 (.y 1 (.y 2 (.y 3 (.y 4 (.y 5 (.y 6 (.e 7 (.y 8 (.e 9 .nil)))))))))) Try.wide (by decide +kernel) (by simp) ?_
          refine J.dy rfl (op_move rfl rfl) rfl rfl rfl rfl ?_
          refine J.dy rfl (op_move rfl rfl) rfl rfl rfl rfl ?_
          refine J.dy rfl (op_indexAddr (i := k) rfl rfl rfl Try.underlying22 Try.sizeOf32 hl0 (by omega)) rfl rfl rfl rfl ?_
          refine J.dy rfl (op_fieldAddr (j := oa + k * 5 + 1) (off := oa + k * 5) (g := ga) rfl (by show some _ = some _; rw [hA, elemAt_mk]) Try.underlying32 rfl Try.sizeOf3 rfl) rfl rfl rfl rfl ?_
          refine J.dy rfl (op_load rfl rfl Try.isAgg3 (m := F) (by simp) (v := I (l0.getD k noA).at_) (hlA.cell (actsV_get hkl) (k := 1) rfl)) rfl rfl rfl rfl ?_
          refine J.dy rfl ((op_maskI 2 rfl rfl rfl (by decide) (by decide)).as (v' := I (at3 (l0.getD k noA) : Nat)) (congrArg I (by unfold at3; omega))) rfl rfl rfl rfl ?_
          refine J.dy rfl (op_move rfl rfl) rfl rfl rfl rfl ?_
          refine J.de rfl (op_call rfl rfl ent8 (Ct.use0 (fun F' hF => full_ct F' (tx (l0.getD k noA)) (by have := tx_le (l0.getD k noA); omega)))) rfl rfl rfl (by simp) ?_
          intro g76 _
          refine J.dy rfl (op_indexAddrJ (i := (at3 (l0.getD k noA))) (j := (at3 (l0.getD k noA))) rfl rfl rfl Try.underlying29 Try.sizeOf9 (at3_lt _) (by omega)) rfl rfl rfl rfl ?_
          refine J.ds rfl (op_store (i := 2) (vs := [Str (full (tx (l0.getD k noA)))]) rfl rfl rfl rfl rfl Try.sizeOf9 rfl (by rw [List.length_map, (kl_four L00_four l0 k).1]; exact at3_lt _)) rfl rfl rfl (fun _ _ => ?_)
          change J _ _ _ [F, m67, blk g9 (setAt ((kl L00 l0 k).map Str) (at3 (l0.getD k noA)) [Str (full (tx (l0.getD k noA)))]) 29, blk g10 [Str [], Str [], Str [], Str []] 29] _
          refine J.dnil ?_
          refine J.blk_n ?_
          refine J.then_n (J.k hK15 ?_)
          refine J.keepE [(0, _), (1, _), (2, _), (7, _), (9, _), (10, _), (12, _)] ⟨rfl, rfl, rfl, rfl, rfl, rfl, rfl, trivial⟩ ?_
          refine J.region ?_
          refine J.y (op_move rfl rfl) rfl rfl rfl ?_
          refine J.y ((op_add rfl rfl rfl (by first | omega | (refine ⟨?_, ?_⟩ <;> omega))).as (v' := I ((k + 1 : Nat) : Int)) (congrArg I (by omega))) rfl rfl rfl ?_
          refine J.y (op_assign rfl rfl) rfl rfl rfl ?_
          refine J.nil ?_
          refine J.then_n ?_
          exact J.kk (k + 1, m67) (fun y (hy : _ ∧ 10 - y.1 < 10 - k) => hI2 y hy.1 hy.2) ⟨⟨by dsimp only; omega, hb67⟩, by dsimp only; omega⟩ ⟨rfl, rfl, rfl, rfl, rfl, rfl, rfl, trivial⟩ (fun _ h => by rw [setAt_map Str _ _ _ (by rw [(kl_four L00_four l0 k).1]; exact at3_lt _)] at h; exact h)
        ·
          refine J.exit ?_
          refine J.then_x ?_
          refine J.then_x ?_
          refine J.blk_eq ?_
          refine J.then_n ?_
          exact J.kk (k, d) hK11 ⟨by dsimp only; omega, hb⟩ ⟨rfl, rfl, rfl, rfl, rfl, trivial⟩ (fun _ h => h)
      ·
        refine J.no (Wan.is rfl rfl rfl rfl rfl) rfl rfl ?_
        refine J.no (Wan.is rfl rfl rfl rfl rfl) rfl rfl ?_
        refine J.y (op_pickF rfl rfl rfl) rfl rfl rfl ?_
        refine J.nil ?_
        refine J.then_n (J.k hK14 ?_)
        refine J.keepE [(0, _), (1, _), (2, _), (7, _), (9, _), (10, _), (12, _), (43, _)] ⟨rfl, rfl, rfl, rfl, rfl, rfl, rfl, rfl, trivial⟩ ?_
        refine J.condF rfl rfl ?_
        refine J.exit ?_
        refine J.then_x ?_
        refine J.then_x ?_
        refine J.blk_eq ?_
        refine J.then_n ?_
        exact J.kk (k, d) hK11 ⟨by dsimp only; omega, hb⟩ ⟨rfl, rfl, rfl, rfl, rfl, trivial⟩ (fun _ h => h)
    rintro ⟨n0, d⟩ ⟨hn0, hb⟩
    dsimp only at hn0 hb ⊢
    obtain ⟨L, hL⟩ : ∃ L, L = kl L00 l0 n0 := ⟨_, rfl⟩
    have h4 : Four L := hL ▸ kl_four L00_four l0 n0
    rw [← hL]
    refine J.seq (fun K19 hK19 => ?_)
    refine J.seq (fun K20 hK20 => ?_)
    refine J.region ?_
    refine J.y (op_move rfl rfl) rfl rfl rfl ?_
    refine J.e (op_call rfl rfl ent10 (Ct.use1 1 (m' := fun x : Hp => x) (new := fun _ => []) rfl (fun F' hF => sync_ct F' d g7 (kD L00 l0 n0) none 0 hb (kD_ok L00_four l0 n0) (by show (kdw l0 n0).length ≤ _; rw [kdw_len]; omega) Sl.nil (Nat.zero_le _)))) rfl rfl rfl ?_
    rintro m79 hb79
    change J _ _ _ [F, m79, blk g9 (L.map Str) 29, blk g10 [Str [], Str [], Str [], Str []] 29] _
    rw [(kD_sync L00_four l0 n0 l1).1, ← hL] at hb79
    refine J.y ((op_neq rfl rfl rfl).as (v' := .bool false) (congrArg Value.bool (decide_eq_false (by rw [(kD_sync L00_four l0 n0 l1).2]; decide)))) rfl rfl rfl ?_
    refine J.nil ?_
    refine J.then_n (J.k hK20 ?_)
    refine J.keepE [(1, _), (2, _), (7, _), (9, _), (10, _), (80, _)] ⟨rfl, rfl, rfl, rfl, rfl, rfl, trivial⟩ ?_
    refine J.condF rfl rfl ?_
    refine J.skip ?_
    refine J.then_n (J.k hK19 ?_)
    refine J.keepE [(1, _), (2, _), (7, _), (9, _), (10, _)] ⟨rfl, rfl, rfl, rfl, rfl, trivial⟩ ?_
    refine J.seq (fun K21 hK21 => ?_)
    refine J.region ?_
    refine J.y (op_loadBA 2 rfl rfl rfl Try.isAgg29 Try.sizeOf29 (by rw [List.length_map, h4.1])) rfl rfl rfl ?_
    refine J.s (op_storeAll (l := [Str [], Str [], Str [], Str []]) (i := 3) (vs := L.map Str) rfl rfl rfl rfl rfl (fun w => by rw [List.length_map, h4.1]; exact Try.sizeOf29 w) (by simp [Value.oneCell']) (by rw [List.length_map, h4.1]; rfl)) rfl rfl (fun _ _ => ?_)
    change J _ _ _ [F, m79, blk g9 (L.map Str) 29, blk g10 (L.map Str) 29] _
    refine J.nil ?_
    refine J.then_n (J.k hK21 ?_)
    refine J.keepE [(1, _), (2, _), (7, _), (10, _)] ⟨rfl, rfl, rfl, rfl, trivial⟩ ?_
    refine J.seq (fun K22 hK22 => ?_)
    refine J.region ?_
    refine J.e (op_alloc rfl Try.zeroValue36 rfl) rfl rfl rfl ?_
    intro g14 _
    change J _ _ _ [F, m79, blk g9 (L.map Str) 29, blk g10 (L.map Str) 29, blk g14 _ 36] _
    refine J.nil ?_
    refine J.then_n (J.k hK22 ?_)
    refine J.keepE [(1, _), (2, _), (7, _), (10, _), (14, _)] ⟨rfl, rfl, rfl, rfl, rfl, trivial⟩ ?_
    refine J.cut (fun x : Nat × Hp × List Hp × List (Option Addr × Nat) => [(2, .slice E K.length q), (7, Ptr g7), (10, Ptr g10), (14, Ptr g14)]) (fun x => [U x.2.2.1, F, x.2.1, blk g10 (L.map Str) 29, blk g14 (hcs l1 x.1 x.2.2.2) 36]) (fun x => x.1 ≤ 10 ∧ Dsk x.2.1 g7 (kD L l1 x.1) none 0 ∧ Fam x.2.2.1 x.2.2.2 l1 x.1) (fun K23 hK23 => ?_) ?_
    ·
      refine J.seq (fun K24 hK24 => ?_)
      refine J.addEmpty [5, 0, 1, 3, 4] [(fun _ => none), F, m79, blk g10 (L.map Str) 29, blk g14 _ 36] rfl (by decide) ?_
      refine J.region ?_
      refine J.y (op_assign rfl rfl) rfl rfl rfl ?_
      refine J.nil ?_
      refine J.then_n (J.k hK24 ?_)
      refine J.keepE [(1, _), (2, _), (7, _), (10, _), (14, _), (15, _)] ⟨rfl, rfl, rfl, rfl, rfl, rfl, trivial⟩ ?_
      refine J.block ?_
      refine J.loop (X := Nat × Hp × List Hp × List (Option Addr × Nat)) (fun x => [(1, .slice A1 l1.length c1), (2, .slice E K.length q), (7, Ptr g7), (10, Ptr g10), (14, Ptr g14), (15, I x.1)]) (fun x => [U x.2.2.1, F, x.2.1, blk g10 (L.map Str) 29, blk g14 (hcs l1 x.1 x.2.2.2) 36]) (fun x => x.1 ≤ 10 ∧ Dsk x.2.1 g7 (kD L l1 x.1) none 0 ∧ Fam x.2.2.1 x.2.2.2 l1 x.1) (fun x => 10 - x.1) (0, m79, [noH, noH, noH, noH], [(none, 0), (none, 0), (none, 0), (none, 0)]) (⟨Nat.zero_le _, hb79, fam0 l1⟩) ⟨rfl, rfl, rfl, rfl, rfl, rfl, trivial⟩ (fun _ h => h) ?_
      rintro ⟨k, d, Ms, Hs⟩ ⟨hk, hb, hF⟩ I4 hI4
      dsimp only at hk hb hF ⊢
      refine J.seq (fun K25 hK25 => ?_)
      refine J.seq (fun K26 hK26 => ?_)
      refine J.region ?_
      refine J.y (op_move rfl rfl) rfl rfl rfl ?_
      refine J.y (op_move rfl rfl) rfl rfl rfl ?_
      refine J.y (op_len Try.underlying22 rfl rfl) rfl rfl rfl ?_
      refine J.y (op_lss rfl rfl rfl) rfl rfl rfl ?_
      refine J.y (op_move rfl rfl) rfl rfl rfl ?_
      refine J.split (d := 86) rfl (fun h86 => ?_) (fun h86 => ?_)
      ·
        refine J.yg (Wan.is rfl rfl rfl rfl rfl) (op_move rfl rfl) rfl rfl ?_
        refine J.yg (Wan.is rfl rfl rfl rfl rfl) (op_lss rfl rfl rfl) rfl rfl ?_
        refine J.y (op_pickT rfl rfl rfl) rfl rfl rfl ?_
        refine J.nil ?_
        refine J.then_n (J.k hK26 ?_)
        refine J.keepE [(1, _), (2, _), (7, _), (10, _), (14, _), (15, _), (89, _)] ⟨rfl, rfl, rfl, rfl, rfl, rfl, rfl, trivial⟩ ?_
        refine J.ite rfl (fun h89 => ?_) (fun h89 => ?_)
        ·
          refine J.skip ?_
          refine J.then_n (J.k hK25 ?_)
          refine J.keepE [(1, _), (2, _), (7, _), (10, _), (14, _), (15, _)] ⟨rfl, rfl, rfl, rfl, rfl, rfl, trivial⟩ ?_
          refine J.seq (fun K27 hK27 => ?_)
          refine J.block ?_
          refine J.seq (fun K28 hK28 => ?_)
          have hkl : k < l1.length := by omega
          obtain ⟨ga, oa, hA⟩ := hl1.at (show 0 < l1.length by omega)
          have hlA := hl1
          rw [hA] at hlA
          refine J.draw [F] [] (.y 0 (.y 1 (.y 2 (.y 3 (.y 4 (.y 5 (.y 6 (.y 7 (.y 8 (.y 9 (.y 10 (.y 11 (.y 12 (.y 13 .nil)))))))))))))) Try.wide (by decide +kernel) (by simp) ?_
          refine J.dy rfl (op_move rfl rfl) rfl rfl rfl rfl ?_
          refine J.dy rfl (op_move rfl rfl) rfl rfl rfl rfl ?_
          refine J.dy rfl (op_indexAddr (i := k) rfl rfl rfl Try.underlying22 Try.sizeOf32 hl1 (by omega)) rfl rfl rfl rfl ?_
          refine J.dy rfl (op_fieldAddr (j := oa + k * 5 + 3) (off := oa + k * 5) (g := ga) rfl (by show some _ = some _; rw [hA, elemAt_mk]) Try.underlying32 rfl Try.sizeOf9 rfl) rfl rfl rfl rfl ?_
          refine J.dy rfl (op_load rfl rfl Try.isAgg9 (m := F) (by simp) (v := Str (l1.getD k noA).text) (hlA.cell (actsV_get hkl) (k := 3) rfl)) rfl rfl rfl rfl ?_
          refine J.dy rfl (op_move rfl rfl) rfl rfl rfl rfl ?_
          refine J.dy rfl (op_move rfl rfl) rfl rfl rfl rfl ?_
          refine J.dy rfl (op_indexAddr (i := k) rfl rfl rfl Try.underlying22 Try.sizeOf32 hl1 (by omega)) rfl rfl rfl rfl ?_
          refine J.dy rfl (op_fieldAddr (j := oa + k * 5 + 3) (off := oa + k * 5) (g := ga) rfl (by show some _ = some _; rw [hA, elemAt_mk]) Try.underlying32 rfl Try.sizeOf9 rfl) rfl rfl rfl rfl ?_
          refine J.dy rfl (op_load rfl rfl Try.isAgg9 (m := F) (by simp) (v := Str (l1.getD k noA).text) (hlA.cell (actsV_get hkl) (k := 3) rfl)) rfl rfl rfl rfl ?_
          refine J.dy rfl (op_slen Try.underlying9 rfl rfl) rfl rfl rfl rfl ?_
          refine J.dy rfl ((op_min rfl rfl rfl).as (v' := I ((min (l1.getD k noA).text.length 64 : Nat) : Int)) (congrArg I (by omega))) rfl rfl rfl rfl ?_
          refine J.dy rfl ((op_sslice (l := 0) (h := min (l1.getD k noA).text.length 64) Try.underlying9 rfl rfl rfl rfl ⟨by omega, by omega⟩).as (v' := Str (tx (l1.getD k noA))) (congrArg Str (Sha.take_min' _ _))) rfl rfl rfl rfl ?_
          refine J.dy rfl (op_assign rfl rfl) rfl rfl rfl rfl ?_
          refine J.dnil ?_
          refine J.then_n (J.k hK28 ?_)
          refine J.keepE [(1, _), (2, _), (7, _), (10, _), (14, _), (15, _), (16, _)] ⟨rfl, rfl, rfl, rfl, rfl, rfl, rfl, trivial⟩ ?_
          refine J.seq (fun K29 hK29 => ?_)
          refine J.seq (fun K30 hK30 => ?_)
          refine J.region ?_
          refine J.y (op_move rfl rfl) rfl rfl rfl ?_
          refine J.y (op_move rfl rfl) rfl rfl rfl ?_
          refine J.y (op_move rfl rfl) rfl rfl rfl ?_
          refine J.y (op_indexAddr (i := k) rfl rfl rfl Try.underlying22 Try.sizeOf32 hl1 (by omega)) rfl rfl rfl ?_
          refine J.y (op_fieldAddr (j := oa + k * 5 + 1) (off := oa + k * 5) (g := ga) rfl (by show some _ = some _; rw [hA, elemAt_mk]) Try.underlying32 rfl Try.sizeOf3 rfl) rfl rfl rfl ?_
          refine J.y (op_load rfl rfl Try.isAgg3 (m := F) (by simp) (v := I (l1.getD k noA).at_) (hlA.cell (actsV_get hkl) (k := 1) rfl)) rfl rfl rfl ?_
          refine J.y ((op_maskI 2 rfl rfl rfl (by decide) (by decide)).as (v' := I (at3 (l1.getD k noA) : Nat)) (congrArg I (by unfold at3; omega))) rfl rfl rfl ?_
          refine J.y (op_move rfl rfl) rfl rfl rfl ?_
          refine J.e (op_call rfl rfl ent9 (Ct.use1 2 (m' := fun x : Hp => x) (new := fun _ => []) rfl (fun F' hF => write_ct F' d g7 (kD L l1 k) none 0 hb (kD_ok h4 l1 k) (by show (kdw l1 k).length ≤ _; rw [kdw_len]; omega) Sl.nil (Nat.zero_le _) (at3 (l1.getD k noA) : Nat) (tx (l1.getD k noA)) (by have := tx_le (l1.getD k noA); omega)))) rfl rfl rfl ?_
          rintro m113 hb113
          change J _ _ _ [U Ms, F, m113, blk g10 (L.map Str) 29, blk g14 (hcs l1 k Hs) 36] _
          rw [(kD_write h4 l1 k).1] at hb113
          refine J.y ((op_neq rfl rfl rfl).as (v' := .bool false) (congrArg Value.bool (decide_eq_false (by rw [(kD_write h4 l1 k).2]; decide)))) rfl rfl rfl ?_
          refine J.nil ?_
          refine J.then_n (J.k hK30 ?_)
          refine J.keepE [(1, _), (2, _), (7, _), (10, _), (14, _), (15, _), (16, _), (114, _)] ⟨rfl, rfl, rfl, rfl, rfl, rfl, rfl, rfl, trivial⟩ ?_
          refine J.condF rfl rfl ?_
          refine J.skip ?_
          refine J.then_n (J.k hK29 ?_)
          refine J.keepE [(1, _), (2, _), (7, _), (10, _), (14, _), (15, _), (16, _)] ⟨rfl, rfl, rfl, rfl, rfl, rfl, rfl, trivial⟩ ?_
          refine J.draw [F, blk g14 (hcs l1 k Hs) 36] [19] (.y 0 (.y 1 (.y 2 (.y 3 (.y 4 (.y 5 (.y 6 (.y 7 (.y 8 (.y 9 (.y 10 (.y 11 (.y 12 (.y 13 (.y 14 (.e 15 (.e 16 (.e 17 (.y 18 (.e 19 .nil)))))))))))))))))))) Try.wide (by decide +kernel) (by simp) ?_
          refine J.dy rfl (op_move rfl rfl) rfl rfl rfl rfl ?_
          refine J.dy rfl (op_move rfl rfl) rfl rfl rfl rfl ?_
          refine J.dy rfl (op_indexAddr (i := k) rfl rfl rfl Try.underlying22 Try.sizeOf32 hl1 (by omega)) rfl rfl rfl rfl ?_
          refine J.dy rfl (op_fieldAddr (j := oa + k * 5 + 1) (off := oa + k * 5) (g := ga) rfl (by show some _ = some _; rw [hA, elemAt_mk]) Try.underlying32 rfl Try.sizeOf3 rfl) rfl rfl rfl rfl ?_
          refine J.dy rfl (op_load rfl rfl Try.isAgg3 (m := F) (by simp) (v := I (l1.getD k noA).at_) (hlA.cell (actsV_get hkl) (k := 1) rfl)) rfl rfl rfl rfl ?_
          refine J.dy rfl ((op_maskI 2 rfl rfl rfl (by decide) (by decide)).as (v' := I (at3 (l1.getD k noA) : Nat)) (congrArg I (by unfold at3; omega))) rfl rfl rfl rfl ?_
          refine J.dy rfl (op_move rfl rfl) rfl rfl rfl rfl ?_
          refine J.dy rfl (op_move rfl rfl) rfl rfl rfl rfl ?_
          refine J.dy rfl (op_indexAddr (i := k) rfl rfl rfl Try.underlying22 Try.sizeOf32 hl1 (by omega)) rfl rfl rfl rfl ?_
          refine J.dy rfl (op_fieldAddr (j := oa + k * 5 + 1) (off := oa + k * 5) (g := ga) rfl (by show some _ = some _; rw [hA, elemAt_mk]) Try.underlying32 rfl Try.sizeOf3 rfl) rfl rfl rfl rfl ?_
          refine J.dy rfl (op_load rfl rfl Try.isAgg3 (m := F) (by simp) (v := I (l1.getD k noA).at_) (hlA.cell (actsV_get hkl) (k := 1) rfl)) rfl rfl rfl rfl ?_
          refine J.dy rfl ((op_maskI 2 rfl rfl rfl (by decide) (by decide)).as (v' := I (at3 (l1.getD k noA) : Nat)) (congrArg I (by unfold at3; omega))) rfl rfl rfl rfl ?_
          refine J.dy rfl (op_indexAddrJ (i := (at3 (l1.getD k noA))) (j := (at3 (l1.getD k noA))) rfl rfl rfl Try.underlying36 Try.sizeOf35 (at3_lt _) (by omega)) rfl rfl rfl rfl ?_
          refine J.dy rfl (op_loadB 1 rfl rfl rfl Try.isAgg35 (hcs_get l1 k Hs (at3_lt _))) rfl rfl rfl rfl ?_
          refine J.dy rfl (op_move rfl rfl) rfl rfl rfl rfl ?_
          refine J.de rfl (op_call rfl rfl ent8 (Ct.use0 (fun F' hF => full_ct F' (tx (l1.getD k noA)) (by have := tx_le (l1.getD k noA); omega)))) rfl rfl rfl (by simp) ?_
          intro g130 _
          refine J.de rfl (op_buildSlice (l := [.tmp 130]) (xs := [[Str (full (tx (l1.getD k noA)))]]) rfl rfl rfl rfl Try.underlying35 el9 rfl (by decide) (by decide) (by simp)) rfl rfl rfl (by simp) ?_
          intro g131 _
          change J _ _ _ [U Ms, F, m113, blk g10 (L.map Str) 29, blk g14 (hcs l1 k Hs) 36, blk g131 [Str (full (tx (l1.getD k noA)))] 9] _
          refine J.de rfl (op_appendF (j := at3 (l1.getD k noA)) (m := Ms.getD (at3 (l1.getD k noA)) noH) (m2 := blk g131 [Str (full (tx (l1.getD k noA)))] 9) (xs := strsV (kt l1 (at3 (l1.getD k noA)) k)) (ys := strsV [full (tx (l1.getD k noA))]) hF.2.2.1 rfl rfl rfl Try.underlying35 Try.underlying35 el9 (getSome noH (by rw [hF.1]; exact at3_lt _)) (hF.2.2.2 _ (at3_lt _)) (by simp) ((row_blk (q := True) (xs := strsV [full (tx (l1.getD k noA))]) rfl (by simp [strsV])).sl) (by simp [strsV, Value.oneCell']) (by have := kt_len l1 (at3 (l1.getD k noA)) k; omega) (by have := kt_len l1 (at3 (l1.getD k noA)) k; omega)) rfl rfl rfl (by simp) ?_
          rintro ⟨A9, c9, m9⟩ ⟨h9, hd9⟩
          change J _ ((132, .slice A9 ((kt l1 (at3 (l1.getD k noA)) k).length + 1) c9) :: _) _ [U (Ms.set (at3 (l1.getD k noA)) m9), F, m113, blk g10 (L.map Str) 29, blk g14 (hcs l1 k Hs) 36, blk g131 [Str (full (tx (l1.getD k noA)))] 9] _
          dsimp only at h9 hd9
          refine J.dy rfl (op_indexAddrJ (i := (at3 (l1.getD k noA))) (j := (at3 (l1.getD k noA))) rfl rfl rfl Try.underlying36 Try.sizeOf35 (at3_lt _) (by omega)) rfl rfl rfl rfl ?_
          refine J.ds rfl (op_store (i := 4) (vs := [.slice A9 ((kt l1 (at3 (l1.getD k noA)) k).length + 1) c9]) rfl rfl rfl rfl rfl Try.sizeOf35 rfl (by rw [hcs_len]; exact at3_lt _)) rfl rfl rfl (fun _ _ => ?_)
          change J _ _ _ [U (Ms.set (at3 (l1.getD k noA)) m9), F, m113, blk g10 (L.map Str) 29, blk g14 (setAt (hcs l1 k Hs) (at3 (l1.getD k noA)) [.slice A9 ((kt l1 (at3 (l1.getD k noA)) k).length + 1) c9]) 36, blk g131 [Str (full (tx (l1.getD k noA)))] 9] _
          refine J.dnil ?_
          refine J.blk_n ?_
          refine J.then_n (J.k hK27 ?_)
          refine J.keepE [(1, _), (2, _), (7, _), (10, _), (14, _), (15, _)] ⟨rfl, rfl, rfl, rfl, rfl, rfl, trivial⟩ ?_
          refine J.region ?_
          refine J.y (op_move rfl rfl) rfl rfl rfl ?_
          refine J.y ((op_add rfl rfl rfl (by first | omega | (refine ⟨?_, ?_⟩ <;> omega))).as (v' := I ((k + 1 : Nat) : Int)) (congrArg I (by omega))) rfl rfl rfl ?_
          refine J.y (op_assign rfl rfl) rfl rfl rfl ?_
          refine J.nil ?_
          refine J.then_n ?_
          exact J.kk (k + 1, m113, Ms.set (at3 (l1.getD k noA)) m9, Hs.set (at3 (l1.getD k noA)) (A9, c9)) (fun y (hy : _ ∧ 10 - y.1 < 10 - k) => hI4 y hy.1 hy.2) ⟨⟨by dsimp only; omega, hb113, fam_step hF hd9 h9⟩, by dsimp only; omega⟩ ⟨rfl, rfl, rfl, rfl, rfl, rfl, trivial⟩ (fun _ h => by rw [hcs_set l1 k hF.2.1 A9 c9] at h; exact h.pick [0, 1, 2, 3, 4] (by decide))
        ·
          refine J.exit ?_
          refine J.then_x ?_
          refine J.then_x ?_
          refine J.blk_eq ?_
          refine J.then_n ?_
          exact J.kk (k, d, Ms, Hs) hK23 ⟨by dsimp only; omega, hb, hF⟩ ⟨rfl, rfl, rfl, rfl, trivial⟩ (fun _ h => h)
      ·
        refine J.no (Wan.is rfl rfl rfl rfl rfl) rfl rfl ?_
        refine J.no (Wan.is rfl rfl rfl rfl rfl) rfl rfl ?_
        refine J.y (op_pickF rfl rfl rfl) rfl rfl rfl ?_
        refine J.nil ?_
        refine J.then_n (J.k hK26 ?_)
        refine J.keepE [(1, _), (2, _), (7, _), (10, _), (14, _), (15, _), (89, _)] ⟨rfl, rfl, rfl, rfl, rfl, rfl, rfl, trivial⟩ ?_
        refine J.condF rfl rfl ?_
        refine J.exit ?_
        refine J.then_x ?_
        refine J.then_x ?_
        refine J.blk_eq ?_
        refine J.then_n ?_
        exact J.kk (k, d, Ms, Hs) hK23 ⟨by dsimp only; omega, hb, hF⟩ ⟨rfl, rfl, rfl, rfl, trivial⟩ (fun _ h => h)
    rintro ⟨n1, d, Ms, Hs⟩ ⟨hn1, hb, hF⟩
    dsimp only at hn1 hb hF ⊢
    refine J.seq (fun K31 hK31 => ?_)
    refine J.region ?_
    refine J.y (op_move rfl rfl) rfl rfl rfl ?_
    refine J.y (op_move rfl rfl) rfl rfl rfl ?_
    refine J.e (op_call rfl rfl ent11 (Ct.use1 2 (m' := fun x : Hp => x) (new := fun _ => []) rfl (fun F' hF' => cutB_ct F' d g7 (kD L l1 n1) none 0 hb (kD_ok h4 l1 n1).1 (by show (kdw l1 n1).length ≤ _; rw [kdw_len]; omega) K E q (hK.mono (hF' F (by simp))) hKn))) rfl rfl rfl ?_
    rintro m136 hb136
    change J _ _ _ [U Ms, F, m136, blk g10 (L.map Str) 29, blk g14 (hcs l1 n1 Hs) 36] _
    refine J.nil ?_
    refine J.then_n (J.k hK31 ?_)
    refine J.keepE [(2, _), (7, _), (10, _), (14, _)] ⟨rfl, rfl, rfl, rfl, trivial⟩ ?_
    refine J.seq (fun K32 hK32 => ?_)
    refine J.region ?_
    refine J.y (op_move rfl rfl) rfl rfl rfl ?_
    refine J.e (op_call rfl rfl ent12 (Ct.use1 2 (m' := fun x : Hp => x) (new := fun _ => []) rfl (fun F' _ => start_ct F' m136 g7 ((kD L l1 n1).cut K) none 0 hb136 ((kD_ok h4 l1 n1).cut K)))) rfl rfl rfl ?_
    rintro m138 hb138
    change J _ _ _ [U Ms, F, m138, blk g10 (L.map Str) 29, blk g14 (hcs l1 n1 Hs) 36] _
    obtain ⟨A, c, B, e, hc, hsL, hsW⟩ := hb138.see
    obtain ⟨C, hC⟩ : ∃ C, C = cutL L (kdw l1 n1) K n1 := ⟨_, rfl⟩
    have hD3l : (((kD L l1 n1).cut K).start).last.length = 4 := by
      show (cutL L (kdw l1 n1) K (kdw l1 n1).length).length = 4
      rw [cutL_len9]; exact h4.1
    have hC64 : ∀ i, i < 4 → (C.getD i []).length = 64 := fun i hi => by
      rw [hC]
      exact get64 (cutL_64 h4.2 (fun w hw => (kD_ok h4 l1 n1).w64 w hw) n1 (by show n1 ≤ (kdw l1 n1).length; rw [kdw_len]; exact Nat.le_refl _)) (by rw [cutL_len9, h4.1]; exact hi)
    refine J.nil ?_
    refine J.then_n (J.k hK32 ?_)
    refine J.keepE [(2, _), (7, _), (10, _), (14, _)] ⟨rfl, rfl, rfl, rfl, trivial⟩ ?_
    refine J.seq (fun K33 hK33 => ?_)
    refine J.seq (fun K34 hK34 => ?_)
    refine J.region ?_
    refine J.y (op_assign rfl rfl) rfl rfl rfl ?_
    refine J.nil ?_
    refine J.then_n (J.k hK34 ?_)
    refine J.keepE [(2, _), (7, _), (10, _), (14, _), (17, _)] ⟨rfl, rfl, rfl, rfl, rfl, trivial⟩ ?_
    refine J.block ?_
    refine J.loop (X := Nat) (fun i => [(2, .slice E K.length q), (7, Ptr g7), (10, Ptr g10), (14, Ptr g14), (17, I i)]) (fun _ => [U Ms, F, m138, blk g10 (L.map Str) 29, blk g14 (hcs l1 n1 Hs) 36]) (fun i => i ≤ 4) (fun i => 4 - i) 0 (Nat.zero_le _) ⟨rfl, rfl, rfl, rfl, rfl, trivial⟩ (fun _ h => h) ?_
    intro i hi I6 hI6
    refine J.seq (fun K35 hK35 => ?_)
    refine J.seq (fun K36 hK36 => ?_)
    refine J.region ?_
    refine J.y (op_move rfl rfl) rfl rfl rfl ?_
    refine J.y (op_lss rfl rfl rfl) rfl rfl rfl ?_
    refine J.nil ?_
    refine J.then_n (J.k hK36 ?_)
    refine J.keepE [(2, _), (7, _), (10, _), (14, _), (17, _), (140, _)] ⟨rfl, rfl, rfl, rfl, rfl, rfl, trivial⟩ ?_
    refine J.ite rfl (fun h140 => ?_) (fun h140 => ?_)
    ·
      refine J.skip ?_
      refine J.then_n (J.k hK35 ?_)
      refine J.keepE [(2, _), (7, _), (10, _), (14, _), (17, _)] ⟨rfl, rfl, rfl, rfl, rfl, trivial⟩ ?_
      refine J.seq (fun K37 hK37 => ?_)
      refine J.block ?_
      refine J.seq (fun K38 hK38 => ?_)
      have hi4 : i < 4 := by omega
      obtain ⟨s, hs⟩ : ∃ s, s = C.getD i [] := ⟨_, rfl⟩
      have hsl : s.length = 64 := hs ▸ hC64 i hi4
      have hkn := kt_len l1 i n1
      refine J.region ?_
      refine J.y (op_move rfl rfl) rfl rfl rfl ?_
      refine J.y (op_move rfl rfl) rfl rfl rfl ?_
      refine J.e (op_call rfl rfl ent13 (Ct.use0 (fun F' hF => read_ct F' g7 (((kD L l1 n1).cut K).start) A c B e none 0 (hc.mono (hF m138 (by simp))) (hsL.mono (hF m138 (by simp))) (hsW.mono (hF m138 (by simp))) i (by rw [hD3l]; decide) (by show 0 ≤ 1073741824; decide)))) rfl rfl rfl ?_
      intro g146 _
      refine J.y (op_move rfl rfl) rfl rfl rfl ?_
      refine J.y ((op_extract (v := Str ((((kD L l1 n1).cut K).start).read (i : Int))) rfl rfl rfl).as (v' := Str s) (by rw [st_read h4 l1 n1 K hi4, hs, hC])) rfl rfl rfl ?_
      refine J.y ((op_extract (v := I ((((kD L l1 n1).cut K).start).ready (i : Int))) rfl rfl rfl).as (v' := I 0) (congrArg I (st_ready h4 l1 n1 K hi4))) rfl rfl rfl ?_
      refine J.y (op_assign rfl rfl) rfl rfl rfl ?_
      refine J.y (op_assign rfl rfl) rfl rfl rfl ?_
      refine J.nil ?_
      refine J.then_n (J.k hK38 ?_)
      refine J.keepE [(2, _), (7, _), (10, _), (14, _), (17, _), (18, _), (19, _)] ⟨rfl, rfl, rfl, rfl, rfl, rfl, rfl, trivial⟩ ?_
      refine J.seq (fun K39 hK39 => ?_)
      refine J.seq (fun K40 hK40 => ?_)
      refine J.region ?_
      refine J.y (op_move rfl rfl) rfl rfl rfl ?_
      refine J.y ((op_neq rfl rfl rfl).as (v' := .bool false) (congrArg Value.bool (decide_eq_false (by decide)))) rfl rfl rfl ?_
      refine J.y (op_move rfl rfl) rfl rfl rfl ?_
      refine J.yg (Wan.is rfl rfl rfl rfl rfl) (op_move rfl rfl) rfl rfl ?_
      refine J.yg (Wan.is rfl rfl rfl rfl rfl) (op_slen Try.underlying9 rfl rfl) rfl rfl ?_
      refine J.yg (Wan.is rfl rfl rfl rfl rfl) ((op_neq rfl rfl rfl).as (v' := .bool false) (congrArg Value.bool (decide_eq_false (by omega)))) rfl rfl ?_
      refine J.y (op_pickF rfl rfl rfl) rfl rfl rfl ?_
      refine J.nil ?_
      refine J.then_n (J.k hK40 ?_)
      refine J.keepE [(2, _), (7, _), (10, _), (14, _), (17, _), (18, _), (155, _)] ⟨rfl, rfl, rfl, rfl, rfl, rfl, rfl, trivial⟩ ?_
      refine J.condF rfl rfl ?_
      refine J.skip ?_
      refine J.then_n (J.k hK39 ?_)
      refine J.keepE [(2, _), (7, _), (10, _), (14, _), (17, _), (18, _)] ⟨rfl, rfl, rfl, rfl, rfl, rfl, trivial⟩ ?_
      refine J.seq (fun K41 hK41 => ?_)
      refine J.seq (fun K42 hK42 => ?_)
      refine J.region ?_
      refine J.y (op_assign rfl rfl) rfl rfl rfl ?_
      refine J.nil ?_
      refine J.then_n (J.k hK42 ?_)
      refine J.keepE [(2, _), (7, _), (10, _), (14, _), (17, _), (18, _), (20, _)] ⟨rfl, rfl, rfl, rfl, rfl, rfl, rfl, trivial⟩ ?_
      refine J.block ?_
      refine J.loop (X := Nat) (fun b => [(2, .slice E K.length q), (7, Ptr g7), (10, Ptr g10), (14, Ptr g14), (17, I i), (18, Str s), (20, I b)]) (fun _ => [U Ms, F, m138, blk g10 (L.map Str) 29, blk g14 (hcs l1 n1 Hs) 36]) (fun b => b ≤ 64) (fun b => 64 - b) 0 (Nat.zero_le _) ⟨rfl, rfl, rfl, rfl, rfl, rfl, rfl, trivial⟩ (fun _ h => h) ?_
      intro b hb I8 hI8
      refine J.seq (fun K43 hK43 => ?_)
      refine J.seq (fun K44 hK44 => ?_)
      refine J.region ?_
      refine J.y (op_move rfl rfl) rfl rfl rfl ?_
      refine J.y (op_lss rfl rfl rfl) rfl rfl rfl ?_
      refine J.nil ?_
      refine J.then_n (J.k hK44 ?_)
      refine J.keepE [(2, _), (7, _), (10, _), (14, _), (17, _), (18, _), (20, _), (157, _)] ⟨rfl, rfl, rfl, rfl, rfl, rfl, rfl, rfl, trivial⟩ ?_
      refine J.ite rfl (fun h157 => ?_) (fun h157 => ?_)
      ·
        refine J.skip ?_
        refine J.then_n (J.k hK43 ?_)
        refine J.keepE [(2, _), (7, _), (10, _), (14, _), (17, _), (18, _), (20, _)] ⟨rfl, rfl, rfl, rfl, rfl, rfl, rfl, trivial⟩ ?_
        refine J.seq (fun K45 hK45 => ?_)
        refine J.block ?_
        refine J.seq (fun K46 hK46 => ?_)
        refine J.draw [U Ms, F, m138, blk g10 (L.map Str) 29, blk g14 (hcs l1 n1 Hs) 36] [] (.y 0 (.y 1 (.y 2 (.y 3 (.y 4 (.y 5 (.y 6 (.y 7 (.y 8 (.y 9 .nil)))))))))) Try.wide (by decide +kernel) (by simp) ?_
        refine J.dy rfl (op_move rfl rfl) rfl rfl rfl rfl ?_
        refine J.dy rfl (op_move rfl rfl) rfl rfl rfl rfl ?_
        refine J.dy rfl (op_sindex Try.underlying9 rfl rfl rfl (getB (show b < s.length by omega))) rfl rfl rfl rfl ?_
        refine J.dy rfl (op_move rfl rfl) rfl rfl rfl rfl ?_
        refine J.dy rfl (op_indexAddrJ (i := i) (j := i) rfl rfl rfl Try.underlying29 Try.sizeOf9 (by omega) (by omega)) rfl rfl rfl rfl ?_
        refine J.dy rfl (op_loadB 3 rfl rfl rfl Try.isAgg9 (getMap (f := Str) [] (show i < L.length by rw [h4.1]; omega))) rfl rfl rfl rfl ?_
        refine J.dy rfl (op_move rfl rfl) rfl rfl rfl rfl ?_
        refine J.dy rfl (op_sindex Try.underlying9 rfl rfl rfl (getB (show b < (L.getD i []).length by rw [get64 h4.2 (by rw [h4.1]; exact hi4)]; omega))) rfl rfl rfl rfl ?_
        refine J.dy rfl ((op_eql rfl rfl rfl).as (v' := .bool (decide (okB C L l1 n1 i b 0))) (congrArg Value.bool (decide_eq_decide.2 (byte_eq.trans (by rw [hs]; exact ok0_of.symm))))) rfl rfl rfl rfl ?_
        refine J.dy rfl (op_assign rfl rfl) rfl rfl rfl rfl ?_
        refine J.dnil ?_
        refine J.then_n (J.k hK46 ?_)
        refine J.keepE [(2, _), (7, _), (10, _), (14, _), (17, _), (18, _), (20, _), (21, _)] ⟨rfl, rfl, rfl, rfl, rfl, rfl, rfl, rfl, trivial⟩ ?_
        refine J.seq (fun K47 hK47 => ?_)
        refine J.seq (fun K48 hK48 => ?_)
        refine J.region ?_
        refine J.y (op_assign rfl rfl) rfl rfl rfl ?_
        refine J.nil ?_
        refine J.then_n (J.k hK48 ?_)
        refine J.keepE [(2, _), (7, _), (10, _), (14, _), (17, _), (18, _), (20, _), (21, _), (22, _)] ⟨rfl, rfl, rfl, rfl, rfl, rfl, rfl, rfl, rfl, trivial⟩ ?_
        refine J.block ?_
        refine J.loop (X := Nat) (fun j => [(2, .slice E K.length q), (7, Ptr g7), (10, Ptr g10), (14, Ptr g14), (17, I i), (18, Str s), (20, I b), (21, .bool (decide (okB C L l1 n1 i b j))), (22, I j)]) (fun _ => [U Ms, F, m138, blk g10 (L.map Str) 29, blk g14 (hcs l1 n1 Hs) 36]) (fun j => j ≤ (kt l1 i n1).length) (fun j => (kt l1 i n1).length - j) 0 (Nat.zero_le _) ⟨rfl, rfl, rfl, rfl, rfl, rfl, rfl, rfl, rfl, trivial⟩ (fun _ h => h) ?_
        intro j hj I10 hI10
        refine J.seq (fun K49 hK49 => ?_)
        refine J.seq (fun K50 hK50 => ?_)
        refine J.region ?_
        refine J.y (op_move rfl rfl) rfl rfl rfl ?_
        refine J.y (op_move rfl rfl) rfl rfl rfl ?_
        refine J.y (op_indexAddrJ (i := i) (j := i) rfl rfl rfl Try.underlying36 Try.sizeOf35 (by omega) (by omega)) rfl rfl rfl ?_
        refine J.y (op_loadB 4 rfl rfl rfl Try.isAgg35 (hcs_get l1 n1 Hs hi4)) rfl rfl rfl ?_
        refine J.y (op_len Try.underlying35 rfl rfl) rfl rfl rfl ?_
        refine J.y (op_lss rfl rfl rfl) rfl rfl rfl ?_
        refine J.nil ?_
        refine J.then_n (J.k hK50 ?_)
        refine J.keepE [(2, _), (7, _), (10, _), (14, _), (17, _), (18, _), (20, _), (21, _), (22, _), (174, _)] ⟨rfl, rfl, rfl, rfl, rfl, rfl, rfl, rfl, rfl, rfl, trivial⟩ ?_
        refine J.ite rfl (fun h174 => ?_) (fun h174 => ?_)
        ·
          refine J.skip ?_
          refine J.then_n (J.k hK49 ?_)
          refine J.keepE [(2, _), (7, _), (10, _), (14, _), (17, _), (18, _), (20, _), (21, _), (22, _)] ⟨rfl, rfl, rfl, rfl, rfl, rfl, rfl, rfl, rfl, trivial⟩ ?_
          refine J.seq (fun K51 hK51 => ?_)
          refine J.block ?_
          have hjl : j < (kt l1 i n1).length := by omega
          refine J.draw [U Ms, F, m138, blk g10 (L.map Str) 29, blk g14 (hcs l1 n1 Hs) 36] [] (.y 0 (.y 1 (.y 2 (.y 3 (.y 4 (.y 5 (.y 6 (.y 7 (.y 8 (.y 9 (.y 10 (.y 11 (.y 12 (.y 13 (.y 14 (.y 15 .nil)))))))))))))))) Try.wide (by decide +kernel) (by simp) ?_
          refine J.dy rfl (op_move rfl rfl) rfl rfl rfl rfl ?_
          refine J.dy rfl (op_move rfl rfl) rfl rfl rfl rfl ?_
          refine J.split (d := 178) rfl (fun h178 => ?_) (fun h178 => ?_)
          ·
            refine J.dno rfl (Wan.is rfl rfl rfl rfl rfl) rfl rfl ?_
            refine J.dno rfl (Wan.is rfl rfl rfl rfl rfl) rfl rfl ?_
            refine J.dno rfl (Wan.is rfl rfl rfl rfl rfl) rfl rfl ?_
            refine J.dno rfl (Wan.is rfl rfl rfl rfl rfl) rfl rfl ?_
            refine J.dno rfl (Wan.is rfl rfl rfl rfl rfl) rfl rfl ?_
            refine J.dno rfl (Wan.is rfl rfl rfl rfl rfl) rfl rfl ?_
            refine J.dno rfl (Wan.is rfl rfl rfl rfl rfl) rfl rfl ?_
            refine J.dno rfl (Wan.is rfl rfl rfl rfl rfl) rfl rfl ?_
            refine J.dno rfl (Wan.is rfl rfl rfl rfl rfl) rfl rfl ?_
            refine J.dno rfl (Wan.is rfl rfl rfl rfl rfl) rfl rfl ?_
            refine J.dno rfl (Wan.is rfl rfl rfl rfl rfl) rfl rfl ?_
            refine J.dno rfl (Wan.is rfl rfl rfl rfl rfl) rfl rfl ?_
            refine J.dy rfl (op_pickT rfl rfl rfl) rfl rfl rfl rfl ?_
            refine J.dy rfl (op_assign rfl rfl) rfl rfl rfl rfl ?_
            refine J.dnil ?_
            refine J.blk_n ?_
            refine J.then_n (J.k hK51 ?_)
            refine J.keepE [(2, _), (7, _), (10, _), (14, _), (17, _), (18, _), (20, _), (21, _), (22, _)] ⟨rfl, rfl, rfl, rfl, rfl, rfl, rfl, rfl, rfl, trivial⟩ ?_
            refine J.region ?_
            refine J.y (op_move rfl rfl) rfl rfl rfl ?_
            refine J.y ((op_add rfl rfl rfl (by first | omega | (refine ⟨?_, ?_⟩ <;> omega))).as (v' := I ((j + 1 : Nat) : Int)) (congrArg I (by omega))) rfl rfl rfl ?_
            refine J.y (op_assign rfl rfl) rfl rfl rfl ?_
            refine J.nil ?_
            refine J.then_n ?_
            exact J.kk (j + 1) (fun y (hy : _ ∧ (kt l1 i n1).length - y < (kt l1 i n1).length - j) => hI10 y hy.1 hy.2) ⟨by omega, by omega⟩ ⟨rfl, rfl, rfl, rfl, rfl, rfl, rfl, by rw [decide_eq_true ((okB_step hjl).2 (.inl h178))]; rfl, rfl, trivial⟩ (fun _ h => h)
          ·
            refine J.dyg rfl (op_move rfl rfl) (Wan.is rfl rfl rfl rfl rfl) rfl rfl rfl ?_
            refine J.dyg rfl (op_move rfl rfl) (Wan.is rfl rfl rfl rfl rfl) rfl rfl rfl ?_
            refine J.dyg rfl (op_sindex Try.underlying9 rfl rfl rfl (getB (show b < s.length by omega))) (Wan.is rfl rfl rfl rfl rfl) rfl rfl rfl ?_
            refine J.dyg rfl (op_move rfl rfl) (Wan.is rfl rfl rfl rfl rfl) rfl rfl rfl ?_
            refine J.dyg rfl (op_indexAddrJ (i := i) (j := i) rfl rfl rfl Try.underlying36 Try.sizeOf35 (by omega) (by omega)) (Wan.is rfl rfl rfl rfl rfl) rfl rfl rfl ?_
            refine J.dyg rfl (op_loadB 4 rfl rfl rfl Try.isAgg35 (hcs_get l1 n1 Hs hi4)) (Wan.is rfl rfl rfl rfl rfl) rfl rfl rfl ?_
            refine J.dyg rfl (op_move rfl rfl) (Wan.is rfl rfl rfl rfl rfl) rfl rfl rfl ?_
            refine J.dyg rfl (op_indexAddr (i := j) (m := U Ms) rfl rfl rfl Try.underlying35 Try.sizeOf9 ((hF.2.2.2 i hi4).sl.mono (Djs_getLe hF.2.2.1 (by rw [hF.1]; exact hi4))) (by omega)) (Wan.is rfl rfl rfl rfl rfl) rfl rfl rfl ?_
            refine J.dyg rfl (op_load rfl rfl Try.isAgg9 (m := U Ms) (by simp) (((hF.2.2.2 i hi4).sl.mono (Djs_getLe hF.2.2.1 (by rw [hF.1]; exact hi4))).elem (strsV_get (getSome [] hjl)))) (Wan.is rfl rfl rfl rfl rfl) rfl rfl rfl ?_
            refine J.dyg rfl (op_move rfl rfl) (Wan.is rfl rfl rfl rfl rfl) rfl rfl rfl ?_
            refine J.dyg rfl (op_sindex Try.underlying9 rfl rfl rfl (getB (show b < ((kt l1 i n1).getD j []).length by rw [get64 (kt_64 l1 i n1) hjl]; omega))) (Wan.is rfl rfl rfl rfl rfl) rfl rfl rfl ?_
            refine J.dyg rfl ((op_eql rfl rfl rfl).as (v' := .bool (decide (okB C L l1 n1 i b (j + 1)))) (congrArg Value.bool (decide_eq_decide.2 (byte_eq.trans (by rw [okB_step hjl, hs]; exact (or_iff_right h178).symm))))) (Wan.is rfl rfl rfl rfl rfl) rfl rfl rfl ?_
            refine J.dy rfl (op_pickF rfl rfl rfl) rfl rfl rfl rfl ?_
            refine J.dy rfl (op_assign rfl rfl) rfl rfl rfl rfl ?_
            refine J.dnil ?_
            refine J.blk_n ?_
            refine J.then_n (J.k hK51 ?_)
            refine J.keepE [(2, _), (7, _), (10, _), (14, _), (17, _), (18, _), (20, _), (21, _), (22, _)] ⟨rfl, rfl, rfl, rfl, rfl, rfl, rfl, rfl, rfl, trivial⟩ ?_
            refine J.region ?_
            refine J.y (op_move rfl rfl) rfl rfl rfl ?_
            refine J.y ((op_add rfl rfl rfl (by first | omega | (refine ⟨?_, ?_⟩ <;> omega))).as (v' := I ((j + 1 : Nat) : Int)) (congrArg I (by omega))) rfl rfl rfl ?_
            refine J.y (op_assign rfl rfl) rfl rfl rfl ?_
            refine J.nil ?_
            refine J.then_n ?_
            exact J.kk (j + 1) (fun y (hy : _ ∧ (kt l1 i n1).length - y < (kt l1 i n1).length - j) => hI10 y hy.1 hy.2) ⟨by omega, by omega⟩ ⟨rfl, rfl, rfl, rfl, rfl, rfl, rfl, rfl, rfl, trivial⟩ (fun _ h => h)
        ·
          refine J.exit ?_
          refine J.then_x ?_
          refine J.then_x ?_
          refine J.blk_eq ?_
          refine J.then_n (J.k hK47 ?_)
          refine J.keepE [(2, _), (7, _), (10, _), (14, _), (17, _), (18, _), (20, _), (21, _)] ⟨rfl, rfl, rfl, rfl, rfl, rfl, rfl, rfl, trivial⟩ ?_
          refine J.seq (fun K52 hK52 => ?_)
          have hfin : okB C L l1 n1 i b j := by
            have hjj : j = (kt l1 i n1).length := by omega
            subst hjj
            unfold okB
            rw [List.take_length, hC]
            exact cut_byte h4 l1 K n1 i b hi4 n1 (Nat.le_refl _)
          refine J.region ?_
          refine J.y ((op_move rfl rfl).as (v' := .bool true) (by rw [decide_eq_true hfin])) rfl rfl rfl ?_
          refine J.y ((op_not rfl rfl).as (v' := .bool false) rfl) rfl rfl rfl ?_
          refine J.nil ?_
          refine J.then_n (J.k hK52 ?_)
          refine J.keepE [(2, _), (7, _), (10, _), (14, _), (17, _), (18, _), (20, _), (193, _)] ⟨rfl, rfl, rfl, rfl, rfl, rfl, rfl, rfl, trivial⟩ ?_
          refine J.condF rfl rfl ?_
          refine J.skip ?_
          refine J.blk_n ?_
          refine J.then_n (J.k hK45 ?_)
          refine J.keepE [(2, _), (7, _), (10, _), (14, _), (17, _), (18, _), (20, _)] ⟨rfl, rfl, rfl, rfl, rfl, rfl, rfl, trivial⟩ ?_
          refine J.region ?_
          refine J.y (op_move rfl rfl) rfl rfl rfl ?_
          refine J.y ((op_add rfl rfl rfl (by first | omega | (refine ⟨?_, ?_⟩ <;> omega))).as (v' := I ((b + 1 : Nat) : Int)) (congrArg I (by omega))) rfl rfl rfl ?_
          refine J.y (op_assign rfl rfl) rfl rfl rfl ?_
          refine J.nil ?_
          refine J.then_n ?_
          exact J.kk (b + 1) (fun y (hy : _ ∧ 64 - y < 64 - b) => hI8 y hy.1 hy.2) ⟨by omega, by omega⟩ ⟨rfl, rfl, rfl, rfl, rfl, rfl, rfl, trivial⟩ (fun _ h => h)
      ·
        refine J.exit ?_
        refine J.then_x ?_
        refine J.then_x ?_
        refine J.blk_eq ?_
        refine J.then_n (J.k hK41 ?_)
        refine J.keepE [(2, _), (7, _), (10, _), (14, _), (17, _), (18, _)] ⟨rfl, rfl, rfl, rfl, rfl, rfl, trivial⟩ ?_
        refine J.seq (fun K53 hK53 => ?_)
        refine J.region ?_
        refine J.y (op_move rfl rfl) rfl rfl rfl ?_
        refine J.y (op_len Try.underlying23 rfl rfl) rfl rfl rfl ?_
        refine J.y (op_eql rfl rfl rfl) rfl rfl rfl ?_
        refine J.y (op_move rfl rfl) rfl rfl rfl ?_
        refine J.split (d := 197) rfl (fun h197 => ?_) (fun h197 => ?_)
        ·
          refine J.yg (Wan.is rfl rfl rfl rfl rfl) (op_move rfl rfl) rfl rfl ?_
          refine J.yg (Wan.is rfl rfl rfl rfl rfl) (op_move rfl rfl) rfl rfl ?_
          refine J.yg (Wan.is rfl rfl rfl rfl rfl) (op_indexAddrJ (i := i) (j := i) rfl rfl rfl Try.underlying29 Try.sizeOf9 (by omega) (by omega)) rfl rfl ?_
          refine J.yg (Wan.is rfl rfl rfl rfl rfl) (op_loadB 3 rfl rfl rfl Try.isAgg9 (getMap (f := Str) [] (show i < L.length by rw [h4.1]; omega))) rfl rfl ?_
          refine J.yg (Wan.is rfl rfl rfl rfl rfl) ((op_sne rfl rfl rfl).as (v' := .bool false) (congrArg Value.bool (decide_eq_false (fun h => h (by rw [hs, hC, List.eq_nil_of_length_eq_zero (show K.length = 0 by omega), cut_nil]))))) rfl rfl ?_
          refine J.y (op_pickT rfl rfl rfl) rfl rfl rfl ?_
          refine J.nil ?_
          refine J.then_n (J.k hK53 ?_)
          refine J.keepE [(2, _), (7, _), (10, _), (14, _), (17, _), (203, _)] ⟨rfl, rfl, rfl, rfl, rfl, rfl, trivial⟩ ?_
          refine J.condF rfl rfl ?_
          refine J.skip ?_
          refine J.blk_n ?_
          refine J.then_n (J.k hK37 ?_)
          refine J.keepE [(2, _), (7, _), (10, _), (14, _), (17, _)] ⟨rfl, rfl, rfl, rfl, rfl, trivial⟩ ?_
          refine J.region ?_
          refine J.y (op_move rfl rfl) rfl rfl rfl ?_
          refine J.y ((op_add rfl rfl rfl (by first | omega | (refine ⟨?_, ?_⟩ <;> omega))).as (v' := I ((i + 1 : Nat) : Int)) (congrArg I (by omega))) rfl rfl rfl ?_
          refine J.y (op_assign rfl rfl) rfl rfl rfl ?_
          refine J.nil ?_
          refine J.then_n ?_
          exact J.kk (i + 1) (fun y (hy : _ ∧ 4 - y < 4 - i) => hI6 y hy.1 hy.2) ⟨by omega, by omega⟩ ⟨rfl, rfl, rfl, rfl, rfl, trivial⟩ (fun _ h => h)
        ·
          refine J.no (Wan.is rfl rfl rfl rfl rfl) rfl rfl ?_
          refine J.no (Wan.is rfl rfl rfl rfl rfl) rfl rfl ?_
          refine J.no (Wan.is rfl rfl rfl rfl rfl) rfl rfl ?_
          refine J.no (Wan.is rfl rfl rfl rfl rfl) rfl rfl ?_
          refine J.no (Wan.is rfl rfl rfl rfl rfl) rfl rfl ?_
          refine J.y (op_pickF rfl rfl rfl) rfl rfl rfl ?_
          refine J.nil ?_
          refine J.then_n (J.k hK53 ?_)
          refine J.keepE [(2, _), (7, _), (10, _), (14, _), (17, _), (203, _)] ⟨rfl, rfl, rfl, rfl, rfl, rfl, trivial⟩ ?_
          refine J.condF rfl rfl ?_
          refine J.skip ?_
          refine J.blk_n ?_
          refine J.then_n (J.k hK37 ?_)
          refine J.keepE [(2, _), (7, _), (10, _), (14, _), (17, _)] ⟨rfl, rfl, rfl, rfl, rfl, trivial⟩ ?_
          refine J.region ?_
          refine J.y (op_move rfl rfl) rfl rfl rfl ?_
          refine J.y ((op_add rfl rfl rfl (by first | omega | (refine ⟨?_, ?_⟩ <;> omega))).as (v' := I ((i + 1 : Nat) : Int)) (congrArg I (by omega))) rfl rfl rfl ?_
          refine J.y (op_assign rfl rfl) rfl rfl rfl ?_
          refine J.nil ?_
          refine J.then_n ?_
          exact J.kk (i + 1) (fun y (hy : _ ∧ 4 - y < 4 - i) => hI6 y hy.1 hy.2) ⟨by omega, by omega⟩ ⟨rfl, rfl, rfl, rfl, rfl, trivial⟩ (fun _ h => h)
    ·
      refine J.exit ?_
      refine J.then_x ?_
      refine J.then_x ?_
      refine J.blk_eq ?_
      refine J.then_n (J.k hK33 ?_)
      refine J.keepE [] trivial ?_
      refine J.seq (fun K54 hK54 => ?_)
      refine J.region ?_
      refine J.y (op_assign rfl rfl) rfl rfl rfl ?_
      refine J.nil ?_
      refine J.then_n (J.k hK54 ?_)
      refine J.keepE [(6, _)] ⟨rfl, trivial⟩ ?_
      refine J.ret ?_
      exact J.done hw0 (fun _ _ h => h) (res1 rfl rfl) (retOk () rfl trivial [1] rfl (by decide))

theorem sl_of {H : Type} {enc : TypeId × Value → H} {P : Program} {W : World} {t e : TypeId} {fuel : Nat} {x : Value} {y : DataW H × List MemPlace} (ht : P.underlying t = some (.slice e)) (he : 0 < P.cellsOf e) (h : DataW.trod enc P W 0 (fun _ => true) true fuel t [x] = some y) :
    ∃ A n c xs, x = .slice A n c ∧ Sl (hp W) (P.cellsOf e) A n c xs ∧ n ≤ maxLen ∧ ∀ z ∈ xs, ∃ fuel y, DataW.trod enc P W 0 (fun _ => true) true fuel e z = some y := by
  rcases DataW.trod_slice ht h with ⟨hx, _⟩ | ⟨a, len, cap, elems, rest, n, _, hcs, _, _, hl, hm, hlen, hel, _, _⟩
  · simp only [List.cons.injEq, and_true] at hx
    subst hx
    exact ⟨none, 0, 0, [], rfl, Sl.nil, Nat.zero_le _, by simp⟩
  · simp only [List.cons.injEq, and_true] at hcs
    subst hcs
    have key : ∀ i, i < len → ∃ z y, W.cells? 0 (a.add (i * P.cellsOf e)) (P.cellsOf e) = some z ∧ DataW.trod enc P W 0 (fun _ => true) true n e z = some y := fun i hi => by
      have h1 := hel i hi
      rw [List.getElem?_eq_getElem (by omega)] at h1
      obtain ⟨z, h2, h3⟩ := Option.bind_eq_some_iff.1 h1
      exact ⟨z, _, h2, h3⟩
    refine ⟨some a, len, cap, (List.range len).map fun i => (W.cells? 0 (a.add (i * P.cellsOf e)) (P.cellsOf e)).getD [], rfl, ⟨by rw [List.length_map, List.length_range], hl, fun i z hz => ?_⟩, Nat.le_trans hl hm, fun z hz => ?_⟩
    · rw [List.getElem?_map] at hz
      by_cases hi : i < len
      · rw [List.getElem?_range hi] at hz
        obtain ⟨z', _, h2, _⟩ := key i hi
        simp only [Option.map_some, h2, Option.getD_some, Option.some.injEq] at hz
        subst hz
        obtain ⟨h5, h6⟩ := cells_Cells he h2
        exact ⟨h5, a, rfl, h6⟩
      · rw [List.getElem?_eq_none (by rw [List.length_range]; omega)] at hz; cases hz
    · obtain ⟨i, hi, rfl⟩ := List.mem_map.1 hz
      obtain ⟨z', y', h2, h3⟩ := key i (List.mem_range.1 hi)
      rw [h2]
      exact ⟨n, y', h3⟩
theorem bytes_of {H : Type} {enc : TypeId × Value → H} {P : Program} {W : World} {e : TypeId} {xs : List (List Value)} (he : P.underlying e = some (.int .u8)) (hc : P.cellsOf e = 1) (h : ∀ x ∈ xs, x.length = 1 ∧ ∃ fuel y, DataW.trod enc P W 0 (fun _ => true) true fuel e x = some y) : ∃ l : List UInt8, xs = bytesV l := by
  obtain ⟨l, hl, _⟩ := rows_of (f := fun b : UInt8 => [B8 b]) (Q := fun _ => True) (xs := xs) fun x hx => by
    obtain ⟨h1, fuel, y, hy⟩ := h x hx
    match x, h1, hy with
    | [v], _, hy =>
      obtain ⟨b, rfl⟩ := u8_of he hy
      exact ⟨b, rfl, trivial⟩
  exact ⟨l, hl⟩
theorem sl_rows {m : Hp} {sz A n c xs} (h : Sl m sz A n c xs) : ∀ x ∈ xs, x.length = sz := fun x hx => by
  obtain ⟨i, hi⟩ := List.mem_iff_getElem?.1 hx
  exact (h.2.2 i x hi).1
def Act9.ok (m : Hp) (a : Act9) : Prop := (-9223372036854775808 ≤ a.what ∧ a.what ≤ 9223372036854775807) ∧ (-9223372036854775808 ≤ a.at_ ∧ a.at_ ≤ 9223372036854775807) ∧ (-9223372036854775808 ≤ a.n ∧ a.n ≤ 9223372036854775807) ∧ Sl m 1 a.kE a.keep.length a.kq (bytesV a.keep) ∧ a.keep.length ≤ 9223372036854775807
theorem acts9_of {H : Type} {enc : TypeId × Value → H} {W : World} {xs : List (List Value)} (h : ∀ x ∈ xs, ∃ fuel y, DataW.trod enc Try.prog W 0 (fun _ => true) true fuel 32 x = some y) : ∃ l : List Act9, xs = actsV l ∧ ∀ a ∈ l, a.ok (hp W) :=
  rows_of (f := Act9.cells) (Q := Act9.ok (hp W)) fun x hx => by
    obtain ⟨fuel, y, h1⟩ := h x hx
    obtain ⟨hl, hf⟩ := struct_of Try.underlying32 h1
    have hc : Try.prog.cellsOf 32 = 5 := by kernel_rfl
    have c3 : Try.prog.cellsOf 3 = 1 := by kernel_rfl
    have c9 : Try.prog.cellsOf 9 = 1 := by kernel_rfl
    have c8 : Try.prog.cellsOf 5 = 1 := by kernel_rfl
    have cS : Try.prog.cellsOf 23 = 1 := by kernel_rfl
    rw [hc] at hl
    match x, hl, hf with
    | [a, b, c, d, e], _, hf =>
      obtain ⟨_, _, h0⟩ := hf 0 _ rfl
      obtain ⟨_, _, h1⟩ := hf 1 _ rfl
      obtain ⟨_, _, h2⟩ := hf 2 _ rfl
      obtain ⟨_, _, h3⟩ := hf 3 _ rfl
      obtain ⟨_, _, h4⟩ := hf 4 _ rfl
      dsimp only at h0 h1 h2 h3 h4
      rw [c3] at h0 h1 h2
      rw [c9] at h3
      rw [cS] at h4
      obtain ⟨z0, rfl, b0⟩ := i64_of Try.underlying3 h0
      obtain ⟨z1, rfl, b1⟩ := i64_of Try.underlying3 h1
      obtain ⟨z2, rfl, b2⟩ := i64_of Try.underlying3 h2
      obtain ⟨s, rfl⟩ := str_of Try.underlying9 h3
      obtain ⟨A, n, q, ys, rfl, hs, hn, hy⟩ := sl_of Try.underlying23 (by rw [c8]; decide) h4
      obtain ⟨K, rfl⟩ := bytes_of Try.underlying5 c8 (fun x hx => ⟨by have := sl_rows hs x hx; rw [c8] at this; exact this, hy x hx⟩)
      rw [c8] at hs
      have hK : K.length = n := by have := hs.1; rw [bytesV, List.length_map] at this; exact this
      subst hK
      exact ⟨⟨z0, z1, z2, s, A, q, K⟩, rfl, b0, b1, b2, hs, hn⟩

end Go.Proofs.Ytlopnfgacopkbaa
