/- Rules for walking a translated function, over heaps that are apart: for any program. -/
import Derived.Test.YtnkfapecbmmpeaaDoorFwI
set_option linter.unusedSimpArgs false
set_option linter.unusedVariables false
namespace Go.Fw
open Go
/-! ## Stores into rows, and lists mapped into cells -/
theorem getSome {α : Type} {l : List α} {j : Nat} (d : α) (h : j < l.length) : l[j]? = some (l.getD j d) := by
  rw [List.getD_eq_getElem?_getD, List.getElem?_eq_getElem h]; rfl
theorem flatten_set {xs : List (List Value)} {sz : Nat} (h : ∀ x ∈ xs, x.length = sz) : ∀ {k : Nat} {x y : List Value}, xs[k]? = some x → ∀ {off : Nat} {vs : List Value}, setAt x off vs = y → off + vs.length ≤ sz →
    setAt xs.flatten (k * sz + off) vs = (xs.set k y).flatten := by
  induction xs with
  | nil => intro k x y hx; simp at hx
  | cons a xs ih =>
    intro k x y hx off vs hy hl
    have ha := h a (.head _)
    match k with
    | 0 =>
      simp at hx; subst hx
      simp only [Nat.zero_mul, Nat.zero_add, List.flatten_cons, List.set_cons_zero]
      rw [← hy]
      unfold setAt
      rw [List.take_append_of_le_length (by omega), List.drop_append_of_le_length (by omega), List.append_assoc, List.append_assoc, List.append_assoc]
    | k + 1 =>
      have := ih (fun y hy => h y (.tail _ hy)) (k := k) (by simpa using hx) hy hl
      simp only [List.flatten_cons, List.set_cons_succ]
      rw [← this]
      have e : (k + 1) * sz + off = a.length + (k * sz + off) := by rw [ha, Nat.add_mul]; omega
      unfold setAt
      rw [e, List.take_append, List.drop_append]
      simp only [Nat.add_sub_cancel_left]
      rw [List.take_of_length_le (l := a) (by omega), List.drop_of_length_le (l := a) (by omega), show a.length + (k * sz + off) + vs.length - a.length = k * sz + off + vs.length by omega]
      simp
theorem setAt_length {l vs : List Value} {k : Nat} (h : k + vs.length ≤ l.length) : (setAt l k vs).length = l.length := by
  unfold setAt; simp; omega
theorem setAt_append {l r vs : List Value} {k : Nat} (h : k + vs.length ≤ l.length) : setAt (l ++ r) k vs = setAt l k vs ++ r := by
  unfold setAt
  rw [List.take_append_of_le_length (by omega), List.drop_append_of_le_length (by omega)]
  simp
theorem one_strs (a : List (List UInt8)) : (strsV a).all (fun x => x.all Value.oneCell') = true := by simp [strsV, Value.oneCell']
theorem maskBits (a : Int) (k : Nat) (hk : k ≤ 63) : ((BitVec.ofInt 64 a) &&& (BitVec.ofNat 64 (2^k-1))).toNat = (a % 2^k).toNat := by
  rw [BitVec.toNat_and, BitVec.toNat_ofInt, BitVec.toNat_ofNat, Nat.mod_eq_of_lt (Nat.lt_of_lt_of_le (Nat.sub_lt (Nat.two_pow_pos k) (by decide)) (Nat.pow_le_pow_right (by decide) (by omega))), Nat.and_two_pow_sub_one_eq_mod]
  have h1 : (0:Int) ≤ a % (2^64 : Nat) := Int.emod_nonneg _ (by decide)
  have h2 : (((a % (2^64 : Nat)).toNat % 2^k : Nat) : Int) = a % 2^k := by
    rw [Int.natCast_emod, Int.toNat_of_nonneg h1]
    have : ((2^k : Nat) : Int) ∣ ((2^64 : Nat) : Int) := Int.natCast_dvd_natCast.2 (Nat.pow_dvd_pow 2 (by omega))
    rw [Int.emod_emod_of_dvd _ this]; simp
  omega
/-- the lowest bits of a number, be it negative -/
theorem op_maskI {P : Program} {env : Env} {rs : List Hp} {o : Oper} {t t' x y} {a : Int} {m : Nat} (k : Nat) (ho : o.op = .binOp .and t x y t') (hx : ev env x = some (I a)) (hy : ev env y = some (I m)) (hm : m = 2 ^ k - 1) (hk : k ≤ 62) : YOp P env rs o (I (a % 2 ^ k)) := fun n ac w hk' _ => by
  have hp : (0 : Int) < 2 ^ k := Int.pow_pos (by decide)
  have h1 : 0 ≤ a % 2 ^ k := Int.emod_nonneg _ (by omega)
  have h2 : a % 2 ^ k < 2 ^ k := Int.emod_lt_of_pos _ hp
  have h3 : ((2 ^ k : Nat) : Int) ≤ 4611686018427387904 := Int.ofNat_le.2 (Nat.pow_le_pow_right (by decide) hk)
  have h4 : (2 : Int) ^ k = ((2 ^ k : Nat) : Int) := by simp
  have e := wrap64_of (n := a % 2 ^ k) ⟨by omega, by omega⟩
  have e2 : BitVec.ofInt 64 (m : Int) = BitVec.ofNat 64 (2 ^ k - 1) := by rw [ofInt_nat, hm]
  have e3 : ((BitVec.ofInt 64 a) &&& BitVec.ofInt 64 (m : Int)).toNat = (a % 2 ^ k).toNat := by rw [e2]; exact maskBits a k (by omega)
  have hrun : (Op.intBits .and .i64 a m).run P w = .ok (I (a % 2 ^ k)) w := by
    show (Result.ok (Value.int .i64 (IntKind.i64.wrap (((BitVec.ofInt 64 a) &&& BitVec.ofInt 64 (m : Int)).toNat : Int))) w : Result Value) = _
    rw [e3, Int.toNat_of_nonneg h1, e]
  simp only [execOp, ho, hk'.ev hx, hk'.ev hy]
  simp [eqGuard, binOp, hrun]
/-- numbers of a list, in cells -/
def natsV (l : List Nat) : List (List Value) := l.map fun x : Nat => [I (x : Int)]
theorem natsV_get {l : List Nat} {k : Nat} (h : k < l.length) : (natsV l)[k]? = some [I ((l.getD k 0 : Nat) : Int)] := by
  unfold natsV; rw [List.getElem?_map, List.getElem?_eq_getElem h, List.getD_eq_getElem?_getD, List.getElem?_eq_getElem h]; rfl
theorem natsV_app (a b : List Nat) : natsV (a ++ b) = natsV a ++ natsV b := by simp [natsV]
theorem one_nats (a : List Nat) : (natsV a).all (fun x => x.all Value.oneCell') = true := by simp [natsV, Value.oneCell']
/-- a literal's block is a row -/
theorem row_lit {q : Prop} {g n : Nat} {l : List Value} {e : TypeId} (xs : List (List Value)) (h1 : xs.length = n) (h2 : ∀ x ∈ xs, x.length = 1) (h3 : xs.flatten = l) : RowQ q (blk g l e) e 1 (some ⟨g, 0, none⟩) n n xs := by
  subst h3; exact row_blk h1 h2
theorem slS {g n : Nat} {e : TypeId} (ls : List (List UInt8)) (h : ls.length = n) : Sl (blk g (ls.map fun s => Str s) e) 1 (some ⟨g, 0, none⟩) n n (strsV ls) :=
  (row_lit (q := True) (strsV ls) (by simp [strsV, h]) (by simp [strsV]) (by unfold strsV; exact flatten_sing _ _)).sl
theorem slB {g n : Nat} {e : TypeId} (ls : List UInt8) (h : ls.length = n) : Sl (blk g (ls.map B8) e) 1 (some ⟨g, 0, none⟩) n n (bytesV ls) :=
  (row_lit (q := True) (bytesV ls) (by simp [bytesV, h]) (by simp [bytesV]) (by unfold bytesV; exact flatten_sing _ _)).sl
theorem slN {g n : Nat} {e : TypeId} (ls : List Nat) (h : ls.length = n) : Sl (blk g (ls.map fun x : Nat => I (x : Int)) e) 1 (some ⟨g, 0, none⟩) n n (natsV ls) :=
  (row_lit (q := True) (natsV ls) (by simp [natsV, h]) (by simp [natsV]) (by unfold natsV; exact flatten_sing _ _)).sl
section
variable {P : Program} {env : Env} {rs ms : List Hp} {o : Oper}
/-- an element of a row, or a part of it, is written -/
theorem op_storeRow {t x y g j k off e sz n' c v i m} {xs : List (List Value)} {a b : List Value} (ho : o.op = .store t x y) (hx : ev env x = some (.pointer (some ⟨g, j, none⟩))) (hy : ev env y = some v) (hi : ms[i]? = some m) (hr : Row m e sz (some ⟨g, 0, none⟩) n' c xs)
    {vs : List Value} (hv : v.cells = vs.toArray) (hz : ∀ w, (sizeOf t).run P w = .ok vs.length w) (h1 : vs.all Value.oneCell' = true) (hj : j = k * sz + off) (ha : xs[k]? = some a) (hb : setAt a off vs = b) (hl : off + vs.length ≤ sz) :
    EOp P env ms o (fun _ : Hp => undef) (fun m' => Row m' e sz (some ⟨g, 0, none⟩) n' c (xs.set k b)) (fun m' => ms.set i m') := fun n ac w0 w next Q hkn hs hn => by
  obtain ⟨h1', hsz, hnc, hcase⟩ := hr
  have hka : k < xs.length := (List.getElem?_eq_some_iff.1 ha).1
  rcases hcase with ⟨hA, _⟩ | ⟨g', rest, lo, hi', hA, hm, hlen, hf⟩
  · cases hA
  · cases hA
    have hg : w.heap[g]? = some (.cells (xs.flatten ++ rest).toArray e (lo, hi')) := hs.mem (List.mem_of_getElem? hi) g _ (by rw [hm]; exact single_self _ _)
    have hfl := length_flatten hsz
    have hb1 : k * sz + off + vs.length ≤ xs.flatten.length := by
      rw [hfl]
      have := Nat.mul_le_mul_right sz (show k + 1 ≤ xs.length by omega)
      rw [Nat.add_mul] at this; omega
    have hb2 : xs.flatten.length ≤ c * sz := by rw [hfl, h1']; exact Nat.mul_le_mul_right _ hnc
    have hst := run_storeCells_fz P g j e lo hi' vs 0 (xs.flatten ++ rest).toArray w hg (by rw [List.size_toArray, List.length_append]; omega) (by
      rcases hf with h | h | h
      · omega
      · have := h.2; omega
      · exact absurd trivial h.1) (by simpa [List.all_eq_true] using h1)
    simp only [Nat.add_zero] at hst
    have e1 : (xs.flatten ++ rest).toArray.toList.take j ++ vs ++ (xs.flatten ++ rest).toArray.toList.drop (j + vs.length) = (xs.set k b).flatten ++ rest := by
      have e2 := setAt_append (l := xs.flatten) (r := rest) (k := j) (vs := vs) (by omega)
      have e3 := flatten_set hsz ha hb hl
      rw [← hj] at e3
      rw [← e3, ← e2]; rfl
    rw [e1] at hst
    have hbl : b.length = sz := by
      rw [← hb, setAt_length (by rw [hsz a (List.mem_of_getElem? ha)]; exact hl)]; exact hsz a (List.mem_of_getElem? ha)
    have hsz' : ∀ z ∈ xs.set k b, z.length = sz := fun z hz' => by
      rcases List.mem_or_eq_of_mem_set hz' with h | h
      · exact hsz z h
      · rw [h]; exact hbl
    unfold Oper.wp
    have hrun : (execOp ac.eval o).run P w = .ok .skip (w.setRow g ((xs.set k b).flatten ++ rest).toArray) := by
      simp [execOp, ho, hkn.ev hx, hkn.ev hy, Instr.storeAt, Instr.sureAddr, storeVar, hz, hv, hst]
    rw [hrun, Oper.upon_skip]
    refine hn (single g (.cells ((xs.set k b).flatten ++ rest).toArray e (lo, hi'))) _ ?_ ?_
    · refine ⟨by simp [h1'], hsz', hnc, .inr ⟨g, rest, lo, hi', rfl, rfl, ?_, hf⟩⟩
      rw [List.length_append, length_flatten hsz', List.length_set, ← hfl, ← List.length_append]; exact hlen
    · have := hs.set hi (g := g) (o := .cells (xs.flatten ++ rest).toArray e (lo, hi')) (by rw [hm]; exact single_self _ _) (w' := w.setRow g ((xs.set k b).flatten ++ rest).toArray) (o' := .cells ((xs.set k b).flatten ++ rest).toArray e (lo, hi')) rfl rfl rfl (by simp [World.setRow]) (hp_setRow hg _)
      rw [hm, put1_single] at this
      exact this
/-- a row of elements lies at a block's beginning -/
theorem RowQ.at {q m e sz A n c xs} (h : RowQ q m e sz A n c xs) (hn : 0 < n) : ∃ g, A = some ⟨g, 0, none⟩ := by
  obtain ⟨h1, h2, h3, h4⟩ := h
  rcases h4 with ⟨_, hc, _⟩ | ⟨g, rest, lo, hi, hA, _⟩
  · omega
  · exact ⟨g, hA⟩
end
end Go.Fw
