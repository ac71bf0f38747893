/- A part of the proof: contracts of functions of the program, each for every state of the heaps that it names. -/
import Derived.Test.YtadckkaepngloaaRows
import Derived.Test.YtadckkaepngloaaFwV
import Derived.Test.YtadckkaepngloaaFwR
set_option linter.unusedSimpArgs false
set_option linter.unusedVariables false
namespace Go.Proofs.Ytadckkaepngloaa
open Go Go.Fw
set_option maxRecDepth 100000
set_option maxHeartbeats 1000000
theorem ent4 : Enters Try.prog 4 := Enters.of Try.func4 rfl (by kernel_rfl)
theorem ent5 : Enters Try.prog 5 := Enters.of Try.func5 rfl (by kernel_rfl)
theorem ent6 : Enters Try.prog 6 := Enters.of Try.func6 rfl (by kernel_rfl)
theorem ent7 : Enters Try.prog 7 := Enters.of Try.func7 rfl (by kernel_rfl)
theorem ent8 : Enters Try.prog 8 := Enters.of Try.func8 rfl (by kernel_rfl)
theorem ent9 : Enters Try.prog 9 := Enters.of Try.func9 rfl (by kernel_rfl)
theorem ent10 : Enters Try.prog 10 := Enters.of Try.func10 rfl (by kernel_rfl)
theorem ent11 : Enters Try.prog 11 := Enters.of Try.func11 rfl (by kernel_rfl)
theorem ent12 : Enters Try.prog 12 := Enters.of Try.func12 rfl (by kernel_rfl)
theorem ent13 : Enters Try.prog 13 := Enters.of Try.func13 rfl (by kernel_rfl)
theorem ent14 : Enters Try.prog 14 := Enters.of Try.func14 rfl (by kernel_rfl)
theorem ent15 : Enters Try.prog 15 := Enters.of Try.func15 rfl (by kernel_rfl)
theorem ent16 : Enters Try.prog 16 := Enters.of Try.func16 rfl (by kernel_rfl)
theorem el30 : Elem Try.prog 30 [.int .i64 0, .int .i64 0, .int .i64 0, Str []] 40 := Elem.of (by kernel_rfl) rfl

theorem mixo : Try.prog.follows .mixedOrders = true := by kernel_rfl
/-- a letter -/
structure Let where
  to : Int
  frm : Int
  kind : Int
  body : List UInt8
  deriving DecidableEq
def Let.cells (x : Let) : List Value := [I x.to, I x.frm, I x.kind, Str x.body]
def noLet : Let := ⟨0, 0, 0, []⟩
def lettersV (l : List Let) : List (List Value) := l.map Let.cells
theorem lettersV_get {l : List Let} {k : Nat} (h : k < l.length) : (lettersV l)[k]? = some (l.getD k noLet).cells := by
  unfold lettersV
  rw [List.getElem?_map, getSome noLet h]; rfl
theorem lettersV_len (l : List Let) : (lettersV l).length = l.length := by simp [lettersV]
theorem lettersV_app (a b : List Let) : lettersV (a ++ b) = lettersV a ++ lettersV b := by simp [lettersV]
theorem lettersV_one (a : List Let) : (lettersV a).all (fun x => x.all Value.oneCell') = true := one_map Let.cells (fun _ => rfl) a
theorem lettersV_take (l : List Let) (k : Nat) : (lettersV l).take k = lettersV (l.take k) := by simp [lettersV]
theorem lettersV_drop (l : List Let) (k : Nat) : (lettersV l).drop k = lettersV (l.drop k) := by simp [lettersV]
theorem lettersV_set (l : List Let) (k : Nat) (x : Let) : (lettersV l).set k x.cells = lettersV (l.set k x) := by simp [lettersV, List.map_set]
/-- the place of a number among n -/
def pl (i : Int) (n : Nat) : Nat := if n = 0 then 0 else (i % n).toNat
theorem pl_lt (i : Int) {n : Nat} (h : 0 < n) : pl i n < n := by
  unfold pl
  rw [if_neg (by omega)]
  have h1 : 0 ≤ i % (n : Int) := Int.emod_nonneg _ (by omega)
  have h2 : i % (n : Int) < n := Int.emod_lt_of_pos _ (by omega)
  omega
theorem pl_eq (i : Int) {n : Nat} (h : 0 < n) : ((pl i n : Nat) : Int) = i % n := by
  unfold pl
  rw [if_neg (by omega)]
  have h1 : 0 ≤ i % (n : Int) := Int.emod_nonneg _ (by omega)
  omega
theorem tmod_bounds (i : Int) {n : Nat} (h : 0 < n) : -(n : Int) < i.tmod n ∧ i.tmod n < n := ⟨Int.lt_tmod_of_pos _ (by omega), Int.tmod_lt_of_pos _ (by omega)⟩
theorem tmod_fix (i : Int) (n : Nat) : (i.tmod n + n) % n = i % n := by
  rw [Int.tmod_def, Int.add_emod_right, Int.sub_eq_add_neg, ← Int.mul_neg, Int.add_mul_emod_self_left]
theorem tmod_neg {i : Int} {n : Nat} (h : 0 < n) : i % n = if i.tmod n < 0 then i.tmod n + n else i.tmod n := by
  have h1 := tmod_bounds i h
  have h2 := tmod_fix i n
  rw [Int.add_emod_right] at h2
  split
  · rw [← h2, ← Int.add_emod_right, Int.emod_eq_of_lt (by omega) (by omega)]
  · rw [← h2, Int.emod_eq_of_lt (by omega) (by omega)]
/-- where the first letter to a node is -/
def findTo (node : Int) : List Let → Nat → Int
  | [], _ => -1
  | x :: r, k => if x.to = node then (k : Int) else findTo node r (k + 1)
theorem findTo_drop (node : Int) (l : List Let) (k : Nat) (h : k < l.length) : findTo node (l.drop k) k = if (l.getD k noLet).to = node then (k : Int) else findTo node (l.drop (k + 1)) (k + 1) := by
  rw [List.drop_eq_getElem_cons h, findTo, List.getD_eq_getElem?_getD, List.getElem?_eq_getElem h]; rfl
def turnB (b : List UInt8) (a : Int) (by' : UInt8) : List UInt8 := b.set (pl a b.length) (b.getD (pl a b.length) 0 ^^^ by')
def turnL (l : List Let) (i a : Int) (by' : UInt8) : List Let := l.set (pl i l.length) { l.getD (pl i l.length) noLet with body := turnB (l.getD (pl i l.length) noLet).body a by' }
/-- a bag in memory -/
def Bagged (mm : Hp) (g : Nat) (l : List Let) : Prop := ∃ A c mr, mm = U [blk g [.slice A l.length c] 42, mr] ∧ Dj (blk g [.slice A l.length c] 42) mr ∧ Row mr 30 4 A l.length c (lettersV l)
theorem Bagged.see {mm : Hp} {g : Nat} {l : List Let} (h : Bagged mm g l) : ∃ A c, Cells mm ⟨g, 0, none⟩ [.slice A l.length c] ∧ Sl mm 4 A l.length c (lettersV l) := by
  obtain ⟨A, c, mr, rfl, hd, hr⟩ := h
  exact ⟨A, c, Cells.blk0.mono (le_U2l _ _), hr.sl.mono (le_U2r hd)⟩
theorem eqLet (x y : Let) (w : World) : (Op.equalIn 10000 30 (.agg x.cells.toArray) (.agg y.cells.toArray)).run Try.prog w = .ok (decide (x = y)) w := by
  have u3 := Try.underlying3
  have a3 := Try.isAgg3
  have us := Try.underlying9
  have ag := Try.isAgg9
  have hS : Try.prog.underlying 30 = some (.struct (Try.prog.fieldsOf 30)) := by kernel_rfl
  have hp : Try.prog.stoodInHeld 30 = false := by kernel_rfl
  rw [show (10000 : Nat) = 9999 + 1 from rfl, run_equalIn_struct w 9999 30 _ _ hS hp]
  simp only [Program.fieldsOf, Try.underlying30]
  obtain ⟨a, b, c, d⟩ := x
  obtain ⟨a', b', c', d'⟩ := y
  have hi : ∀ (a b : Int) (w : World), (Op.equalIn 9999 3 (.int .i64 a) (.int .i64 b)).run Try.prog w = .ok (a == b) w := fun a b w => run_equalIn_int w 9998 3 .i64 .i64 a b u3
  have hs : ∀ (a b : List UInt8) (w : World), (Op.equalIn 9999 9 (Str a) (Str b)).run Try.prog w = .ok (decide (a = b)) w := fun a b w => by rw [run_equalIn_string w 9998 9 _ _ us, bytes_beq]
  simp only [Let.cells, Op.eqFields]
  simp [part, a3, ag, hi, hs]
  by_cases h1 : a = a' <;> by_cases h2 : b = b' <;> by_cases h3 : c = c' <;> by_cases h4 : d = d' <;> simp [h1, h2, h3, h4]

theorem bytesV_set (l : List UInt8) (k : Nat) (b : UInt8) : bytesV (l.set k b) = (bytesV l).set k [B8 b] := by simp [bytesV, List.map_set]

theorem op_slice3L {P : Program} {env : Env} {rs : List Hp} {o : Oper} {t e x p q r sz A n' c l h m} (ho : o.op = .slice t x (some p) (some q) (some r)) (hx : ev env x = some (.slice A n' c)) (hu : P.underlying t = some (.slice e)) (hz : ∀ w, (sizeOf e).run P w = .ok sz w)
    (hlo : ev env p = some (I ((l : Nat) : Int))) (hhi : ev env q = some (I ((h : Nat) : Int))) (hmx : ev env r = some (I ((m : Nat) : Int))) (hr : l ≤ h ∧ h ≤ m ∧ m ≤ c) : YOp P env rs o (.slice (if m = l then A else A.map (·.add (l * sz))) (h - l) (m - l)) := fun n a w hk _ => by
  simp [execOp, ho, hk.ev hx, hk.ev hlo, hk.ev hhi, hk.ev hmx, Instr.sliceAt, Instr.slice, run_underlying hu, Instr.sliceBounds, Instr.sliceBound, asIntOf, hr.1, hr.2.1, hr.2.2, hz]

theorem len_ct (F : Hp) (g n : Nat) (A : Option Addr) (c : Nat) (hc : Cells F ⟨g, 0, none⟩ [.slice A n c]) :
    Ct Try.prog 12 [Ptr g] [F] (fun _ : Unit => I n) (fun _ => True) (fun _ => [F]) := by
  refine Ct.walk Try.func12 rfl Try.ntmps12 rfl (fun w0 => ?_)
  change J _ [(0, _)] _ _ _
  refine J.seq (fun K1 hK1 => ?_)
  refine J.region ?_
  refine J.y (op_assign rfl rfl) rfl rfl rfl ?_
  refine J.nil ?_
  refine J.then_n (J.k hK1 ?_)
  refine J.keepE [(0, _)] ⟨rfl, trivial⟩ ?_
  refine J.seq (fun K2 hK2 => ?_)
  refine J.seq (fun K3 hK3 => ?_)
  refine J.region ?_
  refine J.y (op_move rfl rfl) rfl rfl rfl ?_
  refine J.y ((op_peq Try.underlying24 rfl rfl rfl).as (v' := .bool false) rfl) rfl rfl rfl ?_
  refine J.nil ?_
  refine J.then_n (J.k hK3 ?_)
  refine J.keepE [(0, _), (4, _)] ⟨rfl, rfl, trivial⟩ ?_
  refine J.condF rfl rfl ?_
  refine J.skip ?_
  refine J.then_n (J.k hK2 ?_)
  refine J.keepE [(0, _)] ⟨rfl, trivial⟩ ?_
  refine J.seq (fun K4 hK4 => ?_)
  refine J.region ?_
  refine J.y (op_move rfl rfl) rfl rfl rfl ?_
  refine J.y (op_nilCheck rfl rfl) rfl rfl rfl ?_
  refine J.y (op_fieldAddr (j := 0) rfl rfl Try.underlying42 rfl Try.sizeOf26 rfl) rfl rfl rfl ?_
  refine J.y (op_load rfl rfl Try.isAgg26 (m := F) (by simp) (hc)) rfl rfl rfl ?_
  refine J.y (op_len Try.underlying26 rfl rfl) rfl rfl rfl ?_
  refine J.y (op_assign rfl rfl) rfl rfl rfl ?_
  refine J.nil ?_
  refine J.then_n (J.k hK4 ?_)
  refine J.keepE [(2, _)] ⟨rfl, trivial⟩ ?_
  refine J.ret ?_
  exact J.done (fun _ _ h => h) (res1 rfl rfl) (retOk () rfl trivial [0] rfl (by decide))

theorem place_ct (F : Hp) (i : Int) (n : Nat) (hi : -9223372036854775808 ≤ i ∧ i ≤ 9223372036854775807) (hn : n ≤ 4611686018427387904) :
    Ct Try.prog 13 [I i, I n] [F] (fun _ : Unit => .tuple #[I ((pl i n : Nat) : Int), .bool (decide (0 < n))]) (fun _ => True) (fun _ => [F]) := by
  refine Ct.walk Try.func13 rfl Try.ntmps13 rfl (fun w0 => ?_)
  change J _ [(0, _), (1, _)] _ _ _
  refine J.seq (fun K1 hK1 => ?_)
  refine J.region ?_
  refine J.y (op_assign rfl rfl) rfl rfl rfl ?_
  refine J.y (op_assign rfl rfl) rfl rfl rfl ?_
  refine J.nil ?_
  refine J.then_n (J.k hK1 ?_)
  refine J.keepE [(0, _), (1, _)] ⟨rfl, rfl, trivial⟩ ?_
  refine J.seq (fun K2 hK2 => ?_)
  refine J.seq (fun K3 hK3 => ?_)
  refine J.region ?_
  refine J.y (op_move rfl rfl) rfl rfl rfl ?_
  refine J.y (op_eql rfl rfl rfl) rfl rfl rfl ?_
  refine J.nil ?_
  refine J.then_n (J.k hK3 ?_)
  refine J.keepE [(0, _), (1, _), (7, _)] ⟨rfl, rfl, rfl, trivial⟩ ?_
  refine J.ite rfl (fun h7 => ?_) (fun h7 => ?_)
  ·
    refine J.seq (fun K4 hK4 => ?_)
    refine J.region ?_
    refine J.y (op_assign rfl rfl) rfl rfl rfl ?_
    refine J.y (op_assign rfl rfl) rfl rfl rfl ?_
    refine J.nil ?_
    refine J.then_n (J.k hK4 ?_)
    refine J.keepE [(4, _), (5, _)] ⟨rfl, rfl, trivial⟩ ?_
    refine J.ret ?_
    refine J.then_r ?_
    exact J.done (fun _ _ h => h) (res2 rfl rfl rfl) (retOk () (by rw [show n = 0 by omega]; rfl) trivial [0] rfl (by decide))
  ·
    refine J.skip ?_
    refine J.then_n (J.k hK2 ?_)
    refine J.keepE [(0, _), (1, _)] ⟨rfl, rfl, trivial⟩ ?_
    refine J.seq (fun K5 hK5 => ?_)
    have hpos : 0 < n := by omega
    have htb := tmod_bounds i hpos
    refine J.region ?_
    refine J.y (op_move rfl rfl) rfl rfl rfl ?_
    refine J.y (op_move rfl rfl) rfl rfl rfl ?_
    refine J.y (op_remT rfl rfl rfl (by omega)) rfl rfl rfl ?_
    refine J.y (op_move rfl rfl) rfl rfl rfl ?_
    refine J.y (op_add rfl rfl rfl (by omega)) rfl rfl rfl ?_
    refine J.y (op_move rfl rfl) rfl rfl rfl ?_
    refine J.y ((op_rem rfl rfl rfl (by omega)).as (v' := I ((pl i n : Nat) : Int)) (congrArg I (by rw [pl_eq i hpos, tmod_fix]))) rfl rfl rfl ?_
    refine J.y (op_assign rfl rfl) rfl rfl rfl ?_
    refine J.y (op_assign rfl rfl) rfl rfl rfl ?_
    refine J.nil ?_
    refine J.then_n (J.k hK5 ?_)
    refine J.keepE [(4, _), (5, _)] ⟨rfl, rfl, trivial⟩ ?_
    refine J.ret ?_
    exact J.done (fun _ _ h => h) (res2 rfl rfl rfl) (retOk () (by rw [decide_eq_true hpos]) trivial [0] rfl (by decide))

theorem place27_ct (F : Hp) (i : Int) (n : Nat) (hi : -9223372036854775808 ≤ i ∧ i ≤ 9223372036854775807) (hpos : 0 < n) (hn : n ≤ 4611686018427387904) :
    Ct Try.prog 7 [I i, I n] [F] (fun _ : Unit => I ((pl i n : Nat) : Int)) (fun _ => True) (fun _ => [F]) := by
  have htb := tmod_bounds i hpos
  have htn := tmod_neg (i := i) hpos
  refine Ct.walk Try.func7 rfl Try.ntmps7 rfl (fun w0 => ?_)
  change J _ [(0, _), (1, _)] _ _ _
  refine J.seq (fun K1 hK1 => ?_)
  refine J.region ?_
  refine J.y (op_assign rfl rfl) rfl rfl rfl ?_
  refine J.nil ?_
  refine J.then_n (J.k hK1 ?_)
  refine J.keepE [(0, _), (1, _)] ⟨rfl, rfl, trivial⟩ ?_
  refine J.seq (fun K2 hK2 => ?_)
  refine J.region ?_
  refine J.y (op_move rfl rfl) rfl rfl rfl ?_
  refine J.y (op_move rfl rfl) rfl rfl rfl ?_
  refine J.y (op_remT rfl rfl rfl (by omega)) rfl rfl rfl ?_
  refine J.y (op_assign rfl rfl) rfl rfl rfl ?_
  refine J.nil ?_
  refine J.then_n (J.k hK2 ?_)
  refine J.keepE [(1, _), (5, _)] ⟨rfl, rfl, trivial⟩ ?_
  refine J.seq (fun K3 hK3 => ?_)
  refine J.seq (fun K4 hK4 => ?_)
  refine J.region ?_
  refine J.y (op_move rfl rfl) rfl rfl rfl ?_
  refine J.y (op_lss rfl rfl rfl) rfl rfl rfl ?_
  refine J.nil ?_
  refine J.then_n (J.k hK4 ?_)
  refine J.keepE [(1, _), (5, _), (10, _)] ⟨rfl, rfl, rfl, trivial⟩ ?_
  refine J.ite rfl (fun h10 => ?_) (fun h10 => ?_)
  ·
    refine J.region ?_
    refine J.y (op_move rfl rfl) rfl rfl rfl ?_
    refine J.y (op_move rfl rfl) rfl rfl rfl ?_
    refine J.y (op_add rfl rfl rfl (by omega)) rfl rfl rfl ?_
    refine J.y (op_assign rfl rfl) rfl rfl rfl ?_
    refine J.nil ?_
    refine J.then_n (J.k hK3 ?_)
    refine J.keepE [(5, _)] ⟨rfl, trivial⟩ ?_
    refine J.seq (fun K5 hK5 => ?_)
    refine J.region ?_
    refine J.y (op_move rfl rfl) rfl rfl rfl ?_
    refine J.y (op_assign rfl rfl) rfl rfl rfl ?_
    refine J.nil ?_
    refine J.then_n (J.k hK5 ?_)
    refine J.keepE [(4, _)] ⟨rfl, trivial⟩ ?_
    refine J.ret ?_
    exact J.done (fun _ _ h => h) (res1 rfl rfl) (retOk () (by rw [pl_eq i hpos, htn, if_pos h10]) trivial [0] rfl (by decide))
  ·
    refine J.skip ?_
    refine J.then_n (J.k hK3 ?_)
    refine J.keepE [(5, _)] ⟨rfl, trivial⟩ ?_
    refine J.seq (fun K6 hK6 => ?_)
    refine J.region ?_
    refine J.y (op_move rfl rfl) rfl rfl rfl ?_
    refine J.y (op_assign rfl rfl) rfl rfl rfl ?_
    refine J.nil ?_
    refine J.then_n (J.k hK6 ?_)
    refine J.keepE [(4, _)] ⟨rfl, trivial⟩ ?_
    refine J.ret ?_
    exact J.done (fun _ _ h => h) (res1 rfl rfl) (retOk () (by rw [pl_eq i hpos, htn, if_neg h10]) trivial [0] rfl (by decide))

theorem new_ct (F : Hp) : Ct Try.prog 5 [] [F] (fun x : Nat × Hp => Ptr x.1) (fun x => Bagged x.2 x.1 []) (fun x => [x.2, F]) := by
  refine Ct.walk Try.func5 rfl Try.ntmps5 rfl (fun w0 => ?_)
  change J _ [] _ _ _
  refine J.seq (fun K1 hK1 => ?_)
  refine J.region ?_
  refine J.y (op_assign rfl rfl) rfl rfl rfl ?_
  refine J.nil ?_
  refine J.then_n (J.k hK1 ?_)
  refine J.keepE [] trivial ?_
  refine J.seq (fun K2 hK2 => ?_)
  refine J.region ?_
  refine J.y (op_buildStruct (l := []) (vs := []) (places := [(0, 1)]) (r := [.slice none 0 0]) rfl rfl rfl Try.underlying42 Try.zeroValue42 (fun _ => by kernel_rfl) rfl) rfl rfl rfl ?_
  refine J.e (op_box rfl rfl rfl) rfl rfl rfl ?_
  intro g2 _
  change J _ _ _ [F, blk g2 _ 42] _
  refine J.addEmpty [1, 2, 0] [blk g2 [.slice none 0 0] 42, (fun _ => none), F] rfl (by decide) ?_
  refine J.y (op_assign rfl rfl) rfl rfl rfl ?_
  refine J.nil ?_
  refine J.then_n (J.k hK2 ?_)
  refine J.keepE [(0, _)] ⟨rfl, trivial⟩ ?_
  refine J.ret ?_
  exact J.done (fun _ _ h => h) (res1 rfl rfl) (retOkU (g2, U [blk g2 [.slice none 0 0] 42, fun _ => none]) rfl (fun hd => ⟨none, 0, fun _ => none, rfl, hd, RowQ.nil⟩) [0, 1, 2] rfl rfl (by decide))

theorem put_ct (F mm : Hp) (g : Nat) (l : List Let) (hb : Bagged mm g l) (x : Let) (hl : l.length ≤ 1073741824) :
    Ct Try.prog 11 [Ptr g, .agg x.cells.toArray] [mm, F] (fun _ : Hp => .bool (decide (l.length < 256))) (fun m => Bagged m g (if l.length < 256 then l ++ [x] else l)) (fun m => [m, F]) := by
  obtain ⟨A, c, mr, rfl, hd, hr⟩ := hb
  refine Ct.walk Try.func11 rfl Try.ntmps11 rfl (fun w0 => ?_)
  change J _ [(0, _), (1, _)] _ _ _
  refine J.splitU hd ?_
  refine J.seq (fun K1 hK1 => ?_)
  refine J.region ?_
  refine J.e (op_box rfl rfl rfl) rfl rfl rfl ?_
  intro g3 _
  change J _ _ _ [blk g [.slice A l.length c] 42, mr, F, blk g3 x.cells 30] _
  refine J.y (op_assign rfl rfl) rfl rfl rfl ?_
  refine J.nil ?_
  refine J.then_n (J.k hK1 ?_)
  refine J.keepE [(0, _), (3, _)] ⟨rfl, rfl, trivial⟩ ?_
  refine J.seq (fun K2 hK2 => ?_)
  refine J.seq (fun K3 hK3 => ?_)
  refine J.region ?_
  refine J.y (op_move rfl rfl) rfl rfl rfl ?_
  refine J.y (op_peq Try.underlying24 rfl rfl rfl) rfl rfl rfl ?_
  refine J.y (op_move rfl rfl) rfl rfl rfl ?_
  refine J.yg (Wan.is rfl rfl rfl rfl rfl) (op_move rfl rfl) rfl rfl ?_
  refine J.yg (Wan.is rfl rfl rfl rfl rfl) (op_nilCheck rfl rfl) rfl rfl ?_
  refine J.yg (Wan.is rfl rfl rfl rfl rfl) (op_fieldAddr (j := 0) rfl rfl Try.underlying42 rfl Try.sizeOf26 rfl) rfl rfl ?_
  refine J.yg (Wan.is rfl rfl rfl rfl rfl) (op_loadB 0 rfl rfl rfl Try.isAgg26 rfl) rfl rfl ?_
  refine J.yg (Wan.is rfl rfl rfl rfl rfl) (op_len Try.underlying26 rfl rfl) rfl rfl ?_
  refine J.yg (Wan.is rfl rfl rfl rfl rfl) (op_geq rfl rfl rfl) rfl rfl ?_
  refine J.y (op_pickF rfl rfl rfl) rfl rfl rfl ?_
  refine J.nil ?_
  refine J.then_n (J.k hK3 ?_)
  refine J.keepE [(0, _), (3, _), (14, _)] ⟨rfl, rfl, rfl, trivial⟩ ?_
  refine J.ite rfl (fun h14 => ?_) (fun h14 => ?_)
  ·
    refine J.seq (fun K4 hK4 => ?_)
    refine J.region ?_
    refine J.y (op_assign rfl rfl) rfl rfl rfl ?_
    refine J.nil ?_
    refine J.then_n (J.k hK4 ?_)
    refine J.keepE [(4, _)] ⟨rfl, trivial⟩ ?_
    refine J.ret ?_
    refine J.then_r ?_
    exact J.done (fun _ _ h => h) (res1 rfl rfl) (retOkU (U [blk g [.slice A l.length c] 42, mr]) (congrArg Value.bool (decide_eq_false (by omega)).symm) (fun hd => by rw [if_neg (by omega)]; exact ⟨A, c, mr, rfl, hd, hr⟩) [0, 1, 2] rfl rfl (by decide))
  ·
    refine J.skip ?_
    refine J.then_n (J.k hK2 ?_)
    refine J.keepE [(0, _), (3, _)] ⟨rfl, rfl, trivial⟩ ?_
    refine J.seq (fun K5 hK5 => ?_)
    refine J.draw [blk g [.slice A l.length c] 42, blk g3 x.cells 30] [10] (.y 0 (.y 1 (.y 2 (.y 3 (.y 4 (.y 5 (.e 6 (.e 7 (.y 8 (.y 9 (.e 10 .nil))))))))))) mixo (by decide +kernel) (by simp) ?_
    refine J.dy rfl (op_move rfl rfl) rfl rfl rfl rfl ?_
    refine J.dy rfl (op_move rfl rfl) rfl rfl rfl rfl ?_
    refine J.dy rfl (op_nilCheck rfl rfl) rfl rfl rfl rfl ?_
    refine J.dy rfl (op_fieldAddr (j := 0) rfl rfl Try.underlying42 rfl Try.sizeOf26 rfl) rfl rfl rfl rfl ?_
    refine J.dy rfl (op_loadB 0 rfl rfl rfl Try.isAgg26 rfl) rfl rfl rfl rfl ?_
    refine J.dy rfl (op_loadBA 1 rfl rfl rfl Try.isAgg30 Try.sizeOf30 rfl) rfl rfl rfl rfl ?_
    refine J.de rfl (op_buildSlice (l := [.tmp 20]) (xs := [x.cells]) rfl rfl rfl rfl Try.underlying26 el30 rfl (by decide) (by decide) (by simp [Let.cells])) rfl rfl rfl (by simp) ?_
    intro g21 _
    change J _ _ _ [blk g [.slice A l.length c] 42, mr, F, blk g3 x.cells 30, blk g21 x.cells 30] _
    refine J.de rfl (op_append (i := 1) (m2 := blk g21 x.cells 30) (ys := [x.cells]) rfl rfl rfl Try.underlying26 Try.underlying26 el30 rfl hr (by simp) ((row_blk (q := True) (xs := [x.cells]) rfl (by simp [Let.cells])).sl) rfl (by omega) (by omega)) rfl rfl rfl (by simp) ?_
    rintro ⟨A22, c22, m22⟩ h22
    try dsimp only at h22
    change J _ ((22, .slice A22 (l.length + 1) c22) :: _) _ [blk g [.slice A l.length c] 42, m22, F, blk g3 x.cells 30, blk g21 x.cells 30] _
    refine J.dy rfl (op_nilCheck rfl rfl) rfl rfl rfl rfl ?_
    refine J.dy rfl (op_fieldAddr (j := 0) rfl rfl Try.underlying42 rfl Try.sizeOf26 rfl) rfl rfl rfl rfl ?_
    refine J.ds rfl (op_store (i := 0) (vs := [.slice A22 (l.length + 1) c22]) rfl rfl rfl rfl rfl Try.sizeOf26 rfl (by first | decide | exact Nat.le_refl _ | (simp only [List.length_cons, List.length_nil]; omega))) rfl rfl rfl (fun _ _ => ?_)
    change J _ _ _ [blk g [.slice A22 (l.length + 1) c22] 42, m22, F, blk g3 x.cells 30, blk g21 x.cells 30] _
    refine J.dnil ?_
    refine J.then_n (J.k hK5 ?_)
    refine J.keepE [] trivial ?_
    refine J.seq (fun K6 hK6 => ?_)
    refine J.region ?_
    refine J.y (op_assign rfl rfl) rfl rfl rfl ?_
    refine J.nil ?_
    refine J.then_n (J.k hK6 ?_)
    refine J.keepE [(4, _)] ⟨rfl, trivial⟩ ?_
    refine J.ret ?_
    exact J.done (fun _ _ h => h) (res1 rfl rfl) (retOkU (U [blk g [.slice A22 (l.length + 1) c22] 42, m22]) (congrArg Value.bool (decide_eq_true (by omega)).symm) (fun hd => by rw [if_pos (by omega)]; exact ⟨A22, c22, m22, by rw [List.length_append]; rfl, by rw [List.length_append]; exact hd, by rw [lettersV_app, List.length_append]; exact h22⟩) [0, 1, 2] rfl rfl (by decide))

theorem delete_ct (F m : Hp) (A : Option Addr) (n c : Nat) (l : List Let) (hl : l.length = n) (hr : Row m 30 4 A n c (lettersV l)) (i j : Nat) (hij : i < j) (hj : j ≤ n) (hn : n ≤ 1073741824) :
    Ct Try.prog 14 [.slice A n c, I i, I j] [m, F] (fun _ : Hp => .slice A (i + (n - j)) c) (fun m' => Row m' 30 4 A (i + (n - j)) c (lettersV (l.take i ++ l.drop j))) (fun m' => [m', F]) := by
  obtain ⟨ga, rfl⟩ := hr.at (by omega)
  have hnc := hr.2.2.1
  refine Ct.walk Try.func14 rfl Try.ntmps14 rfl (fun w0 => ?_)
  change J _ [(0, _), (1, _), (2, _)] _ _ _
  refine J.seq (fun K1 hK1 => ?_)
  refine J.region ?_
  refine J.y (op_assign rfl rfl) rfl rfl rfl ?_
  refine J.nil ?_
  refine J.then_n (J.k hK1 ?_)
  refine J.keepE [(0, _), (1, _), (2, _)] ⟨rfl, rfl, rfl, trivial⟩ ?_
  refine J.seq (fun K2 hK2 => ?_)
  refine J.region ?_
  refine J.y (op_move rfl rfl) rfl rfl rfl ?_
  refine J.y (op_move rfl rfl) rfl rfl rfl ?_
  refine J.y (op_move rfl rfl) rfl rfl rfl ?_
  refine J.y (op_move rfl rfl) rfl rfl rfl ?_
  refine J.y (op_len Try.underlying26 rfl rfl) rfl rfl rfl ?_
  refine J.y (op_slice3L (l := i) (h := j) (m := n) rfl rfl Try.underlying26 Try.sizeOf30 rfl rfl rfl (by omega)) rfl rfl rfl ?_
  refine J.nil ?_
  refine J.then_n (J.k hK2 ?_)
  refine J.keepE [(0, _), (1, _), (2, _)] ⟨rfl, rfl, rfl, trivial⟩ ?_
  refine J.seq (fun K3 hK3 => ?_)
  refine J.seq (fun K4 hK4 => ?_)
  refine J.region ?_
  refine J.y (op_move rfl rfl) rfl rfl rfl ?_
  refine J.y (op_move rfl rfl) rfl rfl rfl ?_
  refine J.y ((op_eql rfl rfl rfl).as (v' := .bool false) (congrArg Value.bool (decide_eq_false (by omega)))) rfl rfl rfl ?_
  refine J.nil ?_
  refine J.then_n (J.k hK4 ?_)
  refine J.keepE [(0, _), (1, _), (2, _), (16, _)] ⟨rfl, rfl, rfl, rfl, trivial⟩ ?_
  refine J.condF rfl rfl ?_
  refine J.skip ?_
  refine J.then_n (J.k hK3 ?_)
  refine J.keepE [(0, _), (1, _), (2, _)] ⟨rfl, rfl, rfl, trivial⟩ ?_
  refine J.seq (fun K5 hK5 => ?_)
  refine J.region ?_
  refine J.y (op_move rfl rfl) rfl rfl rfl ?_
  refine J.y (op_len Try.underlying26 rfl rfl) rfl rfl rfl ?_
  refine J.y (op_assign rfl rfl) rfl rfl rfl ?_
  refine J.nil ?_
  refine J.then_n (J.k hK5 ?_)
  refine J.keepE [(0, _), (1, _), (2, _), (7, _)] ⟨rfl, rfl, rfl, rfl, trivial⟩ ?_
  refine J.seq (fun K6 hK6 => ?_)
  refine J.draw [F] [] (.y 0 (.y 1 (.y 2 (.y 3 (.y 4 (.y 5 (.e 6 (.y 7 .nil)))))))) mixo (by decide +kernel) (by simp) ?_
  refine J.dy rfl (op_move rfl rfl) rfl rfl rfl rfl ?_
  refine J.dy rfl (op_move rfl rfl) rfl rfl rfl rfl ?_
  refine J.dy rfl (op_sliceTo (h := i) rfl rfl Try.underlying26 Try.sizeOf30 rfl (by omega)) rfl rfl rfl rfl ?_
  refine J.dy rfl (op_move rfl rfl) rfl rfl rfl rfl ?_
  refine J.dy rfl (op_move rfl rfl) rfl rfl rfl rfl ?_
  refine J.dy rfl (op_slice (l := j) (h := n) rfl rfl Try.underlying26 Try.sizeOf30 rfl rfl (by omega)) rfl rfl rfl rfl ?_
  refine J.de rfl (op_appendIn (i := 0) (m2 := m) (xs := (lettersV l).take i) (ys := ((lettersV l).take n).drop j) rfl rfl rfl Try.underlying26 Try.underlying26 el30 rfl (hr.shrink (by omega)) (by simp) (hr.sl.cut (by omega) (Nat.le_refl _) (by omega)) (by rw [List.take_of_length_le (by rw [lettersV_len]; omega), lettersV_drop]; exact lettersV_one _) (by omega) (by omega) (by omega)) rfl rfl rfl (by simp) ?_
  rintro m26 h26
  change J _ _ _ [m26, F] _
  refine J.dy rfl (op_assign rfl rfl) rfl rfl rfl rfl ?_
  refine J.dnil ?_
  refine J.then_n (J.k hK6 ?_)
  refine J.keepE [(0, _), (7, _)] ⟨rfl, rfl, trivial⟩ ?_
  refine J.seq (fun K7 hK7 => ?_)
  refine J.region ?_
  refine J.y (op_move rfl rfl) rfl rfl rfl ?_
  refine J.y (op_move rfl rfl) rfl rfl rfl ?_
  refine J.y (op_len Try.underlying26 rfl rfl) rfl rfl rfl ?_
  refine J.y (op_move rfl rfl) rfl rfl rfl ?_
  refine J.y (op_slice (l := i + (n - j)) (h := n) rfl rfl Try.underlying26 Try.sizeOf30 rfl rfl (by omega)) rfl rfl rfl ?_
  refine J.s (op_clearSpare (i := 0) (l := i + (n - j)) (h := n) rfl rfl (by split <;> simp [Addr.add_lit]) Try.underlying26 el30 rfl rfl rfl h26 rfl (by omega) (by omega)) rfl rfl ?_
  rintro m31 h31
  change J _ _ _ [m31, F] _
  refine J.nil ?_
  refine J.then_n (J.k hK7 ?_)
  refine J.keepE [(0, _)] ⟨rfl, trivial⟩ ?_
  refine J.seq (fun K8 hK8 => ?_)
  refine J.region ?_
  refine J.y (op_move rfl rfl) rfl rfl rfl ?_
  refine J.y (op_assign rfl rfl) rfl rfl rfl ?_
  refine J.nil ?_
  refine J.then_n (J.k hK8 ?_)
  refine J.keepE [(6, _)] ⟨rfl, trivial⟩ ?_
  refine J.ret ?_
  exact J.done (fun _ _ h => h) (res1 rfl rfl) (retOk m31 rfl (by rw [lettersV_app, ← lettersV_take, ← lettersV_drop]; rw [show (lettersV l).take n = lettersV l from List.take_of_length_le (by rw [lettersV_len]; omega)] at h31; exact h31) [0, 1] rfl (by decide))

theorem take_ct (F mm : Hp) (g : Nat) (l : List Let) (hb : Bagged mm g l) (i : Int) (hi : -9223372036854775808 ≤ i ∧ i ≤ 9223372036854775807) (hl : l.length ≤ 1073741824) :
    Ct Try.prog 6 [Ptr g, I i] [mm, F] (fun _ : Hp => .tuple #[.agg (if 0 < l.length then l.getD (pl i l.length) noLet else noLet).cells.toArray, .bool (decide (0 < l.length))]) (fun m => Bagged m g (if 0 < l.length then l.take (pl i l.length) ++ l.drop (pl i l.length + 1) else l)) (fun m => [m, F]) := by
  obtain ⟨A, c, mr, rfl, hd, hr⟩ := hb
  have hnc := hr.2.2.1
  refine Ct.walk Try.func6 rfl Try.ntmps6 rfl (fun w0 => ?_)
  change J _ [(0, _), (1, _)] _ _ _
  refine J.splitU hd ?_
  refine J.seq (fun K1 hK1 => ?_)
  refine J.region ?_
  refine J.e (op_alloc rfl Try.zeroValue30 rfl) rfl rfl rfl ?_
  intro g4 _
  change J _ _ _ [blk g [.slice A l.length c] 42, mr, F, blk g4 _ 30] _
  refine J.y (op_assign rfl rfl) rfl rfl rfl ?_
  refine J.nil ?_
  refine J.then_n (J.k hK1 ?_)
  refine J.keepE [(0, _), (1, _), (4, _)] ⟨rfl, rfl, rfl, trivial⟩ ?_
  refine J.seq (fun K2 hK2 => ?_)
  refine J.region ?_
  refine J.y (op_move rfl rfl) rfl rfl rfl ?_
  refine J.y (op_move rfl rfl) rfl rfl rfl ?_
  refine J.e (op_call rfl rfl ent12 (Ct.use0 (fun F' hF => len_ct F' g l.length A c (Cells.blk0.mono (hF (blk g [.slice A l.length c] 42) (by simp)))))) rfl rfl rfl ?_
  intro g12 _
  refine J.e (op_call rfl rfl ent13 (Ct.use0 (fun F' hF => place_ct F' i l.length hi (by omega)))) rfl rfl rfl ?_
  intro g13 _
  refine J.y (op_move rfl rfl) rfl rfl rfl ?_
  refine J.y (op_extract rfl rfl rfl) rfl rfl rfl ?_
  refine J.y (op_extract rfl rfl rfl) rfl rfl rfl ?_
  refine J.y (op_assign rfl rfl) rfl rfl rfl ?_
  refine J.y (op_assign rfl rfl) rfl rfl rfl ?_
  refine J.nil ?_
  refine J.then_n (J.k hK2 ?_)
  refine J.keepE [(0, _), (4, _), (6, _), (7, _)] ⟨rfl, rfl, rfl, rfl, trivial⟩ ?_
  refine J.seq (fun K3 hK3 => ?_)
  refine J.seq (fun K4 hK4 => ?_)
  refine J.region ?_
  refine J.y (op_move rfl rfl) rfl rfl rfl ?_
  refine J.y (op_notD rfl rfl) rfl rfl rfl ?_
  refine J.nil ?_
  refine J.then_n (J.k hK4 ?_)
  refine J.keepE [(0, _), (4, _), (6, _), (17, _)] ⟨rfl, rfl, rfl, rfl, trivial⟩ ?_
  refine J.ite rfl (fun h17 => ?_) (fun h17 => ?_)
  ·
    refine J.seq (fun K5 hK5 => ?_)
    refine J.region ?_
    refine J.y (op_buildStruct (l := []) (vs := []) (places := [(0, 1), (1, 1), (2, 1), (3, 1)]) (r := noLet.cells) rfl rfl rfl Try.underlying30 Try.zeroValue30 (fun _ => by kernel_rfl) rfl) rfl rfl rfl ?_
    refine J.s (op_storeAll (l := [I 0, I 0, I 0, Str []]) (i := 3) (vs := noLet.cells) rfl rfl rfl rfl rfl Try.sizeOf30 rfl rfl) rfl rfl (fun _ _ => ?_)
    change J _ _ _ [blk g [.slice A l.length c] 42, mr, F, blk g4 noLet.cells 30] _
    refine J.y (op_assign rfl rfl) rfl rfl rfl ?_
    refine J.nil ?_
    refine J.then_n (J.k hK5 ?_)
    refine J.keepE [(4, _), (5, _)] ⟨rfl, rfl, trivial⟩ ?_
    refine J.ret ?_
    refine J.then_r ?_
    exact J.done (fun _ _ h => h) (rv2 rfl (RV.blkA 3 rfl rfl Try.isAgg30 Try.sizeOf30) rfl) (retOkU (U [blk g [.slice A l.length c] 42, mr]) (by rw [if_neg (by omega), decide_eq_false (by omega)]) (fun hd => by rw [if_neg (by omega)]; exact ⟨A, c, mr, rfl, hd, hr⟩) [0, 1, 2] rfl rfl (by decide))
  ·
    refine J.skip ?_
    refine J.then_n (J.k hK3 ?_)
    refine J.keepE [(0, _), (4, _), (6, _)] ⟨rfl, rfl, rfl, trivial⟩ ?_
    refine J.seq (fun K6 hK6 => ?_)
    have hpos : 0 < l.length := by omega
    have hpl := pl_lt i hpos
    refine J.region ?_
    refine J.y (op_move rfl rfl) rfl rfl rfl ?_
    refine J.y (op_nilCheck rfl rfl) rfl rfl rfl ?_
    refine J.y (op_fieldAddr (j := 0) rfl rfl Try.underlying42 rfl Try.sizeOf26 rfl) rfl rfl rfl ?_
    refine J.y (op_loadB 0 rfl rfl rfl Try.isAgg26 rfl) rfl rfl rfl ?_
    refine J.y (op_move rfl rfl) rfl rfl rfl ?_
    refine J.y (op_indexAddr (i := (pl i l.length)) rfl rfl rfl Try.underlying26 Try.sizeOf30 hr.sl (by omega)) rfl rfl rfl ?_
    refine J.y (op_loadA rfl rfl Try.isAgg30 Try.sizeOf30 (m := mr) (by simp) (hr.sl.elem (lettersV_get (by omega))) rfl) rfl rfl rfl ?_
    refine J.e (op_alloc rfl Try.zeroValue30 rfl) rfl rfl rfl ?_
    intro g8 _
    change J _ _ _ [blk g [.slice A l.length c] 42, mr, F, blk g4 _ 30, blk g8 _ 30] _
    refine J.s (op_storeAll (l := [I 0, I 0, I 0, Str []]) (i := 4) (vs := (l.getD (pl i l.length) noLet).cells) rfl rfl rfl rfl rfl Try.sizeOf30 rfl rfl) rfl rfl (fun _ _ => ?_)
    change J _ _ _ [blk g [.slice A l.length c] 42, mr, F, blk g4 [I 0, I 0, I 0, Str []] 30, blk g8 (l.getD (pl i l.length) noLet).cells 30] _
    refine J.nil ?_
    refine J.then_n (J.k hK6 ?_)
    refine J.keepE [(0, _), (4, _), (6, _), (8, _)] ⟨rfl, rfl, rfl, rfl, trivial⟩ ?_
    refine J.seq (fun K7 hK7 => ?_)
    refine J.region ?_
    refine J.y (op_move rfl rfl) rfl rfl rfl ?_
    refine J.y (op_move rfl rfl) rfl rfl rfl ?_
    refine J.y (op_nilCheck rfl rfl) rfl rfl rfl ?_
    refine J.y (op_fieldAddr (j := 0) rfl rfl Try.underlying42 rfl Try.sizeOf26 rfl) rfl rfl rfl ?_
    refine J.y (op_loadB 0 rfl rfl rfl Try.isAgg26 rfl) rfl rfl rfl ?_
    refine J.y (op_move rfl rfl) rfl rfl rfl ?_
    refine J.y (op_move rfl rfl) rfl rfl rfl ?_
    refine J.y ((op_add rfl rfl rfl (by first | omega | (refine ⟨?_, ?_⟩ <;> omega))).as (v' := I (((pl i l.length) + 1 : Nat) : Int)) (congrArg I (by omega))) rfl rfl rfl ?_
    refine J.e (op_call rfl rfl ent14 (Ct.use1 1 (m' := fun x : Hp => x) (new := fun _ => []) rfl (fun F' _ => delete_ct F' mr A l.length c l rfl hr (pl i l.length) ((pl i l.length) + 1) (by omega) (by omega) hl))) rfl rfl rfl ?_
    rintro m34 h34
    change J _ _ _ [blk g [.slice A l.length c] 42, m34, F, blk g4 [I 0, I 0, I 0, Str []] 30, blk g8 (l.getD (pl i l.length) noLet).cells 30] _
    rw [show (pl i l.length) + (l.length - ((pl i l.length) + 1)) = l.length - 1 by omega] at h34
    rw [show (pl i l.length) + (l.length - ((pl i l.length) + 1)) = l.length - 1 by omega]
    refine J.y (op_nilCheck rfl rfl) rfl rfl rfl ?_
    refine J.y (op_fieldAddr (j := 0) rfl rfl Try.underlying42 rfl Try.sizeOf26 rfl) rfl rfl rfl ?_
    refine J.s (op_store (i := 0) (vs := [.slice A (l.length - 1) c]) rfl rfl rfl rfl rfl Try.sizeOf26 rfl (by first | decide | exact Nat.le_refl _ | (simp only [List.length_cons, List.length_nil]; omega))) rfl rfl (fun _ _ => ?_)
    change J _ _ _ [blk g [.slice A (l.length - 1) c] 42, m34, F, blk g4 [I 0, I 0, I 0, Str []] 30, blk g8 (l.getD (pl i l.length) noLet).cells 30] _
    refine J.nil ?_
    refine J.then_n (J.k hK7 ?_)
    refine J.keepE [(4, _), (8, _)] ⟨rfl, rfl, trivial⟩ ?_
    refine J.seq (fun K8 hK8 => ?_)
    refine J.region ?_
    refine J.y (op_loadBA 4 rfl rfl rfl Try.isAgg30 Try.sizeOf30 rfl) rfl rfl rfl ?_
    refine J.s (op_storeAll (l := [I 0, I 0, I 0, Str []]) (i := 3) (vs := (l.getD (pl i l.length) noLet).cells) rfl rfl rfl rfl rfl Try.sizeOf30 rfl rfl) rfl rfl (fun _ _ => ?_)
    change J _ _ _ [blk g [.slice A (l.length - 1) c] 42, m34, F, blk g4 (l.getD (pl i l.length) noLet).cells 30, blk g8 (l.getD (pl i l.length) noLet).cells 30] _
    refine J.y (op_assign rfl rfl) rfl rfl rfl ?_
    refine J.nil ?_
    refine J.then_n (J.k hK8 ?_)
    refine J.keepE [(4, _), (5, _)] ⟨rfl, rfl, trivial⟩ ?_
    refine J.ret ?_
    have hlen2 : (l.take (pl i l.length) ++ l.drop ((pl i l.length) + 1)).length = l.length - 1 := by rw [List.length_append, List.length_take, List.length_drop]; omega
    exact J.done (fun _ _ h => h) (rv2 rfl (RV.blkA 3 rfl rfl Try.isAgg30 Try.sizeOf30) rfl) (retOkU (U [blk g [.slice A (l.length - 1) c] 42, m34]) (by rw [if_pos hpos, decide_eq_true hpos]) (fun hd => by rw [if_pos hpos]; refine ⟨A, c, m34, ?_, ?_, ?_⟩ <;> rw [hlen2] <;> first | rfl | exact hd | exact h34) [0, 1, 2] rfl rfl (by decide))

theorem again_ct (F mm : Hp) (g : Nat) (l : List Let) (hb : Bagged mm g l) (i : Int) (hi : -9223372036854775808 ≤ i ∧ i ≤ 9223372036854775807) (hl : l.length ≤ 1073741824) :
    Ct Try.prog 8 [Ptr g, I i] [mm, F] (fun _ : Hp => .bool (decide (0 < l.length ∧ l.length < 256))) (fun m => Bagged m g (if 0 < l.length ∧ l.length < 256 then l ++ [l.getD (pl i l.length) noLet] else l)) (fun m => [m, F]) := by
  obtain ⟨A, c, hc, hs⟩ := hb.see
  refine Ct.walk Try.func8 rfl Try.ntmps8 rfl (fun w0 => ?_)
  change J _ [(0, _), (1, _)] _ _ _
  refine J.seq (fun K1 hK1 => ?_)
  refine J.region ?_
  refine J.y (op_assign rfl rfl) rfl rfl rfl ?_
  refine J.nil ?_
  refine J.then_n (J.k hK1 ?_)
  refine J.keepE [(0, _), (1, _)] ⟨rfl, rfl, trivial⟩ ?_
  refine J.seq (fun K2 hK2 => ?_)
  refine J.region ?_
  refine J.y (op_move rfl rfl) rfl rfl rfl ?_
  refine J.y (op_move rfl rfl) rfl rfl rfl ?_
  refine J.e (op_call rfl rfl ent12 (Ct.use0 (fun F' hF => len_ct F' g l.length A c (hc.mono (hF mm (by simp)))))) rfl rfl rfl ?_
  intro g10 _
  refine J.e (op_call rfl rfl ent13 (Ct.use0 (fun F' hF => place_ct F' i l.length hi (by omega)))) rfl rfl rfl ?_
  intro g11 _
  refine J.y (op_move rfl rfl) rfl rfl rfl ?_
  refine J.y (op_extract rfl rfl rfl) rfl rfl rfl ?_
  refine J.y (op_extract rfl rfl rfl) rfl rfl rfl ?_
  refine J.y (op_assign rfl rfl) rfl rfl rfl ?_
  refine J.y (op_assign rfl rfl) rfl rfl rfl ?_
  refine J.nil ?_
  refine J.then_n (J.k hK2 ?_)
  refine J.keepE [(0, _), (5, _), (6, _)] ⟨rfl, rfl, rfl, trivial⟩ ?_
  refine J.seq (fun K3 hK3 => ?_)
  refine J.region ?_
  refine J.y (op_move rfl rfl) rfl rfl rfl ?_
  refine J.y (op_move rfl rfl) rfl rfl rfl ?_
  refine J.split (d := 15) rfl (fun h15 => ?_) (fun h15 => ?_)
  ·
    refine J.yg (Wan.is rfl rfl rfl rfl rfl) (op_move rfl rfl) rfl rfl ?_
    refine J.yg (Wan.is rfl rfl rfl rfl rfl) (op_move rfl rfl) rfl rfl ?_
    refine J.yg (Wan.is rfl rfl rfl rfl rfl) (op_nilCheck rfl rfl) rfl rfl ?_
    refine J.yg (Wan.is rfl rfl rfl rfl rfl) (op_fieldAddr (j := 0) rfl rfl Try.underlying42 rfl Try.sizeOf26 rfl) rfl rfl ?_
    refine J.yg (Wan.is rfl rfl rfl rfl rfl) (op_load rfl rfl Try.isAgg26 (m := mm) (by simp) (hc)) rfl rfl ?_
    refine J.yg (Wan.is rfl rfl rfl rfl rfl) (op_move rfl rfl) rfl rfl ?_
    refine J.yg (Wan.is rfl rfl rfl rfl rfl) (op_indexAddr (i := (pl i l.length)) rfl rfl rfl Try.underlying26 Try.sizeOf30 hs (pl_lt i h15)) rfl rfl ?_
    refine J.yg (Wan.is rfl rfl rfl rfl rfl) (op_loadA rfl rfl Try.isAgg30 Try.sizeOf30 (m := mm) (by simp) (hs.elem (lettersV_get (pl_lt i h15))) rfl) rfl rfl ?_
    refine J.eg (Wan.is rfl rfl rfl rfl rfl) (op_call rfl rfl ent11 (Ct.use1 0 (m' := fun x : Hp => x) (new := fun _ => []) rfl (fun F' _ => put_ct F' mm g l hb (l.getD (pl i l.length) noLet) hl))) rfl rfl ?_
    rintro m24 h24
    change J _ _ _ [m24, F] _
    refine J.y (op_pickT rfl rfl rfl) rfl rfl rfl ?_
    refine J.y (op_assign rfl rfl) rfl rfl rfl ?_
    refine J.nil ?_
    refine J.then_n (J.k hK3 ?_)
    refine J.keepE [(4, _)] ⟨rfl, trivial⟩ ?_
    refine J.ret ?_
    exact J.done (fun _ _ h => h) (res1 rfl rfl) (retOk m24 (congrArg Value.bool (decide_eq_decide.2 ⟨fun h => ⟨h15, h⟩, fun h => h.2⟩)) (by by_cases h : l.length < 256; (rw [if_pos ⟨h15, h⟩]; rw [if_pos h] at h24; exact h24); (rw [if_neg (fun e => h e.2)]; rw [if_neg h] at h24; exact h24)) [0, 1] rfl (by decide))
  ·
    refine J.no (Wan.is rfl rfl rfl rfl rfl) rfl rfl ?_
    refine J.no (Wan.is rfl rfl rfl rfl rfl) rfl rfl ?_
    refine J.no (Wan.is rfl rfl rfl rfl rfl) rfl rfl ?_
    refine J.no (Wan.is rfl rfl rfl rfl rfl) rfl rfl ?_
    refine J.no (Wan.is rfl rfl rfl rfl rfl) rfl rfl ?_
    refine J.no (Wan.is rfl rfl rfl rfl rfl) rfl rfl ?_
    refine J.no (Wan.is rfl rfl rfl rfl rfl) rfl rfl ?_
    refine J.no (Wan.is rfl rfl rfl rfl rfl) rfl rfl ?_
    refine J.no (Wan.is rfl rfl rfl rfl rfl) rfl rfl ?_
    refine J.y (op_pickF rfl rfl rfl) rfl rfl rfl ?_
    refine J.y (op_assign rfl rfl) rfl rfl rfl ?_
    refine J.nil ?_
    refine J.then_n (J.k hK3 ?_)
    refine J.keepE [(4, _)] ⟨rfl, trivial⟩ ?_
    refine J.ret ?_
    exact J.done (fun _ _ h => h) (res1 rfl rfl) (retOk mm (congrArg Value.bool (decide_eq_false (fun h => h15 h.1)).symm) (by rw [if_neg (fun h => h15 h.1)]; exact hb) [0, 1] rfl (by decide))

theorem turn_ct (F mm : Hp) (g : Nat) (l : List Let) (hb : Bagged mm g l) (i a : Int) (hi : -9223372036854775808 ≤ i ∧ i ≤ 9223372036854775807) (ha : -9223372036854775808 ≤ a ∧ a ≤ 9223372036854775807) (by' : UInt8) (hl : l.length ≤ 1073741824) (hbl : ∀ x ∈ l, x.body.length ≤ 1073741824) :
    Ct Try.prog 9 [Ptr g, I i, I a, B8 by'] [mm, F] (fun _ : Hp => .bool (decide (0 < l.length ∧ 0 < (l.getD (pl i l.length) noLet).body.length))) (fun m => Bagged m g (if 0 < l.length ∧ 0 < (l.getD (pl i l.length) noLet).body.length then turnL l i a by' else l)) (fun m => [m, F]) := by
  obtain ⟨A, c, mr, rfl, hd, hr⟩ := hb
  have hnc := hr.2.2.1
  refine Ct.walk Try.func9 rfl Try.ntmps9 rfl (fun w0 => ?_)
  change J _ [(0, _), (1, _), (2, _), (3, _)] _ _ _
  refine J.splitU hd ?_
  refine J.seq (fun K1 hK1 => ?_)
  refine J.region ?_
  refine J.y (op_assign rfl rfl) rfl rfl rfl ?_
  refine J.nil ?_
  refine J.then_n (J.k hK1 ?_)
  refine J.keepE [(0, _), (1, _), (2, _), (3, _)] ⟨rfl, rfl, rfl, rfl, trivial⟩ ?_
  refine J.seq (fun K2 hK2 => ?_)
  refine J.region ?_
  refine J.y (op_move rfl rfl) rfl rfl rfl ?_
  refine J.y (op_move rfl rfl) rfl rfl rfl ?_
  refine J.e (op_call rfl rfl ent12 (Ct.use0 (fun F' hF => len_ct F' g l.length A c (Cells.blk0.mono (hF (blk g [.slice A l.length c] 42) (by simp)))))) rfl rfl rfl ?_
  intro g16 _
  refine J.e (op_call rfl rfl ent13 (Ct.use0 (fun F' hF => place_ct F' i l.length hi (by omega)))) rfl rfl rfl ?_
  intro g17 _
  refine J.y (op_move rfl rfl) rfl rfl rfl ?_
  refine J.y (op_extract rfl rfl rfl) rfl rfl rfl ?_
  refine J.y (op_extract rfl rfl rfl) rfl rfl rfl ?_
  refine J.y (op_assign rfl rfl) rfl rfl rfl ?_
  refine J.y (op_assign rfl rfl) rfl rfl rfl ?_
  refine J.nil ?_
  refine J.then_n (J.k hK2 ?_)
  refine J.keepE [(0, _), (2, _), (3, _), (9, _), (10, _)] ⟨rfl, rfl, rfl, rfl, rfl, trivial⟩ ?_
  refine J.seq (fun K3 hK3 => ?_)
  refine J.seq (fun K4 hK4 => ?_)
  refine J.region ?_
  refine J.y (op_move rfl rfl) rfl rfl rfl ?_
  refine J.y (op_notD rfl rfl) rfl rfl rfl ?_
  refine J.nil ?_
  refine J.then_n (J.k hK4 ?_)
  refine J.keepE [(0, _), (2, _), (3, _), (9, _), (21, _)] ⟨rfl, rfl, rfl, rfl, rfl, trivial⟩ ?_
  refine J.ite rfl (fun h21 => ?_) (fun h21 => ?_)
  ·
    refine J.seq (fun K5 hK5 => ?_)
    refine J.region ?_
    refine J.y (op_assign rfl rfl) rfl rfl rfl ?_
    refine J.nil ?_
    refine J.then_n (J.k hK5 ?_)
    refine J.keepE [(8, _)] ⟨rfl, trivial⟩ ?_
    refine J.ret ?_
    refine J.then_r ?_
    exact J.done (fun _ _ h => h) (res1 rfl rfl) (retOkU (U [blk g [.slice A l.length c] 42, mr]) (congrArg Value.bool (decide_eq_false (by omega)).symm) (fun hd => by rw [if_neg (by omega)]; exact ⟨A, c, mr, rfl, hd, hr⟩) [0, 1, 2] rfl rfl (by decide))
  ·
    refine J.skip ?_
    refine J.then_n (J.k hK3 ?_)
    refine J.keepE [(0, _), (2, _), (3, _), (9, _)] ⟨rfl, rfl, rfl, rfl, trivial⟩ ?_
    refine J.seq (fun K6 hK6 => ?_)
    have hpos : 0 < l.length := by omega
    have hpl := pl_lt i hpos
    obtain ⟨ga, hA⟩ := hr.at hpos
    have hbb := hbl _ (List.mem_of_getElem? (getSome noLet hpl))
    refine J.region ?_
    refine J.y (op_move rfl rfl) rfl rfl rfl ?_
    refine J.y (op_nilCheck rfl rfl) rfl rfl rfl ?_
    refine J.y (op_fieldAddr (j := 0) rfl rfl Try.underlying42 rfl Try.sizeOf26 rfl) rfl rfl rfl ?_
    refine J.y (op_loadB 0 rfl rfl rfl Try.isAgg26 rfl) rfl rfl rfl ?_
    refine J.y (op_move rfl rfl) rfl rfl rfl ?_
    refine J.y (op_indexAddr (i := (pl i l.length)) rfl rfl rfl Try.underlying26 Try.sizeOf30 hr.sl hpl) rfl rfl rfl ?_
    refine J.y ((op_fieldAddr (j := (pl i l.length) * 4 + 3) (off := (pl i l.length) * 4) (g := ga) rfl (by show some _ = some _; rw [hA, elemAt_mk, Nat.zero_add]) Try.underlying30 rfl Try.sizeOf9 rfl)) rfl rfl rfl ?_
    refine J.y (op_load rfl rfl Try.isAgg9 (m := mr) (by simp) (v := Str (l.getD (pl i l.length) noLet).body) (by have := (hA ▸ hr.sl).cell (lettersV_get hpl) (k := 3) (v := Str (l.getD (pl i l.length) noLet).body) rfl; rw [Nat.zero_add] at this; exact this)) rfl rfl rfl ?_
    refine J.e (op_toBytes rfl rfl Try.underlying9 Try.underlying36 Try.underlying5) rfl rfl rfl ?_
    rintro ⟨g30, c30, m30⟩ h30
    try dsimp only at h30
    change J _ ((30, .slice (some ⟨g30, 0, none⟩) (l.getD (pl i l.length) noLet).body.length c30) :: _) _ [blk g [.slice A l.length c] 42, mr, F, m30] _
    refine J.y (op_assign rfl rfl) rfl rfl rfl ?_
    refine J.nil ?_
    refine J.then_n (J.k hK6 ?_)
    refine J.keepE [(0, _), (2, _), (3, _), (9, _), (11, _)] ⟨rfl, rfl, rfl, rfl, rfl, trivial⟩ ?_
    refine J.seq (fun K7 hK7 => ?_)
    refine J.region ?_
    refine J.y (op_move rfl rfl) rfl rfl rfl ?_
    refine J.y (op_move rfl rfl) rfl rfl rfl ?_
    refine J.y (op_len Try.underlying36 rfl rfl) rfl rfl rfl ?_
    refine J.e (op_call rfl rfl ent13 (Ct.use0 (fun F' hF => place_ct F' a (l.getD (pl i l.length) noLet).body.length ha (by omega)))) rfl rfl rfl ?_
    intro g35 _
    refine J.y (op_move rfl rfl) rfl rfl rfl ?_
    refine J.y (op_extract rfl rfl rfl) rfl rfl rfl ?_
    refine J.y (op_extract rfl rfl rfl) rfl rfl rfl ?_
    refine J.y (op_assign rfl rfl) rfl rfl rfl ?_
    refine J.y (op_assign rfl rfl) rfl rfl rfl ?_
    refine J.nil ?_
    refine J.then_n (J.k hK7 ?_)
    refine J.keepE [(0, _), (3, _), (9, _), (10, _), (11, _), (12, _)] ⟨rfl, rfl, rfl, rfl, rfl, rfl, trivial⟩ ?_
    refine J.seq (fun K8 hK8 => ?_)
    refine J.seq (fun K9 hK9 => ?_)
    refine J.region ?_
    refine J.y (op_move rfl rfl) rfl rfl rfl ?_
    refine J.y (op_notD rfl rfl) rfl rfl rfl ?_
    refine J.nil ?_
    refine J.then_n (J.k hK9 ?_)
    refine J.keepE [(0, _), (3, _), (9, _), (11, _), (12, _), (39, _)] ⟨rfl, rfl, rfl, rfl, rfl, rfl, trivial⟩ ?_
    refine J.ite rfl (fun h39 => ?_) (fun h39 => ?_)
    ·
      refine J.seq (fun K10 hK10 => ?_)
      refine J.region ?_
      refine J.y (op_assign rfl rfl) rfl rfl rfl ?_
      refine J.nil ?_
      refine J.then_n (J.k hK10 ?_)
      refine J.keepE [(8, _)] ⟨rfl, trivial⟩ ?_
      refine J.ret ?_
      refine J.then_r ?_
      exact J.done (fun _ _ h => h) (res1 rfl rfl) (retOkU (U [blk g [.slice A l.length c] 42, mr]) (congrArg Value.bool (decide_eq_false (by omega)).symm) (fun hd => by rw [if_neg (by omega)]; exact ⟨A, c, mr, rfl, hd, hr⟩) [0, 1, 2] rfl rfl (by decide))
    ·
      refine J.skip ?_
      refine J.then_n (J.k hK8 ?_)
      refine J.keepE [(0, _), (3, _), (9, _), (11, _), (12, _)] ⟨rfl, rfl, rfl, rfl, rfl, trivial⟩ ?_
      refine J.seq (fun K11 hK11 => ?_)
      have hjp : 0 < (l.getD (pl i l.length) noLet).body.length := by omega
      have hjl := pl_lt a hjp
      have e5 : (turnL l i a by').length = l.length := by unfold turnL; rw [List.length_set]
      refine J.region ?_
      refine J.y (op_move rfl rfl) rfl rfl rfl ?_
      refine J.y (op_move rfl rfl) rfl rfl rfl ?_
      refine J.y (op_indexAddrS (i := (pl a (l.getD (pl i l.length) noLet).body.length)) (j := (pl a (l.getD (pl i l.length) noLet).body.length)) rfl rfl rfl Try.underlying36 Try.sizeOf5 hjl (by omega)) rfl rfl rfl ?_
      refine J.y (op_load rfl rfl Try.isAgg5 (m := m30) (by simp) (by have := h30.sl.cells (bytesV_get (getSome 0 hjl)); rw [Nat.zero_add, Nat.mul_one] at this; exact this)) rfl rfl rfl ?_
      refine J.y (op_move rfl rfl) rfl rfl rfl ?_
      refine J.y (op_xor8 rfl rfl rfl) rfl rfl rfl ?_
      refine J.y (op_indexAddrS (i := (pl a (l.getD (pl i l.length) noLet).body.length)) (j := (pl a (l.getD (pl i l.length) noLet).body.length)) rfl rfl rfl Try.underlying36 Try.sizeOf5 hjl (by omega)) rfl rfl rfl ?_
      refine J.s (op_storeRow (i := 3) (k := (pl a (l.getD (pl i l.length) noLet).body.length)) (off := 0) (b := [B8 ((l.getD (pl i l.length) noLet).body.getD (pl a (l.getD (pl i l.length) noLet).body.length) 0 ^^^ by')]) rfl rfl rfl rfl h30 (vs := [B8 ((l.getD (pl i l.length) noLet).body.getD (pl a (l.getD (pl i l.length) noLet).body.length) 0 ^^^ by')]) rfl Try.sizeOf5 rfl (by omega) (bytesV_get (getSome 0 hjl)) rfl (Nat.le_refl _)) rfl rfl ?_
      rintro m46 h46
      change J _ _ _ [blk g [.slice A l.length c] 42, mr, F, m46] _
      rw [← bytesV_set (b := (l.getD (pl i l.length) noLet).body.getD (pl a (l.getD (pl i l.length) noLet).body.length) 0 ^^^ by')] at h46
      have htl : (turnB (l.getD (pl i l.length) noLet).body a by').length = (l.getD (pl i l.length) noLet).body.length := by unfold turnB; rw [List.length_set]
      have h46 : Row m46 5 1 (some ⟨g30, 0, none⟩) (l.getD (pl i l.length) noLet).body.length c30 (bytesV (turnB (l.getD (pl i l.length) noLet).body a by')) := h46
      refine J.nil ?_
      refine J.then_n (J.k hK11 ?_)
      refine J.keepE [(0, _), (9, _), (11, _)] ⟨rfl, rfl, rfl, trivial⟩ ?_
      refine J.seq (fun K12 hK12 => ?_)
      refine J.draw [blk g [.slice A l.length c] 42, m46] [9] (.y 0 (.y 1 (.y 2 (.y 3 (.y 4 (.y 5 (.y 6 (.y 7 (.y 8 (.e 9 .nil)))))))))) mixo (by decide +kernel) (by simp) ?_
      refine J.dy rfl (op_move rfl rfl) rfl rfl rfl rfl ?_
      refine J.dy rfl (op_nilCheck rfl rfl) rfl rfl rfl rfl ?_
      refine J.dy rfl (op_fieldAddr (j := 0) rfl rfl Try.underlying42 rfl Try.sizeOf26 rfl) rfl rfl rfl rfl ?_
      refine J.dy rfl (op_loadB 0 rfl rfl rfl Try.isAgg26 rfl) rfl rfl rfl rfl ?_
      refine J.dy rfl (op_move rfl rfl) rfl rfl rfl rfl ?_
      refine J.dy rfl (op_move rfl rfl) rfl rfl rfl rfl ?_
      refine J.dy rfl (op_toStr (l := turnB (l.getD (pl i l.length) noLet).body a by') rfl rfl Try.underlying36 Try.underlying5 Try.underlying9 (m := m46) (by simp) h46.sl) rfl rfl rfl rfl ?_
      refine J.dy rfl (op_indexAddr (i := (pl i l.length)) rfl rfl rfl Try.underlying26 Try.sizeOf30 hr.sl hpl) rfl rfl rfl rfl ?_
      refine J.dy rfl ((op_fieldAddr (j := (pl i l.length) * 4 + 3) (off := (pl i l.length) * 4) (g := ga) rfl (by show some _ = some _; rw [hA, elemAt_mk, Nat.zero_add]) Try.underlying30 rfl Try.sizeOf9 rfl)) rfl rfl rfl rfl ?_
      refine J.ds rfl (op_storeRow (i := 1) (k := (pl i l.length)) (off := 3) (b := { (l.getD (pl i l.length) noLet) with body := turnB (l.getD (pl i l.length) noLet).body a by' }.cells) rfl rfl rfl rfl (hA ▸ hr) (vs := [Str (turnB (l.getD (pl i l.length) noLet).body a by')]) rfl Try.sizeOf9 rfl rfl (lettersV_get hpl) rfl (Nat.le_refl _)) rfl rfl rfl ?_
      rintro m55 h55
      change J _ _ _ [blk g [.slice A l.length c] 42, m55, F, m46] _
      refine J.dnil ?_
      refine J.then_n (J.k hK12 ?_)
      refine J.keepE [] trivial ?_
      refine J.seq (fun K13 hK13 => ?_)
      refine J.region ?_
      refine J.y (op_assign rfl rfl) rfl rfl rfl ?_
      refine J.nil ?_
      refine J.then_n (J.k hK13 ?_)
      refine J.keepE [(8, _)] ⟨rfl, trivial⟩ ?_
      refine J.ret ?_
      exact J.done (fun _ _ h => h) (res1 rfl rfl) (retOkU (U [blk g [.slice A l.length c] 42, m55]) (congrArg Value.bool (decide_eq_true ⟨hpos, hjp⟩).symm) (fun hd => by rw [if_pos ⟨hpos, hjp⟩]; exact ⟨A, c, m55, by rw [e5], by rw [e5]; exact hd, by rw [e5, hA]; rw [lettersV_set] at h55; exact h55⟩) [0, 1, 2] rfl rfl (by decide))

theorem for1_ct (F : Hp) (x : Let) (p : Nat) (node : Int) (hp : Cells F ⟨p, 0, none⟩ [I node]) :
    Ct Try.prog 16 [.agg x.cells.toArray, Ptr p] [F] (fun _ : Unit => .bool (decide (x.to = node))) (fun _ => True) (fun _ => [F]) := by
  refine Ct.walk Try.func16 rfl Try.ntmps16 rfl (fun w0 => ?_)
  change J _ [(0, _), (1, _)] _ _ _
  refine J.seq (fun K1 hK1 => ?_)
  refine J.region ?_
  refine J.e (op_box rfl rfl rfl) rfl rfl rfl ?_
  intro g2 _
  change J _ _ _ [F, blk g2 x.cells 30] _
  refine J.y (op_assign rfl rfl) rfl rfl rfl ?_
  refine J.nil ?_
  refine J.then_n (J.k hK1 ?_)
  refine J.keepE [(1, _), (2, _)] ⟨rfl, rfl, trivial⟩ ?_
  refine J.seq (fun K2 hK2 => ?_)
  refine J.region ?_
  refine J.y (op_fieldAddr (j := 0) rfl rfl Try.underlying30 rfl Try.sizeOf3 rfl) rfl rfl rfl ?_
  refine J.y (op_loadB 1 rfl rfl rfl Try.isAgg3 rfl) rfl rfl rfl ?_
  refine J.y (op_load rfl rfl Try.isAgg3 (m := F) (by simp) (hp)) rfl rfl rfl ?_
  refine J.y (op_eql rfl rfl rfl) rfl rfl rfl ?_
  refine J.y (op_assign rfl rfl) rfl rfl rfl ?_
  refine J.nil ?_
  refine J.then_n (J.k hK2 ?_)
  refine J.keepE [(3, _)] ⟨rfl, trivial⟩ ?_
  refine J.ret ?_
  exact J.done (fun _ _ h => h) (res1 rfl rfl) (retOk () rfl trivial [0] rfl (by decide))

theorem index_ct (F : Hp) (A : Option Addr) (n c : Nat) (l : List Let) (hn : l.length = n) (hs : Sl F 4 A n c (lettersV l)) (p : Nat) (node : Int) (hp : Cells F ⟨p, 0, none⟩ [I node]) (hb : n ≤ 1073741824) :
    Ct Try.prog 15 [.slice A n c, .func (.func 16) #[] #[Ptr p]] [F] (fun _ : Unit => I (findTo node l 0)) (fun _ => True) (fun _ => [F]) := by
  refine Ct.walk Try.func15 rfl Try.ntmps15 rfl (fun w0 => ?_)
  change J _ [(0, _), (1, _)] _ _ _
  refine J.seq (fun K1 hK1 => ?_)
  refine J.region ?_
  refine J.y (op_assign rfl rfl) rfl rfl rfl ?_
  refine J.nil ?_
  refine J.then_n (J.k hK1 ?_)
  refine J.keepE [(0, _), (1, _)] ⟨rfl, rfl, trivial⟩ ?_
  refine J.seq (fun K2 hK2 => ?_)
  refine J.seq (fun K3 hK3 => ?_)
  refine J.region ?_
  refine J.y (op_move rfl rfl) rfl rfl rfl ?_
  refine J.y (op_len Try.underlying26 rfl rfl) rfl rfl rfl ?_
  refine J.y (op_move rfl rfl) rfl rfl rfl ?_
  refine J.nil ?_
  refine J.then_n (J.k hK3 ?_)
  refine J.keepE [(0, _), (1, _), (7, _), (8, _)] ⟨rfl, rfl, rfl, rfl, trivial⟩ ?_
  refine J.block ?_
  refine J.loop (fun k : Nat => [(0, .slice A n c), (1, .func (.func 16) #[] #[Ptr p]), (7, I n), (8, I k)]) (fun _ => [F]) (fun k => k ≤ n ∧ findTo node (l.drop k) k = findTo node l 0) (fun k => n - k) 0 (⟨Nat.zero_le _, rfl⟩) ⟨rfl, rfl, rfl, rfl, trivial⟩ (fun _ h => h) ?_
  rintro k ⟨hk, hf⟩ I0 hI0
  refine J.seq (fun K4 hK4 => ?_)
  refine J.region ?_
  refine J.y (op_lss rfl rfl rfl) rfl rfl rfl ?_
  refine J.nil ?_
  refine J.then_n (J.k hK4 ?_)
  refine J.keepE [(0, _), (1, _), (7, _), (8, _), (9, _)] ⟨rfl, rfl, rfl, rfl, rfl, trivial⟩ ?_
  refine J.seq (fun K5 hK5 => ?_)
  refine J.ite rfl (fun h9 => ?_) (fun h9 => ?_)
  ·
    refine J.skip ?_
    refine J.then_n (J.k hK5 ?_)
    refine J.keepE [(0, _), (1, _), (7, _), (8, _)] ⟨rfl, rfl, rfl, rfl, trivial⟩ ?_
    refine J.seq (fun K6 hK6 => ?_)
    refine J.block ?_
    refine J.seq (fun K7 hK7 => ?_)
    have hfd := findTo_drop node l k (by omega)
    rw [hfd] at hf
    refine J.region ?_
    refine J.y (op_move rfl rfl) rfl rfl rfl ?_
    refine J.y (op_assign rfl rfl) rfl rfl rfl ?_
    refine J.nil ?_
    refine J.then_n (J.k hK7 ?_)
    refine J.keepE [(0, _), (1, _), (5, _), (7, _), (8, _)] ⟨rfl, rfl, rfl, rfl, rfl, trivial⟩ ?_
    refine J.seq (fun K8 hK8 => ?_)
    refine J.region ?_
    refine J.y (op_move rfl rfl) rfl rfl rfl ?_
    refine J.y (op_move rfl rfl) rfl rfl rfl ?_
    refine J.y (op_move rfl rfl) rfl rfl rfl ?_
    refine J.y (op_indexAddr (i := k) rfl rfl rfl Try.underlying26 Try.sizeOf30 hs (by omega)) rfl rfl rfl ?_
    refine J.y (op_loadA rfl rfl Try.isAgg30 Try.sizeOf30 (m := F) (by simp) (hs.elem (lettersV_get (by omega))) rfl) rfl rfl rfl ?_
    refine J.e (op_callV rfl rfl rfl ent16 (for1_ct F (l.getD k noLet) p node hp)) rfl rfl rfl ?_
    intro g16 _
    refine J.nil ?_
    refine J.then_n (J.k hK8 ?_)
    refine J.keepE [(0, _), (1, _), (5, _), (7, _), (8, _), (16, _)] ⟨rfl, rfl, rfl, rfl, rfl, rfl, trivial⟩ ?_
    refine J.ite rfl (fun h16 => ?_) (fun h16 => ?_)
    ·
      refine J.seq (fun K9 hK9 => ?_)
      rw [if_pos h16] at hf
      refine J.region ?_
      refine J.y (op_move rfl rfl) rfl rfl rfl ?_
      refine J.y (op_assign rfl rfl) rfl rfl rfl ?_
      refine J.nil ?_
      refine J.then_n (J.k hK9 ?_)
      refine J.keepE [(4, _)] ⟨rfl, trivial⟩ ?_
      refine J.ret ?_
      refine J.blk_r ?_
      refine J.then_r ?_
      refine J.then_r ?_
      refine J.blk_r ?_
      refine J.then_r ?_
      exact J.done (fun _ _ h => h) (res1 rfl rfl) (retOk () (by rw [← hf]) trivial [0] rfl (by decide))
    ·
      refine J.skip ?_
      refine J.blk_n ?_
      refine J.then_n (J.k hK6 ?_)
      refine J.keepE [(0, _), (1, _), (7, _), (8, _)] ⟨rfl, rfl, rfl, rfl, trivial⟩ ?_
      rw [if_neg h16] at hf
      refine J.region ?_
      refine J.y ((op_add rfl rfl rfl (by first | omega | (refine ⟨?_, ?_⟩ <;> omega))).as (v' := I ((k + 1 : Nat) : Int)) (congrArg I (by omega))) rfl rfl rfl ?_
      refine J.y (op_move rfl rfl) rfl rfl rfl ?_
      refine J.nil ?_
      refine J.then_n ?_
      exact J.kk (k + 1) (fun x (hx : _ ∧ n - x < n - k) => hI0 x hx.1 hx.2) ⟨⟨by omega, hf⟩, by omega⟩ ⟨rfl, rfl, rfl, rfl, trivial⟩ (fun _ h => h)
  ·
    refine J.exit ?_
    refine J.then_x ?_
    refine J.then_x ?_
    refine J.blk_eq ?_
    refine J.then_n (J.k hK2 ?_)
    refine J.keepE [] trivial ?_
    refine J.seq (fun K10 hK10 => ?_)
    rw [List.drop_of_length_le (by omega)] at hf
    refine J.region ?_
    refine J.y (op_assign rfl rfl) rfl rfl rfl ?_
    refine J.nil ?_
    refine J.then_n (J.k hK10 ?_)
    refine J.keepE [(4, _)] ⟨rfl, trivial⟩ ?_
    refine J.ret ?_
    exact J.done (fun _ _ h => h) (res1 rfl rfl) (retOk () (by rw [← hf]; rfl) trivial [0] rfl (by decide))

theorem for_ct (F : Hp) (g n : Nat) (A : Option Addr) (c : Nat) (l : List Let) (hn : l.length = n) (hc : Cells F ⟨g, 0, none⟩ [.slice A n c]) (hs : Sl F 4 A n c (lettersV l)) (node : Int) (hb : n ≤ 1073741824) :
    Ct Try.prog 10 [Ptr g, I node] [F] (fun _ : Unit => I (findTo node l 0)) (fun _ => True) (fun _ => [F]) := by
  refine Ct.walk Try.func10 rfl Try.ntmps10 rfl (fun w0 => ?_)
  change J _ [(0, _), (1, _)] _ _ _
  refine J.seq (fun K1 hK1 => ?_)
  refine J.region ?_
  refine J.e (op_box rfl rfl rfl) rfl rfl rfl ?_
  intro g3 _
  change J _ _ _ [F, blk g3 [I node] 3] _
  refine J.y (op_assign rfl rfl) rfl rfl rfl ?_
  refine J.nil ?_
  refine J.then_n (J.k hK1 ?_)
  refine J.keepE [(0, _), (3, _)] ⟨rfl, rfl, trivial⟩ ?_
  refine J.seq (fun K2 hK2 => ?_)
  refine J.seq (fun K3 hK3 => ?_)
  refine J.region ?_
  refine J.y (op_move rfl rfl) rfl rfl rfl ?_
  refine J.y ((op_peq Try.underlying24 rfl rfl rfl).as (v' := .bool false) rfl) rfl rfl rfl ?_
  refine J.nil ?_
  refine J.then_n (J.k hK3 ?_)
  refine J.keepE [(0, _), (3, _), (6, _)] ⟨rfl, rfl, rfl, trivial⟩ ?_
  refine J.condF rfl rfl ?_
  refine J.skip ?_
  refine J.then_n (J.k hK2 ?_)
  refine J.keepE [(0, _), (3, _)] ⟨rfl, rfl, trivial⟩ ?_
  refine J.seq (fun K4 hK4 => ?_)
  refine J.region ?_
  refine J.y (op_move rfl rfl) rfl rfl rfl ?_
  refine J.y (op_nilCheck rfl rfl) rfl rfl rfl ?_
  refine J.y (op_fieldAddr (j := 0) rfl rfl Try.underlying42 rfl Try.sizeOf26 rfl) rfl rfl rfl ?_
  refine J.y (op_load rfl rfl Try.isAgg26 (m := F) (by simp) (hc)) rfl rfl rfl ?_
  refine J.y (op_makeFunc rfl rfl) rfl rfl rfl ?_
  refine J.e (op_call rfl rfl ent15 (Ct.use0 (fun F' hF => index_ct F' A n c l hn (hs.mono (hF F (by simp))) g3 node (Cells.blk0.mono (hF (blk g3 [I node] 3) (by simp))) hb))) rfl rfl rfl ?_
  intro g12 _
  refine J.y (op_assign rfl rfl) rfl rfl rfl ?_
  refine J.nil ?_
  refine J.then_n (J.k hK4 ?_)
  refine J.keepE [(4, _)] ⟨rfl, trivial⟩ ?_
  refine J.ret ?_
  exact J.done (fun _ _ h => h) (res1 rfl rfl) (retOk () rfl trivial [0] rfl (by decide))

structure Act27 where
  what : Int
  i : Int
  pos : Int
  body : List UInt8
def Act27.cells (x : Act27) : List Value := [I x.what, I x.i, I x.pos, Str x.body]
def Act27.ok (x : Act27) : Prop := (-9223372036854775808 ≤ x.what ∧ x.what ≤ 9223372036854775807) ∧ (-9223372036854775808 ≤ x.i ∧ x.i ≤ 9223372036854775807) ∧ (-9223372036854775808 ≤ x.pos ∧ x.pos ≤ 9223372036854775807)
def noAct27 : Act27 := ⟨0, 0, 0, []⟩
def actsV27 (l : List Act27) : List (List Value) := l.map Act27.cells
theorem actsV27_get {l : List Act27} {k : Nat} (h : k < l.length) : (actsV27 l)[k]? = some (l.getD k noAct27).cells := by
  unfold actsV27
  rw [List.getElem?_map, getSome noAct27 h]; rfl
/-- where a node is found, looked for from behind -/
def findB (node : Int) (l : List Let) : Nat → Int
  | 0 => -1
  | k + 1 => if (l.getD (l.length - 1 - k) noLet).to = node then ((l.length - 1 - k : Nat) : Int) else findB node l k
theorem findTo_append (node : Int) (l : List Let) : ∀ (m k : Nat), m ≤ l.length → findTo node (l.drop (l.length - m)) (l.length - m) = findB node l m := by
  intro m
  induction m with
  | zero => intro k _; rw [Nat.sub_zero, List.drop_length]; rfl
  | succ m ih =>
    intro k h
    rw [findTo_drop node l (l.length - (m + 1)) (by omega), findB, show l.length - 1 - m = l.length - (m + 1) by omega, show l.length - (m + 1) + 1 = l.length - m by omega, ih k (by omega)]
theorem findB_full (node : Int) (l : List Let) : findTo node l 0 = findB node l l.length := by
  have := findTo_append node l l.length 0 (Nat.le_refl _)
  rw [Nat.sub_self, List.drop_zero] at this
  exact this
theorem take_min27 (s : List UInt8) (k : Nat) : (s.take (min s.length k)).drop 0 = s.take k := by
  rw [List.drop_zero]
  by_cases h : s.length ≤ k
  · rw [Nat.min_eq_left h, List.take_length, List.take_of_length_le h]
  · rw [Nat.min_eq_right (by omega)]
theorem small_take {l : List Let} {k j : Nat} (h : ∀ x ∈ l, x.body.length ≤ 10) : ∀ x ∈ l.take k ++ l.drop j, x.body.length ≤ 10 := fun x hx => by
  rcases List.mem_append.1 hx with hx | hx
  · exact h x (List.mem_of_mem_take hx)
  · exact h x (List.mem_of_mem_drop hx)
theorem small_snoc {l : List Let} {y : Let} (h : ∀ x ∈ l, x.body.length ≤ 10) (hy : y.body.length ≤ 10) : ∀ x ∈ l ++ [y], x.body.length ≤ 10 := fun x hx => by
  rcases List.mem_append.1 hx with hx | hx
  · exact h x hx
  · rw [List.mem_singleton.1 hx]; exact hy
theorem small_get {l : List Let} (k : Nat) (h : ∀ x ∈ l, x.body.length ≤ 10) : (l.getD k noLet).body.length ≤ 10 := by
  by_cases hk : k < l.length
  · exact h _ (List.mem_of_getElem? (getSome noLet hk))
  · rw [List.getD_eq_getElem?_getD, List.getElem?_eq_none (by omega)]; exact Nat.zero_le _
theorem small_turn {l : List Let} {i a : Int} {b : UInt8} (h : ∀ x ∈ l, x.body.length ≤ 10) : ∀ x ∈ turnL l i a b, x.body.length ≤ 10 := fun x hx => by
  rcases List.mem_or_eq_of_mem_set hx with hx | hx
  · exact h x hx
  · rw [hx]
    show (turnB (l.getD (pl i l.length) noLet).body a b).length ≤ 10
    unfold turnB
    rw [List.length_set]; exact small_get _ h

theorem speaks27_ct (F : Hp) : Ct Try.prog 4 [] [F] (fun _ : Unit => .bool true) (fun _ => True) (fun _ => [F]) := by
  refine Ct.walk Try.func4 rfl Try.ntmps4 rfl (fun w0 => ?_)
  change J _ [] _ _ _
  refine J.seq (fun K1 hK1 => ?_)
  refine J.region ?_
  refine J.y (op_assign rfl rfl) rfl rfl rfl ?_
  refine J.nil ?_
  refine J.then_n (J.k hK1 ?_)
  refine J.keepE [] trivial ?_
  refine J.seq (fun K2 hK2 => ?_)
  refine J.region ?_
  refine J.e (op_call rfl rfl ent5 (new_ct F)) rfl rfl rfl ?_
  rintro ⟨g5, b5⟩ h5
  try dsimp only at h5
  change J _ ((5, Ptr g5) :: _) _ [b5, F] _
  refine J.y (op_assign rfl rfl) rfl rfl rfl ?_
  refine J.nil ?_
  refine J.then_n (J.k hK2 ?_)
  refine J.keepE [(1, _)] ⟨rfl, trivial⟩ ?_
  refine J.seq (fun K3 hK3 => ?_)
  refine J.seq (fun K4 hK4 => ?_)
  refine J.region ?_
  refine J.y (op_move rfl rfl) rfl rfl rfl ?_
  refine J.y (op_buildStruct (l := [(0, .const (.int .i64 1)), (3, .const (Str [97]))]) (places := [(0, 1), (1, 1), (2, 1), (3, 1)]) (r := (⟨1, 0, 0, [97]⟩ : Let).cells) rfl rfl rfl Try.underlying30 Try.zeroValue30 (fun _ => by kernel_rfl) rfl) rfl rfl rfl ?_
  refine J.e (op_call rfl rfl ent11 (Ct.use1 0 (m' := fun x : Hp => x) (new := fun _ => []) rfl (fun F' _ => put_ct F' b5 _ [] h5 (⟨1, 0, 0, [97]⟩ : Let) (by decide)))) rfl rfl rfl ?_
  rintro b8 h8
  change J _ ((8, .bool true) :: _) _ [b8, F] _
  have h8 : Bagged b8 g5 [(⟨1, 0, 0, [97]⟩ : Let)] := h8
  refine J.y ((op_not rfl rfl).as (v' := .bool false) rfl) rfl rfl rfl ?_
  refine J.y (op_move rfl rfl) rfl rfl rfl ?_
  refine J.yg (Wan.is rfl rfl rfl rfl rfl) (op_move rfl rfl) rfl rfl ?_
  refine J.yg (Wan.is rfl rfl rfl rfl rfl) (op_buildStruct (l := [(0, .const (.int .i64 2)), (3, .const (Str [98]))]) (places := [(0, 1), (1, 1), (2, 1), (3, 1)]) (r := (⟨2, 0, 0, [98]⟩ : Let).cells) rfl rfl rfl Try.underlying30 Try.zeroValue30 (fun _ => by kernel_rfl) rfl) rfl rfl ?_
  refine J.eg (Wan.is rfl rfl rfl rfl rfl) (op_call rfl rfl ent11 (Ct.use1 0 (m' := fun x : Hp => x) (new := fun _ => []) rfl (fun F' _ => put_ct F' b8 _ [(⟨1, 0, 0, [97]⟩ : Let)] h8 (⟨2, 0, 0, [98]⟩ : Let) (by decide)))) rfl rfl ?_
  rintro b13 h13
  change J _ ((13, .bool true) :: _) _ [b13, F] _
  have h13 : Bagged b13 g5 [(⟨1, 0, 0, [97]⟩ : Let), (⟨2, 0, 0, [98]⟩ : Let)] := h13
  obtain ⟨A1, c1, hc1, hs1⟩ := h13.see
  refine J.yg (Wan.is rfl rfl rfl rfl rfl) ((op_not rfl rfl).as (v' := .bool false) rfl) rfl rfl ?_
  refine J.y (op_pickF rfl rfl rfl) rfl rfl rfl ?_
  refine J.nil ?_
  refine J.then_n (J.k hK4 ?_)
  refine J.keepE [(1, _), (15, _)] ⟨rfl, rfl, trivial⟩ ?_
  refine J.condF rfl rfl ?_
  refine J.skip ?_
  refine J.then_n (J.k hK3 ?_)
  refine J.keepE [(1, _)] ⟨rfl, trivial⟩ ?_
  refine J.seq (fun K5 hK5 => ?_)
  refine J.region ?_
  refine J.y (op_move rfl rfl) rfl rfl rfl ?_
  refine J.e (op_call rfl rfl ent10 (Ct.use0 (fun F' hF => for_ct F' _ 2 A1 c1 [(⟨1, 0, 0, [97]⟩ : Let), (⟨2, 0, 0, [98]⟩ : Let)] rfl (hc1.mono (hF b13 (by simp))) (hs1.mono (hF b13 (by simp))) 2 (by decide)))) rfl rfl rfl ?_
  intro g17 _
  refine J.y (op_assign rfl rfl) rfl rfl rfl ?_
  refine J.nil ?_
  refine J.then_n (J.k hK5 ?_)
  refine J.keepE [(1, _), (2, _)] ⟨rfl, rfl, trivial⟩ ?_
  refine J.seq (fun K6 hK6 => ?_)
  refine J.region ?_
  refine J.y (op_move rfl rfl) rfl rfl rfl ?_
  refine J.e (op_call rfl rfl ent6 (Ct.use1 0 (m' := fun x : Hp => x) (new := fun _ => []) rfl (fun F' _ => take_ct F' b13 _ [(⟨1, 0, 0, [97]⟩ : Let), (⟨2, 0, 0, [98]⟩ : Let)] h13 1 (by decide) (by decide)))) rfl rfl rfl ?_
  rintro b20 h20
  change J _ ((20, .tuple #[.agg (⟨2, 0, 0, [98]⟩ : Let).cells.toArray, .bool true]) :: _) _ [b20, F] _
  have h20 : Bagged b20 g5 [(⟨1, 0, 0, [97]⟩ : Let)] := h20
  obtain ⟨A2, c2, hc2, hs2⟩ := h20.see
  refine J.y (op_move rfl rfl) rfl rfl rfl ?_
  refine J.y (op_extract (v := .agg (⟨2, 0, 0, [98]⟩ : Let).cells.toArray) rfl rfl rfl) rfl rfl rfl ?_
  refine J.y (op_extract (v := .bool true) rfl rfl rfl) rfl rfl rfl ?_
  refine J.e (op_alloc rfl Try.zeroValue30 rfl) rfl rfl rfl ?_
  intro g3 _
  change J _ _ _ [b20, F, blk g3 _ 30] _
  refine J.s (op_storeAll (l := [I 0, I 0, I 0, Str []]) (i := 2) (vs := (⟨2, 0, 0, [98]⟩ : Let).cells) rfl rfl rfl rfl rfl Try.sizeOf30 rfl rfl) rfl rfl (fun _ _ => ?_)
  change J _ _ _ [b20, F, blk g3 (⟨2, 0, 0, [98]⟩ : Let).cells 30] _
  refine J.y (op_assign rfl rfl) rfl rfl rfl ?_
  refine J.nil ?_
  refine J.then_n (J.k hK6 ?_)
  refine J.keepE [(1, _), (2, _), (3, _), (4, _)] ⟨rfl, rfl, rfl, rfl, trivial⟩ ?_
  refine J.seq (fun K7 hK7 => ?_)
  refine J.region ?_
  refine J.y (op_move rfl rfl) rfl rfl rfl ?_
  refine J.y ((op_eql rfl rfl rfl).as (v' := .bool true) (congrArg Value.bool (decide_eq_true (by decide)))) rfl rfl rfl ?_
  refine J.y (op_move rfl rfl) rfl rfl rfl ?_
  refine J.yg (Wan.is rfl rfl rfl rfl rfl) (op_move rfl rfl) rfl rfl ?_
  refine J.y (op_pickT rfl rfl rfl) rfl rfl rfl ?_
  refine J.y (op_move rfl rfl) rfl rfl rfl ?_
  refine J.yg (Wan.is rfl rfl rfl rfl rfl) (op_fieldAddr (j := 3) rfl rfl Try.underlying30 rfl Try.sizeOf9 rfl) rfl rfl ?_
  refine J.yg (Wan.is rfl rfl rfl rfl rfl) (op_loadB 2 rfl rfl rfl Try.isAgg9 rfl) rfl rfl ?_
  refine J.yg (Wan.is rfl rfl rfl rfl rfl) ((op_seq rfl rfl rfl).as (v' := .bool true) (congrArg Value.bool (decide_eq_true (rfl)))) rfl rfl ?_
  refine J.y (op_pickT rfl rfl rfl) rfl rfl rfl ?_
  refine J.y (op_move rfl rfl) rfl rfl rfl ?_
  refine J.yg (Wan.is rfl rfl rfl rfl rfl) (op_move rfl rfl) rfl rfl ?_
  refine J.eg (Wan.is rfl rfl rfl rfl rfl) (op_call rfl rfl ent12 (Ct.use0 (fun F' hF => len_ct F' _ 1 A2 c2 (hc2.mono (hF b20 (by simp)))))) rfl rfl ?_
  intro g35 _
  refine J.yg (Wan.is rfl rfl rfl rfl rfl) ((op_eql rfl rfl rfl).as (v' := .bool true) (congrArg Value.bool (decide_eq_true (rfl)))) rfl rfl ?_
  refine J.y (op_pickT rfl rfl rfl) rfl rfl rfl ?_
  refine J.y (op_assign rfl rfl) rfl rfl rfl ?_
  refine J.nil ?_
  refine J.then_n (J.k hK7 ?_)
  refine J.keepE [(0, _)] ⟨rfl, trivial⟩ ?_
  refine J.ret ?_
  exact J.done (fun _ _ h => h) (res1 rfl rfl) (retOk () rfl trivial [1] rfl (by decide))

theorem bagPlays_ct (F : Hp) (A : Option Addr) (n c : Nat) (l : List Act27) (hl : Sl F 4 A n c (actsV27 l)) (hok : ∀ x ∈ l, x.ok) :
    Ct Try.prog 3 [.slice A n c] [F] (fun _ : Unit => .bool true) (fun _ => True) (fun _ => [F]) := by
  have hlen : l.length = n := by have := hl.1; simpa [actsV27] using this
  refine Ct.walk Try.func3 rfl Try.ntmps3 rfl (fun w0 => ?_)
  change J _ [(0, _)] _ _ _
  refine J.seq (fun K1 hK1 => ?_)
  refine J.region ?_
  refine J.y (op_assign rfl rfl) rfl rfl rfl ?_
  refine J.nil ?_
  refine J.then_n (J.k hK1 ?_)
  refine J.keepE [(0, _)] ⟨rfl, trivial⟩ ?_
  refine J.seq (fun K2 hK2 => ?_)
  refine J.seq (fun K3 hK3 => ?_)
  refine J.region ?_
  refine J.e (op_call rfl rfl ent4 (speaks27_ct F)) rfl rfl rfl ?_
  intro g18 _
  refine J.y ((op_not rfl rfl).as (v' := .bool false) rfl) rfl rfl rfl ?_
  refine J.nil ?_
  refine J.then_n (J.k hK3 ?_)
  refine J.keepE [(0, _), (19, _)] ⟨rfl, rfl, trivial⟩ ?_
  refine J.condF rfl rfl ?_
  refine J.skip ?_
  refine J.then_n (J.k hK2 ?_)
  refine J.keepE [(0, _)] ⟨rfl, trivial⟩ ?_
  refine J.seq (fun K4 hK4 => ?_)
  refine J.region ?_
  refine J.e (op_call rfl rfl ent5 (new_ct F)) rfl rfl rfl ?_
  rintro ⟨gb, b20⟩ h20
  try dsimp only at h20
  change J _ ((20, Ptr gb) :: _) _ [b20, F] _
  refine J.addEmpty [1, 0, 2] [F, b20, (fun _ => none)] rfl (by decide) ?_
  refine J.y (op_assign rfl rfl) rfl rfl rfl ?_
  refine J.nil ?_
  refine J.then_n (J.k hK4 ?_)
  refine J.keepE [(0, _), (3, _)] ⟨rfl, rfl, trivial⟩ ?_
  refine J.seq (fun K5 hK5 => ?_)
  refine J.region ?_
  refine J.y (op_assign rfl rfl) rfl rfl rfl ?_
  refine J.nil ?_
  refine J.then_n (J.k hK5 ?_)
  refine J.keepE [(0, _), (3, _), (4, _)] ⟨rfl, rfl, rfl, trivial⟩ ?_
  refine J.seq (fun K6 hK6 => ?_)
  refine J.seq (fun K7 hK7 => ?_)
  refine J.region ?_
  refine J.y (op_assign rfl rfl) rfl rfl rfl ?_
  refine J.nil ?_
  refine J.then_n (J.k hK7 ?_)
  refine J.keepE [(0, _), (3, _), (4, _), (5, _)] ⟨rfl, rfl, rfl, rfl, trivial⟩ ?_
  refine J.block ?_
  refine J.loop (X := Nat × List Let × Hp × Option Addr × Nat × Hp) (fun x => [(0, .slice A n c), (3, Ptr gb), (4, .slice x.2.2.2.1 x.2.1.length x.2.2.2.2.1), (5, I x.1)]) (fun x => [F, x.2.2.1, x.2.2.2.2.2]) (fun x => x.1 ≤ n ∧ x.1 ≤ 100 ∧ x.2.1.length ≤ x.1 ∧ Bagged x.2.2.1 gb x.2.1 ∧ Row x.2.2.2.2.2 30 4 x.2.2.2.1 x.2.1.length x.2.2.2.2.1 (lettersV x.2.1) ∧ ∀ y ∈ x.2.1, y.body.length ≤ 10) (fun x => n - x.1) (0, [], b20, none, 0, fun _ => none) (⟨Nat.zero_le _, Nat.zero_le _, Nat.zero_le _, h20, RowQ.nil, by simp⟩) ⟨rfl, rfl, rfl, rfl, trivial⟩ (fun _ h => h) ?_
  rintro ⟨k, L, b, A4, c4, m⟩ ⟨hk, hk100, hLk, hb, hrow, hsm⟩ I0 hI0
  dsimp only at hk hk100 hLk hb hrow hsm ⊢
  refine J.seq (fun K8 hK8 => ?_)
  refine J.seq (fun K9 hK9 => ?_)
  refine J.region ?_
  refine J.y (op_move rfl rfl) rfl rfl rfl ?_
  refine J.y (op_move rfl rfl) rfl rfl rfl ?_
  refine J.y (op_len Try.underlying22 rfl rfl) rfl rfl rfl ?_
  refine J.y (op_lss rfl rfl rfl) rfl rfl rfl ?_
  refine J.y (op_move rfl rfl) rfl rfl rfl ?_
  refine J.split (d := 25) rfl (fun h25 => ?_) (fun h25 => ?_)
  ·
    refine J.yg (Wan.is rfl rfl rfl rfl rfl) (op_move rfl rfl) rfl rfl ?_
    refine J.yg (Wan.is rfl rfl rfl rfl rfl) (op_lss rfl rfl rfl) rfl rfl ?_
    refine J.y (op_pickT rfl rfl rfl) rfl rfl rfl ?_
    refine J.nil ?_
    refine J.then_n (J.k hK9 ?_)
    refine J.keepE [(0, _), (3, _), (4, _), (5, _), (28, _)] ⟨rfl, rfl, rfl, rfl, rfl, trivial⟩ ?_
    refine J.ite rfl (fun h28 => ?_) (fun h28 => ?_)
    ·
      refine J.skip ?_
      refine J.then_n (J.k hK8 ?_)
      refine J.keepE [(0, _), (3, _), (4, _), (5, _)] ⟨rfl, rfl, rfl, rfl, trivial⟩ ?_
      refine J.seq (fun K10 hK10 => ?_)
      refine J.block ?_
      refine J.seq (fun K11 hK11 => ?_)
      have hact := hok _ (List.mem_of_getElem? (getSome noAct27 (show k < l.length by omega)))
      have hxi := hact.2.1
      have hxa := hact.2.2
      have htb : -6 < (l.getD k noAct27).what.tmod 6 ∧ (l.getD k noAct27).what.tmod 6 < 6 := tmod_bounds (l.getD k noAct27).what (n := 6) (by decide)
      have htb2 := tmod_bounds (l.getD k noAct27).what (n := 6) (by decide)
      have hbl : ((l.getD k noAct27).body.take 10).length ≤ 10 := by rw [List.length_take]; omega
      obtain ⟨A1, c1, hc1, hs1⟩ := hb.see
      have hrc := hrow.2.2.1
      obtain ⟨nd, hnd⟩ : ∃ nd, nd = (l.getD k noAct27).i % 4 := ⟨_, rfl⟩
      refine J.region ?_
      refine J.y (op_move rfl rfl) rfl rfl rfl ?_
      refine J.y (op_move rfl rfl) rfl rfl rfl ?_
      refine J.y (op_indexAddr (i := k) rfl rfl rfl Try.underlying22 Try.sizeOf28 hl (by omega)) rfl rfl rfl ?_
      refine J.y (op_loadA rfl rfl Try.isAgg28 Try.sizeOf28 (m := F) (by simp) (hl.elem (actsV27_get (by omega))) rfl) rfl rfl rfl ?_
      refine J.e (op_alloc rfl Try.zeroValue28 rfl) rfl rfl rfl ?_
      intro g6 _
      change J _ _ _ [F, b, m, blk g6 _ 28] _
      refine J.s (op_storeAll (l := [I 0, I 0, I 0, Str []]) (i := 3) (vs := (l.getD k noAct27).cells) rfl rfl rfl rfl rfl Try.sizeOf28 rfl rfl) rfl rfl (fun _ _ => ?_)
      change J _ _ _ [F, b, m, blk g6 (l.getD k noAct27).cells 28] _
      refine J.nil ?_
      refine J.then_n (J.k hK11 ?_)
      refine J.keepE [(0, _), (3, _), (4, _), (5, _), (6, _)] ⟨rfl, rfl, rfl, rfl, rfl, trivial⟩ ?_
      refine J.seq (fun K12 hK12 => ?_)
      refine J.region ?_
      refine J.y (op_fieldAddr (j := 3) rfl rfl Try.underlying28 rfl Try.sizeOf9 rfl) rfl rfl rfl ?_
      refine J.y (op_loadB 3 rfl rfl rfl Try.isAgg9 rfl) rfl rfl rfl ?_
      refine J.y (op_fieldAddr (j := 3) rfl rfl Try.underlying28 rfl Try.sizeOf9 rfl) rfl rfl rfl ?_
      refine J.y (op_loadB 3 rfl rfl rfl Try.isAgg9 rfl) rfl rfl rfl ?_
      refine J.y (op_slen Try.underlying9 rfl rfl) rfl rfl rfl ?_
      refine J.y ((op_min rfl rfl rfl).as (v' := I ((min (l.getD k noAct27).body.length 10 : Nat) : Int)) (congrArg I (by omega))) rfl rfl rfl ?_
      refine J.y ((op_sslice (l := 0) (h := min (l.getD k noAct27).body.length 10) Try.underlying9 rfl rfl rfl rfl ⟨by omega, by omega⟩).as (congrArg Str (take_min27 _ _))) rfl rfl rfl ?_
      refine J.y (op_assign rfl rfl) rfl rfl rfl ?_
      refine J.nil ?_
      refine J.then_n (J.k hK12 ?_)
      refine J.keepE [(0, _), (3, _), (4, _), (5, _), (6, _), (7, _)] ⟨rfl, rfl, rfl, rfl, rfl, rfl, trivial⟩ ?_
      refine J.seq (fun K13 hK13 => ?_)
      refine J.region ?_
      refine J.y (op_move rfl rfl) rfl rfl rfl ?_
      refine J.y (op_len Try.underlying26 rfl rfl) rfl rfl rfl ?_
      refine J.y (op_assign rfl rfl) rfl rfl rfl ?_
      refine J.nil ?_
      refine J.then_n (J.k hK13 ?_)
      refine J.keepE [(0, _), (3, _), (4, _), (5, _), (6, _), (7, _), (8, _)] ⟨rfl, rfl, rfl, rfl, rfl, rfl, rfl, trivial⟩ ?_
      refine J.seq (fun K14 hK14 => ?_)
      refine J.seq (fun K15 hK15 => ?_)
      refine J.region ?_
      refine J.y (op_fieldAddr (j := 0) rfl rfl Try.underlying28 rfl Try.sizeOf3 rfl) rfl rfl rfl ?_
      refine J.y (op_loadB 3 rfl rfl rfl Try.isAgg3 rfl) rfl rfl rfl ?_
      refine J.y (op_remT rfl rfl rfl (by decide)) rfl rfl rfl ?_
      refine J.y (op_add rfl rfl rfl (by omega)) rfl rfl rfl ?_
      refine J.y ((op_rem rfl rfl rfl (by omega)).as (v' := I ((l.getD k noAct27).what % 6)) (congrArg I (tmod_fix (l.getD k noAct27).what 6))) rfl rfl rfl ?_
      refine J.nil ?_
      refine J.then_n (J.k hK15 ?_)
      refine J.keepE [(0, _), (3, _), (4, _), (5, _), (6, _), (7, _), (8, _), (48, _)] ⟨rfl, rfl, rfl, rfl, rfl, rfl, rfl, rfl, trivial⟩ ?_
      refine J.block ?_
      refine J.seq (fun K16 hK16 => ?_)
      refine J.region ?_
      refine J.y (op_eql rfl rfl rfl) rfl rfl rfl ?_
      refine J.y (op_assign rfl rfl) rfl rfl rfl ?_
      refine J.nil ?_
      refine J.then_n (J.k hK16 ?_)
      refine J.keepE [(0, _), (3, _), (4, _), (5, _), (6, _), (7, _), (8, _), (48, _), (68, _)] ⟨rfl, rfl, rfl, rfl, rfl, rfl, rfl, rfl, rfl, trivial⟩ ?_
      refine J.ite rfl (fun h68 => ?_) (fun h68 => ?_)
      ·
        refine J.seq (fun K17 hK17 => ?_)
        refine J.region ?_
        refine J.y (op_move rfl rfl) rfl rfl rfl ?_
        refine J.y (op_fieldAddr (j := 1) rfl rfl Try.underlying28 rfl Try.sizeOf3 rfl) rfl rfl rfl ?_
        refine J.y (op_loadB 3 rfl rfl rfl Try.isAgg3 rfl) rfl rfl rfl ?_
        refine J.e (op_call rfl rfl ent6 (Ct.use1 1 (m' := fun x : Hp => x) (new := fun _ => []) rfl (fun F' _ => take_ct F' b gb L hb (l.getD k noAct27).i hxi (by omega)))) rfl rfl rfl ?_
        rintro b9 h9
        change J _ _ _ [F, b9, m, blk g6 (l.getD k noAct27).cells 28] _
        refine J.y (op_move rfl rfl) rfl rfl rfl ?_
        refine J.y (op_extract (v := .agg (if 0 < L.length then L.getD (pl (l.getD k noAct27).i L.length) noLet else noLet).cells.toArray) rfl rfl rfl) rfl rfl rfl ?_
        refine J.y (op_extract (v := .bool (decide (0 < L.length))) rfl rfl rfl) rfl rfl rfl ?_
        refine J.e (op_alloc rfl Try.zeroValue30 rfl) rfl rfl rfl ?_
        intro g9 _
        change J _ _ _ [F, b9, m, blk g6 (l.getD k noAct27).cells 28, blk g9 _ 30] _
        refine J.s (op_storeAll (l := [I 0, I 0, I 0, Str []]) (i := 4) (vs := (if 0 < L.length then L.getD (pl (l.getD k noAct27).i L.length) noLet else noLet).cells) rfl rfl rfl rfl rfl Try.sizeOf30 rfl rfl) rfl rfl (fun _ _ => ?_)
        change J _ _ _ [F, b9, m, blk g6 (l.getD k noAct27).cells 28, blk g9 (if 0 < L.length then L.getD (pl (l.getD k noAct27).i L.length) noLet else noLet).cells 30] _
        refine J.y (op_assign rfl rfl) rfl rfl rfl ?_
        refine J.nil ?_
        refine J.then_n (J.k hK17 ?_)
        refine J.keepE [(0, _), (3, _), (4, _), (5, _), (6, _), (8, _), (9, _), (10, _)] ⟨rfl, rfl, rfl, rfl, rfl, rfl, rfl, rfl, trivial⟩ ?_
        refine J.seq (fun K18 hK18 => ?_)
        refine J.seq (fun K19 hK19 => ?_)
        refine J.region ?_
        refine J.y (op_move rfl rfl) rfl rfl rfl ?_
        refine J.y (op_move rfl rfl) rfl rfl rfl ?_
        refine J.y ((op_gtr rfl rfl rfl).as (v' := .bool (decide (0 < L.length))) (congrArg Value.bool (decide_eq_decide.2 (by omega)))) rfl rfl rfl ?_
        refine J.y ((op_neqB Try.underlying4 rfl rfl rfl).as (v' := .bool false) (by simp)) rfl rfl rfl ?_
        refine J.nil ?_
        refine J.then_n (J.k hK19 ?_)
        refine J.keepE [(0, _), (3, _), (4, _), (5, _), (6, _), (8, _), (9, _), (10, _), (80, _)] ⟨rfl, rfl, rfl, rfl, rfl, rfl, rfl, rfl, rfl, trivial⟩ ?_
        refine J.condF rfl rfl ?_
        refine J.skip ?_
        refine J.then_n (J.k hK18 ?_)
        refine J.keepE [(0, _), (3, _), (4, _), (5, _), (6, _), (8, _), (9, _), (10, _)] ⟨rfl, rfl, rfl, rfl, rfl, rfl, rfl, rfl, trivial⟩ ?_
        refine J.seq (fun K20 hK20 => ?_)
        refine J.region ?_
        refine J.y (op_move rfl rfl) rfl rfl rfl ?_
        refine J.nil ?_
        refine J.then_n (J.k hK20 ?_)
        refine J.keepE [(0, _), (3, _), (4, _), (5, _), (6, _), (8, _), (9, _), (81, _)] ⟨rfl, rfl, rfl, rfl, rfl, rfl, rfl, rfl, trivial⟩ ?_
        refine J.ite rfl (fun h81 => ?_) (fun h81 => ?_)
        ·
          rw [if_pos h81] at h9
          have hplk := pl_lt (l.getD k noAct27).i h81
          refine J.seq (fun K21 hK21 => ?_)
          refine J.region ?_
          refine J.y (op_fieldAddr (j := 1) rfl rfl Try.underlying28 rfl Try.sizeOf3 rfl) rfl rfl rfl ?_
          refine J.y (op_loadB 3 rfl rfl rfl Try.isAgg3 rfl) rfl rfl rfl ?_
          refine J.y (op_move rfl rfl) rfl rfl rfl ?_
          refine J.e (op_call rfl rfl ent7 (Ct.use0 (fun F' hF => place27_ct F' (l.getD k noAct27).i L.length hxi h81 (by omega)))) rfl rfl rfl ?_
          intro g85 _
          refine J.y (op_assign rfl rfl) rfl rfl rfl ?_
          refine J.nil ?_
          refine J.then_n (J.k hK21 ?_)
          refine J.keepE [(0, _), (3, _), (4, _), (5, _), (9, _), (11, _)] ⟨rfl, rfl, rfl, rfl, rfl, rfl, trivial⟩ ?_
          refine J.seq (fun K22 hK22 => ?_)
          refine J.seq (fun K23 hK23 => ?_)
          refine J.draw [m, blk g9 (if 0 < L.length then L.getD (pl (l.getD k noAct27).i L.length) noLet else noLet).cells 30] [] (.y 0 (.y 1 (.y 2 (.y 3 (.y 4 (.y 5 .nil)))))) mixo (by decide +kernel) (by simp) ?_
          refine J.dy rfl (op_loadBA 1 rfl rfl rfl Try.isAgg30 Try.sizeOf30 rfl) rfl rfl rfl rfl ?_
          refine J.dy rfl (op_move rfl rfl) rfl rfl rfl rfl ?_
          refine J.dy rfl (op_move rfl rfl) rfl rfl rfl rfl ?_
          refine J.dy rfl (op_indexAddr (i := (pl (l.getD k noAct27).i L.length)) rfl rfl rfl Try.underlying26 Try.sizeOf30 hrow.sl (pl_lt _ h81)) rfl rfl rfl rfl ?_
          refine J.dy rfl (op_loadA rfl rfl Try.isAgg30 Try.sizeOf30 (m := m) (by simp) (hrow.sl.elem (lettersV_get (pl_lt _ h81))) rfl) rfl rfl rfl rfl ?_
          refine J.dy rfl ((op_neS rfl rfl rfl (by kernel_rfl) (eqLet _ _)).as (v' := .bool false) (by rw [if_pos h81]; simp)) rfl rfl rfl rfl ?_
          refine J.dnil ?_
          refine J.then_n (J.k hK23 ?_)
          refine J.keepE [(0, _), (3, _), (4, _), (5, _), (11, _), (91, _)] ⟨rfl, rfl, rfl, rfl, rfl, rfl, trivial⟩ ?_
          refine J.condF rfl rfl ?_
          refine J.skip ?_
          refine J.then_n (J.k hK22 ?_)
          refine J.keepE [(0, _), (3, _), (4, _), (5, _), (11, _)] ⟨rfl, rfl, rfl, rfl, rfl, trivial⟩ ?_
          refine J.draw [m] [] (.y 1 (.y 2 (.y 3 (.y 5 (.y 6 (.y 7 (.y 8 (.e 0 (.e 4 (.e 9 (.y 10 .nil))))))))))) mixo (by decide +kernel) (by simp) ?_
          refine J.dy rfl (op_move rfl rfl) rfl rfl rfl rfl ?_
          refine J.dy rfl (op_move rfl rfl) rfl rfl rfl rfl ?_
          refine J.dy rfl (op_sliceTo (h := (pl (l.getD k noAct27).i L.length)) rfl rfl Try.underlying26 Try.sizeOf30 rfl (by omega)) rfl rfl rfl rfl ?_
          refine J.dy rfl (op_move rfl rfl) rfl rfl rfl rfl ?_
          refine J.dy rfl (op_move rfl rfl) rfl rfl rfl rfl ?_
          refine J.dy rfl ((op_add rfl rfl rfl (by first | omega | (refine ⟨?_, ?_⟩ <;> omega))).as (v' := I (((pl (l.getD k noAct27).i L.length) + 1 : Nat) : Int)) (congrArg I (by omega))) rfl rfl rfl rfl ?_
          refine J.dy rfl (op_slice (l := (pl (l.getD k noAct27).i L.length) + 1) (h := L.length) rfl rfl Try.underlying26 Try.sizeOf30 rfl rfl (by omega)) rfl rfl rfl rfl ?_
          refine J.de rfl (op_buildSlice0 rfl Try.underlying26 el30) rfl rfl rfl (by simp) ?_
          intro g92 _
          change J _ _ _ [F, b9, m, blk g6 (l.getD k noAct27).cells 28, blk g9 (if 0 < L.length then L.getD (pl (l.getD k noAct27).i L.length) noLet else noLet).cells 30, blk g92 [] 30] _
          refine J.de rfl (op_append (i := 5) (m2 := m) (xs := []) (ys := (lettersV L).take (pl (l.getD k noAct27).i L.length)) rfl rfl rfl Try.underlying26 Try.underlying26 el30 rfl (row_blk (q := True) (xs := []) rfl (by simp)) (by simp) (hrow.sl.to (by omega)) (by rw [lettersV_take]; exact lettersV_one _) (by omega) (by omega)) rfl rfl rfl (by simp) ?_
          rintro ⟨A96, c96, m96⟩ h96
          try dsimp only at h96
          change J _ ((96, .slice A96 (0 + (pl (l.getD k noAct27).i L.length)) c96) :: _) _ [F, b9, m, blk g6 (l.getD k noAct27).cells 28, blk g9 (if 0 < L.length then L.getD (pl (l.getD k noAct27).i L.length) noLet else noLet).cells 30, m96] _
          rw [List.nil_append] at h96
          refine J.de rfl (op_append (i := 5) (m2 := m) (ys := ((lettersV L).take L.length).drop ((pl (l.getD k noAct27).i L.length) + 1)) rfl rfl rfl Try.underlying26 Try.underlying26 el30 rfl h96 (by simp) (hrow.sl.cut (by omega) (Nat.le_refl _) (by omega)) (by rw [List.take_of_length_le (by rw [lettersV_len]; exact Nat.le_refl _), lettersV_drop]; exact lettersV_one _) (by omega) (by omega)) rfl rfl rfl (by simp) ?_
          rintro ⟨A101, c101, m101⟩ h101
          try dsimp only at h101
          change J _ ((101, .slice A101 (0 + (pl (l.getD k noAct27).i L.length) + (L.length - ((pl (l.getD k noAct27).i L.length) + 1))) c101) :: _) _ [F, b9, m, blk g6 (l.getD k noAct27).cells 28, blk g9 (if 0 < L.length then L.getD (pl (l.getD k noAct27).i L.length) noLet else noLet).cells 30, m101] _
          have hcnt : 0 + (pl (l.getD k noAct27).i L.length) + (L.length - ((pl (l.getD k noAct27).i L.length) + 1)) = (L.take (pl (l.getD k noAct27).i L.length) ++ L.drop ((pl (l.getD k noAct27).i L.length) + 1)).length := by rw [List.length_append, List.length_take, List.length_drop]; omega
          have hrow9 : Row m101 30 4 A101 (L.take (pl (l.getD k noAct27).i L.length) ++ L.drop ((pl (l.getD k noAct27).i L.length) + 1)).length c101 (lettersV (L.take (pl (l.getD k noAct27).i L.length) ++ L.drop ((pl (l.getD k noAct27).i L.length) + 1))) := by
            rw [lettersV_app, ← lettersV_take, ← lettersV_drop, ← hcnt]
            rw [show (lettersV L).take L.length = lettersV L from List.take_of_length_le (by rw [lettersV_len]; exact Nat.le_refl _)] at h101
            exact h101
          rw [hcnt]
          refine J.perm [0, 1, 5] [F, b9, m101] rfl (by decide) ?_
          refine J.dy rfl (op_assign rfl rfl) rfl rfl rfl rfl ?_
          refine J.dnil ?_
          refine J.blk_n ?_
          refine J.then_n (J.k hK14 ?_)
          refine J.keepE [(0, _), (3, _), (4, _), (5, _)] ⟨rfl, rfl, rfl, rfl, trivial⟩ ?_
          refine J.seq (fun K24 hK24 => ?_)
          obtain ⟨A9, c9, hc9, _⟩ := h9.see
          refine J.region ?_
          refine J.y (op_move rfl rfl) rfl rfl rfl ?_
          refine J.e (op_call rfl rfl ent12 (Ct.use0 (fun F' hF => len_ct F' gb _ _ _ (hc9.mono (hF _ (by simp)))))) rfl rfl rfl ?_
          intro g215 _
          refine J.y (op_move rfl rfl) rfl rfl rfl ?_
          refine J.y (op_len Try.underlying26 rfl rfl) rfl rfl rfl ?_
          refine J.y ((op_neq rfl rfl rfl).as (v' := .bool false) (congrArg Value.bool (decide_eq_false (by intro h; apply h; first | rfl | (exfalso; omega))))) rfl rfl rfl ?_
          refine J.nil ?_
          refine J.then_n (J.k hK24 ?_)
          refine J.keepE [(0, _), (3, _), (4, _), (5, _), (218, _)] ⟨rfl, rfl, rfl, rfl, rfl, trivial⟩ ?_
          refine J.condF rfl rfl ?_
          refine J.skip ?_
          refine J.blk_n ?_
          refine J.then_n (J.k hK10 ?_)
          refine J.keepE [(0, _), (3, _), (4, _), (5, _)] ⟨rfl, rfl, rfl, rfl, trivial⟩ ?_
          refine J.region ?_
          refine J.y (op_move rfl rfl) rfl rfl rfl ?_
          refine J.y ((op_add rfl rfl rfl (by first | omega | (refine ⟨?_, ?_⟩ <;> omega))).as (v' := I ((k + 1 : Nat) : Int)) (congrArg I (by omega))) rfl rfl rfl ?_
          refine J.y (op_assign rfl rfl) rfl rfl rfl ?_
          refine J.nil ?_
          refine J.then_n ?_
          first | (exfalso; omega) | (exact J.kk (k + 1, (L.take (pl (l.getD k noAct27).i L.length) ++ L.drop ((pl (l.getD k noAct27).i L.length) + 1)), _, A101, c101, m101) (fun x (hx : _ ∧ n - x.1 < n - k) => hI0 x hx.1 hx.2) ⟨⟨by dsimp only; omega, by dsimp only; omega, by dsimp only; first | omega | (rw [← hcnt]; omega), h9, hrow9, small_take hsm⟩, by dsimp only; omega⟩ ⟨rfl, rfl, rfl, rfl, trivial⟩ (fun _ h => h.pick [0, 1, 2] (by decide))) | (exact J.kk (k + 1, L, _, A4, c4, m) (fun x (hx : _ ∧ n - x.1 < n - k) => hI0 x hx.1 hx.2) ⟨⟨by dsimp only; omega, by dsimp only; omega, by dsimp only; first | omega | (rw [← hcnt]; omega), h9, hrow, hsm⟩, by dsimp only; omega⟩ ⟨rfl, rfl, rfl, rfl, trivial⟩ (fun _ h => h.pick [0, 1, 2] (by decide))) | (exact J.kk (k + 1, (L ++ [L.getD (pl (l.getD k noAct27).i L.length) noLet]), _, A132, c132, m132) (fun x (hx : _ ∧ n - x.1 < n - k) => hI0 x hx.1 hx.2) ⟨⟨by dsimp only; omega, by dsimp only; omega, by dsimp only; first | omega | (rw [← hcnt]; omega), h9, hrow9, small_snoc hsm (small_get _ hsm)⟩, by dsimp only; omega⟩ ⟨rfl, rfl, rfl, rfl, trivial⟩ (fun _ h => h.pick [0, 1, 2] (by decide))) | (exact J.kk (k + 1, (turnL L (l.getD k noAct27).i (l.getD k noAct27).pos (UInt8.ofNat k)), _, _, c182, m188) (fun x (hx : _ ∧ n - x.1 < n - k) => hI0 x hx.1 hx.2) ⟨⟨by dsimp only; omega, by dsimp only; omega, by dsimp only; first | omega | (rw [← hcnt]; omega), h9, hrow9, small_turn hsm⟩, by dsimp only; omega⟩ ⟨rfl, rfl, rfl, rfl, trivial⟩ (fun _ h => h.pick [0, 1, 2] (by decide))) | (exact J.kk (k + 1, (L ++ [(⟨(l.getD k noAct27).i % 4, (l.getD k noAct27).pos % 4, k, ((l.getD k noAct27).body.take 10)⟩ : Let)]), _, A67, c67, m67) (fun x (hx : _ ∧ n - x.1 < n - k) => hI0 x hx.1 hx.2) ⟨⟨by dsimp only; omega, by dsimp only; omega, by dsimp only; first | omega | (rw [← hcnt]; omega), h9, hrow9, small_snoc hsm hbl⟩, by dsimp only; omega⟩ ⟨rfl, rfl, rfl, rfl, trivial⟩ (fun _ h => h.pick [0, 1, 2] (by decide)))
        ·
          rw [if_neg h81] at h9
          refine J.skip ?_
          refine J.blk_n ?_
          refine J.then_n (J.k hK14 ?_)
          refine J.keepE [(0, _), (3, _), (4, _), (5, _)] ⟨rfl, rfl, rfl, rfl, trivial⟩ ?_
          refine J.seq (fun K25 hK25 => ?_)
          obtain ⟨A9, c9, hc9, _⟩ := h9.see
          refine J.region ?_
          refine J.y (op_move rfl rfl) rfl rfl rfl ?_
          refine J.e (op_call rfl rfl ent12 (Ct.use0 (fun F' hF => len_ct F' gb _ _ _ (hc9.mono (hF _ (by simp)))))) rfl rfl rfl ?_
          intro g215 _
          refine J.y (op_move rfl rfl) rfl rfl rfl ?_
          refine J.y (op_len Try.underlying26 rfl rfl) rfl rfl rfl ?_
          refine J.y ((op_neq rfl rfl rfl).as (v' := .bool false) (congrArg Value.bool (decide_eq_false (by intro h; apply h; first | rfl | (exfalso; omega))))) rfl rfl rfl ?_
          refine J.nil ?_
          refine J.then_n (J.k hK25 ?_)
          refine J.keepE [(0, _), (3, _), (4, _), (5, _), (218, _)] ⟨rfl, rfl, rfl, rfl, rfl, trivial⟩ ?_
          refine J.condF rfl rfl ?_
          refine J.skip ?_
          refine J.blk_n ?_
          refine J.then_n (J.k hK10 ?_)
          refine J.keepE [(0, _), (3, _), (4, _), (5, _)] ⟨rfl, rfl, rfl, rfl, trivial⟩ ?_
          refine J.region ?_
          refine J.y (op_move rfl rfl) rfl rfl rfl ?_
          refine J.y ((op_add rfl rfl rfl (by first | omega | (refine ⟨?_, ?_⟩ <;> omega))).as (v' := I ((k + 1 : Nat) : Int)) (congrArg I (by omega))) rfl rfl rfl ?_
          refine J.y (op_assign rfl rfl) rfl rfl rfl ?_
          refine J.nil ?_
          refine J.then_n ?_
          first | (exfalso; omega) | (exact J.kk (k + 1, (L.take (pl (l.getD k noAct27).i L.length) ++ L.drop ((pl (l.getD k noAct27).i L.length) + 1)), _, A101, c101, m101) (fun x (hx : _ ∧ n - x.1 < n - k) => hI0 x hx.1 hx.2) ⟨⟨by dsimp only; omega, by dsimp only; omega, by dsimp only; first | omega | (rw [← hcnt]; omega), h9, hrow9, small_take hsm⟩, by dsimp only; omega⟩ ⟨rfl, rfl, rfl, rfl, trivial⟩ (fun _ h => h.pick [0, 1, 2] (by decide))) | (exact J.kk (k + 1, L, _, A4, c4, m) (fun x (hx : _ ∧ n - x.1 < n - k) => hI0 x hx.1 hx.2) ⟨⟨by dsimp only; omega, by dsimp only; omega, by dsimp only; first | omega | (rw [← hcnt]; omega), h9, hrow, hsm⟩, by dsimp only; omega⟩ ⟨rfl, rfl, rfl, rfl, trivial⟩ (fun _ h => h.pick [0, 1, 2] (by decide))) | (exact J.kk (k + 1, (L ++ [L.getD (pl (l.getD k noAct27).i L.length) noLet]), _, A132, c132, m132) (fun x (hx : _ ∧ n - x.1 < n - k) => hI0 x hx.1 hx.2) ⟨⟨by dsimp only; omega, by dsimp only; omega, by dsimp only; first | omega | (rw [← hcnt]; omega), h9, hrow9, small_snoc hsm (small_get _ hsm)⟩, by dsimp only; omega⟩ ⟨rfl, rfl, rfl, rfl, trivial⟩ (fun _ h => h.pick [0, 1, 2] (by decide))) | (exact J.kk (k + 1, (turnL L (l.getD k noAct27).i (l.getD k noAct27).pos (UInt8.ofNat k)), _, _, c182, m188) (fun x (hx : _ ∧ n - x.1 < n - k) => hI0 x hx.1 hx.2) ⟨⟨by dsimp only; omega, by dsimp only; omega, by dsimp only; first | omega | (rw [← hcnt]; omega), h9, hrow9, small_turn hsm⟩, by dsimp only; omega⟩ ⟨rfl, rfl, rfl, rfl, trivial⟩ (fun _ h => h.pick [0, 1, 2] (by decide))) | (exact J.kk (k + 1, (L ++ [(⟨(l.getD k noAct27).i % 4, (l.getD k noAct27).pos % 4, k, ((l.getD k noAct27).body.take 10)⟩ : Let)]), _, A67, c67, m67) (fun x (hx : _ ∧ n - x.1 < n - k) => hI0 x hx.1 hx.2) ⟨⟨by dsimp only; omega, by dsimp only; omega, by dsimp only; first | omega | (rw [← hcnt]; omega), h9, hrow9, small_snoc hsm hbl⟩, by dsimp only; omega⟩ ⟨rfl, rfl, rfl, rfl, trivial⟩ (fun _ h => h.pick [0, 1, 2] (by decide)))
      ·
        refine J.seq (fun K26 hK26 => ?_)
        refine J.region ?_
        refine J.y (op_eql rfl rfl rfl) rfl rfl rfl ?_
        refine J.y (op_assign rfl rfl) rfl rfl rfl ?_
        refine J.nil ?_
        refine J.then_n (J.k hK26 ?_)
        refine J.keepE [(0, _), (3, _), (4, _), (5, _), (6, _), (7, _), (8, _), (48, _), (102, _)] ⟨rfl, rfl, rfl, rfl, rfl, rfl, rfl, rfl, rfl, trivial⟩ ?_
        refine J.ite rfl (fun h102 => ?_) (fun h102 => ?_)
        ·
          refine J.seq (fun K27 hK27 => ?_)
          refine J.seq (fun K28 hK28 => ?_)
          refine J.region ?_
          refine J.y (op_move rfl rfl) rfl rfl rfl ?_
          refine J.y (op_fieldAddr (j := 1) rfl rfl Try.underlying28 rfl Try.sizeOf3 rfl) rfl rfl rfl ?_
          refine J.y (op_loadB 3 rfl rfl rfl Try.isAgg3 rfl) rfl rfl rfl ?_
          refine J.e (op_call rfl rfl ent8 (Ct.use1 1 (m' := fun x : Hp => x) (new := fun _ => []) rfl (fun F' _ => again_ct F' b gb L hb (l.getD k noAct27).i hxi (by omega)))) rfl rfl rfl ?_
          rintro b9 h9
          change J _ _ _ [F, b9, m, blk g6 (l.getD k noAct27).cells 28] _
          refine J.y (op_move rfl rfl) rfl rfl rfl ?_
          refine J.y (op_gtr rfl rfl rfl) rfl rfl rfl ?_
          refine J.y (op_move rfl rfl) rfl rfl rfl ?_
          refine J.split (d := 110) rfl (fun h110 => ?_) (fun h110 => ?_)
          ·
            rw [if_pos (show 0 < L.length ∧ L.length < 256 by omega)] at h9
            have hplk := pl_lt (l.getD k noAct27).i (show 0 < L.length by omega)
            refine J.yg (Wan.is rfl rfl rfl rfl rfl) (op_move rfl rfl) rfl rfl ?_
            refine J.yg (Wan.is rfl rfl rfl rfl rfl) ((op_lss rfl rfl rfl).as (v' := .bool true) (congrArg Value.bool (decide_eq_true (by omega)))) rfl rfl ?_
            refine J.y (op_pickT rfl rfl rfl) rfl rfl rfl ?_
            refine J.y ((op_neqB Try.underlying4 rfl rfl rfl).as (v' := .bool false) (by by_cases h : 0 < L.length; (rw [decide_eq_true (show 0 < L.length ∧ L.length < 256 by omega)]; first | rfl | (exfalso; omega)); (rw [decide_eq_false (show ¬ (0 < L.length ∧ L.length < 256) by omega)]; first | rfl | (exfalso; omega)))) rfl rfl rfl ?_
            refine J.nil ?_
            refine J.then_n (J.k hK28 ?_)
            refine J.keepE [(0, _), (3, _), (4, _), (5, _), (6, _), (8, _), (114, _)] ⟨rfl, rfl, rfl, rfl, rfl, rfl, rfl, trivial⟩ ?_
            refine J.condF rfl rfl ?_
            refine J.skip ?_
            refine J.then_n (J.k hK27 ?_)
            refine J.keepE [(0, _), (3, _), (4, _), (5, _), (6, _), (8, _)] ⟨rfl, rfl, rfl, rfl, rfl, rfl, trivial⟩ ?_
            refine J.seq (fun K29 hK29 => ?_)
            refine J.region ?_
            refine J.y (op_move rfl rfl) rfl rfl rfl ?_
            refine J.y (op_gtr rfl rfl rfl) rfl rfl rfl ?_
            refine J.y (op_move rfl rfl) rfl rfl rfl ?_
            refine J.split (d := 117) rfl (fun h117 => ?_) (fun h117 => ?_)
            ·
              refine J.yg (Wan.is rfl rfl rfl rfl rfl) (op_move rfl rfl) rfl rfl ?_
              refine J.yg (Wan.is rfl rfl rfl rfl rfl) ((op_lss rfl rfl rfl).as (v' := .bool true) (congrArg Value.bool (decide_eq_true (by omega)))) rfl rfl ?_
              refine J.y (op_pickT rfl rfl rfl) rfl rfl rfl ?_
              refine J.nil ?_
              refine J.then_n (J.k hK29 ?_)
              refine J.keepE [(0, _), (3, _), (4, _), (5, _), (6, _), (8, _), (120, _)] ⟨rfl, rfl, rfl, rfl, rfl, rfl, rfl, trivial⟩ ?_
              refine J.condT rfl rfl ?_
              refine J.draw [m, blk g6 (l.getD k noAct27).cells 28] [] (.y 1 (.y 3 (.y 4 (.y 5 (.y 6 (.e 0 (.e 2 (.e 7 (.y 8 (.y 9 (.e 10 (.e 11 (.y 12 .nil))))))))))))) mixo (by decide +kernel) (by simp) ?_
              refine J.dy rfl (op_move rfl rfl) rfl rfl rfl rfl ?_
              refine J.dy rfl (op_move rfl rfl) rfl rfl rfl rfl ?_
              refine J.dy rfl (op_fieldAddr (j := 1) rfl rfl Try.underlying28 rfl Try.sizeOf3 rfl) rfl rfl rfl rfl ?_
              refine J.dy rfl (op_loadB 1 rfl rfl rfl Try.isAgg3 rfl) rfl rfl rfl rfl ?_
              refine J.dy rfl (op_move rfl rfl) rfl rfl rfl rfl ?_
              refine J.de rfl (op_buildSlice0 rfl Try.underlying26 el30) rfl rfl rfl (by simp) ?_
              intro g121 _
              change J _ _ _ [F, b9, m, blk g6 (l.getD k noAct27).cells 28, blk g121 [] 30] _
              refine J.de rfl (op_append (i := 4) (m2 := m) (xs := []) (ys := lettersV L) rfl rfl rfl Try.underlying26 Try.underlying26 el30 rfl (row_blk (q := True) (xs := []) rfl (by simp)) (by simp) hrow.sl (lettersV_one _) (by omega) (by omega)) rfl rfl rfl (by simp) ?_
              rintro ⟨A123, c123, m123⟩ h123
              try dsimp only at h123
              change J _ ((123, .slice A123 (0 + L.length) c123) :: _) _ [F, b9, m, blk g6 (l.getD k noAct27).cells 28, m123] _
              rw [List.nil_append] at h123
              refine J.de rfl (op_call rfl rfl ent7 (Ct.use0 (fun F' hF => place27_ct F' (l.getD k noAct27).i L.length hxi (by omega) (by omega)))) rfl rfl rfl (by simp) ?_
              intro g128 _
              refine J.dy rfl (op_indexAddr (i := (pl (l.getD k noAct27).i L.length)) rfl rfl rfl Try.underlying26 Try.sizeOf30 hrow.sl (pl_lt _ (by omega))) rfl rfl rfl rfl ?_
              refine J.dy rfl (op_loadA rfl rfl Try.isAgg30 Try.sizeOf30 (m := m) (by simp) (hrow.sl.elem (lettersV_get (pl_lt _ (by omega)))) rfl) rfl rfl rfl rfl ?_
              refine J.de rfl (op_buildSlice (l := [.tmp 130]) (xs := [(L.getD (pl (l.getD k noAct27).i L.length) noLet).cells]) rfl rfl rfl rfl Try.underlying26 el30 rfl (by decide) (by decide) (by simp [Let.cells])) rfl rfl rfl (by simp) ?_
              intro g131 _
              change J _ _ _ [F, b9, m, blk g6 (l.getD k noAct27).cells 28, m123, blk g131 (L.getD (pl (l.getD k noAct27).i L.length) noLet).cells 30] _
              refine J.de rfl (op_append (i := 4) (m2 := blk g131 (L.getD (pl (l.getD k noAct27).i L.length) noLet).cells 30) (xs := lettersV L) (ys := lettersV [L.getD (pl (l.getD k noAct27).i L.length) noLet]) rfl rfl rfl Try.underlying26 Try.underlying26 el30 rfl h123 (by simp) (row_blk (q := True) (xs := lettersV [L.getD (pl (l.getD k noAct27).i L.length) noLet]) rfl (by simp [lettersV, Let.cells])).sl (lettersV_one _) (by omega) (by omega)) rfl rfl rfl (by simp) ?_
              rintro ⟨A132, c132, m132⟩ h132
              try dsimp only at h132
              change J _ ((132, .slice A132 (0 + L.length + 1) c132) :: _) _ [F, b9, m, blk g6 (l.getD k noAct27).cells 28, m132, blk g131 (L.getD (pl (l.getD k noAct27).i L.length) noLet).cells 30] _
              have hcnt : 0 + L.length + 1 = (L ++ [L.getD (pl (l.getD k noAct27).i L.length) noLet]).length := by rw [List.length_append]; simp
              have hrow9 : Row m132 30 4 A132 (L ++ [L.getD (pl (l.getD k noAct27).i L.length) noLet]).length c132 (lettersV (L ++ [L.getD (pl (l.getD k noAct27).i L.length) noLet])) := by rw [lettersV_app, ← hcnt]; exact h132
              rw [hcnt]
              refine J.perm [0, 1, 4] [F, b9, m132] rfl (by decide) ?_
              refine J.dy rfl (op_assign rfl rfl) rfl rfl rfl rfl ?_
              refine J.dnil ?_
              refine J.blk_n ?_
              refine J.then_n (J.k hK14 ?_)
              refine J.keepE [(0, _), (3, _), (4, _), (5, _)] ⟨rfl, rfl, rfl, rfl, trivial⟩ ?_
              refine J.seq (fun K30 hK30 => ?_)
              obtain ⟨A9, c9, hc9, _⟩ := h9.see
              refine J.region ?_
              refine J.y (op_move rfl rfl) rfl rfl rfl ?_
              refine J.e (op_call rfl rfl ent12 (Ct.use0 (fun F' hF => len_ct F' gb _ _ _ (hc9.mono (hF _ (by simp)))))) rfl rfl rfl ?_
              intro g215 _
              refine J.y (op_move rfl rfl) rfl rfl rfl ?_
              refine J.y (op_len Try.underlying26 rfl rfl) rfl rfl rfl ?_
              refine J.y ((op_neq rfl rfl rfl).as (v' := .bool false) (congrArg Value.bool (decide_eq_false (by intro h; apply h; first | rfl | (exfalso; omega))))) rfl rfl rfl ?_
              refine J.nil ?_
              refine J.then_n (J.k hK30 ?_)
              refine J.keepE [(0, _), (3, _), (4, _), (5, _), (218, _)] ⟨rfl, rfl, rfl, rfl, rfl, trivial⟩ ?_
              refine J.condF rfl rfl ?_
              refine J.skip ?_
              refine J.blk_n ?_
              refine J.then_n (J.k hK10 ?_)
              refine J.keepE [(0, _), (3, _), (4, _), (5, _)] ⟨rfl, rfl, rfl, rfl, trivial⟩ ?_
              refine J.region ?_
              refine J.y (op_move rfl rfl) rfl rfl rfl ?_
              refine J.y ((op_add rfl rfl rfl (by first | omega | (refine ⟨?_, ?_⟩ <;> omega))).as (v' := I ((k + 1 : Nat) : Int)) (congrArg I (by omega))) rfl rfl rfl ?_
              refine J.y (op_assign rfl rfl) rfl rfl rfl ?_
              refine J.nil ?_
              refine J.then_n ?_
              first | (exfalso; omega) | (exact J.kk (k + 1, (L.take (pl (l.getD k noAct27).i L.length) ++ L.drop ((pl (l.getD k noAct27).i L.length) + 1)), _, A101, c101, m101) (fun x (hx : _ ∧ n - x.1 < n - k) => hI0 x hx.1 hx.2) ⟨⟨by dsimp only; omega, by dsimp only; omega, by dsimp only; first | omega | (rw [← hcnt]; omega), h9, hrow9, small_take hsm⟩, by dsimp only; omega⟩ ⟨rfl, rfl, rfl, rfl, trivial⟩ (fun _ h => h.pick [0, 1, 2] (by decide))) | (exact J.kk (k + 1, L, _, A4, c4, m) (fun x (hx : _ ∧ n - x.1 < n - k) => hI0 x hx.1 hx.2) ⟨⟨by dsimp only; omega, by dsimp only; omega, by dsimp only; first | omega | (rw [← hcnt]; omega), h9, hrow, hsm⟩, by dsimp only; omega⟩ ⟨rfl, rfl, rfl, rfl, trivial⟩ (fun _ h => h.pick [0, 1, 2] (by decide))) | (exact J.kk (k + 1, (L ++ [L.getD (pl (l.getD k noAct27).i L.length) noLet]), _, A132, c132, m132) (fun x (hx : _ ∧ n - x.1 < n - k) => hI0 x hx.1 hx.2) ⟨⟨by dsimp only; omega, by dsimp only; omega, by dsimp only; first | omega | (rw [← hcnt]; omega), h9, hrow9, small_snoc hsm (small_get _ hsm)⟩, by dsimp only; omega⟩ ⟨rfl, rfl, rfl, rfl, trivial⟩ (fun _ h => h.pick [0, 1, 2] (by decide))) | (exact J.kk (k + 1, (turnL L (l.getD k noAct27).i (l.getD k noAct27).pos (UInt8.ofNat k)), _, _, c182, m188) (fun x (hx : _ ∧ n - x.1 < n - k) => hI0 x hx.1 hx.2) ⟨⟨by dsimp only; omega, by dsimp only; omega, by dsimp only; first | omega | (rw [← hcnt]; omega), h9, hrow9, small_turn hsm⟩, by dsimp only; omega⟩ ⟨rfl, rfl, rfl, rfl, trivial⟩ (fun _ h => h.pick [0, 1, 2] (by decide))) | (exact J.kk (k + 1, (L ++ [(⟨(l.getD k noAct27).i % 4, (l.getD k noAct27).pos % 4, k, ((l.getD k noAct27).body.take 10)⟩ : Let)]), _, A67, c67, m67) (fun x (hx : _ ∧ n - x.1 < n - k) => hI0 x hx.1 hx.2) ⟨⟨by dsimp only; omega, by dsimp only; omega, by dsimp only; first | omega | (rw [← hcnt]; omega), h9, hrow9, small_snoc hsm hbl⟩, by dsimp only; omega⟩ ⟨rfl, rfl, rfl, rfl, trivial⟩ (fun _ h => h.pick [0, 1, 2] (by decide)))
            ·
              refine J.no (Wan.is rfl rfl rfl rfl rfl) rfl rfl ?_
              refine J.no (Wan.is rfl rfl rfl rfl rfl) rfl rfl ?_
              refine J.y (op_pickF rfl rfl rfl) rfl rfl rfl ?_
              refine J.nil ?_
              refine J.then_n (J.k hK29 ?_)
              refine J.keepE [(0, _), (3, _), (4, _), (5, _), (6, _), (8, _), (120, _)] ⟨rfl, rfl, rfl, rfl, rfl, rfl, rfl, trivial⟩ ?_
              refine J.condF rfl rfl ?_
              refine J.skip ?_
              refine J.blk_n ?_
              refine J.then_n (J.k hK14 ?_)
              refine J.keepE [(0, _), (3, _), (4, _), (5, _)] ⟨rfl, rfl, rfl, rfl, trivial⟩ ?_
              refine J.seq (fun K31 hK31 => ?_)
              obtain ⟨A9, c9, hc9, _⟩ := h9.see
              refine J.region ?_
              refine J.y (op_move rfl rfl) rfl rfl rfl ?_
              refine J.e (op_call rfl rfl ent12 (Ct.use0 (fun F' hF => len_ct F' gb _ _ _ (hc9.mono (hF _ (by simp)))))) rfl rfl rfl ?_
              intro g215 _
              refine J.y (op_move rfl rfl) rfl rfl rfl ?_
              refine J.y (op_len Try.underlying26 rfl rfl) rfl rfl rfl ?_
              refine J.y ((op_neq rfl rfl rfl).as (v' := .bool false) (congrArg Value.bool (decide_eq_false (by intro h; apply h; first | rfl | (exfalso; omega))))) rfl rfl rfl ?_
              refine J.nil ?_
              refine J.then_n (J.k hK31 ?_)
              refine J.keepE [(0, _), (3, _), (4, _), (5, _), (218, _)] ⟨rfl, rfl, rfl, rfl, rfl, trivial⟩ ?_
              refine J.condF rfl rfl ?_
              refine J.skip ?_
              refine J.blk_n ?_
              refine J.then_n (J.k hK10 ?_)
              refine J.keepE [(0, _), (3, _), (4, _), (5, _)] ⟨rfl, rfl, rfl, rfl, trivial⟩ ?_
              refine J.region ?_
              refine J.y (op_move rfl rfl) rfl rfl rfl ?_
              refine J.y ((op_add rfl rfl rfl (by first | omega | (refine ⟨?_, ?_⟩ <;> omega))).as (v' := I ((k + 1 : Nat) : Int)) (congrArg I (by omega))) rfl rfl rfl ?_
              refine J.y (op_assign rfl rfl) rfl rfl rfl ?_
              refine J.nil ?_
              refine J.then_n ?_
              first | (exfalso; omega) | (exact J.kk (k + 1, (L.take (pl (l.getD k noAct27).i L.length) ++ L.drop ((pl (l.getD k noAct27).i L.length) + 1)), _, A101, c101, m101) (fun x (hx : _ ∧ n - x.1 < n - k) => hI0 x hx.1 hx.2) ⟨⟨by dsimp only; omega, by dsimp only; omega, by dsimp only; first | omega | (rw [← hcnt]; omega), h9, hrow9, small_take hsm⟩, by dsimp only; omega⟩ ⟨rfl, rfl, rfl, rfl, trivial⟩ (fun _ h => h.pick [0, 1, 2] (by decide))) | (exact J.kk (k + 1, L, _, A4, c4, m) (fun x (hx : _ ∧ n - x.1 < n - k) => hI0 x hx.1 hx.2) ⟨⟨by dsimp only; omega, by dsimp only; omega, by dsimp only; first | omega | (rw [← hcnt]; omega), h9, hrow, hsm⟩, by dsimp only; omega⟩ ⟨rfl, rfl, rfl, rfl, trivial⟩ (fun _ h => h.pick [0, 1, 2] (by decide))) | (exact J.kk (k + 1, (L ++ [L.getD (pl (l.getD k noAct27).i L.length) noLet]), _, A132, c132, m132) (fun x (hx : _ ∧ n - x.1 < n - k) => hI0 x hx.1 hx.2) ⟨⟨by dsimp only; omega, by dsimp only; omega, by dsimp only; first | omega | (rw [← hcnt]; omega), h9, hrow9, small_snoc hsm (small_get _ hsm)⟩, by dsimp only; omega⟩ ⟨rfl, rfl, rfl, rfl, trivial⟩ (fun _ h => h.pick [0, 1, 2] (by decide))) | (exact J.kk (k + 1, (turnL L (l.getD k noAct27).i (l.getD k noAct27).pos (UInt8.ofNat k)), _, _, c182, m188) (fun x (hx : _ ∧ n - x.1 < n - k) => hI0 x hx.1 hx.2) ⟨⟨by dsimp only; omega, by dsimp only; omega, by dsimp only; first | omega | (rw [← hcnt]; omega), h9, hrow9, small_turn hsm⟩, by dsimp only; omega⟩ ⟨rfl, rfl, rfl, rfl, trivial⟩ (fun _ h => h.pick [0, 1, 2] (by decide))) | (exact J.kk (k + 1, (L ++ [(⟨(l.getD k noAct27).i % 4, (l.getD k noAct27).pos % 4, k, ((l.getD k noAct27).body.take 10)⟩ : Let)]), _, A67, c67, m67) (fun x (hx : _ ∧ n - x.1 < n - k) => hI0 x hx.1 hx.2) ⟨⟨by dsimp only; omega, by dsimp only; omega, by dsimp only; first | omega | (rw [← hcnt]; omega), h9, hrow9, small_snoc hsm hbl⟩, by dsimp only; omega⟩ ⟨rfl, rfl, rfl, rfl, trivial⟩ (fun _ h => h.pick [0, 1, 2] (by decide)))
          ·
            rw [if_neg (show ¬ (0 < L.length ∧ L.length < 256) by omega)] at h9
            refine J.no (Wan.is rfl rfl rfl rfl rfl) rfl rfl ?_
            refine J.no (Wan.is rfl rfl rfl rfl rfl) rfl rfl ?_
            refine J.y (op_pickF rfl rfl rfl) rfl rfl rfl ?_
            refine J.y ((op_neqB Try.underlying4 rfl rfl rfl).as (v' := .bool false) (by by_cases h : 0 < L.length; (rw [decide_eq_true (show 0 < L.length ∧ L.length < 256 by omega)]; first | rfl | (exfalso; omega)); (rw [decide_eq_false (show ¬ (0 < L.length ∧ L.length < 256) by omega)]; first | rfl | (exfalso; omega)))) rfl rfl rfl ?_
            refine J.nil ?_
            refine J.then_n (J.k hK28 ?_)
            refine J.keepE [(0, _), (3, _), (4, _), (5, _), (6, _), (8, _), (114, _)] ⟨rfl, rfl, rfl, rfl, rfl, rfl, rfl, trivial⟩ ?_
            refine J.condF rfl rfl ?_
            refine J.skip ?_
            refine J.then_n (J.k hK27 ?_)
            refine J.keepE [(0, _), (3, _), (4, _), (5, _), (6, _), (8, _)] ⟨rfl, rfl, rfl, rfl, rfl, rfl, trivial⟩ ?_
            refine J.seq (fun K32 hK32 => ?_)
            refine J.region ?_
            refine J.y (op_move rfl rfl) rfl rfl rfl ?_
            refine J.y (op_gtr rfl rfl rfl) rfl rfl rfl ?_
            refine J.y (op_move rfl rfl) rfl rfl rfl ?_
            refine J.split (d := 117) rfl (fun h117 => ?_) (fun h117 => ?_)
            ·
              refine J.yg (Wan.is rfl rfl rfl rfl rfl) (op_move rfl rfl) rfl rfl ?_
              refine J.yg (Wan.is rfl rfl rfl rfl rfl) ((op_lss rfl rfl rfl).as (v' := .bool true) (congrArg Value.bool (decide_eq_true (by omega)))) rfl rfl ?_
              refine J.y (op_pickT rfl rfl rfl) rfl rfl rfl ?_
              refine J.nil ?_
              refine J.then_n (J.k hK32 ?_)
              refine J.keepE [(0, _), (3, _), (4, _), (5, _), (6, _), (8, _), (120, _)] ⟨rfl, rfl, rfl, rfl, rfl, rfl, rfl, trivial⟩ ?_
              refine J.condT rfl rfl ?_
              refine J.draw [m, blk g6 (l.getD k noAct27).cells 28] [] (.y 1 (.y 3 (.y 4 (.y 5 (.y 6 (.e 0 (.e 2 (.e 7 (.y 8 (.y 9 (.e 10 (.e 11 (.y 12 .nil))))))))))))) mixo (by decide +kernel) (by simp) ?_
              refine J.dy rfl (op_move rfl rfl) rfl rfl rfl rfl ?_
              refine J.dy rfl (op_move rfl rfl) rfl rfl rfl rfl ?_
              refine J.dy rfl (op_fieldAddr (j := 1) rfl rfl Try.underlying28 rfl Try.sizeOf3 rfl) rfl rfl rfl rfl ?_
              refine J.dy rfl (op_loadB 1 rfl rfl rfl Try.isAgg3 rfl) rfl rfl rfl rfl ?_
              refine J.dy rfl (op_move rfl rfl) rfl rfl rfl rfl ?_
              refine J.de rfl (op_buildSlice0 rfl Try.underlying26 el30) rfl rfl rfl (by simp) ?_
              intro g121 _
              change J _ _ _ [F, b9, m, blk g6 (l.getD k noAct27).cells 28, blk g121 [] 30] _
              refine J.de rfl (op_append (i := 4) (m2 := m) (xs := []) (ys := lettersV L) rfl rfl rfl Try.underlying26 Try.underlying26 el30 rfl (row_blk (q := True) (xs := []) rfl (by simp)) (by simp) hrow.sl (lettersV_one _) (by omega) (by omega)) rfl rfl rfl (by simp) ?_
              rintro ⟨A123, c123, m123⟩ h123
              try dsimp only at h123
              change J _ ((123, .slice A123 (0 + L.length) c123) :: _) _ [F, b9, m, blk g6 (l.getD k noAct27).cells 28, m123] _
              rw [List.nil_append] at h123
              refine J.de rfl (op_call rfl rfl ent7 (Ct.use0 (fun F' hF => place27_ct F' (l.getD k noAct27).i L.length hxi (by omega) (by omega)))) rfl rfl rfl (by simp) ?_
              intro g128 _
              refine J.dy rfl (op_indexAddr (i := (pl (l.getD k noAct27).i L.length)) rfl rfl rfl Try.underlying26 Try.sizeOf30 hrow.sl (pl_lt _ (by omega))) rfl rfl rfl rfl ?_
              refine J.dy rfl (op_loadA rfl rfl Try.isAgg30 Try.sizeOf30 (m := m) (by simp) (hrow.sl.elem (lettersV_get (pl_lt _ (by omega)))) rfl) rfl rfl rfl rfl ?_
              refine J.de rfl (op_buildSlice (l := [.tmp 130]) (xs := [(L.getD (pl (l.getD k noAct27).i L.length) noLet).cells]) rfl rfl rfl rfl Try.underlying26 el30 rfl (by decide) (by decide) (by simp [Let.cells])) rfl rfl rfl (by simp) ?_
              intro g131 _
              change J _ _ _ [F, b9, m, blk g6 (l.getD k noAct27).cells 28, m123, blk g131 (L.getD (pl (l.getD k noAct27).i L.length) noLet).cells 30] _
              refine J.de rfl (op_append (i := 4) (m2 := blk g131 (L.getD (pl (l.getD k noAct27).i L.length) noLet).cells 30) (xs := lettersV L) (ys := lettersV [L.getD (pl (l.getD k noAct27).i L.length) noLet]) rfl rfl rfl Try.underlying26 Try.underlying26 el30 rfl h123 (by simp) (row_blk (q := True) (xs := lettersV [L.getD (pl (l.getD k noAct27).i L.length) noLet]) rfl (by simp [lettersV, Let.cells])).sl (lettersV_one _) (by omega) (by omega)) rfl rfl rfl (by simp) ?_
              rintro ⟨A132, c132, m132⟩ h132
              try dsimp only at h132
              change J _ ((132, .slice A132 (0 + L.length + 1) c132) :: _) _ [F, b9, m, blk g6 (l.getD k noAct27).cells 28, m132, blk g131 (L.getD (pl (l.getD k noAct27).i L.length) noLet).cells 30] _
              have hcnt : 0 + L.length + 1 = (L ++ [L.getD (pl (l.getD k noAct27).i L.length) noLet]).length := by rw [List.length_append]; simp
              have hrow9 : Row m132 30 4 A132 (L ++ [L.getD (pl (l.getD k noAct27).i L.length) noLet]).length c132 (lettersV (L ++ [L.getD (pl (l.getD k noAct27).i L.length) noLet])) := by rw [lettersV_app, ← hcnt]; exact h132
              rw [hcnt]
              refine J.perm [0, 1, 4] [F, b9, m132] rfl (by decide) ?_
              refine J.dy rfl (op_assign rfl rfl) rfl rfl rfl rfl ?_
              refine J.dnil ?_
              refine J.blk_n ?_
              refine J.then_n (J.k hK14 ?_)
              refine J.keepE [(0, _), (3, _), (4, _), (5, _)] ⟨rfl, rfl, rfl, rfl, trivial⟩ ?_
              refine J.seq (fun K33 hK33 => ?_)
              obtain ⟨A9, c9, hc9, _⟩ := h9.see
              refine J.region ?_
              refine J.y (op_move rfl rfl) rfl rfl rfl ?_
              refine J.e (op_call rfl rfl ent12 (Ct.use0 (fun F' hF => len_ct F' gb _ _ _ (hc9.mono (hF _ (by simp)))))) rfl rfl rfl ?_
              intro g215 _
              refine J.y (op_move rfl rfl) rfl rfl rfl ?_
              refine J.y (op_len Try.underlying26 rfl rfl) rfl rfl rfl ?_
              refine J.y ((op_neq rfl rfl rfl).as (v' := .bool false) (congrArg Value.bool (decide_eq_false (by intro h; apply h; first | rfl | (exfalso; omega))))) rfl rfl rfl ?_
              refine J.nil ?_
              refine J.then_n (J.k hK33 ?_)
              refine J.keepE [(0, _), (3, _), (4, _), (5, _), (218, _)] ⟨rfl, rfl, rfl, rfl, rfl, trivial⟩ ?_
              refine J.condF rfl rfl ?_
              refine J.skip ?_
              refine J.blk_n ?_
              refine J.then_n (J.k hK10 ?_)
              refine J.keepE [(0, _), (3, _), (4, _), (5, _)] ⟨rfl, rfl, rfl, rfl, trivial⟩ ?_
              refine J.region ?_
              refine J.y (op_move rfl rfl) rfl rfl rfl ?_
              refine J.y ((op_add rfl rfl rfl (by first | omega | (refine ⟨?_, ?_⟩ <;> omega))).as (v' := I ((k + 1 : Nat) : Int)) (congrArg I (by omega))) rfl rfl rfl ?_
              refine J.y (op_assign rfl rfl) rfl rfl rfl ?_
              refine J.nil ?_
              refine J.then_n ?_
              first | (exfalso; omega) | (exact J.kk (k + 1, (L.take (pl (l.getD k noAct27).i L.length) ++ L.drop ((pl (l.getD k noAct27).i L.length) + 1)), _, A101, c101, m101) (fun x (hx : _ ∧ n - x.1 < n - k) => hI0 x hx.1 hx.2) ⟨⟨by dsimp only; omega, by dsimp only; omega, by dsimp only; first | omega | (rw [← hcnt]; omega), h9, hrow9, small_take hsm⟩, by dsimp only; omega⟩ ⟨rfl, rfl, rfl, rfl, trivial⟩ (fun _ h => h.pick [0, 1, 2] (by decide))) | (exact J.kk (k + 1, L, _, A4, c4, m) (fun x (hx : _ ∧ n - x.1 < n - k) => hI0 x hx.1 hx.2) ⟨⟨by dsimp only; omega, by dsimp only; omega, by dsimp only; first | omega | (rw [← hcnt]; omega), h9, hrow, hsm⟩, by dsimp only; omega⟩ ⟨rfl, rfl, rfl, rfl, trivial⟩ (fun _ h => h.pick [0, 1, 2] (by decide))) | (exact J.kk (k + 1, (L ++ [L.getD (pl (l.getD k noAct27).i L.length) noLet]), _, A132, c132, m132) (fun x (hx : _ ∧ n - x.1 < n - k) => hI0 x hx.1 hx.2) ⟨⟨by dsimp only; omega, by dsimp only; omega, by dsimp only; first | omega | (rw [← hcnt]; omega), h9, hrow9, small_snoc hsm (small_get _ hsm)⟩, by dsimp only; omega⟩ ⟨rfl, rfl, rfl, rfl, trivial⟩ (fun _ h => h.pick [0, 1, 2] (by decide))) | (exact J.kk (k + 1, (turnL L (l.getD k noAct27).i (l.getD k noAct27).pos (UInt8.ofNat k)), _, _, c182, m188) (fun x (hx : _ ∧ n - x.1 < n - k) => hI0 x hx.1 hx.2) ⟨⟨by dsimp only; omega, by dsimp only; omega, by dsimp only; first | omega | (rw [← hcnt]; omega), h9, hrow9, small_turn hsm⟩, by dsimp only; omega⟩ ⟨rfl, rfl, rfl, rfl, trivial⟩ (fun _ h => h.pick [0, 1, 2] (by decide))) | (exact J.kk (k + 1, (L ++ [(⟨(l.getD k noAct27).i % 4, (l.getD k noAct27).pos % 4, k, ((l.getD k noAct27).body.take 10)⟩ : Let)]), _, A67, c67, m67) (fun x (hx : _ ∧ n - x.1 < n - k) => hI0 x hx.1 hx.2) ⟨⟨by dsimp only; omega, by dsimp only; omega, by dsimp only; first | omega | (rw [← hcnt]; omega), h9, hrow9, small_snoc hsm hbl⟩, by dsimp only; omega⟩ ⟨rfl, rfl, rfl, rfl, trivial⟩ (fun _ h => h.pick [0, 1, 2] (by decide)))
            ·
              refine J.no (Wan.is rfl rfl rfl rfl rfl) rfl rfl ?_
              refine J.no (Wan.is rfl rfl rfl rfl rfl) rfl rfl ?_
              refine J.y (op_pickF rfl rfl rfl) rfl rfl rfl ?_
              refine J.nil ?_
              refine J.then_n (J.k hK32 ?_)
              refine J.keepE [(0, _), (3, _), (4, _), (5, _), (6, _), (8, _), (120, _)] ⟨rfl, rfl, rfl, rfl, rfl, rfl, rfl, trivial⟩ ?_
              refine J.condF rfl rfl ?_
              refine J.skip ?_
              refine J.blk_n ?_
              refine J.then_n (J.k hK14 ?_)
              refine J.keepE [(0, _), (3, _), (4, _), (5, _)] ⟨rfl, rfl, rfl, rfl, trivial⟩ ?_
              refine J.seq (fun K34 hK34 => ?_)
              obtain ⟨A9, c9, hc9, _⟩ := h9.see
              refine J.region ?_
              refine J.y (op_move rfl rfl) rfl rfl rfl ?_
              refine J.e (op_call rfl rfl ent12 (Ct.use0 (fun F' hF => len_ct F' gb _ _ _ (hc9.mono (hF _ (by simp)))))) rfl rfl rfl ?_
              intro g215 _
              refine J.y (op_move rfl rfl) rfl rfl rfl ?_
              refine J.y (op_len Try.underlying26 rfl rfl) rfl rfl rfl ?_
              refine J.y ((op_neq rfl rfl rfl).as (v' := .bool false) (congrArg Value.bool (decide_eq_false (by intro h; apply h; first | rfl | (exfalso; omega))))) rfl rfl rfl ?_
              refine J.nil ?_
              refine J.then_n (J.k hK34 ?_)
              refine J.keepE [(0, _), (3, _), (4, _), (5, _), (218, _)] ⟨rfl, rfl, rfl, rfl, rfl, trivial⟩ ?_
              refine J.condF rfl rfl ?_
              refine J.skip ?_
              refine J.blk_n ?_
              refine J.then_n (J.k hK10 ?_)
              refine J.keepE [(0, _), (3, _), (4, _), (5, _)] ⟨rfl, rfl, rfl, rfl, trivial⟩ ?_
              refine J.region ?_
              refine J.y (op_move rfl rfl) rfl rfl rfl ?_
              refine J.y ((op_add rfl rfl rfl (by first | omega | (refine ⟨?_, ?_⟩ <;> omega))).as (v' := I ((k + 1 : Nat) : Int)) (congrArg I (by omega))) rfl rfl rfl ?_
              refine J.y (op_assign rfl rfl) rfl rfl rfl ?_
              refine J.nil ?_
              refine J.then_n ?_
              first | (exfalso; omega) | (exact J.kk (k + 1, (L.take (pl (l.getD k noAct27).i L.length) ++ L.drop ((pl (l.getD k noAct27).i L.length) + 1)), _, A101, c101, m101) (fun x (hx : _ ∧ n - x.1 < n - k) => hI0 x hx.1 hx.2) ⟨⟨by dsimp only; omega, by dsimp only; omega, by dsimp only; first | omega | (rw [← hcnt]; omega), h9, hrow9, small_take hsm⟩, by dsimp only; omega⟩ ⟨rfl, rfl, rfl, rfl, trivial⟩ (fun _ h => h.pick [0, 1, 2] (by decide))) | (exact J.kk (k + 1, L, _, A4, c4, m) (fun x (hx : _ ∧ n - x.1 < n - k) => hI0 x hx.1 hx.2) ⟨⟨by dsimp only; omega, by dsimp only; omega, by dsimp only; first | omega | (rw [← hcnt]; omega), h9, hrow, hsm⟩, by dsimp only; omega⟩ ⟨rfl, rfl, rfl, rfl, trivial⟩ (fun _ h => h.pick [0, 1, 2] (by decide))) | (exact J.kk (k + 1, (L ++ [L.getD (pl (l.getD k noAct27).i L.length) noLet]), _, A132, c132, m132) (fun x (hx : _ ∧ n - x.1 < n - k) => hI0 x hx.1 hx.2) ⟨⟨by dsimp only; omega, by dsimp only; omega, by dsimp only; first | omega | (rw [← hcnt]; omega), h9, hrow9, small_snoc hsm (small_get _ hsm)⟩, by dsimp only; omega⟩ ⟨rfl, rfl, rfl, rfl, trivial⟩ (fun _ h => h.pick [0, 1, 2] (by decide))) | (exact J.kk (k + 1, (turnL L (l.getD k noAct27).i (l.getD k noAct27).pos (UInt8.ofNat k)), _, _, c182, m188) (fun x (hx : _ ∧ n - x.1 < n - k) => hI0 x hx.1 hx.2) ⟨⟨by dsimp only; omega, by dsimp only; omega, by dsimp only; first | omega | (rw [← hcnt]; omega), h9, hrow9, small_turn hsm⟩, by dsimp only; omega⟩ ⟨rfl, rfl, rfl, rfl, trivial⟩ (fun _ h => h.pick [0, 1, 2] (by decide))) | (exact J.kk (k + 1, (L ++ [(⟨(l.getD k noAct27).i % 4, (l.getD k noAct27).pos % 4, k, ((l.getD k noAct27).body.take 10)⟩ : Let)]), _, A67, c67, m67) (fun x (hx : _ ∧ n - x.1 < n - k) => hI0 x hx.1 hx.2) ⟨⟨by dsimp only; omega, by dsimp only; omega, by dsimp only; first | omega | (rw [← hcnt]; omega), h9, hrow9, small_snoc hsm hbl⟩, by dsimp only; omega⟩ ⟨rfl, rfl, rfl, rfl, trivial⟩ (fun _ h => h.pick [0, 1, 2] (by decide)))
        ·
          refine J.seq (fun K35 hK35 => ?_)
          refine J.region ?_
          refine J.y (op_eql rfl rfl rfl) rfl rfl rfl ?_
          refine J.y (op_assign rfl rfl) rfl rfl rfl ?_
          refine J.nil ?_
          refine J.then_n (J.k hK35 ?_)
          refine J.keepE [(0, _), (3, _), (4, _), (5, _), (6, _), (7, _), (8, _), (48, _), (133, _)] ⟨rfl, rfl, rfl, rfl, rfl, rfl, rfl, rfl, rfl, trivial⟩ ?_
          refine J.ite rfl (fun h133 => ?_) (fun h133 => ?_)
          ·
            refine J.seq (fun K36 hK36 => ?_)
            refine J.region ?_
            refine J.y (op_assign rfl rfl) rfl rfl rfl ?_
            refine J.nil ?_
            refine J.then_n (J.k hK36 ?_)
            refine J.keepE [(0, _), (3, _), (4, _), (5, _), (6, _), (8, _), (12, _)] ⟨rfl, rfl, rfl, rfl, rfl, rfl, rfl, trivial⟩ ?_
            refine J.seq (fun K37 hK37 => ?_)
            refine J.seq (fun K38 hK38 => ?_)
            refine J.region ?_
            refine J.y (op_move rfl rfl) rfl rfl rfl ?_
            refine J.y (op_gtr rfl rfl rfl) rfl rfl rfl ?_
            refine J.nil ?_
            refine J.then_n (J.k hK38 ?_)
            refine J.keepE [(0, _), (3, _), (4, _), (5, _), (6, _), (8, _), (12, _), (136, _)] ⟨rfl, rfl, rfl, rfl, rfl, rfl, rfl, rfl, trivial⟩ ?_
            refine J.ite rfl (fun h136 => ?_) (fun h136 => ?_)
            ·
              obtain ⟨ga, hA⟩ := hrow.at (show 0 < L.length by omega)
              refine J.region ?_
              refine J.y (op_move rfl rfl) rfl rfl rfl ?_
              refine J.y (op_fieldAddr (j := 1) rfl rfl Try.underlying28 rfl Try.sizeOf3 rfl) rfl rfl rfl ?_
              refine J.y (op_loadB 3 rfl rfl rfl Try.isAgg3 rfl) rfl rfl rfl ?_
              refine J.y (op_move rfl rfl) rfl rfl rfl ?_
              refine J.e (op_call rfl rfl ent7 (Ct.use0 (fun F' hF => place27_ct F' (l.getD k noAct27).i L.length hxi (by omega) (by omega)))) rfl rfl rfl ?_
              intro g141 _
              refine J.y (op_indexAddr (i := (pl (l.getD k noAct27).i L.length)) rfl rfl rfl Try.underlying26 Try.sizeOf30 hrow.sl (pl_lt _ (by omega))) rfl rfl rfl ?_
              refine J.y ((op_fieldAddr (j := (pl (l.getD k noAct27).i L.length) * 4 + 3) (off := (pl (l.getD k noAct27).i L.length) * 4) (g := ga) rfl (by show some _ = some _; rw [hA, elemAt_mk, Nat.zero_add]) Try.underlying30 rfl Try.sizeOf9 rfl)) rfl rfl rfl ?_
              refine J.y (op_load rfl rfl Try.isAgg9 (m := m) (by simp) (v := Str (L.getD (pl (l.getD k noAct27).i L.length) noLet).body) (by have := (hA ▸ hrow.sl).cell (lettersV_get (pl_lt _ (by omega))) (k := 3) (v := Str (L.getD (pl (l.getD k noAct27).i L.length) noLet).body) rfl; rw [Nat.zero_add] at this; exact this)) rfl rfl rfl ?_
              refine J.y (op_slen Try.underlying9 rfl rfl) rfl rfl rfl ?_
              refine J.y ((op_gtr rfl rfl rfl).as (v' := .bool (decide (0 < L.length ∧ 0 < (L.getD (pl (l.getD k noAct27).i L.length) noLet).body.length))) (congrArg Value.bool (decide_eq_decide.2 (by omega)))) rfl rfl rfl ?_
              refine J.y (op_assign rfl rfl) rfl rfl rfl ?_
              refine J.nil ?_
              refine J.then_n (J.k hK37 ?_)
              refine J.keepE [(0, _), (3, _), (4, _), (5, _), (6, _), (8, _), (12, _)] ⟨rfl, rfl, rfl, rfl, rfl, rfl, rfl, trivial⟩ ?_
              refine J.seq (fun K39 hK39 => ?_)
              refine J.seq (fun K40 hK40 => ?_)
              refine J.region ?_
              refine J.y (op_move rfl rfl) rfl rfl rfl ?_
              refine J.y (op_fieldAddr (j := 1) rfl rfl Try.underlying28 rfl Try.sizeOf3 rfl) rfl rfl rfl ?_
              refine J.y (op_loadB 3 rfl rfl rfl Try.isAgg3 rfl) rfl rfl rfl ?_
              refine J.y (op_fieldAddr (j := 2) rfl rfl Try.underlying28 rfl Try.sizeOf3 rfl) rfl rfl rfl ?_
              refine J.y (op_loadB 3 rfl rfl rfl Try.isAgg3 rfl) rfl rfl rfl ?_
              refine J.y (op_move rfl rfl) rfl rfl rfl ?_
              refine J.y (op_cv_i64_u8 rfl rfl Try.underlying3 Try.underlying5) rfl rfl rfl ?_
              refine J.e (op_call rfl rfl ent9 (Ct.use1 1 (m' := fun x : Hp => x) (new := fun _ => []) rfl (fun F' _ => turn_ct F' b gb L hb (l.getD k noAct27).i (l.getD k noAct27).pos hxi hxa (UInt8.ofNat k) (by omega) (fun x hx => Nat.le_trans (hsm x hx) (by decide))))) rfl rfl rfl ?_
              rintro b9 h9
              change J _ _ _ [F, b9, m, blk g6 (l.getD k noAct27).cells 28] _
              refine J.y ((op_move rfl rfl).as (v' := .bool (decide (0 < L.length ∧ 0 < (L.getD (pl (l.getD k noAct27).i L.length) noLet).body.length))) (by first | rfl | exact (congrArg Value.bool (decide_eq_false (by omega))).symm)) rfl rfl rfl ?_
              refine J.y ((op_neqB Try.underlying4 rfl rfl rfl).as (v' := .bool false) (by simp)) rfl rfl rfl ?_
              refine J.nil ?_
              refine J.then_n (J.k hK40 ?_)
              refine J.keepE [(0, _), (3, _), (4, _), (5, _), (6, _), (8, _), (12, _), (156, _)] ⟨rfl, rfl, rfl, rfl, rfl, rfl, rfl, rfl, trivial⟩ ?_
              refine J.condF rfl rfl ?_
              refine J.skip ?_
              refine J.then_n (J.k hK39 ?_)
              refine J.keepE [(0, _), (3, _), (4, _), (5, _), (6, _), (8, _), (12, _)] ⟨rfl, rfl, rfl, rfl, rfl, rfl, rfl, trivial⟩ ?_
              refine J.seq (fun K41 hK41 => ?_)
              refine J.region ?_
              refine J.y ((op_move rfl rfl).as (v' := .bool (decide (0 < L.length ∧ 0 < (L.getD (pl (l.getD k noAct27).i L.length) noLet).body.length))) (by first | rfl | exact (congrArg Value.bool (decide_eq_false (by omega))).symm)) rfl rfl rfl ?_
              refine J.nil ?_
              refine J.then_n (J.k hK41 ?_)
              refine J.keepE [(0, _), (3, _), (4, _), (5, _), (6, _), (8, _), (157, _)] ⟨rfl, rfl, rfl, rfl, rfl, rfl, rfl, trivial⟩ ?_
              refine J.ite rfl (fun h157 => ?_) (fun h157 => ?_)
              ·
                rw [if_pos h157] at h9
                obtain ⟨ga2, hA2⟩ := hrow.at h157.1
                have hplk := pl_lt (l.getD k noAct27).i h157.1
                have hjl := pl_lt (l.getD k noAct27).pos h157.2
                have hbb := small_get (pl (l.getD k noAct27).i L.length) hsm
                refine J.seq (fun K42 hK42 => ?_)
                refine J.region ?_
                refine J.y (op_fieldAddr (j := 1) rfl rfl Try.underlying28 rfl Try.sizeOf3 rfl) rfl rfl rfl ?_
                refine J.y (op_loadB 3 rfl rfl rfl Try.isAgg3 rfl) rfl rfl rfl ?_
                refine J.y (op_move rfl rfl) rfl rfl rfl ?_
                refine J.e (op_call rfl rfl ent7 (Ct.use0 (fun F' hF => place27_ct F' (l.getD k noAct27).i L.length hxi h157.1 (by omega)))) rfl rfl rfl ?_
                intro g161 _
                refine J.y (op_assign rfl rfl) rfl rfl rfl ?_
                refine J.nil ?_
                refine J.then_n (J.k hK42 ?_)
                refine J.keepE [(0, _), (3, _), (4, _), (5, _), (6, _), (13, _)] ⟨rfl, rfl, rfl, rfl, rfl, rfl, trivial⟩ ?_
                refine J.seq (fun K43 hK43 => ?_)
                refine J.region ?_
                refine J.y (op_move rfl rfl) rfl rfl rfl ?_
                refine J.y (op_move rfl rfl) rfl rfl rfl ?_
                refine J.y (op_indexAddr (i := (pl (l.getD k noAct27).i L.length)) rfl rfl rfl Try.underlying26 Try.sizeOf30 hrow.sl (pl_lt _ h157.1)) rfl rfl rfl ?_
                refine J.y ((op_fieldAddr (j := (pl (l.getD k noAct27).i L.length) * 4 + 3) (off := (pl (l.getD k noAct27).i L.length) * 4) (g := ga2) rfl (by show some _ = some _; rw [hA2, elemAt_mk, Nat.zero_add]) Try.underlying30 rfl Try.sizeOf9 rfl)) rfl rfl rfl ?_
                refine J.y (op_load rfl rfl Try.isAgg9 (m := m) (by simp) (v := Str (L.getD (pl (l.getD k noAct27).i L.length) noLet).body) (by have := (hA2 ▸ hrow.sl).cell (lettersV_get (pl_lt _ h157.1)) (k := 3) (v := Str (L.getD (pl (l.getD k noAct27).i L.length) noLet).body) rfl; rw [Nat.zero_add] at this; exact this)) rfl rfl rfl ?_
                refine J.e (op_toBytes rfl rfl Try.underlying9 Try.underlying36 Try.underlying5) rfl rfl rfl ?_
                rintro ⟨g167, c167, m167⟩ h167
                try dsimp only at h167
                change J _ ((167, .slice (some ⟨g167, 0, none⟩) (L.getD (pl (l.getD k noAct27).i L.length) noLet).body.length c167) :: _) _ [F, b9, m, blk g6 (l.getD k noAct27).cells 28, m167] _
                refine J.y (op_assign rfl rfl) rfl rfl rfl ?_
                refine J.nil ?_
                refine J.then_n (J.k hK43 ?_)
                refine J.keepE [(0, _), (3, _), (4, _), (5, _), (6, _), (13, _), (14, _)] ⟨rfl, rfl, rfl, rfl, rfl, rfl, rfl, trivial⟩ ?_
                refine J.seq (fun K44 hK44 => ?_)
                refine J.region ?_
                refine J.y (op_move rfl rfl) rfl rfl rfl ?_
                refine J.y (op_fieldAddr (j := 2) rfl rfl Try.underlying28 rfl Try.sizeOf3 rfl) rfl rfl rfl ?_
                refine J.y (op_loadB 3 rfl rfl rfl Try.isAgg3 rfl) rfl rfl rfl ?_
                refine J.y (op_move rfl rfl) rfl rfl rfl ?_
                refine J.y (op_len Try.underlying36 rfl rfl) rfl rfl rfl ?_
                refine J.e (op_call rfl rfl ent7 (Ct.use0 (fun F' hF => place27_ct F' (l.getD k noAct27).pos (L.getD (pl (l.getD k noAct27).i L.length) noLet).body.length hxa h157.2 (by omega)))) rfl rfl rfl ?_
                intro g173 _
                refine J.y (op_indexAddrS (i := (pl (l.getD k noAct27).pos (L.getD (pl (l.getD k noAct27).i L.length) noLet).body.length)) (j := (pl (l.getD k noAct27).pos (L.getD (pl (l.getD k noAct27).i L.length) noLet).body.length)) rfl rfl rfl Try.underlying36 Try.sizeOf5 hjl (by omega)) rfl rfl rfl ?_
                refine J.y (op_load rfl rfl Try.isAgg5 (m := m167) (by simp) (by have := h167.sl.cells (bytesV_get (getSome 0 hjl)); rw [Nat.zero_add, Nat.mul_one] at this; exact this)) rfl rfl rfl ?_
                refine J.y (op_move rfl rfl) rfl rfl rfl ?_
                refine J.y (op_cv_i64_u8 rfl rfl Try.underlying3 Try.underlying5) rfl rfl rfl ?_
                refine J.y (op_xor8 rfl rfl rfl) rfl rfl rfl ?_
                refine J.y (op_indexAddrS (i := (pl (l.getD k noAct27).pos (L.getD (pl (l.getD k noAct27).i L.length) noLet).body.length)) (j := (pl (l.getD k noAct27).pos (L.getD (pl (l.getD k noAct27).i L.length) noLet).body.length)) rfl rfl rfl Try.underlying36 Try.sizeOf5 hjl (by omega)) rfl rfl rfl ?_
                refine J.s (op_storeRow (i := 4) (k := (pl (l.getD k noAct27).pos (L.getD (pl (l.getD k noAct27).i L.length) noLet).body.length)) (off := 0) (b := [B8 ((L.getD (pl (l.getD k noAct27).i L.length) noLet).body.getD (pl (l.getD k noAct27).pos (L.getD (pl (l.getD k noAct27).i L.length) noLet).body.length) 0 ^^^ UInt8.ofNat k)]) rfl rfl rfl rfl h167 (vs := [B8 ((L.getD (pl (l.getD k noAct27).i L.length) noLet).body.getD (pl (l.getD k noAct27).pos (L.getD (pl (l.getD k noAct27).i L.length) noLet).body.length) 0 ^^^ UInt8.ofNat k)]) rfl Try.sizeOf5 rfl (by omega) (bytesV_get (getSome 0 hjl)) rfl (Nat.le_refl _)) rfl rfl ?_
                rintro m179 h179
                change J _ _ _ [F, b9, m, blk g6 (l.getD k noAct27).cells 28, m179] _
                rw [← bytesV_set (b := (L.getD (pl (l.getD k noAct27).i L.length) noLet).body.getD (pl (l.getD k noAct27).pos (L.getD (pl (l.getD k noAct27).i L.length) noLet).body.length) 0 ^^^ UInt8.ofNat k)] at h179
                have htl : (turnB (L.getD (pl (l.getD k noAct27).i L.length) noLet).body (l.getD k noAct27).pos (UInt8.ofNat k)).length = (L.getD (pl (l.getD k noAct27).i L.length) noLet).body.length := by unfold turnB; rw [List.length_set]
                have h179 : Row m179 5 1 (some ⟨g167, 0, none⟩) (L.getD (pl (l.getD k noAct27).i L.length) noLet).body.length c167 (bytesV (turnB (L.getD (pl (l.getD k noAct27).i L.length) noLet).body (l.getD k noAct27).pos (UInt8.ofNat k))) := h179
                refine J.nil ?_
                refine J.then_n (J.k hK44 ?_)
                refine J.keepE [(0, _), (3, _), (4, _), (5, _), (13, _), (14, _)] ⟨rfl, rfl, rfl, rfl, rfl, rfl, trivial⟩ ?_
                refine J.seq (fun K45 hK45 => ?_)
                refine J.region ?_
                refine J.e (op_buildSlice0 rfl Try.underlying26 el30) rfl rfl rfl ?_
                intro g180 _
                change J _ _ _ [F, b9, m, blk g6 (l.getD k noAct27).cells 28, m179, blk g180 [] 30] _
                refine J.y (op_move rfl rfl) rfl rfl rfl ?_
                refine J.e (op_append (i := 5) (m2 := m) (xs := []) (ys := lettersV L) rfl rfl rfl Try.underlying26 Try.underlying26 el30 rfl (row_blk (q := True) (xs := []) rfl (by simp)) (by simp) hrow.sl (lettersV_one _) (by omega) (by omega)) rfl rfl rfl ?_
                rintro ⟨A182, c182, m182⟩ h182
                try dsimp only at h182
                change J _ ((182, .slice A182 (0 + L.length) c182) :: _) _ [F, b9, m, blk g6 (l.getD k noAct27).cells 28, m179, m182] _
                rw [Nat.zero_add, List.nil_append] at h182
                rw [Nat.zero_add]
                obtain ⟨ga3, rfl⟩ := h182.at h157.1
                refine J.y (op_assign rfl rfl) rfl rfl rfl ?_
                refine J.nil ?_
                refine J.then_n (J.k hK45 ?_)
                refine J.keepE [(0, _), (3, _), (4, _), (5, _), (13, _), (14, _)] ⟨rfl, rfl, rfl, rfl, rfl, rfl, trivial⟩ ?_
                refine J.region ?_
                refine J.y (op_move rfl rfl) rfl rfl rfl ?_
                refine J.y (op_move rfl rfl) rfl rfl rfl ?_
                refine J.y (op_move rfl rfl) rfl rfl rfl ?_
                refine J.y (op_toStr (l := (turnB (L.getD (pl (l.getD k noAct27).i L.length) noLet).body (l.getD k noAct27).pos (UInt8.ofNat k))) rfl rfl Try.underlying36 Try.underlying5 Try.underlying9 (m := m179) (by simp) h179.sl) rfl rfl rfl ?_
                refine J.y (op_indexAddrS (i := (pl (l.getD k noAct27).i L.length)) (j := (pl (l.getD k noAct27).i L.length) * 4) rfl rfl rfl Try.underlying26 Try.sizeOf30 (pl_lt _ h157.1) (Nat.zero_add _)) rfl rfl rfl ?_
                refine J.y (op_fieldAddr (j := (pl (l.getD k noAct27).i L.length) * 4 + 3) rfl rfl Try.underlying30 rfl Try.sizeOf9 rfl) rfl rfl rfl ?_
                refine J.s (op_storeRow (i := 5) (k := (pl (l.getD k noAct27).i L.length)) (off := 3) (b := { L.getD (pl (l.getD k noAct27).i L.length) noLet with body := (turnB (L.getD (pl (l.getD k noAct27).i L.length) noLet).body (l.getD k noAct27).pos (UInt8.ofNat k)) }.cells) rfl rfl rfl rfl h182 (vs := [Str (turnB (L.getD (pl (l.getD k noAct27).i L.length) noLet).body (l.getD k noAct27).pos (UInt8.ofNat k))]) rfl Try.sizeOf9 rfl rfl (lettersV_get (pl_lt _ h157.1)) rfl (Nat.le_refl _)) rfl rfl ?_
                rintro m188 h188
                change J _ _ _ [F, b9, m, blk g6 (l.getD k noAct27).cells 28, m179, m188] _
                have e5 : (turnL L (l.getD k noAct27).i (l.getD k noAct27).pos (UInt8.ofNat k)).length = L.length := by unfold turnL; rw [List.length_set]
                have hrow9 : Row m188 30 4 (some ⟨ga3, 0, none⟩) (turnL L (l.getD k noAct27).i (l.getD k noAct27).pos (UInt8.ofNat k)).length c182 (lettersV (turnL L (l.getD k noAct27).i (l.getD k noAct27).pos (UInt8.ofNat k))) := by rw [e5]; rw [lettersV_set] at h188; exact h188
                rw [← e5]
                refine J.perm [0, 1, 5] [F, b9, m188] rfl (by decide) ?_
                refine J.nil ?_
                refine J.blk_n ?_
                refine J.then_n (J.k hK14 ?_)
                refine J.keepE [(0, _), (3, _), (4, _), (5, _)] ⟨rfl, rfl, rfl, rfl, trivial⟩ ?_
                refine J.seq (fun K46 hK46 => ?_)
                obtain ⟨A9, c9, hc9, _⟩ := h9.see
                refine J.region ?_
                refine J.y (op_move rfl rfl) rfl rfl rfl ?_
                refine J.e (op_call rfl rfl ent12 (Ct.use0 (fun F' hF => len_ct F' gb _ _ _ (hc9.mono (hF _ (by simp)))))) rfl rfl rfl ?_
                intro g215 _
                refine J.y (op_move rfl rfl) rfl rfl rfl ?_
                refine J.y (op_len Try.underlying26 rfl rfl) rfl rfl rfl ?_
                refine J.y ((op_neq rfl rfl rfl).as (v' := .bool false) (congrArg Value.bool (decide_eq_false (by intro h; apply h; first | rfl | (exfalso; omega))))) rfl rfl rfl ?_
                refine J.nil ?_
                refine J.then_n (J.k hK46 ?_)
                refine J.keepE [(0, _), (3, _), (4, _), (5, _), (218, _)] ⟨rfl, rfl, rfl, rfl, rfl, trivial⟩ ?_
                refine J.condF rfl rfl ?_
                refine J.skip ?_
                refine J.blk_n ?_
                refine J.then_n (J.k hK10 ?_)
                refine J.keepE [(0, _), (3, _), (4, _), (5, _)] ⟨rfl, rfl, rfl, rfl, trivial⟩ ?_
                refine J.region ?_
                refine J.y (op_move rfl rfl) rfl rfl rfl ?_
                refine J.y ((op_add rfl rfl rfl (by first | omega | (refine ⟨?_, ?_⟩ <;> omega))).as (v' := I ((k + 1 : Nat) : Int)) (congrArg I (by omega))) rfl rfl rfl ?_
                refine J.y (op_assign rfl rfl) rfl rfl rfl ?_
                refine J.nil ?_
                refine J.then_n ?_
                first | (exfalso; omega) | (exact J.kk (k + 1, (L.take (pl (l.getD k noAct27).i L.length) ++ L.drop ((pl (l.getD k noAct27).i L.length) + 1)), _, A101, c101, m101) (fun x (hx : _ ∧ n - x.1 < n - k) => hI0 x hx.1 hx.2) ⟨⟨by dsimp only; omega, by dsimp only; omega, by dsimp only; first | omega | (rw [← hcnt]; omega), h9, hrow9, small_take hsm⟩, by dsimp only; omega⟩ ⟨rfl, rfl, rfl, rfl, trivial⟩ (fun _ h => h.pick [0, 1, 2] (by decide))) | (exact J.kk (k + 1, L, _, A4, c4, m) (fun x (hx : _ ∧ n - x.1 < n - k) => hI0 x hx.1 hx.2) ⟨⟨by dsimp only; omega, by dsimp only; omega, by dsimp only; first | omega | (rw [← hcnt]; omega), h9, hrow, hsm⟩, by dsimp only; omega⟩ ⟨rfl, rfl, rfl, rfl, trivial⟩ (fun _ h => h.pick [0, 1, 2] (by decide))) | (exact J.kk (k + 1, (L ++ [L.getD (pl (l.getD k noAct27).i L.length) noLet]), _, A132, c132, m132) (fun x (hx : _ ∧ n - x.1 < n - k) => hI0 x hx.1 hx.2) ⟨⟨by dsimp only; omega, by dsimp only; omega, by dsimp only; first | omega | (rw [← hcnt]; omega), h9, hrow9, small_snoc hsm (small_get _ hsm)⟩, by dsimp only; omega⟩ ⟨rfl, rfl, rfl, rfl, trivial⟩ (fun _ h => h.pick [0, 1, 2] (by decide))) | (exact J.kk (k + 1, (turnL L (l.getD k noAct27).i (l.getD k noAct27).pos (UInt8.ofNat k)), _, _, c182, m188) (fun x (hx : _ ∧ n - x.1 < n - k) => hI0 x hx.1 hx.2) ⟨⟨by dsimp only; omega, by dsimp only; omega, by dsimp only; first | omega | (rw [← hcnt]; omega), h9, hrow9, small_turn hsm⟩, by dsimp only; omega⟩ ⟨rfl, rfl, rfl, rfl, trivial⟩ (fun _ h => h.pick [0, 1, 2] (by decide))) | (exact J.kk (k + 1, (L ++ [(⟨(l.getD k noAct27).i % 4, (l.getD k noAct27).pos % 4, k, ((l.getD k noAct27).body.take 10)⟩ : Let)]), _, A67, c67, m67) (fun x (hx : _ ∧ n - x.1 < n - k) => hI0 x hx.1 hx.2) ⟨⟨by dsimp only; omega, by dsimp only; omega, by dsimp only; first | omega | (rw [← hcnt]; omega), h9, hrow9, small_snoc hsm hbl⟩, by dsimp only; omega⟩ ⟨rfl, rfl, rfl, rfl, trivial⟩ (fun _ h => h.pick [0, 1, 2] (by decide)))
              ·
                rw [if_neg h157] at h9
                refine J.skip ?_
                refine J.blk_n ?_
                refine J.then_n (J.k hK14 ?_)
                refine J.keepE [(0, _), (3, _), (4, _), (5, _)] ⟨rfl, rfl, rfl, rfl, trivial⟩ ?_
                refine J.seq (fun K47 hK47 => ?_)
                obtain ⟨A9, c9, hc9, _⟩ := h9.see
                refine J.region ?_
                refine J.y (op_move rfl rfl) rfl rfl rfl ?_
                refine J.e (op_call rfl rfl ent12 (Ct.use0 (fun F' hF => len_ct F' gb _ _ _ (hc9.mono (hF _ (by simp)))))) rfl rfl rfl ?_
                intro g215 _
                refine J.y (op_move rfl rfl) rfl rfl rfl ?_
                refine J.y (op_len Try.underlying26 rfl rfl) rfl rfl rfl ?_
                refine J.y ((op_neq rfl rfl rfl).as (v' := .bool false) (congrArg Value.bool (decide_eq_false (by intro h; apply h; first | rfl | (exfalso; omega))))) rfl rfl rfl ?_
                refine J.nil ?_
                refine J.then_n (J.k hK47 ?_)
                refine J.keepE [(0, _), (3, _), (4, _), (5, _), (218, _)] ⟨rfl, rfl, rfl, rfl, rfl, trivial⟩ ?_
                refine J.condF rfl rfl ?_
                refine J.skip ?_
                refine J.blk_n ?_
                refine J.then_n (J.k hK10 ?_)
                refine J.keepE [(0, _), (3, _), (4, _), (5, _)] ⟨rfl, rfl, rfl, rfl, trivial⟩ ?_
                refine J.region ?_
                refine J.y (op_move rfl rfl) rfl rfl rfl ?_
                refine J.y ((op_add rfl rfl rfl (by first | omega | (refine ⟨?_, ?_⟩ <;> omega))).as (v' := I ((k + 1 : Nat) : Int)) (congrArg I (by omega))) rfl rfl rfl ?_
                refine J.y (op_assign rfl rfl) rfl rfl rfl ?_
                refine J.nil ?_
                refine J.then_n ?_
                first | (exfalso; omega) | (exact J.kk (k + 1, (L.take (pl (l.getD k noAct27).i L.length) ++ L.drop ((pl (l.getD k noAct27).i L.length) + 1)), _, A101, c101, m101) (fun x (hx : _ ∧ n - x.1 < n - k) => hI0 x hx.1 hx.2) ⟨⟨by dsimp only; omega, by dsimp only; omega, by dsimp only; first | omega | (rw [← hcnt]; omega), h9, hrow9, small_take hsm⟩, by dsimp only; omega⟩ ⟨rfl, rfl, rfl, rfl, trivial⟩ (fun _ h => h.pick [0, 1, 2] (by decide))) | (exact J.kk (k + 1, L, _, A4, c4, m) (fun x (hx : _ ∧ n - x.1 < n - k) => hI0 x hx.1 hx.2) ⟨⟨by dsimp only; omega, by dsimp only; omega, by dsimp only; first | omega | (rw [← hcnt]; omega), h9, hrow, hsm⟩, by dsimp only; omega⟩ ⟨rfl, rfl, rfl, rfl, trivial⟩ (fun _ h => h.pick [0, 1, 2] (by decide))) | (exact J.kk (k + 1, (L ++ [L.getD (pl (l.getD k noAct27).i L.length) noLet]), _, A132, c132, m132) (fun x (hx : _ ∧ n - x.1 < n - k) => hI0 x hx.1 hx.2) ⟨⟨by dsimp only; omega, by dsimp only; omega, by dsimp only; first | omega | (rw [← hcnt]; omega), h9, hrow9, small_snoc hsm (small_get _ hsm)⟩, by dsimp only; omega⟩ ⟨rfl, rfl, rfl, rfl, trivial⟩ (fun _ h => h.pick [0, 1, 2] (by decide))) | (exact J.kk (k + 1, (turnL L (l.getD k noAct27).i (l.getD k noAct27).pos (UInt8.ofNat k)), _, _, c182, m188) (fun x (hx : _ ∧ n - x.1 < n - k) => hI0 x hx.1 hx.2) ⟨⟨by dsimp only; omega, by dsimp only; omega, by dsimp only; first | omega | (rw [← hcnt]; omega), h9, hrow9, small_turn hsm⟩, by dsimp only; omega⟩ ⟨rfl, rfl, rfl, rfl, trivial⟩ (fun _ h => h.pick [0, 1, 2] (by decide))) | (exact J.kk (k + 1, (L ++ [(⟨(l.getD k noAct27).i % 4, (l.getD k noAct27).pos % 4, k, ((l.getD k noAct27).body.take 10)⟩ : Let)]), _, A67, c67, m67) (fun x (hx : _ ∧ n - x.1 < n - k) => hI0 x hx.1 hx.2) ⟨⟨by dsimp only; omega, by dsimp only; omega, by dsimp only; first | omega | (rw [← hcnt]; omega), h9, hrow9, small_snoc hsm hbl⟩, by dsimp only; omega⟩ ⟨rfl, rfl, rfl, rfl, trivial⟩ (fun _ h => h.pick [0, 1, 2] (by decide)))
            ·
              refine J.skip ?_
              refine J.then_n (J.k hK37 ?_)
              refine J.keepE [(0, _), (3, _), (4, _), (5, _), (6, _), (8, _), (12, _)] ⟨rfl, rfl, rfl, rfl, rfl, rfl, rfl, trivial⟩ ?_
              refine J.seq (fun K48 hK48 => ?_)
              refine J.seq (fun K49 hK49 => ?_)
              refine J.region ?_
              refine J.y (op_move rfl rfl) rfl rfl rfl ?_
              refine J.y (op_fieldAddr (j := 1) rfl rfl Try.underlying28 rfl Try.sizeOf3 rfl) rfl rfl rfl ?_
              refine J.y (op_loadB 3 rfl rfl rfl Try.isAgg3 rfl) rfl rfl rfl ?_
              refine J.y (op_fieldAddr (j := 2) rfl rfl Try.underlying28 rfl Try.sizeOf3 rfl) rfl rfl rfl ?_
              refine J.y (op_loadB 3 rfl rfl rfl Try.isAgg3 rfl) rfl rfl rfl ?_
              refine J.y (op_move rfl rfl) rfl rfl rfl ?_
              refine J.y (op_cv_i64_u8 rfl rfl Try.underlying3 Try.underlying5) rfl rfl rfl ?_
              refine J.e (op_call rfl rfl ent9 (Ct.use1 1 (m' := fun x : Hp => x) (new := fun _ => []) rfl (fun F' _ => turn_ct F' b gb L hb (l.getD k noAct27).i (l.getD k noAct27).pos hxi hxa (UInt8.ofNat k) (by omega) (fun x hx => Nat.le_trans (hsm x hx) (by decide))))) rfl rfl rfl ?_
              rintro b9 h9
              change J _ _ _ [F, b9, m, blk g6 (l.getD k noAct27).cells 28] _
              refine J.y ((op_move rfl rfl).as (v' := .bool (decide (0 < L.length ∧ 0 < (L.getD (pl (l.getD k noAct27).i L.length) noLet).body.length))) (by first | rfl | exact (congrArg Value.bool (decide_eq_false (by omega))).symm)) rfl rfl rfl ?_
              refine J.y ((op_neqB Try.underlying4 rfl rfl rfl).as (v' := .bool false) (by simp)) rfl rfl rfl ?_
              refine J.nil ?_
              refine J.then_n (J.k hK49 ?_)
              refine J.keepE [(0, _), (3, _), (4, _), (5, _), (6, _), (8, _), (12, _), (156, _)] ⟨rfl, rfl, rfl, rfl, rfl, rfl, rfl, rfl, trivial⟩ ?_
              refine J.condF rfl rfl ?_
              refine J.skip ?_
              refine J.then_n (J.k hK48 ?_)
              refine J.keepE [(0, _), (3, _), (4, _), (5, _), (6, _), (8, _), (12, _)] ⟨rfl, rfl, rfl, rfl, rfl, rfl, rfl, trivial⟩ ?_
              refine J.seq (fun K50 hK50 => ?_)
              refine J.region ?_
              refine J.y ((op_move rfl rfl).as (v' := .bool (decide (0 < L.length ∧ 0 < (L.getD (pl (l.getD k noAct27).i L.length) noLet).body.length))) (by first | rfl | exact (congrArg Value.bool (decide_eq_false (by omega))).symm)) rfl rfl rfl ?_
              refine J.nil ?_
              refine J.then_n (J.k hK50 ?_)
              refine J.keepE [(0, _), (3, _), (4, _), (5, _), (6, _), (8, _), (157, _)] ⟨rfl, rfl, rfl, rfl, rfl, rfl, rfl, trivial⟩ ?_
              refine J.ite rfl (fun h157 => ?_) (fun h157 => ?_)
              ·
                rw [if_pos h157] at h9
                obtain ⟨ga2, hA2⟩ := hrow.at h157.1
                have hplk := pl_lt (l.getD k noAct27).i h157.1
                have hjl := pl_lt (l.getD k noAct27).pos h157.2
                have hbb := small_get (pl (l.getD k noAct27).i L.length) hsm
                refine J.seq (fun K51 hK51 => ?_)
                refine J.region ?_
                refine J.y (op_fieldAddr (j := 1) rfl rfl Try.underlying28 rfl Try.sizeOf3 rfl) rfl rfl rfl ?_
                refine J.y (op_loadB 3 rfl rfl rfl Try.isAgg3 rfl) rfl rfl rfl ?_
                refine J.y (op_move rfl rfl) rfl rfl rfl ?_
                refine J.e (op_call rfl rfl ent7 (Ct.use0 (fun F' hF => place27_ct F' (l.getD k noAct27).i L.length hxi h157.1 (by omega)))) rfl rfl rfl ?_
                intro g161 _
                refine J.y (op_assign rfl rfl) rfl rfl rfl ?_
                refine J.nil ?_
                refine J.then_n (J.k hK51 ?_)
                refine J.keepE [(0, _), (3, _), (4, _), (5, _), (6, _), (13, _)] ⟨rfl, rfl, rfl, rfl, rfl, rfl, trivial⟩ ?_
                refine J.seq (fun K52 hK52 => ?_)
                refine J.region ?_
                refine J.y (op_move rfl rfl) rfl rfl rfl ?_
                refine J.y (op_move rfl rfl) rfl rfl rfl ?_
                refine J.y (op_indexAddr (i := (pl (l.getD k noAct27).i L.length)) rfl rfl rfl Try.underlying26 Try.sizeOf30 hrow.sl (pl_lt _ h157.1)) rfl rfl rfl ?_
                refine J.y ((op_fieldAddr (j := (pl (l.getD k noAct27).i L.length) * 4 + 3) (off := (pl (l.getD k noAct27).i L.length) * 4) (g := ga2) rfl (by show some _ = some _; rw [hA2, elemAt_mk, Nat.zero_add]) Try.underlying30 rfl Try.sizeOf9 rfl)) rfl rfl rfl ?_
                refine J.y (op_load rfl rfl Try.isAgg9 (m := m) (by simp) (v := Str (L.getD (pl (l.getD k noAct27).i L.length) noLet).body) (by have := (hA2 ▸ hrow.sl).cell (lettersV_get (pl_lt _ h157.1)) (k := 3) (v := Str (L.getD (pl (l.getD k noAct27).i L.length) noLet).body) rfl; rw [Nat.zero_add] at this; exact this)) rfl rfl rfl ?_
                refine J.e (op_toBytes rfl rfl Try.underlying9 Try.underlying36 Try.underlying5) rfl rfl rfl ?_
                rintro ⟨g167, c167, m167⟩ h167
                try dsimp only at h167
                change J _ ((167, .slice (some ⟨g167, 0, none⟩) (L.getD (pl (l.getD k noAct27).i L.length) noLet).body.length c167) :: _) _ [F, b9, m, blk g6 (l.getD k noAct27).cells 28, m167] _
                refine J.y (op_assign rfl rfl) rfl rfl rfl ?_
                refine J.nil ?_
                refine J.then_n (J.k hK52 ?_)
                refine J.keepE [(0, _), (3, _), (4, _), (5, _), (6, _), (13, _), (14, _)] ⟨rfl, rfl, rfl, rfl, rfl, rfl, rfl, trivial⟩ ?_
                refine J.seq (fun K53 hK53 => ?_)
                refine J.region ?_
                refine J.y (op_move rfl rfl) rfl rfl rfl ?_
                refine J.y (op_fieldAddr (j := 2) rfl rfl Try.underlying28 rfl Try.sizeOf3 rfl) rfl rfl rfl ?_
                refine J.y (op_loadB 3 rfl rfl rfl Try.isAgg3 rfl) rfl rfl rfl ?_
                refine J.y (op_move rfl rfl) rfl rfl rfl ?_
                refine J.y (op_len Try.underlying36 rfl rfl) rfl rfl rfl ?_
                refine J.e (op_call rfl rfl ent7 (Ct.use0 (fun F' hF => place27_ct F' (l.getD k noAct27).pos (L.getD (pl (l.getD k noAct27).i L.length) noLet).body.length hxa h157.2 (by omega)))) rfl rfl rfl ?_
                intro g173 _
                refine J.y (op_indexAddrS (i := (pl (l.getD k noAct27).pos (L.getD (pl (l.getD k noAct27).i L.length) noLet).body.length)) (j := (pl (l.getD k noAct27).pos (L.getD (pl (l.getD k noAct27).i L.length) noLet).body.length)) rfl rfl rfl Try.underlying36 Try.sizeOf5 hjl (by omega)) rfl rfl rfl ?_
                refine J.y (op_load rfl rfl Try.isAgg5 (m := m167) (by simp) (by have := h167.sl.cells (bytesV_get (getSome 0 hjl)); rw [Nat.zero_add, Nat.mul_one] at this; exact this)) rfl rfl rfl ?_
                refine J.y (op_move rfl rfl) rfl rfl rfl ?_
                refine J.y (op_cv_i64_u8 rfl rfl Try.underlying3 Try.underlying5) rfl rfl rfl ?_
                refine J.y (op_xor8 rfl rfl rfl) rfl rfl rfl ?_
                refine J.y (op_indexAddrS (i := (pl (l.getD k noAct27).pos (L.getD (pl (l.getD k noAct27).i L.length) noLet).body.length)) (j := (pl (l.getD k noAct27).pos (L.getD (pl (l.getD k noAct27).i L.length) noLet).body.length)) rfl rfl rfl Try.underlying36 Try.sizeOf5 hjl (by omega)) rfl rfl rfl ?_
                refine J.s (op_storeRow (i := 4) (k := (pl (l.getD k noAct27).pos (L.getD (pl (l.getD k noAct27).i L.length) noLet).body.length)) (off := 0) (b := [B8 ((L.getD (pl (l.getD k noAct27).i L.length) noLet).body.getD (pl (l.getD k noAct27).pos (L.getD (pl (l.getD k noAct27).i L.length) noLet).body.length) 0 ^^^ UInt8.ofNat k)]) rfl rfl rfl rfl h167 (vs := [B8 ((L.getD (pl (l.getD k noAct27).i L.length) noLet).body.getD (pl (l.getD k noAct27).pos (L.getD (pl (l.getD k noAct27).i L.length) noLet).body.length) 0 ^^^ UInt8.ofNat k)]) rfl Try.sizeOf5 rfl (by omega) (bytesV_get (getSome 0 hjl)) rfl (Nat.le_refl _)) rfl rfl ?_
                rintro m179 h179
                change J _ _ _ [F, b9, m, blk g6 (l.getD k noAct27).cells 28, m179] _
                rw [← bytesV_set (b := (L.getD (pl (l.getD k noAct27).i L.length) noLet).body.getD (pl (l.getD k noAct27).pos (L.getD (pl (l.getD k noAct27).i L.length) noLet).body.length) 0 ^^^ UInt8.ofNat k)] at h179
                have htl : (turnB (L.getD (pl (l.getD k noAct27).i L.length) noLet).body (l.getD k noAct27).pos (UInt8.ofNat k)).length = (L.getD (pl (l.getD k noAct27).i L.length) noLet).body.length := by unfold turnB; rw [List.length_set]
                have h179 : Row m179 5 1 (some ⟨g167, 0, none⟩) (L.getD (pl (l.getD k noAct27).i L.length) noLet).body.length c167 (bytesV (turnB (L.getD (pl (l.getD k noAct27).i L.length) noLet).body (l.getD k noAct27).pos (UInt8.ofNat k))) := h179
                refine J.nil ?_
                refine J.then_n (J.k hK53 ?_)
                refine J.keepE [(0, _), (3, _), (4, _), (5, _), (13, _), (14, _)] ⟨rfl, rfl, rfl, rfl, rfl, rfl, trivial⟩ ?_
                refine J.seq (fun K54 hK54 => ?_)
                refine J.region ?_
                refine J.e (op_buildSlice0 rfl Try.underlying26 el30) rfl rfl rfl ?_
                intro g180 _
                change J _ _ _ [F, b9, m, blk g6 (l.getD k noAct27).cells 28, m179, blk g180 [] 30] _
                refine J.y (op_move rfl rfl) rfl rfl rfl ?_
                refine J.e (op_append (i := 5) (m2 := m) (xs := []) (ys := lettersV L) rfl rfl rfl Try.underlying26 Try.underlying26 el30 rfl (row_blk (q := True) (xs := []) rfl (by simp)) (by simp) hrow.sl (lettersV_one _) (by omega) (by omega)) rfl rfl rfl ?_
                rintro ⟨A182, c182, m182⟩ h182
                try dsimp only at h182
                change J _ ((182, .slice A182 (0 + L.length) c182) :: _) _ [F, b9, m, blk g6 (l.getD k noAct27).cells 28, m179, m182] _
                rw [Nat.zero_add, List.nil_append] at h182
                rw [Nat.zero_add]
                obtain ⟨ga3, rfl⟩ := h182.at h157.1
                refine J.y (op_assign rfl rfl) rfl rfl rfl ?_
                refine J.nil ?_
                refine J.then_n (J.k hK54 ?_)
                refine J.keepE [(0, _), (3, _), (4, _), (5, _), (13, _), (14, _)] ⟨rfl, rfl, rfl, rfl, rfl, rfl, trivial⟩ ?_
                refine J.region ?_
                refine J.y (op_move rfl rfl) rfl rfl rfl ?_
                refine J.y (op_move rfl rfl) rfl rfl rfl ?_
                refine J.y (op_move rfl rfl) rfl rfl rfl ?_
                refine J.y (op_toStr (l := (turnB (L.getD (pl (l.getD k noAct27).i L.length) noLet).body (l.getD k noAct27).pos (UInt8.ofNat k))) rfl rfl Try.underlying36 Try.underlying5 Try.underlying9 (m := m179) (by simp) h179.sl) rfl rfl rfl ?_
                refine J.y (op_indexAddrS (i := (pl (l.getD k noAct27).i L.length)) (j := (pl (l.getD k noAct27).i L.length) * 4) rfl rfl rfl Try.underlying26 Try.sizeOf30 (pl_lt _ h157.1) (Nat.zero_add _)) rfl rfl rfl ?_
                refine J.y (op_fieldAddr (j := (pl (l.getD k noAct27).i L.length) * 4 + 3) rfl rfl Try.underlying30 rfl Try.sizeOf9 rfl) rfl rfl rfl ?_
                refine J.s (op_storeRow (i := 5) (k := (pl (l.getD k noAct27).i L.length)) (off := 3) (b := { L.getD (pl (l.getD k noAct27).i L.length) noLet with body := (turnB (L.getD (pl (l.getD k noAct27).i L.length) noLet).body (l.getD k noAct27).pos (UInt8.ofNat k)) }.cells) rfl rfl rfl rfl h182 (vs := [Str (turnB (L.getD (pl (l.getD k noAct27).i L.length) noLet).body (l.getD k noAct27).pos (UInt8.ofNat k))]) rfl Try.sizeOf9 rfl rfl (lettersV_get (pl_lt _ h157.1)) rfl (Nat.le_refl _)) rfl rfl ?_
                rintro m188 h188
                change J _ _ _ [F, b9, m, blk g6 (l.getD k noAct27).cells 28, m179, m188] _
                have e5 : (turnL L (l.getD k noAct27).i (l.getD k noAct27).pos (UInt8.ofNat k)).length = L.length := by unfold turnL; rw [List.length_set]
                have hrow9 : Row m188 30 4 (some ⟨ga3, 0, none⟩) (turnL L (l.getD k noAct27).i (l.getD k noAct27).pos (UInt8.ofNat k)).length c182 (lettersV (turnL L (l.getD k noAct27).i (l.getD k noAct27).pos (UInt8.ofNat k))) := by rw [e5]; rw [lettersV_set] at h188; exact h188
                rw [← e5]
                refine J.perm [0, 1, 5] [F, b9, m188] rfl (by decide) ?_
                refine J.nil ?_
                refine J.blk_n ?_
                refine J.then_n (J.k hK14 ?_)
                refine J.keepE [(0, _), (3, _), (4, _), (5, _)] ⟨rfl, rfl, rfl, rfl, trivial⟩ ?_
                refine J.seq (fun K55 hK55 => ?_)
                obtain ⟨A9, c9, hc9, _⟩ := h9.see
                refine J.region ?_
                refine J.y (op_move rfl rfl) rfl rfl rfl ?_
                refine J.e (op_call rfl rfl ent12 (Ct.use0 (fun F' hF => len_ct F' gb _ _ _ (hc9.mono (hF _ (by simp)))))) rfl rfl rfl ?_
                intro g215 _
                refine J.y (op_move rfl rfl) rfl rfl rfl ?_
                refine J.y (op_len Try.underlying26 rfl rfl) rfl rfl rfl ?_
                refine J.y ((op_neq rfl rfl rfl).as (v' := .bool false) (congrArg Value.bool (decide_eq_false (by intro h; apply h; first | rfl | (exfalso; omega))))) rfl rfl rfl ?_
                refine J.nil ?_
                refine J.then_n (J.k hK55 ?_)
                refine J.keepE [(0, _), (3, _), (4, _), (5, _), (218, _)] ⟨rfl, rfl, rfl, rfl, rfl, trivial⟩ ?_
                refine J.condF rfl rfl ?_
                refine J.skip ?_
                refine J.blk_n ?_
                refine J.then_n (J.k hK10 ?_)
                refine J.keepE [(0, _), (3, _), (4, _), (5, _)] ⟨rfl, rfl, rfl, rfl, trivial⟩ ?_
                refine J.region ?_
                refine J.y (op_move rfl rfl) rfl rfl rfl ?_
                refine J.y ((op_add rfl rfl rfl (by first | omega | (refine ⟨?_, ?_⟩ <;> omega))).as (v' := I ((k + 1 : Nat) : Int)) (congrArg I (by omega))) rfl rfl rfl ?_
                refine J.y (op_assign rfl rfl) rfl rfl rfl ?_
                refine J.nil ?_
                refine J.then_n ?_
                first | (exfalso; omega) | (exact J.kk (k + 1, (L.take (pl (l.getD k noAct27).i L.length) ++ L.drop ((pl (l.getD k noAct27).i L.length) + 1)), _, A101, c101, m101) (fun x (hx : _ ∧ n - x.1 < n - k) => hI0 x hx.1 hx.2) ⟨⟨by dsimp only; omega, by dsimp only; omega, by dsimp only; first | omega | (rw [← hcnt]; omega), h9, hrow9, small_take hsm⟩, by dsimp only; omega⟩ ⟨rfl, rfl, rfl, rfl, trivial⟩ (fun _ h => h.pick [0, 1, 2] (by decide))) | (exact J.kk (k + 1, L, _, A4, c4, m) (fun x (hx : _ ∧ n - x.1 < n - k) => hI0 x hx.1 hx.2) ⟨⟨by dsimp only; omega, by dsimp only; omega, by dsimp only; first | omega | (rw [← hcnt]; omega), h9, hrow, hsm⟩, by dsimp only; omega⟩ ⟨rfl, rfl, rfl, rfl, trivial⟩ (fun _ h => h.pick [0, 1, 2] (by decide))) | (exact J.kk (k + 1, (L ++ [L.getD (pl (l.getD k noAct27).i L.length) noLet]), _, A132, c132, m132) (fun x (hx : _ ∧ n - x.1 < n - k) => hI0 x hx.1 hx.2) ⟨⟨by dsimp only; omega, by dsimp only; omega, by dsimp only; first | omega | (rw [← hcnt]; omega), h9, hrow9, small_snoc hsm (small_get _ hsm)⟩, by dsimp only; omega⟩ ⟨rfl, rfl, rfl, rfl, trivial⟩ (fun _ h => h.pick [0, 1, 2] (by decide))) | (exact J.kk (k + 1, (turnL L (l.getD k noAct27).i (l.getD k noAct27).pos (UInt8.ofNat k)), _, _, c182, m188) (fun x (hx : _ ∧ n - x.1 < n - k) => hI0 x hx.1 hx.2) ⟨⟨by dsimp only; omega, by dsimp only; omega, by dsimp only; first | omega | (rw [← hcnt]; omega), h9, hrow9, small_turn hsm⟩, by dsimp only; omega⟩ ⟨rfl, rfl, rfl, rfl, trivial⟩ (fun _ h => h.pick [0, 1, 2] (by decide))) | (exact J.kk (k + 1, (L ++ [(⟨(l.getD k noAct27).i % 4, (l.getD k noAct27).pos % 4, k, ((l.getD k noAct27).body.take 10)⟩ : Let)]), _, A67, c67, m67) (fun x (hx : _ ∧ n - x.1 < n - k) => hI0 x hx.1 hx.2) ⟨⟨by dsimp only; omega, by dsimp only; omega, by dsimp only; first | omega | (rw [← hcnt]; omega), h9, hrow9, small_snoc hsm hbl⟩, by dsimp only; omega⟩ ⟨rfl, rfl, rfl, rfl, trivial⟩ (fun _ h => h.pick [0, 1, 2] (by decide)))
              ·
                rw [if_neg h157] at h9
                refine J.skip ?_
                refine J.blk_n ?_
                refine J.then_n (J.k hK14 ?_)
                refine J.keepE [(0, _), (3, _), (4, _), (5, _)] ⟨rfl, rfl, rfl, rfl, trivial⟩ ?_
                refine J.seq (fun K56 hK56 => ?_)
                obtain ⟨A9, c9, hc9, _⟩ := h9.see
                refine J.region ?_
                refine J.y (op_move rfl rfl) rfl rfl rfl ?_
                refine J.e (op_call rfl rfl ent12 (Ct.use0 (fun F' hF => len_ct F' gb _ _ _ (hc9.mono (hF _ (by simp)))))) rfl rfl rfl ?_
                intro g215 _
                refine J.y (op_move rfl rfl) rfl rfl rfl ?_
                refine J.y (op_len Try.underlying26 rfl rfl) rfl rfl rfl ?_
                refine J.y ((op_neq rfl rfl rfl).as (v' := .bool false) (congrArg Value.bool (decide_eq_false (by intro h; apply h; first | rfl | (exfalso; omega))))) rfl rfl rfl ?_
                refine J.nil ?_
                refine J.then_n (J.k hK56 ?_)
                refine J.keepE [(0, _), (3, _), (4, _), (5, _), (218, _)] ⟨rfl, rfl, rfl, rfl, rfl, trivial⟩ ?_
                refine J.condF rfl rfl ?_
                refine J.skip ?_
                refine J.blk_n ?_
                refine J.then_n (J.k hK10 ?_)
                refine J.keepE [(0, _), (3, _), (4, _), (5, _)] ⟨rfl, rfl, rfl, rfl, trivial⟩ ?_
                refine J.region ?_
                refine J.y (op_move rfl rfl) rfl rfl rfl ?_
                refine J.y ((op_add rfl rfl rfl (by first | omega | (refine ⟨?_, ?_⟩ <;> omega))).as (v' := I ((k + 1 : Nat) : Int)) (congrArg I (by omega))) rfl rfl rfl ?_
                refine J.y (op_assign rfl rfl) rfl rfl rfl ?_
                refine J.nil ?_
                refine J.then_n ?_
                first | (exfalso; omega) | (exact J.kk (k + 1, (L.take (pl (l.getD k noAct27).i L.length) ++ L.drop ((pl (l.getD k noAct27).i L.length) + 1)), _, A101, c101, m101) (fun x (hx : _ ∧ n - x.1 < n - k) => hI0 x hx.1 hx.2) ⟨⟨by dsimp only; omega, by dsimp only; omega, by dsimp only; first | omega | (rw [← hcnt]; omega), h9, hrow9, small_take hsm⟩, by dsimp only; omega⟩ ⟨rfl, rfl, rfl, rfl, trivial⟩ (fun _ h => h.pick [0, 1, 2] (by decide))) | (exact J.kk (k + 1, L, _, A4, c4, m) (fun x (hx : _ ∧ n - x.1 < n - k) => hI0 x hx.1 hx.2) ⟨⟨by dsimp only; omega, by dsimp only; omega, by dsimp only; first | omega | (rw [← hcnt]; omega), h9, hrow, hsm⟩, by dsimp only; omega⟩ ⟨rfl, rfl, rfl, rfl, trivial⟩ (fun _ h => h.pick [0, 1, 2] (by decide))) | (exact J.kk (k + 1, (L ++ [L.getD (pl (l.getD k noAct27).i L.length) noLet]), _, A132, c132, m132) (fun x (hx : _ ∧ n - x.1 < n - k) => hI0 x hx.1 hx.2) ⟨⟨by dsimp only; omega, by dsimp only; omega, by dsimp only; first | omega | (rw [← hcnt]; omega), h9, hrow9, small_snoc hsm (small_get _ hsm)⟩, by dsimp only; omega⟩ ⟨rfl, rfl, rfl, rfl, trivial⟩ (fun _ h => h.pick [0, 1, 2] (by decide))) | (exact J.kk (k + 1, (turnL L (l.getD k noAct27).i (l.getD k noAct27).pos (UInt8.ofNat k)), _, _, c182, m188) (fun x (hx : _ ∧ n - x.1 < n - k) => hI0 x hx.1 hx.2) ⟨⟨by dsimp only; omega, by dsimp only; omega, by dsimp only; first | omega | (rw [← hcnt]; omega), h9, hrow9, small_turn hsm⟩, by dsimp only; omega⟩ ⟨rfl, rfl, rfl, rfl, trivial⟩ (fun _ h => h.pick [0, 1, 2] (by decide))) | (exact J.kk (k + 1, (L ++ [(⟨(l.getD k noAct27).i % 4, (l.getD k noAct27).pos % 4, k, ((l.getD k noAct27).body.take 10)⟩ : Let)]), _, A67, c67, m67) (fun x (hx : _ ∧ n - x.1 < n - k) => hI0 x hx.1 hx.2) ⟨⟨by dsimp only; omega, by dsimp only; omega, by dsimp only; first | omega | (rw [← hcnt]; omega), h9, hrow9, small_snoc hsm hbl⟩, by dsimp only; omega⟩ ⟨rfl, rfl, rfl, rfl, trivial⟩ (fun _ h => h.pick [0, 1, 2] (by decide)))
          ·
            refine J.seq (fun K57 hK57 => ?_)
            refine J.region ?_
            refine J.y (op_eql rfl rfl rfl) rfl rfl rfl ?_
            refine J.y (op_assign rfl rfl) rfl rfl rfl ?_
            refine J.nil ?_
            refine J.then_n (J.k hK57 ?_)
            refine J.keepE [(0, _), (3, _), (4, _), (5, _), (6, _), (7, _), (8, _), (189, _)] ⟨rfl, rfl, rfl, rfl, rfl, rfl, rfl, rfl, trivial⟩ ?_
            refine J.ite rfl (fun h189 => ?_) (fun h189 => ?_)
            ·
              refine J.seq (fun K58 hK58 => ?_)
              have h9 := hb
              refine J.region ?_
              refine J.y (op_assign rfl rfl) rfl rfl rfl ?_
              refine J.nil ?_
              refine J.then_n (J.k hK58 ?_)
              refine J.keepE [(0, _), (3, _), (4, _), (5, _), (6, _), (8, _), (15, _)] ⟨rfl, rfl, rfl, rfl, rfl, rfl, rfl, trivial⟩ ?_
              refine J.seq (fun K59 hK59 => ?_)
              refine J.seq (fun K60 hK60 => ?_)
              refine J.region ?_
              refine J.y (op_move rfl rfl) rfl rfl rfl ?_
              refine J.y ((op_sub rfl rfl rfl (by omega)).as (v' := I ((L.length : Int) - 1 - ((0 : Nat) : Int))) (congrArg I (by omega))) rfl rfl rfl ?_
              refine J.y (op_assign rfl rfl) rfl rfl rfl ?_
              refine J.nil ?_
              refine J.then_n (J.k hK60 ?_)
              refine J.keepE [(0, _), (3, _), (4, _), (5, _), (6, _), (15, _), (16, _)] ⟨rfl, rfl, rfl, rfl, rfl, rfl, rfl, trivial⟩ ?_
              refine J.block ?_
              refine J.loop (fun q : Nat => [(0, .slice A n c), (3, Ptr gb), (4, .slice A4 L.length c4), (5, I k), (6, Ptr g6), (15, I (findB nd L q)), (16, I ((L.length : Int) - 1 - (q : Int)))]) (fun _ => [F, b, m, blk g6 (l.getD k noAct27).cells 28]) (fun q => q ≤ L.length) (fun q => L.length - q) 0 (Nat.zero_le _) ⟨rfl, rfl, rfl, rfl, rfl, rfl, rfl, trivial⟩ (fun _ h => h) ?_
              intro q hqL I3 hI3
              refine J.seq (fun K61 hK61 => ?_)
              refine J.seq (fun K62 hK62 => ?_)
              refine J.region ?_
              refine J.y (op_move rfl rfl) rfl rfl rfl ?_
              refine J.y (op_geq rfl rfl rfl) rfl rfl rfl ?_
              refine J.nil ?_
              refine J.then_n (J.k hK62 ?_)
              refine J.keepE [(0, _), (3, _), (4, _), (5, _), (6, _), (15, _), (16, _), (194, _)] ⟨rfl, rfl, rfl, rfl, rfl, rfl, rfl, rfl, trivial⟩ ?_
              refine J.ite rfl (fun h194 => ?_) (fun h194 => ?_)
              ·
                refine J.skip ?_
                refine J.then_n (J.k hK61 ?_)
                refine J.keepE [(0, _), (3, _), (4, _), (5, _), (6, _), (15, _), (16, _)] ⟨rfl, rfl, rfl, rfl, rfl, rfl, rfl, trivial⟩ ?_
                refine J.seq (fun K63 hK63 => ?_)
                refine J.block ?_
                refine J.seq (fun K64 hK64 => ?_)
                obtain ⟨ga4, hA4⟩ := hrow.at (show 0 < L.length by omega)
                have hfs : findB nd L (q + 1) = if (L.getD (L.length - 1 - q) noLet).to = nd then (((L.length - 1 - q) : Nat) : Int) else findB nd L q := rfl
                refine J.draw [m, blk g6 (l.getD k noAct27).cells 28] [] (.y 0 (.y 1 (.y 2 (.y 3 (.y 4 (.y 5 (.y 6 (.y 7 (.y 8 .nil))))))))) mixo (by decide +kernel) (by simp) ?_
                refine J.dy rfl (op_move rfl rfl) rfl rfl rfl rfl ?_
                refine J.dy rfl ((op_move rfl rfl).as (v' := I ((L.length - 1 - q : Nat) : Int)) (congrArg I (by omega))) rfl rfl rfl rfl ?_
                refine J.dy rfl (op_indexAddr (i := (L.length - 1 - q)) rfl rfl rfl Try.underlying26 Try.sizeOf30 hrow.sl (by omega)) rfl rfl rfl rfl ?_
                refine J.dy rfl ((op_fieldAddr (j := (L.length - 1 - q) * 4) (off := (L.length - 1 - q) * 4) (g := ga4) rfl (by show some _ = some _; rw [hA4, elemAt_mk, Nat.zero_add]) Try.underlying30 rfl Try.sizeOf3 rfl)) rfl rfl rfl rfl ?_
                refine J.dy rfl (op_load rfl rfl Try.isAgg3 (m := m) (by simp) (v := I (L.getD (L.length - 1 - q) noLet).to) (by have := (hA4 ▸ hrow.sl).cell (lettersV_get (show (L.length - 1 - q) < L.length by omega)) (k := 0) (v := I (L.getD (L.length - 1 - q) noLet).to) rfl; rw [Nat.zero_add, Nat.add_zero] at this; exact this)) rfl rfl rfl rfl ?_
                refine J.dy rfl (op_fieldAddr (j := 1) rfl rfl Try.underlying28 rfl Try.sizeOf3 rfl) rfl rfl rfl rfl ?_
                refine J.dy rfl (op_loadB 1 rfl rfl rfl Try.isAgg3 rfl) rfl rfl rfl rfl ?_
                refine J.dy rfl ((op_maskI 2 rfl rfl rfl (by decide) (by decide)).as (v' := I nd) (congrArg I hnd.symm)) rfl rfl rfl rfl ?_
                refine J.dy rfl (op_eql rfl rfl rfl) rfl rfl rfl rfl ?_
                refine J.dnil ?_
                refine J.then_n (J.k hK64 ?_)
                refine J.keepE [(0, _), (3, _), (4, _), (5, _), (6, _), (15, _), (16, _), (205, _)] ⟨rfl, rfl, rfl, rfl, rfl, rfl, rfl, rfl, trivial⟩ ?_
                refine J.ite rfl (fun h205 => ?_) (fun h205 => ?_)
                ·
                  refine J.region ?_
                  refine J.y ((op_move rfl rfl).as (v' := I ((L.length - 1 - q : Nat) : Int)) (congrArg I (by omega))) rfl rfl rfl ?_
                  refine J.y (op_assign rfl rfl) rfl rfl rfl ?_
                  refine J.nil ?_
                  refine J.blk_n ?_
                  refine J.then_n (J.k hK63 ?_)
                  refine J.keepE [(0, _), (3, _), (4, _), (5, _), (6, _), (15, _), (16, _)] ⟨rfl, rfl, rfl, rfl, rfl, rfl, rfl, trivial⟩ ?_
                  refine J.region ?_
                  refine J.y (op_move rfl rfl) rfl rfl rfl ?_
                  refine J.y ((op_sub rfl rfl rfl (by omega)).as (v' := I ((L.length : Int) - 1 - ((q + 1 : Nat) : Int))) (congrArg I (by omega))) rfl rfl rfl ?_
                  refine J.y (op_assign rfl rfl) rfl rfl rfl ?_
                  refine J.nil ?_
                  refine J.then_n ?_
                  rw [if_pos h205] at hfs
                  exact J.kk (q + 1) (fun x (hx : x ≤ L.length ∧ L.length - x < L.length - q) => hI3 x hx.1 hx.2) ⟨by omega, by omega⟩ ⟨rfl, rfl, rfl, rfl, rfl, by rw [hfs]; rfl, rfl, trivial⟩ (fun _ h => h)
                ·
                  refine J.skip ?_
                  refine J.blk_n ?_
                  refine J.then_n (J.k hK63 ?_)
                  refine J.keepE [(0, _), (3, _), (4, _), (5, _), (6, _), (15, _), (16, _)] ⟨rfl, rfl, rfl, rfl, rfl, rfl, rfl, trivial⟩ ?_
                  refine J.region ?_
                  refine J.y (op_move rfl rfl) rfl rfl rfl ?_
                  refine J.y ((op_sub rfl rfl rfl (by omega)).as (v' := I ((L.length : Int) - 1 - ((q + 1 : Nat) : Int))) (congrArg I (by omega))) rfl rfl rfl ?_
                  refine J.y (op_assign rfl rfl) rfl rfl rfl ?_
                  refine J.nil ?_
                  refine J.then_n ?_
                  rw [if_neg h205] at hfs
                  exact J.kk (q + 1) (fun x (hx : x ≤ L.length ∧ L.length - x < L.length - q) => hI3 x hx.1 hx.2) ⟨by omega, by omega⟩ ⟨rfl, rfl, rfl, rfl, rfl, by rw [hfs]; rfl, rfl, trivial⟩ (fun _ h => h)
              ·
                refine J.exit ?_
                refine J.then_x ?_
                refine J.then_x ?_
                refine J.blk_eq ?_
                refine J.then_n (J.k hK59 ?_)
                refine J.keepE [(0, _), (3, _), (4, _), (5, _), (6, _), (15, _)] ⟨rfl, rfl, rfl, rfl, rfl, rfl, trivial⟩ ?_
                refine J.seq (fun K65 hK65 => ?_)
                have hq : q = L.length := by omega
                refine J.region ?_
                refine J.y (op_move rfl rfl) rfl rfl rfl ?_
                refine J.y (op_fieldAddr (j := 1) rfl rfl Try.underlying28 rfl Try.sizeOf3 rfl) rfl rfl rfl ?_
                refine J.y (op_loadB 3 rfl rfl rfl Try.isAgg3 rfl) rfl rfl rfl ?_
                refine J.y ((op_maskI 2 rfl rfl rfl (by decide) (by decide)).as (v' := I nd) (congrArg I hnd.symm)) rfl rfl rfl ?_
                refine J.e (op_call rfl rfl ent10 (Ct.use0 (fun F' hF => for_ct F' gb L.length A1 c1 L rfl (hc1.mono (hF b (by simp))) (hs1.mono (hF b (by simp))) nd (by omega)))) rfl rfl rfl ?_
                intro g211 _
                refine J.y (op_move rfl rfl) rfl rfl rfl ?_
                refine J.y ((op_neq rfl rfl rfl).as (v' := .bool false) (congrArg Value.bool (decide_eq_false (fun h => h (by rw [findB_full, hq]))))) rfl rfl rfl ?_
                refine J.nil ?_
                refine J.then_n (J.k hK65 ?_)
                refine J.keepE [(0, _), (3, _), (4, _), (5, _), (213, _)] ⟨rfl, rfl, rfl, rfl, rfl, trivial⟩ ?_
                refine J.condF rfl rfl ?_
                refine J.skip ?_
                refine J.blk_n ?_
                refine J.then_n (J.k hK14 ?_)
                refine J.keepE [(0, _), (3, _), (4, _), (5, _)] ⟨rfl, rfl, rfl, rfl, trivial⟩ ?_
                refine J.seq (fun K66 hK66 => ?_)
                obtain ⟨A9, c9, hc9, _⟩ := h9.see
                refine J.region ?_
                refine J.y (op_move rfl rfl) rfl rfl rfl ?_
                refine J.e (op_call rfl rfl ent12 (Ct.use0 (fun F' hF => len_ct F' gb _ _ _ (hc9.mono (hF _ (by simp)))))) rfl rfl rfl ?_
                intro g215 _
                refine J.y (op_move rfl rfl) rfl rfl rfl ?_
                refine J.y (op_len Try.underlying26 rfl rfl) rfl rfl rfl ?_
                refine J.y ((op_neq rfl rfl rfl).as (v' := .bool false) (congrArg Value.bool (decide_eq_false (by intro h; apply h; first | rfl | (exfalso; omega))))) rfl rfl rfl ?_
                refine J.nil ?_
                refine J.then_n (J.k hK66 ?_)
                refine J.keepE [(0, _), (3, _), (4, _), (5, _), (218, _)] ⟨rfl, rfl, rfl, rfl, rfl, trivial⟩ ?_
                refine J.condF rfl rfl ?_
                refine J.skip ?_
                refine J.blk_n ?_
                refine J.then_n (J.k hK10 ?_)
                refine J.keepE [(0, _), (3, _), (4, _), (5, _)] ⟨rfl, rfl, rfl, rfl, trivial⟩ ?_
                refine J.region ?_
                refine J.y (op_move rfl rfl) rfl rfl rfl ?_
                refine J.y ((op_add rfl rfl rfl (by first | omega | (refine ⟨?_, ?_⟩ <;> omega))).as (v' := I ((k + 1 : Nat) : Int)) (congrArg I (by omega))) rfl rfl rfl ?_
                refine J.y (op_assign rfl rfl) rfl rfl rfl ?_
                refine J.nil ?_
                refine J.then_n ?_
                first | (exfalso; omega) | (exact J.kk (k + 1, (L.take (pl (l.getD k noAct27).i L.length) ++ L.drop ((pl (l.getD k noAct27).i L.length) + 1)), _, A101, c101, m101) (fun x (hx : _ ∧ n - x.1 < n - k) => hI0 x hx.1 hx.2) ⟨⟨by dsimp only; omega, by dsimp only; omega, by dsimp only; first | omega | (rw [← hcnt]; omega), h9, hrow9, small_take hsm⟩, by dsimp only; omega⟩ ⟨rfl, rfl, rfl, rfl, trivial⟩ (fun _ h => h.pick [0, 1, 2] (by decide))) | (exact J.kk (k + 1, L, _, A4, c4, m) (fun x (hx : _ ∧ n - x.1 < n - k) => hI0 x hx.1 hx.2) ⟨⟨by dsimp only; omega, by dsimp only; omega, by dsimp only; first | omega | (rw [← hcnt]; omega), h9, hrow, hsm⟩, by dsimp only; omega⟩ ⟨rfl, rfl, rfl, rfl, trivial⟩ (fun _ h => h.pick [0, 1, 2] (by decide))) | (exact J.kk (k + 1, (L ++ [L.getD (pl (l.getD k noAct27).i L.length) noLet]), _, A132, c132, m132) (fun x (hx : _ ∧ n - x.1 < n - k) => hI0 x hx.1 hx.2) ⟨⟨by dsimp only; omega, by dsimp only; omega, by dsimp only; first | omega | (rw [← hcnt]; omega), h9, hrow9, small_snoc hsm (small_get _ hsm)⟩, by dsimp only; omega⟩ ⟨rfl, rfl, rfl, rfl, trivial⟩ (fun _ h => h.pick [0, 1, 2] (by decide))) | (exact J.kk (k + 1, (turnL L (l.getD k noAct27).i (l.getD k noAct27).pos (UInt8.ofNat k)), _, _, c182, m188) (fun x (hx : _ ∧ n - x.1 < n - k) => hI0 x hx.1 hx.2) ⟨⟨by dsimp only; omega, by dsimp only; omega, by dsimp only; first | omega | (rw [← hcnt]; omega), h9, hrow9, small_turn hsm⟩, by dsimp only; omega⟩ ⟨rfl, rfl, rfl, rfl, trivial⟩ (fun _ h => h.pick [0, 1, 2] (by decide))) | (exact J.kk (k + 1, (L ++ [(⟨(l.getD k noAct27).i % 4, (l.getD k noAct27).pos % 4, k, ((l.getD k noAct27).body.take 10)⟩ : Let)]), _, A67, c67, m67) (fun x (hx : _ ∧ n - x.1 < n - k) => hI0 x hx.1 hx.2) ⟨⟨by dsimp only; omega, by dsimp only; omega, by dsimp only; first | omega | (rw [← hcnt]; omega), h9, hrow9, small_snoc hsm hbl⟩, by dsimp only; omega⟩ ⟨rfl, rfl, rfl, rfl, trivial⟩ (fun _ h => h.pick [0, 1, 2] (by decide)))
            ·
              refine J.seq (fun K67 hK67 => ?_)
              refine J.region ?_
              refine J.y (op_fieldAddr (j := 1) rfl rfl Try.underlying28 rfl Try.sizeOf3 rfl) rfl rfl rfl ?_
              refine J.y (op_loadB 3 rfl rfl rfl Try.isAgg3 rfl) rfl rfl rfl ?_
              refine J.y ((op_maskI 2 rfl rfl rfl (by decide) (by decide)).as (v' := I ((l.getD k noAct27).i % 4)) rfl) rfl rfl rfl ?_
              refine J.y (op_fieldAddr (j := 2) rfl rfl Try.underlying28 rfl Try.sizeOf3 rfl) rfl rfl rfl ?_
              refine J.y (op_loadB 3 rfl rfl rfl Try.isAgg3 rfl) rfl rfl rfl ?_
              refine J.y ((op_maskI 2 rfl rfl rfl (by decide) (by decide)).as (v' := I ((l.getD k noAct27).pos % 4)) rfl) rfl rfl rfl ?_
              refine J.y (op_move rfl rfl) rfl rfl rfl ?_
              refine J.y (op_move rfl rfl) rfl rfl rfl ?_
              refine J.y (op_buildStruct (l := [(0, .tmp 51), (1, .tmp 54), (2, .tmp 55), (3, .tmp 56)]) (places := [(0, 1), (1, 1), (2, 1), (3, 1)]) (r := (⟨(l.getD k noAct27).i % 4, (l.getD k noAct27).pos % 4, k, ((l.getD k noAct27).body.take 10)⟩ : Let).cells) rfl rfl rfl Try.underlying30 Try.zeroValue30 (fun _ => by kernel_rfl) rfl) rfl rfl rfl ?_
              refine J.e (op_alloc rfl Try.zeroValue30 rfl) rfl rfl rfl ?_
              intro g17 _
              change J _ _ _ [F, b, m, blk g6 (l.getD k noAct27).cells 28, blk g17 _ 30] _
              refine J.s (op_storeAll (l := [I 0, I 0, I 0, Str []]) (i := 4) (vs := (⟨(l.getD k noAct27).i % 4, (l.getD k noAct27).pos % 4, k, ((l.getD k noAct27).body.take 10)⟩ : Let).cells) rfl rfl rfl rfl rfl Try.sizeOf30 rfl rfl) rfl rfl (fun _ _ => ?_)
              change J _ _ _ [F, b, m, blk g6 (l.getD k noAct27).cells 28, blk g17 (⟨(l.getD k noAct27).i % 4, (l.getD k noAct27).pos % 4, k, ((l.getD k noAct27).body.take 10)⟩ : Let).cells 30] _
              refine J.nil ?_
              refine J.then_n (J.k hK67 ?_)
              refine J.keepE [(0, _), (3, _), (4, _), (5, _), (17, _)] ⟨rfl, rfl, rfl, rfl, rfl, trivial⟩ ?_
              refine J.seq (fun K68 hK68 => ?_)
              refine J.seq (fun K69 hK69 => ?_)
              refine J.region ?_
              refine J.y (op_move rfl rfl) rfl rfl rfl ?_
              refine J.y (op_loadBA 4 rfl rfl rfl Try.isAgg30 Try.sizeOf30 rfl) rfl rfl rfl ?_
              refine J.e (op_call rfl rfl ent11 (Ct.use1 1 (m' := fun x : Hp => x) (new := fun _ => []) rfl (fun F' _ => put_ct F' b _ L hb (⟨(l.getD k noAct27).i % 4, (l.getD k noAct27).pos % 4, k, ((l.getD k noAct27).body.take 10)⟩ : Let) (by omega)))) rfl rfl rfl ?_
              rintro b9 h9
              change J _ _ _ [F, b9, m, blk g6 (l.getD k noAct27).cells 28, blk g17 (⟨(l.getD k noAct27).i % 4, (l.getD k noAct27).pos % 4, k, ((l.getD k noAct27).body.take 10)⟩ : Let).cells 30] _
              rw [if_pos (show L.length < 256 by omega)] at h9
              refine J.y ((op_not rfl rfl).as (v' := .bool false) (by rw [decide_eq_true (show L.length < 256 by omega)]; rfl)) rfl rfl rfl ?_
              refine J.nil ?_
              refine J.then_n (J.k hK69 ?_)
              refine J.keepE [(0, _), (3, _), (4, _), (5, _), (17, _), (61, _)] ⟨rfl, rfl, rfl, rfl, rfl, rfl, trivial⟩ ?_
              refine J.condF rfl rfl ?_
              refine J.skip ?_
              refine J.then_n (J.k hK68 ?_)
              refine J.keepE [(0, _), (3, _), (4, _), (5, _), (17, _)] ⟨rfl, rfl, rfl, rfl, rfl, trivial⟩ ?_
              refine J.draw [blk g17 (⟨(l.getD k noAct27).i % 4, (l.getD k noAct27).pos % 4, k, ((l.getD k noAct27).body.take 10)⟩ : Let).cells 30] [] (.y 1 (.y 3 (.br (.e 0 (.br (.e 2 (.e 4 (.e 5 (.y 6 .nil)))) (.e 4 (.e 2 (.e 5 (.y 6 .nil)))))) (.e 4 (.e 0 (.e 2 (.e 5 (.y 6 .nil)))))))) mixo (by decide +kernel) (by simp) ?_
              refine J.dy rfl (op_move rfl rfl) rfl rfl rfl rfl ?_
              refine J.dy rfl (op_loadBA 0 rfl rfl rfl Try.isAgg30 Try.sizeOf30 rfl) rfl rfl rfl rfl ?_
              refine J.dbr ?_ ?_
              ·
                refine J.de rfl (op_buildSlice0 rfl Try.underlying26 el30) rfl rfl rfl (by simp) ?_
                intro g62 _
                change J _ _ _ [F, b9, m, blk g6 (l.getD k noAct27).cells 28, blk g17 (⟨(l.getD k noAct27).i % 4, (l.getD k noAct27).pos % 4, k, ((l.getD k noAct27).body.take 10)⟩ : Let).cells 30, blk g62 [] 30] _
                refine J.dbr ?_ ?_
                ·
                  refine J.de rfl (op_append (i := 5) (m2 := m) (xs := []) (ys := lettersV L) rfl rfl rfl Try.underlying26 Try.underlying26 el30 rfl (row_blk (q := True) (xs := []) rfl (by simp)) (by simp) hrow.sl (lettersV_one _) (by omega) (by omega)) rfl rfl rfl (by simp) ?_
                  rintro ⟨A64, c64, m64⟩ h64
                  try dsimp only at h64
                  change J _ ((64, .slice A64 (0 + L.length) c64) :: _) _ [F, b9, m, blk g6 (l.getD k noAct27).cells 28, blk g17 (⟨(l.getD k noAct27).i % 4, (l.getD k noAct27).pos % 4, k, ((l.getD k noAct27).body.take 10)⟩ : Let).cells 30, m64] _
                  rw [List.nil_append] at h64
                  refine J.de rfl (op_buildSlice (l := [.tmp 65]) (xs := [(⟨(l.getD k noAct27).i % 4, (l.getD k noAct27).pos % 4, k, ((l.getD k noAct27).body.take 10)⟩ : Let).cells]) rfl rfl rfl rfl Try.underlying26 el30 rfl (by decide) (by decide) (by simp [Let.cells])) rfl rfl rfl (by simp) ?_
                  intro g66 _
                  change J _ _ _ [F, b9, m, blk g6 (l.getD k noAct27).cells 28, blk g17 (⟨(l.getD k noAct27).i % 4, (l.getD k noAct27).pos % 4, k, ((l.getD k noAct27).body.take 10)⟩ : Let).cells 30, m64, blk g66 (⟨(l.getD k noAct27).i % 4, (l.getD k noAct27).pos % 4, k, ((l.getD k noAct27).body.take 10)⟩ : Let).cells 30] _
                  refine J.de rfl (op_append (i := 5) (m2 := blk g66 (⟨(l.getD k noAct27).i % 4, (l.getD k noAct27).pos % 4, k, ((l.getD k noAct27).body.take 10)⟩ : Let).cells 30) (xs := lettersV L) (ys := lettersV [(⟨(l.getD k noAct27).i % 4, (l.getD k noAct27).pos % 4, k, ((l.getD k noAct27).body.take 10)⟩ : Let)]) rfl rfl rfl Try.underlying26 Try.underlying26 el30 rfl h64 (by simp) (row_blk (q := True) (xs := lettersV [(⟨(l.getD k noAct27).i % 4, (l.getD k noAct27).pos % 4, k, ((l.getD k noAct27).body.take 10)⟩ : Let)]) rfl (by simp [lettersV, Let.cells])).sl (lettersV_one _) (by omega) (by omega)) rfl rfl rfl (by simp) ?_
                  rintro ⟨A67, c67, m67⟩ h67
                  try dsimp only at h67
                  change J _ ((67, .slice A67 (0 + L.length + 1) c67) :: _) _ [F, b9, m, blk g6 (l.getD k noAct27).cells 28, blk g17 (⟨(l.getD k noAct27).i % 4, (l.getD k noAct27).pos % 4, k, ((l.getD k noAct27).body.take 10)⟩ : Let).cells 30, m67, blk g66 (⟨(l.getD k noAct27).i % 4, (l.getD k noAct27).pos % 4, k, ((l.getD k noAct27).body.take 10)⟩ : Let).cells 30] _
                  have hcnt : 0 + L.length + 1 = (L ++ [(⟨(l.getD k noAct27).i % 4, (l.getD k noAct27).pos % 4, k, ((l.getD k noAct27).body.take 10)⟩ : Let)]).length := by rw [List.length_append]; simp
                  have hrow9 : Row m67 30 4 A67 (L ++ [(⟨(l.getD k noAct27).i % 4, (l.getD k noAct27).pos % 4, k, ((l.getD k noAct27).body.take 10)⟩ : Let)]).length c67 (lettersV (L ++ [(⟨(l.getD k noAct27).i % 4, (l.getD k noAct27).pos % 4, k, ((l.getD k noAct27).body.take 10)⟩ : Let)])) := by rw [lettersV_app, ← hcnt]; exact h67
                  rw [hcnt]
                  refine J.perm [0, 1, 5] [F, b9, m67] rfl (by decide) ?_
                  refine J.dy rfl (op_assign rfl rfl) rfl rfl rfl rfl ?_
                  refine J.dnil ?_
                  refine J.blk_n ?_
                  refine J.then_n (J.k hK14 ?_)
                  refine J.keepE [(0, _), (3, _), (4, _), (5, _)] ⟨rfl, rfl, rfl, rfl, trivial⟩ ?_
                  refine J.seq (fun K70 hK70 => ?_)
                  obtain ⟨A9, c9, hc9, _⟩ := h9.see
                  refine J.region ?_
                  refine J.y (op_move rfl rfl) rfl rfl rfl ?_
                  refine J.e (op_call rfl rfl ent12 (Ct.use0 (fun F' hF => len_ct F' gb _ _ _ (hc9.mono (hF _ (by simp)))))) rfl rfl rfl ?_
                  intro g215 _
                  refine J.y (op_move rfl rfl) rfl rfl rfl ?_
                  refine J.y (op_len Try.underlying26 rfl rfl) rfl rfl rfl ?_
                  refine J.y ((op_neq rfl rfl rfl).as (v' := .bool false) (congrArg Value.bool (decide_eq_false (by intro h; apply h; first | rfl | (exfalso; omega))))) rfl rfl rfl ?_
                  refine J.nil ?_
                  refine J.then_n (J.k hK70 ?_)
                  refine J.keepE [(0, _), (3, _), (4, _), (5, _), (218, _)] ⟨rfl, rfl, rfl, rfl, rfl, trivial⟩ ?_
                  refine J.condF rfl rfl ?_
                  refine J.skip ?_
                  refine J.blk_n ?_
                  refine J.then_n (J.k hK10 ?_)
                  refine J.keepE [(0, _), (3, _), (4, _), (5, _)] ⟨rfl, rfl, rfl, rfl, trivial⟩ ?_
                  refine J.region ?_
                  refine J.y (op_move rfl rfl) rfl rfl rfl ?_
                  refine J.y ((op_add rfl rfl rfl (by first | omega | (refine ⟨?_, ?_⟩ <;> omega))).as (v' := I ((k + 1 : Nat) : Int)) (congrArg I (by omega))) rfl rfl rfl ?_
                  refine J.y (op_assign rfl rfl) rfl rfl rfl ?_
                  refine J.nil ?_
                  refine J.then_n ?_
                  first | (exfalso; omega) | (exact J.kk (k + 1, (L.take (pl (l.getD k noAct27).i L.length) ++ L.drop ((pl (l.getD k noAct27).i L.length) + 1)), _, A101, c101, m101) (fun x (hx : _ ∧ n - x.1 < n - k) => hI0 x hx.1 hx.2) ⟨⟨by dsimp only; omega, by dsimp only; omega, by dsimp only; first | omega | (rw [← hcnt]; omega), h9, hrow9, small_take hsm⟩, by dsimp only; omega⟩ ⟨rfl, rfl, rfl, rfl, trivial⟩ (fun _ h => h.pick [0, 1, 2] (by decide))) | (exact J.kk (k + 1, L, _, A4, c4, m) (fun x (hx : _ ∧ n - x.1 < n - k) => hI0 x hx.1 hx.2) ⟨⟨by dsimp only; omega, by dsimp only; omega, by dsimp only; first | omega | (rw [← hcnt]; omega), h9, hrow, hsm⟩, by dsimp only; omega⟩ ⟨rfl, rfl, rfl, rfl, trivial⟩ (fun _ h => h.pick [0, 1, 2] (by decide))) | (exact J.kk (k + 1, (L ++ [L.getD (pl (l.getD k noAct27).i L.length) noLet]), _, A132, c132, m132) (fun x (hx : _ ∧ n - x.1 < n - k) => hI0 x hx.1 hx.2) ⟨⟨by dsimp only; omega, by dsimp only; omega, by dsimp only; first | omega | (rw [← hcnt]; omega), h9, hrow9, small_snoc hsm (small_get _ hsm)⟩, by dsimp only; omega⟩ ⟨rfl, rfl, rfl, rfl, trivial⟩ (fun _ h => h.pick [0, 1, 2] (by decide))) | (exact J.kk (k + 1, (turnL L (l.getD k noAct27).i (l.getD k noAct27).pos (UInt8.ofNat k)), _, _, c182, m188) (fun x (hx : _ ∧ n - x.1 < n - k) => hI0 x hx.1 hx.2) ⟨⟨by dsimp only; omega, by dsimp only; omega, by dsimp only; first | omega | (rw [← hcnt]; omega), h9, hrow9, small_turn hsm⟩, by dsimp only; omega⟩ ⟨rfl, rfl, rfl, rfl, trivial⟩ (fun _ h => h.pick [0, 1, 2] (by decide))) | (exact J.kk (k + 1, (L ++ [(⟨(l.getD k noAct27).i % 4, (l.getD k noAct27).pos % 4, k, ((l.getD k noAct27).body.take 10)⟩ : Let)]), _, A67, c67, m67) (fun x (hx : _ ∧ n - x.1 < n - k) => hI0 x hx.1 hx.2) ⟨⟨by dsimp only; omega, by dsimp only; omega, by dsimp only; first | omega | (rw [← hcnt]; omega), h9, hrow9, small_snoc hsm hbl⟩, by dsimp only; omega⟩ ⟨rfl, rfl, rfl, rfl, trivial⟩ (fun _ h => h.pick [0, 1, 2] (by decide)))
                ·
                  refine J.de rfl (op_buildSlice (l := [.tmp 65]) (xs := [(⟨(l.getD k noAct27).i % 4, (l.getD k noAct27).pos % 4, k, ((l.getD k noAct27).body.take 10)⟩ : Let).cells]) rfl rfl rfl rfl Try.underlying26 el30 rfl (by decide) (by decide) (by simp [Let.cells])) rfl rfl rfl (by simp) ?_
                  intro g66 _
                  change J _ _ _ [F, b9, m, blk g6 (l.getD k noAct27).cells 28, blk g17 (⟨(l.getD k noAct27).i % 4, (l.getD k noAct27).pos % 4, k, ((l.getD k noAct27).body.take 10)⟩ : Let).cells 30, blk g62 [] 30, blk g66 (⟨(l.getD k noAct27).i % 4, (l.getD k noAct27).pos % 4, k, ((l.getD k noAct27).body.take 10)⟩ : Let).cells 30] _
                  refine J.de rfl (op_append (i := 5) (m2 := m) (xs := []) (ys := lettersV L) rfl rfl rfl Try.underlying26 Try.underlying26 el30 rfl (row_blk (q := True) (xs := []) rfl (by simp)) (by simp) hrow.sl (lettersV_one _) (by omega) (by omega)) rfl rfl rfl (by simp) ?_
                  rintro ⟨A64, c64, m64⟩ h64
                  try dsimp only at h64
                  change J _ ((64, .slice A64 (0 + L.length) c64) :: _) _ [F, b9, m, blk g6 (l.getD k noAct27).cells 28, blk g17 (⟨(l.getD k noAct27).i % 4, (l.getD k noAct27).pos % 4, k, ((l.getD k noAct27).body.take 10)⟩ : Let).cells 30, m64, blk g66 (⟨(l.getD k noAct27).i % 4, (l.getD k noAct27).pos % 4, k, ((l.getD k noAct27).body.take 10)⟩ : Let).cells 30] _
                  rw [List.nil_append] at h64
                  refine J.de rfl (op_append (i := 5) (m2 := blk g66 (⟨(l.getD k noAct27).i % 4, (l.getD k noAct27).pos % 4, k, ((l.getD k noAct27).body.take 10)⟩ : Let).cells 30) (xs := lettersV L) (ys := lettersV [(⟨(l.getD k noAct27).i % 4, (l.getD k noAct27).pos % 4, k, ((l.getD k noAct27).body.take 10)⟩ : Let)]) rfl rfl rfl Try.underlying26 Try.underlying26 el30 rfl h64 (by simp) (row_blk (q := True) (xs := lettersV [(⟨(l.getD k noAct27).i % 4, (l.getD k noAct27).pos % 4, k, ((l.getD k noAct27).body.take 10)⟩ : Let)]) rfl (by simp [lettersV, Let.cells])).sl (lettersV_one _) (by omega) (by omega)) rfl rfl rfl (by simp) ?_
                  rintro ⟨A67, c67, m67⟩ h67
                  try dsimp only at h67
                  change J _ ((67, .slice A67 (0 + L.length + 1) c67) :: _) _ [F, b9, m, blk g6 (l.getD k noAct27).cells 28, blk g17 (⟨(l.getD k noAct27).i % 4, (l.getD k noAct27).pos % 4, k, ((l.getD k noAct27).body.take 10)⟩ : Let).cells 30, m67, blk g66 (⟨(l.getD k noAct27).i % 4, (l.getD k noAct27).pos % 4, k, ((l.getD k noAct27).body.take 10)⟩ : Let).cells 30] _
                  have hcnt : 0 + L.length + 1 = (L ++ [(⟨(l.getD k noAct27).i % 4, (l.getD k noAct27).pos % 4, k, ((l.getD k noAct27).body.take 10)⟩ : Let)]).length := by rw [List.length_append]; simp
                  have hrow9 : Row m67 30 4 A67 (L ++ [(⟨(l.getD k noAct27).i % 4, (l.getD k noAct27).pos % 4, k, ((l.getD k noAct27).body.take 10)⟩ : Let)]).length c67 (lettersV (L ++ [(⟨(l.getD k noAct27).i % 4, (l.getD k noAct27).pos % 4, k, ((l.getD k noAct27).body.take 10)⟩ : Let)])) := by rw [lettersV_app, ← hcnt]; exact h67
                  rw [hcnt]
                  refine J.perm [0, 1, 5] [F, b9, m67] rfl (by decide) ?_
                  refine J.dy rfl (op_assign rfl rfl) rfl rfl rfl rfl ?_
                  refine J.dnil ?_
                  refine J.blk_n ?_
                  refine J.then_n (J.k hK14 ?_)
                  refine J.keepE [(0, _), (3, _), (4, _), (5, _)] ⟨rfl, rfl, rfl, rfl, trivial⟩ ?_
                  refine J.seq (fun K71 hK71 => ?_)
                  obtain ⟨A9, c9, hc9, _⟩ := h9.see
                  refine J.region ?_
                  refine J.y (op_move rfl rfl) rfl rfl rfl ?_
                  refine J.e (op_call rfl rfl ent12 (Ct.use0 (fun F' hF => len_ct F' gb _ _ _ (hc9.mono (hF _ (by simp)))))) rfl rfl rfl ?_
                  intro g215 _
                  refine J.y (op_move rfl rfl) rfl rfl rfl ?_
                  refine J.y (op_len Try.underlying26 rfl rfl) rfl rfl rfl ?_
                  refine J.y ((op_neq rfl rfl rfl).as (v' := .bool false) (congrArg Value.bool (decide_eq_false (by intro h; apply h; first | rfl | (exfalso; omega))))) rfl rfl rfl ?_
                  refine J.nil ?_
                  refine J.then_n (J.k hK71 ?_)
                  refine J.keepE [(0, _), (3, _), (4, _), (5, _), (218, _)] ⟨rfl, rfl, rfl, rfl, rfl, trivial⟩ ?_
                  refine J.condF rfl rfl ?_
                  refine J.skip ?_
                  refine J.blk_n ?_
                  refine J.then_n (J.k hK10 ?_)
                  refine J.keepE [(0, _), (3, _), (4, _), (5, _)] ⟨rfl, rfl, rfl, rfl, trivial⟩ ?_
                  refine J.region ?_
                  refine J.y (op_move rfl rfl) rfl rfl rfl ?_
                  refine J.y ((op_add rfl rfl rfl (by first | omega | (refine ⟨?_, ?_⟩ <;> omega))).as (v' := I ((k + 1 : Nat) : Int)) (congrArg I (by omega))) rfl rfl rfl ?_
                  refine J.y (op_assign rfl rfl) rfl rfl rfl ?_
                  refine J.nil ?_
                  refine J.then_n ?_
                  first | (exfalso; omega) | (exact J.kk (k + 1, (L.take (pl (l.getD k noAct27).i L.length) ++ L.drop ((pl (l.getD k noAct27).i L.length) + 1)), _, A101, c101, m101) (fun x (hx : _ ∧ n - x.1 < n - k) => hI0 x hx.1 hx.2) ⟨⟨by dsimp only; omega, by dsimp only; omega, by dsimp only; first | omega | (rw [← hcnt]; omega), h9, hrow9, small_take hsm⟩, by dsimp only; omega⟩ ⟨rfl, rfl, rfl, rfl, trivial⟩ (fun _ h => h.pick [0, 1, 2] (by decide))) | (exact J.kk (k + 1, L, _, A4, c4, m) (fun x (hx : _ ∧ n - x.1 < n - k) => hI0 x hx.1 hx.2) ⟨⟨by dsimp only; omega, by dsimp only; omega, by dsimp only; first | omega | (rw [← hcnt]; omega), h9, hrow, hsm⟩, by dsimp only; omega⟩ ⟨rfl, rfl, rfl, rfl, trivial⟩ (fun _ h => h.pick [0, 1, 2] (by decide))) | (exact J.kk (k + 1, (L ++ [L.getD (pl (l.getD k noAct27).i L.length) noLet]), _, A132, c132, m132) (fun x (hx : _ ∧ n - x.1 < n - k) => hI0 x hx.1 hx.2) ⟨⟨by dsimp only; omega, by dsimp only; omega, by dsimp only; first | omega | (rw [← hcnt]; omega), h9, hrow9, small_snoc hsm (small_get _ hsm)⟩, by dsimp only; omega⟩ ⟨rfl, rfl, rfl, rfl, trivial⟩ (fun _ h => h.pick [0, 1, 2] (by decide))) | (exact J.kk (k + 1, (turnL L (l.getD k noAct27).i (l.getD k noAct27).pos (UInt8.ofNat k)), _, _, c182, m188) (fun x (hx : _ ∧ n - x.1 < n - k) => hI0 x hx.1 hx.2) ⟨⟨by dsimp only; omega, by dsimp only; omega, by dsimp only; first | omega | (rw [← hcnt]; omega), h9, hrow9, small_turn hsm⟩, by dsimp only; omega⟩ ⟨rfl, rfl, rfl, rfl, trivial⟩ (fun _ h => h.pick [0, 1, 2] (by decide))) | (exact J.kk (k + 1, (L ++ [(⟨(l.getD k noAct27).i % 4, (l.getD k noAct27).pos % 4, k, ((l.getD k noAct27).body.take 10)⟩ : Let)]), _, A67, c67, m67) (fun x (hx : _ ∧ n - x.1 < n - k) => hI0 x hx.1 hx.2) ⟨⟨by dsimp only; omega, by dsimp only; omega, by dsimp only; first | omega | (rw [← hcnt]; omega), h9, hrow9, small_snoc hsm hbl⟩, by dsimp only; omega⟩ ⟨rfl, rfl, rfl, rfl, trivial⟩ (fun _ h => h.pick [0, 1, 2] (by decide)))
              ·
                refine J.de rfl (op_buildSlice (l := [.tmp 65]) (xs := [(⟨(l.getD k noAct27).i % 4, (l.getD k noAct27).pos % 4, k, ((l.getD k noAct27).body.take 10)⟩ : Let).cells]) rfl rfl rfl rfl Try.underlying26 el30 rfl (by decide) (by decide) (by simp [Let.cells])) rfl rfl rfl (by simp) ?_
                intro g66 _
                change J _ _ _ [F, b9, m, blk g6 (l.getD k noAct27).cells 28, blk g17 (⟨(l.getD k noAct27).i % 4, (l.getD k noAct27).pos % 4, k, ((l.getD k noAct27).body.take 10)⟩ : Let).cells 30, blk g66 (⟨(l.getD k noAct27).i % 4, (l.getD k noAct27).pos % 4, k, ((l.getD k noAct27).body.take 10)⟩ : Let).cells 30] _
                refine J.de rfl (op_buildSlice0 rfl Try.underlying26 el30) rfl rfl rfl (by simp) ?_
                intro g62 _
                change J _ _ _ [F, b9, m, blk g6 (l.getD k noAct27).cells 28, blk g17 (⟨(l.getD k noAct27).i % 4, (l.getD k noAct27).pos % 4, k, ((l.getD k noAct27).body.take 10)⟩ : Let).cells 30, blk g66 (⟨(l.getD k noAct27).i % 4, (l.getD k noAct27).pos % 4, k, ((l.getD k noAct27).body.take 10)⟩ : Let).cells 30, blk g62 [] 30] _
                refine J.de rfl (op_append (i := 6) (m2 := m) (xs := []) (ys := lettersV L) rfl rfl rfl Try.underlying26 Try.underlying26 el30 rfl (row_blk (q := True) (xs := []) rfl (by simp)) (by simp) hrow.sl (lettersV_one _) (by omega) (by omega)) rfl rfl rfl (by simp) ?_
                rintro ⟨A64, c64, m64⟩ h64
                try dsimp only at h64
                change J _ ((64, .slice A64 (0 + L.length) c64) :: _) _ [F, b9, m, blk g6 (l.getD k noAct27).cells 28, blk g17 (⟨(l.getD k noAct27).i % 4, (l.getD k noAct27).pos % 4, k, ((l.getD k noAct27).body.take 10)⟩ : Let).cells 30, blk g66 (⟨(l.getD k noAct27).i % 4, (l.getD k noAct27).pos % 4, k, ((l.getD k noAct27).body.take 10)⟩ : Let).cells 30, m64] _
                rw [List.nil_append] at h64
                refine J.de rfl (op_append (i := 6) (m2 := blk g66 (⟨(l.getD k noAct27).i % 4, (l.getD k noAct27).pos % 4, k, ((l.getD k noAct27).body.take 10)⟩ : Let).cells 30) (xs := lettersV L) (ys := lettersV [(⟨(l.getD k noAct27).i % 4, (l.getD k noAct27).pos % 4, k, ((l.getD k noAct27).body.take 10)⟩ : Let)]) rfl rfl rfl Try.underlying26 Try.underlying26 el30 rfl h64 (by simp) (row_blk (q := True) (xs := lettersV [(⟨(l.getD k noAct27).i % 4, (l.getD k noAct27).pos % 4, k, ((l.getD k noAct27).body.take 10)⟩ : Let)]) rfl (by simp [lettersV, Let.cells])).sl (lettersV_one _) (by omega) (by omega)) rfl rfl rfl (by simp) ?_
                rintro ⟨A67, c67, m67⟩ h67
                try dsimp only at h67
                change J _ ((67, .slice A67 (0 + L.length + 1) c67) :: _) _ [F, b9, m, blk g6 (l.getD k noAct27).cells 28, blk g17 (⟨(l.getD k noAct27).i % 4, (l.getD k noAct27).pos % 4, k, ((l.getD k noAct27).body.take 10)⟩ : Let).cells 30, blk g66 (⟨(l.getD k noAct27).i % 4, (l.getD k noAct27).pos % 4, k, ((l.getD k noAct27).body.take 10)⟩ : Let).cells 30, m67] _
                have hcnt : 0 + L.length + 1 = (L ++ [(⟨(l.getD k noAct27).i % 4, (l.getD k noAct27).pos % 4, k, ((l.getD k noAct27).body.take 10)⟩ : Let)]).length := by rw [List.length_append]; simp
                have hrow9 : Row m67 30 4 A67 (L ++ [(⟨(l.getD k noAct27).i % 4, (l.getD k noAct27).pos % 4, k, ((l.getD k noAct27).body.take 10)⟩ : Let)]).length c67 (lettersV (L ++ [(⟨(l.getD k noAct27).i % 4, (l.getD k noAct27).pos % 4, k, ((l.getD k noAct27).body.take 10)⟩ : Let)])) := by rw [lettersV_app, ← hcnt]; exact h67
                rw [hcnt]
                refine J.perm [0, 1, 6] [F, b9, m67] rfl (by decide) ?_
                refine J.dy rfl (op_assign rfl rfl) rfl rfl rfl rfl ?_
                refine J.dnil ?_
                refine J.blk_n ?_
                refine J.then_n (J.k hK14 ?_)
                refine J.keepE [(0, _), (3, _), (4, _), (5, _)] ⟨rfl, rfl, rfl, rfl, trivial⟩ ?_
                refine J.seq (fun K72 hK72 => ?_)
                obtain ⟨A9, c9, hc9, _⟩ := h9.see
                refine J.region ?_
                refine J.y (op_move rfl rfl) rfl rfl rfl ?_
                refine J.e (op_call rfl rfl ent12 (Ct.use0 (fun F' hF => len_ct F' gb _ _ _ (hc9.mono (hF _ (by simp)))))) rfl rfl rfl ?_
                intro g215 _
                refine J.y (op_move rfl rfl) rfl rfl rfl ?_
                refine J.y (op_len Try.underlying26 rfl rfl) rfl rfl rfl ?_
                refine J.y ((op_neq rfl rfl rfl).as (v' := .bool false) (congrArg Value.bool (decide_eq_false (by intro h; apply h; first | rfl | (exfalso; omega))))) rfl rfl rfl ?_
                refine J.nil ?_
                refine J.then_n (J.k hK72 ?_)
                refine J.keepE [(0, _), (3, _), (4, _), (5, _), (218, _)] ⟨rfl, rfl, rfl, rfl, rfl, trivial⟩ ?_
                refine J.condF rfl rfl ?_
                refine J.skip ?_
                refine J.blk_n ?_
                refine J.then_n (J.k hK10 ?_)
                refine J.keepE [(0, _), (3, _), (4, _), (5, _)] ⟨rfl, rfl, rfl, rfl, trivial⟩ ?_
                refine J.region ?_
                refine J.y (op_move rfl rfl) rfl rfl rfl ?_
                refine J.y ((op_add rfl rfl rfl (by first | omega | (refine ⟨?_, ?_⟩ <;> omega))).as (v' := I ((k + 1 : Nat) : Int)) (congrArg I (by omega))) rfl rfl rfl ?_
                refine J.y (op_assign rfl rfl) rfl rfl rfl ?_
                refine J.nil ?_
                refine J.then_n ?_
                first | (exfalso; omega) | (exact J.kk (k + 1, (L.take (pl (l.getD k noAct27).i L.length) ++ L.drop ((pl (l.getD k noAct27).i L.length) + 1)), _, A101, c101, m101) (fun x (hx : _ ∧ n - x.1 < n - k) => hI0 x hx.1 hx.2) ⟨⟨by dsimp only; omega, by dsimp only; omega, by dsimp only; first | omega | (rw [← hcnt]; omega), h9, hrow9, small_take hsm⟩, by dsimp only; omega⟩ ⟨rfl, rfl, rfl, rfl, trivial⟩ (fun _ h => h.pick [0, 1, 2] (by decide))) | (exact J.kk (k + 1, L, _, A4, c4, m) (fun x (hx : _ ∧ n - x.1 < n - k) => hI0 x hx.1 hx.2) ⟨⟨by dsimp only; omega, by dsimp only; omega, by dsimp only; first | omega | (rw [← hcnt]; omega), h9, hrow, hsm⟩, by dsimp only; omega⟩ ⟨rfl, rfl, rfl, rfl, trivial⟩ (fun _ h => h.pick [0, 1, 2] (by decide))) | (exact J.kk (k + 1, (L ++ [L.getD (pl (l.getD k noAct27).i L.length) noLet]), _, A132, c132, m132) (fun x (hx : _ ∧ n - x.1 < n - k) => hI0 x hx.1 hx.2) ⟨⟨by dsimp only; omega, by dsimp only; omega, by dsimp only; first | omega | (rw [← hcnt]; omega), h9, hrow9, small_snoc hsm (small_get _ hsm)⟩, by dsimp only; omega⟩ ⟨rfl, rfl, rfl, rfl, trivial⟩ (fun _ h => h.pick [0, 1, 2] (by decide))) | (exact J.kk (k + 1, (turnL L (l.getD k noAct27).i (l.getD k noAct27).pos (UInt8.ofNat k)), _, _, c182, m188) (fun x (hx : _ ∧ n - x.1 < n - k) => hI0 x hx.1 hx.2) ⟨⟨by dsimp only; omega, by dsimp only; omega, by dsimp only; first | omega | (rw [← hcnt]; omega), h9, hrow9, small_turn hsm⟩, by dsimp only; omega⟩ ⟨rfl, rfl, rfl, rfl, trivial⟩ (fun _ h => h.pick [0, 1, 2] (by decide))) | (exact J.kk (k + 1, (L ++ [(⟨(l.getD k noAct27).i % 4, (l.getD k noAct27).pos % 4, k, ((l.getD k noAct27).body.take 10)⟩ : Let)]), _, A67, c67, m67) (fun x (hx : _ ∧ n - x.1 < n - k) => hI0 x hx.1 hx.2) ⟨⟨by dsimp only; omega, by dsimp only; omega, by dsimp only; first | omega | (rw [← hcnt]; omega), h9, hrow9, small_snoc hsm hbl⟩, by dsimp only; omega⟩ ⟨rfl, rfl, rfl, rfl, trivial⟩ (fun _ h => h.pick [0, 1, 2] (by decide)))
    ·
      refine J.exit ?_
      refine J.then_x ?_
      refine J.then_x ?_
      refine J.blk_eq ?_
      refine J.then_n (J.k hK6 ?_)
      refine J.keepE [] trivial ?_
      refine J.seq (fun K73 hK73 => ?_)
      refine J.region ?_
      refine J.y (op_assign rfl rfl) rfl rfl rfl ?_
      refine J.nil ?_
      refine J.then_n (J.k hK73 ?_)
      refine J.keepE [(2, _)] ⟨rfl, trivial⟩ ?_
      refine J.ret ?_
      exact J.done (fun _ _ h => h) (res1 rfl rfl) (retOk () rfl trivial [0] rfl (by decide))
  ·
    refine J.no (Wan.is rfl rfl rfl rfl rfl) rfl rfl ?_
    refine J.no (Wan.is rfl rfl rfl rfl rfl) rfl rfl ?_
    refine J.y (op_pickF rfl rfl rfl) rfl rfl rfl ?_
    refine J.nil ?_
    refine J.then_n (J.k hK9 ?_)
    refine J.keepE [(0, _), (3, _), (4, _), (5, _), (28, _)] ⟨rfl, rfl, rfl, rfl, rfl, trivial⟩ ?_
    refine J.condF rfl rfl ?_
    refine J.exit ?_
    refine J.then_x ?_
    refine J.then_x ?_
    refine J.blk_eq ?_
    refine J.then_n (J.k hK6 ?_)
    refine J.keepE [] trivial ?_
    refine J.seq (fun K74 hK74 => ?_)
    refine J.region ?_
    refine J.y (op_assign rfl rfl) rfl rfl rfl ?_
    refine J.nil ?_
    refine J.then_n (J.k hK74 ?_)
    refine J.keepE [(2, _)] ⟨rfl, trivial⟩ ?_
    refine J.ret ?_
    exact J.done (fun _ _ h => h) (res1 rfl rfl) (retOk () rfl trivial [0] rfl (by decide))

theorem acts27_of {H : Type} {enc : TypeId × Value → H} {W : World} {xs : List (List Value)} (h : ∀ x ∈ xs, ∃ fuel y, DataW.trod enc Try.prog W 0 (fun _ => true) true fuel 28 x = some y) : ∃ l : List Act27, xs = actsV27 l ∧ ∀ a ∈ l, a.ok :=
  rows_of (f := Act27.cells) (Q := Act27.ok) fun x hx => by
    obtain ⟨fuel, y, h1⟩ := h x hx
    obtain ⟨hl, hf⟩ := struct_of Try.underlying28 h1
    have hc : Try.prog.cellsOf 28 = 4 := by kernel_rfl
    have c3 : Try.prog.cellsOf 3 = 1 := by kernel_rfl
    have c9 : Try.prog.cellsOf 9 = 1 := by kernel_rfl
    rw [hc] at hl
    match x, hl, hf with
    | [a, b, c, d], _, hf =>
      obtain ⟨_, _, h0⟩ := hf 0 _ rfl
      obtain ⟨_, _, h1⟩ := hf 1 _ rfl
      obtain ⟨_, _, h2⟩ := hf 2 _ rfl
      obtain ⟨_, _, h3⟩ := hf 3 _ rfl
      dsimp only at h0 h1 h2 h3
      rw [c3] at h0 h1 h2
      rw [c9] at h3
      obtain ⟨z0, rfl, b0⟩ := i64_of Try.underlying3 h0
      obtain ⟨z1, rfl, b1⟩ := i64_of Try.underlying3 h1
      obtain ⟨z2, rfl, b2⟩ := i64_of Try.underlying3 h2
      obtain ⟨s, rfl⟩ := str_of Try.underlying9 h3
      exact ⟨⟨z0, z1, z2, s⟩, rfl, b0, b1, b2⟩

end Go.Proofs.Ytadckkaepngloaa
