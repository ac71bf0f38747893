/- A part of the proof: contracts of functions of the program, each for every state of the heaps that it names. -/
import Derived.Test.YtnkfapecbmmpeaaDoorTopRlG14
import Derived.Test.YtnkfapecbmmpeaaDoorTopRlG19
import Derived.Test.YtnkfapecbmmpeaaDoorTopRlG8
import Derived.Test.YtnkfapecbmmpeaaDoorTopRlG13
set_option linter.unusedSimpArgs false
set_option linter.unusedVariables false
namespace Go.Proofs.YtnkfapecbmmpeaaDoor
open Go Go.Fw
set_option maxRecDepth 100000
set_option maxHeartbeats 1000000
theorem ent16 : Enters Tryd.prog 16 := Enters.of Tryd.func16 rfl (by kernel_rfl)
theorem ent17 : Enters Tryd.prog 17 := Enters.of Tryd.func17 rfl (by kernel_rfl)
theorem ent50 : Enters Tryd.prog 50 := Enters.of Tryd.func50 rfl (by kernel_rfl)
theorem ent51 : Enters Tryd.prog 51 := Enters.of Tryd.func51 rfl (by kernel_rfl)
theorem ent52 : Enters Tryd.prog 52 := Enters.of Tryd.func52 rfl (by kernel_rfl)
theorem ent99 : Enters Tryd.prog 99 := Enters.of Tryd.func99 rfl (by kernel_rfl)
theorem ent100 : Enters Tryd.prog 100 := Enters.of Tryd.func100 rfl (by kernel_rfl)
theorem el35 : Elem Tryd.prog 35 [Str [], Str [], Str [], .int .i64 0] 56 := Elem.of (by kernel_rfl) rfl
theorem eqPub3 (d : Nat) (o r : List UInt8) (h : Int) (o' r' : List UInt8) (h' : Int) (w : World) : (Op.equalIn (d + 2) 32 (.agg #[Str o, Str r, I h]) (.agg #[Str o', Str r', I h'])).run Tryd.prog w = .ok (decide (o = o' ∧ r = r' ∧ h = h')) w := eqPub d o r o' r' h h' w
structure Aud where
  nm : List UInt8
  op : List UInt8
  rt : List UInt8
  ht : Int
  deriving DecidableEq
def Aud.cells (x : Aud) : List Value := [Str (x.nm), Str (x.op), Str (x.rt), I (x.ht)]
def noAud : Aud := ⟨[], [], [], 0⟩
def audsV (l : List Aud) : List (List Value) := l.map Aud.cells
theorem audsV_get {l : List Aud} {k : Nat} (h : k < l.length) : (audsV l)[k]? = some (l.getD k noAud).cells := by
  unfold audsV
  rw [List.getElem?_map, getSome noAud h]; rfl
theorem audsV_len (l : List Aud) : (audsV l).length = l.length := by simp [audsV]
theorem audsV_app (a b : List Aud) : audsV (a ++ b) = audsV a ++ audsV b := by simp [audsV]
theorem audsV_snoc (a : List Aud) (x : Aud) : audsV (a ++ [x]) = audsV a ++ [x.cells] := by simp [audsV]
theorem one_auds (a : List Aud) : (audsV a).all (fun x => x.all Value.oneCell') = true := one_map Aud.cells (fun _ => rfl) a
theorem audsV_take (l : List Aud) (k : Nat) : (audsV l).take k = audsV (l.take k) := by simp [audsV]
theorem audsV_drop (l : List Aud) (k : Nat) : (audsV l).drop k = audsV (l.drop k) := by simp [audsV]
theorem audsV_set (l : List Aud) (k : Nat) (x : Aud) : (audsV l).set k x.cells = audsV (l.set k x) := by simp [audsV, List.map_set]
structure Lau where
  nm : List UInt8
  key : UInt8
  ht : Int
  deriving DecidableEq
def Lau.cells (x : Lau) : List Value := [Str (x.nm), B8 (x.key), I (x.ht)]
def noLau : Lau := ⟨[], 0, 0⟩
def lausV (l : List Lau) : List (List Value) := l.map Lau.cells
theorem lausV_get {l : List Lau} {k : Nat} (h : k < l.length) : (lausV l)[k]? = some (l.getD k noLau).cells := by
  unfold lausV
  rw [List.getElem?_map, getSome noLau h]; rfl
theorem lausV_len (l : List Lau) : (lausV l).length = l.length := by simp [lausV]
theorem lausV_app (a b : List Lau) : lausV (a ++ b) = lausV a ++ lausV b := by simp [lausV]
theorem lausV_snoc (a : List Lau) (x : Lau) : lausV (a ++ [x]) = lausV a ++ [x.cells] := by simp [lausV]
theorem one_laus (a : List Lau) : (lausV a).all (fun x => x.all Value.oneCell') = true := one_map Lau.cells (fun _ => rfl) a
theorem lausV_take (l : List Lau) (k : Nat) : (lausV l).take k = lausV (l.take k) := by simp [lausV]
theorem lausV_drop (l : List Lau) (k : Nat) : (lausV l).drop k = lausV (l.drop k) := by simp [lausV]
theorem lausV_set (l : List Lau) (k : Nat) (x : Lau) : (lausV l).set k x.cells = lausV (l.set k x) := by simp [lausV, List.map_set]

def Rost (m : Hp) (g : Nat) (l : List Aud) : Prop := ∃ A n c mr, m = U [blk g [.slice A n c] 92, mr] ∧ Dj (blk g [.slice A n c] 92) mr ∧ Row mr 35 4 A n c (audsV l)
def codeN (s : List UInt8) : Nat := if (normal s).2 ≠ 0 then (normal s).2 else if (normal s).1 ≠ s then 4 else 0
def mayE (nm o r : List UInt8) (h : Int) : Int := if codeN nm ≠ 0 then ((codeN nm : Nat) : Int) else pubErr o r h
def same (nm o r : List UInt8) (h : Int) (x : Aud) : Bool := decide (x.nm = nm) || decide (x.op = o ∧ x.rt = r ∧ x.ht = h)
def addE (l : List Aud) (nm o r : List UInt8) (h : Int) : Int := if mayE nm o r h ≠ 0 then mayE nm o r h else if l.any (same nm o r h) = true then 19 else if 64 ≤ l.length then 9 else 0
def addL (l : List Aud) (nm o r : List UInt8) (h : Int) : List Aud := if addE l nm o r h = 0 then l ++ [⟨nm, o, r, h⟩] else l
def addNo (l : List Aud) (nm o r : List UInt8) (h : Int) : Int := if addE l nm o r h = 0 then ((l.length : Nat) : Int) else 0
def atA (l : List Aud) (i : Int) : Aud := if 0 ≤ i ∧ i < l.length then l.getD i.toNat noAud else noAud
def ixA (p : Aud → Bool) (l : List Aud) : Int := if l.any p = true then ((l.findIdx p : Nat) : Int) else -1
theorem ixA_at {p : Aud → Bool} {l : List Aud} {k : Nat} (h : k < l.length) (hp : p (l.getD k noAud) = true) (hn : ∀ j < k, p (l.getD j noAud) = false) : ixA p l = ((k : Nat) : Int) := by
  have hk : l.getD k noAud = l[k] := by rw [List.getD_eq_getElem?_getD, List.getElem?_eq_getElem h]; rfl
  unfold ixA
  rw [if_pos (List.any_eq_true.2 ⟨l[k], List.getElem_mem h, hk ▸ hp⟩)]
  congr 1
  rw [List.findIdx_eq h]
  refine ⟨hk ▸ hp, fun j hj => ?_⟩
  have := hn j hj
  rw [List.getD_eq_getElem?_getD, List.getElem?_eq_getElem (by omega)] at this
  exact this
theorem ixA_no {p : Aud → Bool} {l : List Aud} (hn : ∀ j < l.length, p (l.getD j noAud) = false) : ixA p l = -1 := by
  unfold ixA
  rw [if_neg]
  intro h
  obtain ⟨x, hx, hp⟩ := List.any_eq_true.1 h
  obtain ⟨j, hj, rfl⟩ := List.getElem_of_mem hx
  have := hn j hj
  rw [List.getD_eq_getElem?_getD, List.getElem?_eq_getElem hj] at this
  rw [show (some l[j]).getD noAud = l[j] from rfl, hp] at this
  cases this
theorem ixA_ge (p : Aud → Bool) (l : List Aud) : decide (ixA p l ≥ 0) = l.any p := by
  unfold ixA
  by_cases h : l.any p = true
  · rw [if_pos h, h, decide_eq_true (by omega)]
  · rw [if_neg h, Bool.eq_false_iff.2 h]; rfl

theorem add1_ct (F : Hp) (a b c : List UInt8) (d : Int) (nm op rt : List UInt8) (ht : Int) (p : Nat) (hp : Cells F ⟨p, 0, none⟩ [Str nm, Str op, Str rt, I ht]) : Ct Tryd.prog 52 [.agg #[Str (a), Str (b), Str (c), I (d)], Ptr p] [F] (fun _ : Unit => .bool (same nm op rt ht ⟨a, b, c, d⟩)) (fun _ => True) (fun _ => [F]) := by
  refine Ct.walk Tryd.func52 rfl Tryd.ntmps52 rfl (fun w0 hw0 => ?_)
  change J _ [(0, _), (1, _)] _ _ _
  refine J.seq (fun K1 hK1 => ?_)
  refine J.region ?_
  refine J.e (op_box (l := [Str (a), Str (b), Str (c), I (d)]) rfl rfl rfl) rfl rfl rfl ?_
  intro g2 _
  change J _ _ _ [F, blk g2 [Str (a), Str (b), Str (c), I (d)] 35] _
  refine J.y (op_assign rfl rfl) rfl rfl rfl ?_
  refine J.nil ?_
  refine J.then_n (J.k hK1 ?_)
  refine J.keepE [(1, _), (2, _)] ⟨rfl, rfl, trivial⟩ ?_
  refine J.seq (fun K2 hK2 => ?_)
  refine J.region ?_
  refine J.y (op_fieldAddr (j := 0) rfl rfl Tryd.underlying35 rfl Tryd.sizeOf9 rfl) rfl rfl rfl ?_
  refine J.y (op_loadB 1 (v := Str (a)) rfl rfl rfl Tryd.isAgg9 rfl) rfl rfl rfl ?_
  refine J.y (op_fieldAddr (j := 0) rfl rfl Tryd.underlying35 rfl Tryd.sizeOf9 rfl) rfl rfl rfl ?_
  refine J.y (op_load (v := Str (nm)) rfl rfl Tryd.isAgg9 (m := F) (by simp) (hp.at (i := 0) rfl)) rfl rfl rfl ?_
  refine J.y (op_seq rfl rfl rfl) rfl rfl rfl ?_
  refine J.y (op_move rfl rfl) rfl rfl rfl ?_
  refine J.split (d := 9) rfl (fun h9 => ?_) (fun h9 => ?_)
  ·
    refine J.no (Wan.is rfl rfl rfl rfl rfl) rfl rfl ?_
    refine J.no (Wan.is rfl rfl rfl rfl rfl) rfl rfl ?_
    refine J.no (Wan.is rfl rfl rfl rfl rfl) rfl rfl ?_
    refine J.no (Wan.is rfl rfl rfl rfl rfl) rfl rfl ?_
    refine J.no (Wan.is rfl rfl rfl rfl rfl) rfl rfl ?_
    refine J.y (op_pickT rfl rfl rfl) rfl rfl rfl ?_
    refine J.y (op_assign rfl rfl) rfl rfl rfl ?_
    refine J.nil ?_
    refine J.then_n (J.k hK2 ?_)
    refine J.keepE [(3, _)] ⟨rfl, trivial⟩ ?_
    refine J.ret ?_
    exact J.done hw0 (fun _ _ h => h) (res1 rfl rfl) (retOk () (by unfold same; dsimp only; first | rw [decide_eq_true h9, Bool.true_or] | rw [decide_eq_false h9, Bool.false_or]) trivial [0] rfl (by decide))
  ·
    refine J.yg (Wan.is rfl rfl rfl rfl rfl) (op_fieldAddr (j := 1) rfl rfl Tryd.underlying35 rfl Tryd.sizeOf32 rfl) rfl rfl ?_
    refine J.yg (Wan.is rfl rfl rfl rfl rfl) (op_loadA (vs := [Str (b), Str (c), I (d)]) rfl rfl Tryd.isAgg32 Tryd.sizeOf32 (m := blk g2 [Str (a), Str (b), Str (c), I (d)] 35) (by simp) (Cells.blk0.sub 1 3) rfl) rfl rfl ?_
    refine J.yg (Wan.is rfl rfl rfl rfl rfl) (op_fieldAddr (j := 1) rfl rfl Tryd.underlying35 rfl Tryd.sizeOf32 rfl) rfl rfl ?_
    refine J.yg (Wan.is rfl rfl rfl rfl rfl) (op_loadA (vs := [Str (op), Str (rt), I (ht)]) rfl rfl Tryd.isAgg32 Tryd.sizeOf32 (m := F) (by simp) (hp.sub 1 3) rfl) rfl rfl ?_
    refine J.yg (Wan.is rfl rfl rfl rfl rfl) (op_eqS rfl rfl rfl (by kernel_rfl) (fun w => eqPub3 9998 b c d op rt ht w)) rfl rfl ?_
    refine J.y (op_pickF rfl rfl rfl) rfl rfl rfl ?_
    refine J.y (op_assign rfl rfl) rfl rfl rfl ?_
    refine J.nil ?_
    refine J.then_n (J.k hK2 ?_)
    refine J.keepE [(3, _)] ⟨rfl, trivial⟩ ?_
    refine J.ret ?_
    exact J.done hw0 (fun _ _ h => h) (res1 rfl rfl) (retOk () (by unfold same; dsimp only; first | rw [decide_eq_true h9, Bool.true_or] | rw [decide_eq_false h9, Bool.false_or]) trivial [0] rfl (by decide))

theorem aindex_ct (F : Hp) (A : Option Addr) (n c : Nat) (l : List Aud) (hs : Sl F 4 A n c (audsV l)) (hnb : n ≤ 1073741824) (nm op rt : List UInt8) (ht : Int) (p : Nat) (hp : Cells F ⟨p, 0, none⟩ [Str nm, Str op, Str rt, I ht]) : Ct Tryd.prog 100 [.slice A n c, .func (.func 52) #[] #[Ptr p]] [F] (fun _ : Unit => I (ixA (same nm op rt ht) l)) (fun _ => True) (fun _ => [F]) := by
  have hn : l.length = n := by have := hs.1; simpa [audsV] using this
  refine Ct.walk Tryd.func100 rfl Tryd.ntmps100 rfl (fun w0 hw0 => ?_)
  change J _ [(0, _), (1, _)] _ _ _
  refine J.seq (fun K1 hK1 => ?_)
  refine J.region ?_
  refine J.y (op_assign rfl rfl) rfl rfl rfl ?_
  refine J.nil ?_
  refine J.then_n (J.k hK1 ?_)
  refine J.keepE [(0, _), (1, _)] ⟨rfl, rfl, trivial⟩ ?_
  refine J.seq (fun K2 hK2 => ?_)
  refine J.seq (fun K3 hK3 => ?_)
  refine J.region ?_
  refine J.y (op_move rfl rfl) rfl rfl rfl ?_
  refine J.y (op_len Tryd.underlying90 rfl rfl) rfl rfl rfl ?_
  refine J.y (op_move rfl rfl) rfl rfl rfl ?_
  refine J.nil ?_
  refine J.then_n (J.k hK3 ?_)
  refine J.keepE [(0, _), (1, _), (7, _), (8, _)] ⟨rfl, rfl, rfl, rfl, trivial⟩ ?_
  refine J.block ?_
  refine J.loop (X := Nat) (fun ζ => [(0, .slice A n c), (1, .func (.func 52) #[] #[Ptr p]), (7, I ((n : Nat) : Int)), (8, I ((ζ : Nat) : Int))]) (fun ζ => [F]) (fun ζ => ζ ≤ n ∧ ∀ j < ζ, same nm op rt ht (l.getD j noAud) = false) (fun ζ => n - ζ) 0 (⟨Nat.zero_le _, fun j h => absurd h (Nat.not_lt_zero j)⟩) ⟨rfl, rfl, rfl, rfl, trivial⟩ (fun _ h => h) ?_
  rintro k ⟨hk, hno⟩ I0 hI0
  refine J.seq (fun K4 hK4 => ?_)
  refine J.region ?_
  refine J.y (op_lss rfl rfl rfl) rfl rfl rfl ?_
  refine J.nil ?_
  refine J.then_n (J.k hK4 ?_)
  refine J.keepE [(0, _), (1, _), (7, _), (8, _), (9, _)] ⟨rfl, rfl, rfl, rfl, rfl, trivial⟩ ?_
  refine J.seq (fun K5 hK5 => ?_)
  refine J.ite rfl (fun h9 => ?_) (fun h9 => ?_)
  ·
    refine J.skip ?_
    refine J.then_n (J.k hK5 ?_)
    refine J.keepE [(0, _), (1, _), (7, _), (8, _)] ⟨rfl, rfl, rfl, rfl, trivial⟩ ?_
    refine J.seq (fun K6 hK6 => ?_)
    refine J.block ?_
    refine J.seq (fun K7 hK7 => ?_)
    refine J.region ?_
    refine J.y (op_move rfl rfl) rfl rfl rfl ?_
    refine J.y (op_assign rfl rfl) rfl rfl rfl ?_
    refine J.nil ?_
    refine J.then_n (J.k hK7 ?_)
    refine J.keepE [(0, _), (1, _), (5, _), (7, _), (8, _)] ⟨rfl, rfl, rfl, rfl, rfl, trivial⟩ ?_
    refine J.seq (fun K8 hK8 => ?_)
    refine J.region ?_
    refine J.y (op_move rfl rfl) rfl rfl rfl ?_
    refine J.y (op_move rfl rfl) rfl rfl rfl ?_
    refine J.y (op_move rfl rfl) rfl rfl rfl ?_
    refine J.y (op_indexAddr (i := k) rfl rfl rfl Tryd.underlying90 Tryd.sizeOf35 hs (by first | omega | (simp only [List.length_append, List.length_cons, List.length_nil, List.length_take, List.length_drop] at *; omega))) rfl rfl rfl ?_
    refine J.y (op_loadA (vs := [Str ((l.getD k noAud).nm), Str ((l.getD k noAud).op), Str ((l.getD k noAud).rt), I ((l.getD k noAud).ht)]) rfl rfl Tryd.isAgg35 Tryd.sizeOf35 (m := F) (by simp) (hs.elem (audsV_get (by first | omega | (simp only [List.length_append, List.length_cons, List.length_nil, List.length_take, List.length_drop] at *; omega)))) rfl) rfl rfl rfl ?_
    refine J.e (op_callV rfl rfl rfl ent52 (Ct.use0 (fun F' hF => add1_ct F' ((l.getD k noAud).nm) ((l.getD k noAud).op) ((l.getD k noAud).rt) ((l.getD k noAud).ht) nm op rt ht p (hp.mono (hF F (by simp)))))) rfl rfl rfl ?_
    intro g16 _
    refine J.nil ?_
    refine J.then_n (J.k hK8 ?_)
    refine J.keepE [(0, _), (1, _), (5, _), (7, _), (8, _), (16, _)] ⟨rfl, rfl, rfl, rfl, rfl, rfl, trivial⟩ ?_
    refine J.cond rfl (fun h16 => ?_) (fun h16 => ?_)
    ·
      refine J.seq (fun K9 hK9 => ?_)
      refine J.region ?_
      refine J.y (op_move rfl rfl) rfl rfl rfl ?_
      refine J.y (op_assign rfl rfl) rfl rfl rfl ?_
      refine J.nil ?_
      refine J.then_n (J.k hK9 ?_)
      refine J.keepE [(4, _)] ⟨rfl, trivial⟩ ?_
      refine J.ret ?_
      refine J.blk_r ?_
      refine J.then_r ?_
      refine J.then_r ?_
      refine J.blk_r ?_
      refine J.then_r ?_
      exact J.done hw0 (fun _ _ h => h) (res1 rfl rfl) (retOk () (by rw [ixA_at (k := k) (by omega) (by simpa using h16) hno]) trivial [0] rfl (by decide))
    ·
      refine J.skip ?_
      refine J.blk_n ?_
      refine J.then_n (J.k hK6 ?_)
      refine J.keepE [(0, _), (1, _), (7, _), (8, _)] ⟨rfl, rfl, rfl, rfl, trivial⟩ ?_
      refine J.region ?_
      refine J.y ((op_add rfl rfl rfl (by first | omega | (simp only [List.length_append, List.length_cons, List.length_nil, List.length_take, List.length_drop] at *; omega))).as (v' := I ((k + 1 : Nat) : Int)) (congrArg I (by omega))) rfl rfl rfl ?_
      refine J.y (op_move rfl rfl) rfl rfl rfl ?_
      refine J.nil ?_
      refine J.then_n ?_
      exact J.kk (k + 1) (fun η (hη : _ ∧ n - η < n - k) => hI0 η hη.1 hη.2) ⟨⟨by omega, fun j hj => by rcases Nat.lt_succ_iff_lt_or_eq.1 hj with h | rfl; exact hno j h; simpa using h16⟩, by first | omega | (dsimp only; omega)⟩ ⟨rfl, rfl, rfl, rfl, trivial⟩ (fun _ h => h)
  ·
    refine J.exit ?_
    refine J.then_x ?_
    refine J.then_x ?_
    refine J.blk_eq ?_
    refine J.then_n (J.k hK2 ?_)
    refine J.keepE [] trivial ?_
    refine J.seq (fun K10 hK10 => ?_)
    refine J.region ?_
    refine J.y (op_assign rfl rfl) rfl rfl rfl ?_
    refine J.nil ?_
    refine J.then_n (J.k hK10 ?_)
    refine J.keepE [(4, _)] ⟨rfl, trivial⟩ ?_
    refine J.ret ?_
    exact J.done hw0 (fun _ _ h => h) (res1 rfl rfl) (retOk () (by rw [ixA_no (fun j hj => hno j (by omega))]) trivial [0] rfl (by decide))

theorem acontains_ct (F : Hp) (A : Option Addr) (n c : Nat) (l : List Aud) (hs : Sl F 4 A n c (audsV l)) (hnb : n ≤ 1073741824) (nm op rt : List UInt8) (ht : Int) (p : Nat) (hp : Cells F ⟨p, 0, none⟩ [Str nm, Str op, Str rt, I ht]) : Ct Tryd.prog 51 [.slice A n c, .func (.func 52) #[] #[Ptr p]] [F] (fun _ : Unit => .bool (l.any (same nm op rt ht))) (fun _ => True) (fun _ => [F]) := by
  refine Ct.walk Tryd.func51 rfl Tryd.ntmps51 rfl (fun w0 hw0 => ?_)
  change J _ [(0, _), (1, _)] _ _ _
  refine J.seq (fun K1 hK1 => ?_)
  refine J.region ?_
  refine J.y (op_assign rfl rfl) rfl rfl rfl ?_
  refine J.nil ?_
  refine J.then_n (J.k hK1 ?_)
  refine J.keepE [(0, _), (1, _)] ⟨rfl, rfl, trivial⟩ ?_
  refine J.seq (fun K2 hK2 => ?_)
  refine J.region ?_
  refine J.y (op_move rfl rfl) rfl rfl rfl ?_
  refine J.y (op_move rfl rfl) rfl rfl rfl ?_
  refine J.e (op_call rfl rfl ent100 (Ct.use0 (fun F' hF => aindex_ct F' A n c l (hs.mono (hF F (by simp))) (by omega) nm op rt ht p (hp.mono (hF F (by simp)))))) rfl rfl rfl ?_
  intro g7 _
  refine J.y (op_geq rfl rfl rfl) rfl rfl rfl ?_
  refine J.y (op_assign rfl rfl) rfl rfl rfl ?_
  refine J.nil ?_
  refine J.then_n (J.k hK2 ?_)
  refine J.keepE [(4, _)] ⟨rfl, trivial⟩ ?_
  refine J.ret ?_
  exact J.done hw0 (fun _ _ h => h) (res1 rfl rfl) (retOk () (by rw [ixA_ge]) trivial [0] rfl (by decide))

theorem amay_ct (F : Hp) (hA : Cells F ⟨0, 0, none⟩ alphaV) (hT : TabsF F) (nm op rt : List UInt8) (ht : Int) (h1 : nm.length ≤ 1000000) (h2 : op.length ≤ 1048576) (h3 : rt.length ≤ 1048576) : Ct Tryd.prog 50 [.agg #[Str (nm), Str (op), Str (rt), I (ht)]] [F] (fun _ : Unit => I (mayE nm op rt ht)) (fun _ => True) (fun _ => [F]) := by
  refine Ct.walk Tryd.func50 rfl Tryd.ntmps50 rfl (fun w0 hw0 => ?_)
  change J _ [(0, _)] _ _ _
  refine J.seq (fun K1 hK1 => ?_)
  refine J.region ?_
  refine J.e (op_box (l := [Str (nm), Str (op), Str (rt), I (ht)]) rfl rfl rfl) rfl rfl rfl ?_
  intro g1 _
  change J _ _ _ [F, blk g1 [Str (nm), Str (op), Str (rt), I (ht)] 35] _
  refine J.y (op_assign rfl rfl) rfl rfl rfl ?_
  refine J.nil ?_
  refine J.then_n (J.k hK1 ?_)
  refine J.keepE [(1, _)] ⟨rfl, trivial⟩ ?_
  refine J.seq (fun K2 hK2 => ?_)
  refine J.region ?_
  refine J.y (op_fieldAddr (j := 0) rfl rfl Tryd.underlying35 rfl Tryd.sizeOf9 rfl) rfl rfl rfl ?_
  refine J.y (op_loadB 1 (v := Str (nm)) rfl rfl rfl Tryd.isAgg9 rfl) rfl rfl rfl ?_
  refine J.e (op_call rfl rfl ent99 (Ct.use0 (fun F' hF => normal_ct F' (hA.mono (hF F (by simp))) (hT.mono (hF F (by simp))) nm (by first | omega | decide)))) rfl rfl rfl ?_
  intro g8 _
  refine J.y (op_move rfl rfl) rfl rfl rfl ?_
  refine J.y (op_extract (v := Str ((normal nm).1)) rfl rfl rfl) rfl rfl rfl ?_
  refine J.y (op_extract (v := I (((normal nm).2 : Nat) : Int)) rfl rfl rfl) rfl rfl rfl ?_
  refine J.y (op_assign rfl rfl) rfl rfl rfl ?_
  refine J.y (op_assign rfl rfl) rfl rfl rfl ?_
  refine J.nil ?_
  refine J.then_n (J.k hK2 ?_)
  refine J.keepE [(1, _), (3, _), (4, _)] ⟨rfl, rfl, rfl, trivial⟩ ?_
  refine J.seq (fun K3 hK3 => ?_)
  refine J.block ?_
  refine J.seq (fun K4 hK4 => ?_)
  refine J.region ?_
  refine J.y (op_move rfl rfl) rfl rfl rfl ?_
  refine J.y (op_neq rfl rfl rfl) rfl rfl rfl ?_
  refine J.y (op_assign rfl rfl) rfl rfl rfl ?_
  refine J.nil ?_
  refine J.then_n (J.k hK4 ?_)
  refine J.keepE [(1, _), (3, _), (4, _), (11, _)] ⟨rfl, rfl, rfl, rfl, trivial⟩ ?_
  refine J.ite rfl (fun h11 => ?_) (fun h11 => ?_)
  ·
    refine J.seq (fun K5 hK5 => ?_)
    refine J.region ?_
    refine J.y (op_move rfl rfl) rfl rfl rfl ?_
    refine J.y (op_assign rfl rfl) rfl rfl rfl ?_
    refine J.nil ?_
    refine J.then_n (J.k hK5 ?_)
    refine J.keepE [(2, _)] ⟨rfl, trivial⟩ ?_
    refine J.ret ?_
    refine J.blk_r ?_
    refine J.then_r ?_
    exact J.done hw0 (fun _ _ h => h) (res1 rfl rfl) (retOk () (by unfold mayE codeN; rw [if_pos (show (normal nm).2 ≠ 0 by omega), if_pos (by omega)]) trivial [0] rfl (by decide))
  ·
    refine J.seq (fun K6 hK6 => ?_)
    refine J.region ?_
    refine J.y (op_move rfl rfl) rfl rfl rfl ?_
    refine J.y (op_fieldAddr (j := 0) rfl rfl Tryd.underlying35 rfl Tryd.sizeOf9 rfl) rfl rfl rfl ?_
    refine J.y (op_loadB 1 (v := Str (nm)) rfl rfl rfl Tryd.isAgg9 rfl) rfl rfl rfl ?_
    refine J.y (op_sne rfl rfl rfl) rfl rfl rfl ?_
    refine J.y (op_assign rfl rfl) rfl rfl rfl ?_
    refine J.nil ?_
    refine J.then_n (J.k hK6 ?_)
    refine J.keepE [(1, _), (15, _)] ⟨rfl, rfl, trivial⟩ ?_
    refine J.ite rfl (fun h15 => ?_) (fun h15 => ?_)
    ·
      refine J.seq (fun K7 hK7 => ?_)
      refine J.region ?_
      refine J.y (op_assign rfl rfl) rfl rfl rfl ?_
      refine J.nil ?_
      refine J.then_n (J.k hK7 ?_)
      refine J.keepE [(2, _)] ⟨rfl, trivial⟩ ?_
      refine J.ret ?_
      refine J.blk_r ?_
      refine J.then_r ?_
      exact J.done hw0 (fun _ _ h => h) (res1 rfl rfl) (retOk () (by unfold mayE codeN; rw [if_neg (show ¬ (normal nm).2 ≠ 0 by omega), if_pos h15]; rfl) trivial [0] rfl (by decide))
    ·
      refine J.skip ?_
      refine J.blk_n ?_
      refine J.then_n (J.k hK3 ?_)
      refine J.keepE [(1, _)] ⟨rfl, trivial⟩ ?_
      refine J.seq (fun K8 hK8 => ?_)
      refine J.region ?_
      refine J.y (op_fieldAddr (j := 1) rfl rfl Tryd.underlying35 rfl Tryd.sizeOf32 rfl) rfl rfl rfl ?_
      refine J.y (op_loadA (vs := [Str (op), Str (rt), I (ht)]) rfl rfl Tryd.isAgg32 Tryd.sizeOf32 (m := blk g1 [Str (nm), Str (op), Str (rt), I (ht)] 35) (by simp) (Cells.blk0.sub 1 3) rfl) rfl rfl rfl ?_
      refine J.e (op_call rfl rfl ent17 (Ct.use0 (fun F' hF => pencode_ct F' op rt ht (by omega) (by omega)))) rfl rfl rfl ?_
      intro g23 _
      refine J.y (op_move rfl rfl) rfl rfl rfl ?_
      refine J.y (op_extract (v := Str (pubEnc op rt ht)) rfl rfl rfl) rfl rfl rfl ?_
      refine J.y (op_extract (v := I (pubErr op rt ht)) rfl rfl rfl) rfl rfl rfl ?_
      refine J.y (op_assign rfl rfl) rfl rfl rfl ?_
      refine J.nil ?_
      refine J.then_n (J.k hK8 ?_)
      refine J.keepE [(4, _)] ⟨rfl, trivial⟩ ?_
      refine J.seq (fun K9 hK9 => ?_)
      refine J.region ?_
      refine J.y (op_move rfl rfl) rfl rfl rfl ?_
      refine J.y (op_assign rfl rfl) rfl rfl rfl ?_
      refine J.nil ?_
      refine J.then_n (J.k hK9 ?_)
      refine J.keepE [(2, _)] ⟨rfl, trivial⟩ ?_
      refine J.ret ?_
      exact J.done hw0 (fun _ _ h => h) (res1 rfl rfl) (retOk () (by unfold mayE codeN; rw [if_neg (show ¬ (normal nm).2 ≠ 0 by omega), if_neg h15]; rfl) trivial [0] rfl (by decide))

theorem rnew_ct (F : Hp)  : Ct Tryd.prog 9 [] [F] (fun x : Nat × Hp => Ptr x.1) (fun x => Rost x.2 x.1 ([])) (fun x => [x.2, F]) := by
  refine Ct.walk Tryd.func9 rfl Tryd.ntmps9 rfl (fun w0 hw0 => ?_)
  change J _ [] _ _ _
  refine J.seq (fun K1 hK1 => ?_)
  refine J.region ?_
  refine J.y (op_assign rfl rfl) rfl rfl rfl ?_
  refine J.nil ?_
  refine J.then_n (J.k hK1 ?_)
  refine J.keepE [] trivial ?_
  refine J.seq (fun K2 hK2 => ?_)
  refine J.region ?_
  refine J.y (op_buildStruct (l := []) (vs := []) (places := [(0, 1)]) (r := [.slice none 0 0]) rfl rfl rfl Tryd.underlying92 Tryd.zeroValue92 (fun _ => by kernel_rfl) rfl) rfl rfl rfl ?_
  refine J.e (op_box (l := [.slice none 0 0]) rfl rfl rfl) rfl rfl rfl ?_
  intro g2 _
  change J _ _ _ [F, blk g2 [.slice none 0 0] 92] _
  refine J.y (op_assign rfl rfl) rfl rfl rfl ?_
  refine J.nil ?_
  refine J.then_n (J.k hK2 ?_)
  refine J.keepE [(0, _)] ⟨rfl, trivial⟩ ?_
  refine J.ret ?_
  refine J.addEmpty [1, 2, 0] [blk g2 [.slice none 0 0] 92, (fun _ => none), F] rfl (by decide) ?_
  exact J.done hw0 (fun _ _ h => h) (res1 rfl rfl) (retOkU (g2, U [blk g2 [.slice none 0 0] 92, (fun _ => none)]) (rfl) (fun hd => ⟨none, 0, 0, (fun _ => none), rfl, hd, RowQ.nil⟩) [0, 1, 2] rfl rfl (by decide))

theorem radd_ct (F m : Hp) (g : Nat) (l : List Aud) (hb : Rost m g l) (hA : Cells F ⟨0, 0, none⟩ alphaV) (hT : TabsF F) (nm op rt : List UInt8) (ht : Int) (h1 : nm.length ≤ 1000000) (h2 : op.length ≤ 1048576) (h3 : rt.length ≤ 1048576) (hl : l.length ≤ 1000000) : Ct Tryd.prog 11 [Ptr g, .agg #[Str (nm), Str (op), Str (rt), I (ht)]] [m, F] (fun _ : Hp => .tuple #[I (addNo l nm op rt ht), I (addE l nm op rt ht)]) (fun m' => Rost m' g (addL l nm op rt ht)) (fun m' => [m', F]) := by
  obtain ⟨A, n, c, mr, rfl, hd, hr⟩ := hb
  have hn : l.length = n := by have := hr.len; simpa [audsV] using this
  have hnc := hr.2.2.1
  refine Ct.walk Tryd.func11 rfl Tryd.ntmps11 rfl (fun w0 hw0 => ?_)
  change J _ [(0, _), (1, _)] _ _ _
  refine J.splitU hd ?_
  refine J.seq (fun K1 hK1 => ?_)
  refine J.region ?_
  refine J.e (op_box (l := [Str (nm), Str (op), Str (rt), I (ht)]) rfl rfl rfl) rfl rfl rfl ?_
  intro g3 _
  change J _ _ _ [blk g [.slice A n c] 92, mr, F, blk g3 [Str (nm), Str (op), Str (rt), I (ht)] 35] _
  refine J.y (op_assign rfl rfl) rfl rfl rfl ?_
  refine J.y (op_assign rfl rfl) rfl rfl rfl ?_
  refine J.nil ?_
  refine J.then_n (J.k hK1 ?_)
  refine J.keepE [(0, _), (3, _)] ⟨rfl, rfl, trivial⟩ ?_
  refine J.seq (fun K2 hK2 => ?_)
  refine J.seq (fun K3 hK3 => ?_)
  refine J.region ?_
  refine J.y (op_move rfl rfl) rfl rfl rfl ?_
  refine J.y (op_peq Tryd.underlying23 rfl rfl rfl) rfl rfl rfl ?_
  refine J.nil ?_
  refine J.then_n (J.k hK3 ?_)
  refine J.keepE [(0, _), (3, _), (8, _)] ⟨rfl, rfl, rfl, trivial⟩ ?_
  refine J.condF rfl rfl ?_
  refine J.skip ?_
  refine J.then_n (J.k hK2 ?_)
  refine J.keepE [(0, _), (3, _)] ⟨rfl, rfl, trivial⟩ ?_
  refine J.seq (fun K4 hK4 => ?_)
  refine J.seq (fun K5 hK5 => ?_)
  refine J.region ?_
  refine J.y (op_loadBA 3 rfl rfl rfl Tryd.isAgg35 Tryd.sizeOf35 rfl) rfl rfl rfl ?_
  refine J.e (op_call rfl rfl ent50 (Ct.use0 (fun F' hF => amay_ct F' (hA.mono (hF F (by simp))) (hT.mono (hF F (by simp))) nm op rt ht (by omega) (by omega) (by omega)))) rfl rfl rfl ?_
  intro g10 _
  refine J.y (op_assign rfl rfl) rfl rfl rfl ?_
  refine J.nil ?_
  refine J.then_n (J.k hK5 ?_)
  refine J.keepE [(0, _), (3, _), (6, _)] ⟨rfl, rfl, rfl, trivial⟩ ?_
  refine J.seq (fun K6 hK6 => ?_)
  refine J.region ?_
  refine J.y (op_move rfl rfl) rfl rfl rfl ?_
  refine J.y (op_neq rfl rfl rfl) rfl rfl rfl ?_
  refine J.nil ?_
  refine J.then_n (J.k hK6 ?_)
  refine J.keepE [(0, _), (3, _), (6, _), (12, _)] ⟨rfl, rfl, rfl, rfl, trivial⟩ ?_
  refine J.ite rfl (fun h12 => ?_) (fun h12 => ?_)
  ·
    refine J.seq (fun K7 hK7 => ?_)
    refine J.region ?_
    refine J.y (op_move rfl rfl) rfl rfl rfl ?_
    refine J.y (op_assign rfl rfl) rfl rfl rfl ?_
    refine J.y (op_assign rfl rfl) rfl rfl rfl ?_
    refine J.nil ?_
    refine J.then_n (J.k hK7 ?_)
    refine J.keepE [(4, _), (5, _)] ⟨rfl, rfl, trivial⟩ ?_
    refine J.ret ?_
    refine J.then_r ?_
    have hE : addE l nm op rt ht = mayE nm op rt ht := by unfold addE; rw [if_pos h12]
    have hL : addL l nm op rt ht = l := by unfold addL; rw [hE, if_neg h12]
    have hN : addNo l nm op rt ht = 0 := by unfold addNo; rw [hE, if_neg h12]
    exact J.done hw0 (fun _ _ h => h) (res2 rfl rfl rfl) (retOkU (U [blk g [.slice A n c] 92, mr]) (by rw [hE, hN]) (fun hd => by rw [hL]; exact ⟨A, n, c, mr, rfl, hd, hr⟩) [0, 1, 2] rfl rfl (by decide))
  ·
    refine J.skip ?_
    refine J.then_n (J.k hK4 ?_)
    refine J.keepE [(0, _), (3, _)] ⟨rfl, rfl, trivial⟩ ?_
    refine J.seq (fun K8 hK8 => ?_)
    refine J.block ?_
    refine J.seq (fun K9 hK9 => ?_)
    refine J.region ?_
    refine J.y (op_move rfl rfl) rfl rfl rfl ?_
    refine J.y (op_nilCheck rfl rfl) rfl rfl rfl ?_
    refine J.y (op_fieldAddr (j := 0) rfl rfl Tryd.underlying92 rfl Tryd.sizeOf90 rfl) rfl rfl rfl ?_
    refine J.y (op_loadB 0 (v := .slice A n c) rfl rfl rfl Tryd.isAgg90 rfl) rfl rfl rfl ?_
    refine J.y (op_makeFunc rfl rfl) rfl rfl rfl ?_
    refine J.e (op_call rfl rfl ent51 (Ct.use0 (fun F' hF => acontains_ct F' A n c l (hr.sl.mono (hF mr (by simp))) (by omega) nm op rt ht g3 (Cells.blk0.mono (hF (blk g3 [Str (nm), Str (op), Str (rt), I (ht)] 35) (by simp)))))) rfl rfl rfl ?_
    intro g20 _
    refine J.y (op_assign rfl rfl) rfl rfl rfl ?_
    refine J.nil ?_
    refine J.then_n (J.k hK9 ?_)
    refine J.keepE [(0, _), (3, _), (14, _)] ⟨rfl, rfl, rfl, trivial⟩ ?_
    refine J.cond rfl (fun h14 => ?_) (fun h14 => ?_)
    ·
      refine J.seq (fun K10 hK10 => ?_)
      have hE : addE l nm op rt ht = 19 := by unfold addE; rw [if_neg h12, if_pos h14]
      have hL : addL l nm op rt ht = l := by unfold addL; rw [hE]; rfl
      have hN : addNo l nm op rt ht = 0 := by unfold addNo; rw [hE]; rfl
      refine J.region ?_
      refine J.y (op_assign rfl rfl) rfl rfl rfl ?_
      refine J.y (op_assign rfl rfl) rfl rfl rfl ?_
      refine J.nil ?_
      refine J.then_n (J.k hK10 ?_)
      refine J.keepE [(4, _), (5, _)] ⟨rfl, rfl, trivial⟩ ?_
      refine J.ret ?_
      refine J.blk_r ?_
      refine J.then_r ?_
      exact J.done hw0 (fun _ _ h => h) (res2 rfl rfl rfl) (retOkU (U [blk g [.slice A n c] 92, mr]) (by rw [hE, hN]) (fun hd => by rw [hL]; exact ⟨A, n, c, mr, rfl, hd, hr⟩) [0, 1, 2] rfl rfl (by decide))
    ·
      refine J.seq (fun K11 hK11 => ?_)
      refine J.region ?_
      refine J.y (op_move rfl rfl) rfl rfl rfl ?_
      refine J.y (op_nilCheck rfl rfl) rfl rfl rfl ?_
      refine J.y (op_fieldAddr (j := 0) rfl rfl Tryd.underlying92 rfl Tryd.sizeOf90 rfl) rfl rfl rfl ?_
      refine J.y (op_loadB 0 (v := .slice A n c) rfl rfl rfl Tryd.isAgg90 rfl) rfl rfl rfl ?_
      refine J.y (op_len Tryd.underlying90 rfl rfl) rfl rfl rfl ?_
      refine J.y (op_geq rfl rfl rfl) rfl rfl rfl ?_
      refine J.y (op_assign rfl rfl) rfl rfl rfl ?_
      refine J.nil ?_
      refine J.then_n (J.k hK11 ?_)
      refine J.keepE [(0, _), (3, _), (21, _)] ⟨rfl, rfl, rfl, trivial⟩ ?_
      refine J.ite rfl (fun h21 => ?_) (fun h21 => ?_)
      ·
        refine J.seq (fun K12 hK12 => ?_)
        have hE : addE l nm op rt ht = 9 := by unfold addE; rw [if_neg h12, if_neg (by simpa using h14), if_pos (by omega)]
        have hL : addL l nm op rt ht = l := by unfold addL; rw [hE]; rfl
        have hN : addNo l nm op rt ht = 0 := by unfold addNo; rw [hE]; rfl
        refine J.region ?_
        refine J.y (op_assign rfl rfl) rfl rfl rfl ?_
        refine J.y (op_assign rfl rfl) rfl rfl rfl ?_
        refine J.nil ?_
        refine J.then_n (J.k hK12 ?_)
        refine J.keepE [(4, _), (5, _)] ⟨rfl, rfl, trivial⟩ ?_
        refine J.ret ?_
        refine J.blk_r ?_
        refine J.then_r ?_
        exact J.done hw0 (fun _ _ h => h) (res2 rfl rfl rfl) (retOkU (U [blk g [.slice A n c] 92, mr]) (by rw [hE, hN]) (fun hd => by rw [hL]; exact ⟨A, n, c, mr, rfl, hd, hr⟩) [0, 1, 2] rfl rfl (by decide))
      ·
        refine J.skip ?_
        refine J.blk_n ?_
        refine J.then_n (J.k hK8 ?_)
        refine J.keepE [(0, _), (3, _)] ⟨rfl, rfl, trivial⟩ ?_
        refine J.seq (fun K13 hK13 => ?_)
        have hE : addE l nm op rt ht = 0 := by unfold addE; rw [if_neg h12, if_neg (by simpa using h14), if_neg (by omega)]
        have hL : addL l nm op rt ht = l ++ [⟨nm, op, rt, ht⟩] := by unfold addL; rw [hE]; rfl
        have hN : addNo l nm op rt ht = ((l.length : Nat) : Int) := by unfold addNo; rw [hE]; rfl
        refine J.draw [blk g [.slice A n c] 92, blk g3 [Str (nm), Str (op), Str (rt), I (ht)] 35] [10] (.y 0 (.y 1 (.y 2 (.y 3 (.y 4 (.y 5 (.e 6 (.e 7 (.y 8 (.y 9 (.e 10 .nil))))))))))) Tryd.wide (by decide +kernel) (by simp) ?_
        refine J.dy rfl (op_move rfl rfl) rfl rfl rfl rfl ?_
        refine J.dy rfl (op_move rfl rfl) rfl rfl rfl rfl ?_
        refine J.dy rfl (op_nilCheck rfl rfl) rfl rfl rfl rfl ?_
        refine J.dy rfl (op_fieldAddr (j := 0) rfl rfl Tryd.underlying92 rfl Tryd.sizeOf90 rfl) rfl rfl rfl rfl ?_
        refine J.dy rfl (op_loadB 0 (v := .slice A n c) rfl rfl rfl Tryd.isAgg90 rfl) rfl rfl rfl rfl ?_
        refine J.dy rfl (op_loadBA 1 rfl rfl rfl Tryd.isAgg35 Tryd.sizeOf35 rfl) rfl rfl rfl rfl ?_
        refine J.de rfl (op_buildSlice (l := [.tmp 33]) (xs := [[Str (nm), Str (op), Str (rt), I (ht)]]) rfl rfl rfl rfl Tryd.underlying90 el35 rfl (by decide) (by decide) (by simp)) rfl rfl rfl (by simp) ?_
        intro g34 _
        change J _ _ _ [blk g [.slice A n c] 92, mr, F, blk g3 [Str (nm), Str (op), Str (rt), I (ht)] 35, blk g34 [Str (nm), Str (op), Str (rt), I (ht)] 35] _
        refine J.de rfl (op_append (i := 1) (xs := audsV l) (m2 := blk g34 [Str (nm), Str (op), Str (rt), I (ht)] 35) (ys := [[Str (nm), Str (op), Str (rt), I (ht)]]) rfl rfl rfl Tryd.underlying90 Tryd.underlying90 el35 rfl hr (by simp) ((row_blk (q := True) (xs := audsV [(⟨nm, op, rt, ht⟩ : Aud)]) rfl (by intro x hx; rw [List.mem_singleton.1 hx]; rfl)).sl) rfl (by first | omega | (simp only [List.length_append, List.length_cons, List.length_nil, List.length_take, List.length_drop] at *; omega)) (by first | omega | (simp only [List.length_append, List.length_cons, List.length_nil, List.length_take, List.length_drop] at *; omega))) rfl rfl rfl (by simp) ?_
        rintro ⟨A35, c35, m35⟩ h35
        try dsimp only at h35
        change J _ ((35, .slice A35 (n + 1) c35) :: _) _ [blk g [.slice A n c] 92, m35, F, blk g3 [Str (nm), Str (op), Str (rt), I (ht)] 35, blk g34 [Str (nm), Str (op), Str (rt), I (ht)] 35] _
        replace h35 : Row m35 35 4 A35 (n + 1) c35 (audsV (l ++ ([(⟨nm, op, rt, ht⟩ : Aud)]))) := by rw [audsV_snoc]; exact h35
        refine J.dy rfl (op_nilCheck rfl rfl) rfl rfl rfl rfl ?_
        refine J.dy rfl (op_fieldAddr (j := 0) rfl rfl Tryd.underlying92 rfl Tryd.sizeOf90 rfl) rfl rfl rfl rfl ?_
        refine J.ds rfl (op_storeAll (i := 0) (l := [.slice A n c]) (vs := [.slice A35 (n + 1) c35]) rfl rfl rfl rfl rfl Tryd.sizeOf90 rfl rfl) rfl rfl rfl (fun _ _ => ?_)
        change J _ _ _ [blk g [.slice A35 (n + 1) c35] 92, m35, F, blk g3 [Str (nm), Str (op), Str (rt), I (ht)] 35, blk g34 [Str (nm), Str (op), Str (rt), I (ht)] 35] _
        refine J.dnil ?_
        refine J.then_n (J.k hK13 ?_)
        refine J.keepE [(0, _)] ⟨rfl, trivial⟩ ?_
        refine J.seq (fun K14 hK14 => ?_)
        refine J.region ?_
        refine J.y (op_move rfl rfl) rfl rfl rfl ?_
        refine J.y (op_nilCheck rfl rfl) rfl rfl rfl ?_
        refine J.y (op_fieldAddr (j := 0) rfl rfl Tryd.underlying92 rfl Tryd.sizeOf90 rfl) rfl rfl rfl ?_
        refine J.y (op_loadB 0 (v := .slice A35 (n + 1) c35) rfl rfl rfl Tryd.isAgg90 rfl) rfl rfl rfl ?_
        refine J.y (op_len Tryd.underlying90 rfl rfl) rfl rfl rfl ?_
        refine J.y (op_sub rfl rfl rfl (by first | omega | (simp only [List.length_append, List.length_cons, List.length_nil, List.length_take, List.length_drop] at *; omega))) rfl rfl rfl ?_
        refine J.y (op_assign rfl rfl) rfl rfl rfl ?_
        refine J.y (op_assign rfl rfl) rfl rfl rfl ?_
        refine J.nil ?_
        refine J.then_n (J.k hK14 ?_)
        refine J.keepE [(4, _), (5, _)] ⟨rfl, rfl, trivial⟩ ?_
        refine J.ret ?_
        exact J.done hw0 (fun _ _ h => h) (res2 rfl rfl rfl) (retOkU (U [blk g [.slice A35 (n + 1) c35] 92, m35]) (by rw [hE, hN, hn, show ((n + 1 : Nat) : Int) - 1 = ((n : Nat) : Int) by omega]) (fun hd => by rw [hL]; exact ⟨A35, n + 1, c35, m35, rfl, hd, h35⟩) [0, 1, 2] rfl rfl (by decide))

theorem rlen20_ct (F m : Hp) (g : Nat) (l : List Aud) (hb : Rost m g l)  : Ct Tryd.prog 16 [Ptr g] [m, F] (fun _ : Unit => I ((l.length : Nat) : Int)) (fun _ => True) (fun _ => [m, F]) := by
  obtain ⟨A, n, c, mr, rfl, hd, hr⟩ := hb
  have hn : l.length = n := by have := hr.len; simpa [audsV] using this
  have hnc := hr.2.2.1
  refine Ct.walk Tryd.func16 rfl Tryd.ntmps16 rfl (fun w0 hw0 => ?_)
  change J _ [(0, _)] _ _ _
  refine J.splitU hd ?_
  refine J.seq (fun K1 hK1 => ?_)
  refine J.region ?_
  refine J.y (op_assign rfl rfl) rfl rfl rfl ?_
  refine J.nil ?_
  refine J.then_n (J.k hK1 ?_)
  refine J.keepE [(0, _)] ⟨rfl, trivial⟩ ?_
  refine J.seq (fun K2 hK2 => ?_)
  refine J.seq (fun K3 hK3 => ?_)
  refine J.region ?_
  refine J.y (op_move rfl rfl) rfl rfl rfl ?_
  refine J.y (op_peq Tryd.underlying23 rfl rfl rfl) rfl rfl rfl ?_
  refine J.nil ?_
  refine J.then_n (J.k hK3 ?_)
  refine J.keepE [(0, _), (4, _)] ⟨rfl, rfl, trivial⟩ ?_
  refine J.condF rfl rfl ?_
  refine J.skip ?_
  refine J.then_n (J.k hK2 ?_)
  refine J.keepE [(0, _)] ⟨rfl, trivial⟩ ?_
  refine J.seq (fun K4 hK4 => ?_)
  refine J.region ?_
  refine J.y (op_move rfl rfl) rfl rfl rfl ?_
  refine J.y (op_nilCheck rfl rfl) rfl rfl rfl ?_
  refine J.y (op_fieldAddr (j := 0) rfl rfl Tryd.underlying92 rfl Tryd.sizeOf90 rfl) rfl rfl rfl ?_
  refine J.y (op_loadB 0 (v := .slice A n c) rfl rfl rfl Tryd.isAgg90 rfl) rfl rfl rfl ?_
  refine J.y (op_len Tryd.underlying90 rfl rfl) rfl rfl rfl ?_
  refine J.y (op_assign rfl rfl) rfl rfl rfl ?_
  refine J.nil ?_
  refine J.then_n (J.k hK4 ?_)
  refine J.keepE [(2, _)] ⟨rfl, trivial⟩ ?_
  refine J.ret ?_
  exact J.done hw0 (fun _ _ h => h) (res1 rfl rfl) (retOkU () (by rw [hn]) (fun _ => trivial) [0, 1, 2] rfl rfl (by decide))

theorem rlen0_ct (F : Hp) (g : Nat) (A : Option Addr) (n c : Nat) (hp : Cells F ⟨g, 0, none⟩ [.slice A n c]) : Ct Tryd.prog 16 [Ptr g] [F] (fun _ : Unit => I ((n : Nat) : Int)) (fun _ => True) (fun _ => [F]) := by
  refine Ct.walk Tryd.func16 rfl Tryd.ntmps16 rfl (fun w0 hw0 => ?_)
  change J _ [(0, _)] _ _ _
  refine J.seq (fun K1 hK1 => ?_)
  refine J.region ?_
  refine J.y (op_assign rfl rfl) rfl rfl rfl ?_
  refine J.nil ?_
  refine J.then_n (J.k hK1 ?_)
  refine J.keepE [(0, _)] ⟨rfl, trivial⟩ ?_
  refine J.seq (fun K2 hK2 => ?_)
  refine J.seq (fun K3 hK3 => ?_)
  refine J.region ?_
  refine J.y (op_move rfl rfl) rfl rfl rfl ?_
  refine J.y ((op_peq Tryd.underlying23 rfl rfl rfl).as (v' := .bool false) rfl) rfl rfl rfl ?_
  refine J.nil ?_
  refine J.then_n (J.k hK3 ?_)
  refine J.keepE [(0, _), (4, _)] ⟨rfl, rfl, trivial⟩ ?_
  refine J.condF rfl rfl ?_
  refine J.skip ?_
  refine J.then_n (J.k hK2 ?_)
  refine J.keepE [(0, _)] ⟨rfl, trivial⟩ ?_
  refine J.seq (fun K4 hK4 => ?_)
  refine J.region ?_
  refine J.y (op_move rfl rfl) rfl rfl rfl ?_
  refine J.y (op_nilCheck rfl rfl) rfl rfl rfl ?_
  refine J.y (op_fieldAddr (j := 0) rfl rfl Tryd.underlying92 rfl Tryd.sizeOf90 rfl) rfl rfl rfl ?_
  refine J.y (op_load (v := .slice A n c) rfl rfl Tryd.isAgg90 (m := F) (by simp) (hp)) rfl rfl rfl ?_
  refine J.y (op_len Tryd.underlying90 rfl rfl) rfl rfl rfl ?_
  refine J.y (op_assign rfl rfl) rfl rfl rfl ?_
  refine J.nil ?_
  refine J.then_n (J.k hK4 ?_)
  refine J.keepE [(2, _)] ⟨rfl, trivial⟩ ?_
  refine J.ret ?_
  exact J.done hw0 (fun _ _ h => h) (res1 rfl rfl) (retOk () rfl trivial [0] rfl (by decide))

theorem rat_ct (F m : Hp) (g : Nat) (l : List Aud) (hb : Rost m g l) (i : Int) : Ct Tryd.prog 22 [Ptr g, I (i)] [m, F] (fun _ : Unit => .tuple #[.agg #[Str ((atA l i).nm), Str ((atA l i).op), Str ((atA l i).rt), I ((atA l i).ht)], I (if 0 ≤ i ∧ i < l.length then 0 else 20)]) (fun _ => True) (fun _ => [m, F]) := by
  obtain ⟨A, n, c, mr, rfl, hd, hr⟩ := hb
  have hn : l.length = n := by have := hr.len; simpa [audsV] using this
  have hnc := hr.2.2.1
  refine Ct.walk Tryd.func22 rfl Tryd.ntmps22 rfl (fun w0 hw0 => ?_)
  change J _ [(0, _), (1, _)] _ _ _
  refine J.splitU hd ?_
  refine J.seq (fun K1 hK1 => ?_)
  refine J.region ?_
  refine J.e (op_alloc (l := [Str [], Str [], Str [], I 0]) rfl Tryd.zeroValue35 rfl) rfl rfl rfl ?_
  intro g4 _
  change J _ _ _ [blk g [.slice A n c] 92, mr, F, blk g4 [Str [], Str [], Str [], I 0] 35] _
  refine J.y (op_assign rfl rfl) rfl rfl rfl ?_
  refine J.nil ?_
  refine J.then_n (J.k hK1 ?_)
  refine J.keepE [(0, _), (1, _), (4, _)] ⟨rfl, rfl, rfl, trivial⟩ ?_
  refine J.seq (fun K2 hK2 => ?_)
  refine J.seq (fun K3 hK3 => ?_)
  refine J.region ?_
  refine J.y (op_move rfl rfl) rfl rfl rfl ?_
  refine J.y (op_lss rfl rfl rfl) rfl rfl rfl ?_
  refine J.y (op_move rfl rfl) rfl rfl rfl ?_
  refine J.split (d := 8) rfl (fun h8 => ?_) (fun h8 => ?_)
  ·
    refine J.no (Wan.is rfl rfl rfl rfl rfl) rfl rfl ?_
    refine J.no (Wan.is rfl rfl rfl rfl rfl) rfl rfl ?_
    refine J.no (Wan.is rfl rfl rfl rfl rfl) rfl rfl ?_
    refine J.no (Wan.is rfl rfl rfl rfl rfl) rfl rfl ?_
    refine J.y (op_pickT rfl rfl rfl) rfl rfl rfl ?_
    refine J.nil ?_
    refine J.then_n (J.k hK3 ?_)
    refine J.keepE [(0, _), (1, _), (4, _), (13, _)] ⟨rfl, rfl, rfl, rfl, trivial⟩ ?_
    refine J.condT rfl rfl ?_
    refine J.seq (fun K4 hK4 => ?_)
    refine J.region ?_
    refine J.y (op_buildStruct (l := []) (vs := []) (places := [(0, 1), (1, 3)]) (r := [Str [], Str [], Str [], I 0]) rfl rfl rfl Tryd.underlying35 Tryd.zeroValue35 (fun _ => by kernel_rfl) rfl) rfl rfl rfl ?_
    refine J.s (op_storeAll (i := 3) (l := [Str [], Str [], Str [], I 0]) (vs := [Str [], Str [], Str [], I 0]) rfl rfl rfl rfl rfl Tryd.sizeOf35 rfl rfl) rfl rfl (fun _ _ => ?_)
    change J _ _ _ [blk g [.slice A n c] 92, mr, F, blk g4 [Str [], Str [], Str [], I 0] 35] _
    refine J.y (op_assign rfl rfl) rfl rfl rfl ?_
    refine J.nil ?_
    refine J.then_n (J.k hK4 ?_)
    refine J.keepE [(4, _), (5, _)] ⟨rfl, rfl, trivial⟩ ?_
    refine J.ret ?_
    refine J.then_r ?_
    exact J.done hw0 (fun _ _ h => h) (rv2 rfl (RV.blkA 3 rfl rfl Tryd.isAgg35 Tryd.sizeOf35) rfl) (retOkU () (by unfold atA; rw [if_neg (by omega), if_neg (by omega)]; rfl) (fun _ => trivial) [0, 1, 2] rfl rfl (by decide))
  ·
    refine J.yg (Wan.is rfl rfl rfl rfl rfl) (op_move rfl rfl) rfl rfl ?_
    refine J.yg (Wan.is rfl rfl rfl rfl rfl) (op_move rfl rfl) rfl rfl ?_
    refine J.eg (Wan.is rfl rfl rfl rfl rfl) (op_call rfl rfl ent16 (Ct.use0 (fun F' hF => rlen0_ct F' g A n c (Cells.blk0.mono (hF (blk g [.slice A n c] 92) (by simp)))))) rfl rfl ?_
    intro g11 _
    refine J.yg (Wan.is rfl rfl rfl rfl rfl) (op_geq rfl rfl rfl) rfl rfl ?_
    refine J.y (op_pickF rfl rfl rfl) rfl rfl rfl ?_
    refine J.nil ?_
    refine J.then_n (J.k hK3 ?_)
    refine J.keepE [(0, _), (1, _), (4, _), (13, _)] ⟨rfl, rfl, rfl, rfl, trivial⟩ ?_
    refine J.ite rfl (fun h13 => ?_) (fun h13 => ?_)
    ·
      refine J.seq (fun K5 hK5 => ?_)
      refine J.region ?_
      refine J.y (op_buildStruct (l := []) (vs := []) (places := [(0, 1), (1, 3)]) (r := [Str [], Str [], Str [], I 0]) rfl rfl rfl Tryd.underlying35 Tryd.zeroValue35 (fun _ => by kernel_rfl) rfl) rfl rfl rfl ?_
      refine J.s (op_storeAll (i := 3) (l := [Str [], Str [], Str [], I 0]) (vs := [Str [], Str [], Str [], I 0]) rfl rfl rfl rfl rfl Tryd.sizeOf35 rfl rfl) rfl rfl (fun _ _ => ?_)
      change J _ _ _ [blk g [.slice A n c] 92, mr, F, blk g4 [Str [], Str [], Str [], I 0] 35] _
      refine J.y (op_assign rfl rfl) rfl rfl rfl ?_
      refine J.nil ?_
      refine J.then_n (J.k hK5 ?_)
      refine J.keepE [(4, _), (5, _)] ⟨rfl, rfl, trivial⟩ ?_
      refine J.ret ?_
      refine J.then_r ?_
      exact J.done hw0 (fun _ _ h => h) (rv2 rfl (RV.blkA 3 rfl rfl Tryd.isAgg35 Tryd.sizeOf35) rfl) (retOkU () (by unfold atA; rw [if_neg (by omega), if_neg (by omega)]; rfl) (fun _ => trivial) [0, 1, 2] rfl rfl (by decide))
    ·
      refine J.skip ?_
      refine J.then_n (J.k hK2 ?_)
      refine J.keepE [(0, _), (1, _), (4, _)] ⟨rfl, rfl, rfl, trivial⟩ ?_
      refine J.seq (fun K6 hK6 => ?_)
      obtain ⟨k, rfl⟩ := Int.eq_ofNat_of_zero_le (show 0 ≤ i by omega)
      have hk : atA l ((k : Nat) : Int) = l.getD k noAud := by unfold atA; rw [if_pos (by omega)]; rfl
      refine J.region ?_
      refine J.y (op_move rfl rfl) rfl rfl rfl ?_
      refine J.y (op_nilCheck rfl rfl) rfl rfl rfl ?_
      refine J.y (op_fieldAddr (j := 0) rfl rfl Tryd.underlying92 rfl Tryd.sizeOf90 rfl) rfl rfl rfl ?_
      refine J.y (op_loadB 0 (v := .slice A n c) rfl rfl rfl Tryd.isAgg90 rfl) rfl rfl rfl ?_
      refine J.y (op_move rfl rfl) rfl rfl rfl ?_
      refine J.y (op_indexAddr (i := k) rfl rfl rfl Tryd.underlying90 Tryd.sizeOf35 hr.sl (by first | omega | (simp only [List.length_append, List.length_cons, List.length_nil, List.length_take, List.length_drop] at *; omega))) rfl rfl rfl ?_
      refine J.y (op_loadA (vs := [Str ((l.getD k noAud).nm), Str ((l.getD k noAud).op), Str ((l.getD k noAud).rt), I ((l.getD k noAud).ht)]) rfl rfl Tryd.isAgg35 Tryd.sizeOf35 (m := mr) (by simp) (hr.sl.elem (audsV_get (by first | omega | (simp only [List.length_append, List.length_cons, List.length_nil, List.length_take, List.length_drop] at *; omega)))) rfl) rfl rfl rfl ?_
      refine J.s (op_storeAll (i := 3) (l := [Str [], Str [], Str [], I 0]) (vs := [Str ((l.getD k noAud).nm), Str ((l.getD k noAud).op), Str ((l.getD k noAud).rt), I ((l.getD k noAud).ht)]) rfl rfl rfl rfl rfl Tryd.sizeOf35 rfl rfl) rfl rfl (fun _ _ => ?_)
      change J _ _ _ [blk g [.slice A n c] 92, mr, F, blk g4 [Str ((l.getD k noAud).nm), Str ((l.getD k noAud).op), Str ((l.getD k noAud).rt), I ((l.getD k noAud).ht)] 35] _
      refine J.y (op_assign rfl rfl) rfl rfl rfl ?_
      refine J.nil ?_
      refine J.then_n (J.k hK6 ?_)
      refine J.keepE [(4, _), (5, _)] ⟨rfl, rfl, trivial⟩ ?_
      refine J.ret ?_
      exact J.done hw0 (fun _ _ h => h) (rv2 rfl (RV.blkA 3 rfl rfl Tryd.isAgg35 Tryd.sizeOf35) rfl) (retOkU () (by rw [hk, if_pos (by omega)]) (fun _ => trivial) [0, 1, 2] rfl rfl (by decide))

end Go.Proofs.YtnkfapecbmmpeaaDoor

namespace Go.Proofs.YtnkfapecbmmpeaaDoor
open Go Go.Fw
set_option maxRecDepth 100000
set_option maxHeartbeats 1000000

def z16 : List UInt8 := [0, 0, 0, 0, 0, 0, 0, 0, 0, 0, 0, 0, 0, 0, 0, 0]
def keyO (n : UInt8) : List UInt8 := n :: [0, 0, 0, 0, 0, 0, 0, 0, 0, 0, 0, 0, 0, 0, 0]

theorem key20_ct (F : Hp) (n : UInt8) (h : Int) : Ct Tryd.prog 12 [B8 (n), I (h)] [F] (fun _ : Unit => .agg #[Str (keyO n), Str (z16), I (h)]) (fun _ => True) (fun _ => [F]) := by
  refine Ct.walk Tryd.func12 rfl Tryd.ntmps12 rfl (fun w0 hw0 => ?_)
  change J _ [(0, _), (1, _)] _ _ _
  refine J.seq (fun K1 hK1 => ?_)
  refine J.region ?_
  refine J.e (op_alloc (l := [Str [], Str [], I 0]) rfl Tryd.zeroValue32 rfl) rfl rfl rfl ?_
  intro g4 _
  change J _ _ _ [F, blk g4 [Str [], Str [], I 0] 32] _
  refine J.nil ?_
  refine J.then_n (J.k hK1 ?_)
  refine J.keepE [(0, _), (1, _), (4, _)] ⟨rfl, rfl, rfl, trivial⟩ ?_
  refine J.seq (fun K2 hK2 => ?_)
  refine J.draw [F] [7] (.y 0 (.y 3 (.y 5 (.e 1 (.y 2 (.y 4 (.y 6 (.e 7 .nil)))))))) Tryd.wide (by decide +kernel) (by simp) ?_
  refine J.dy rfl (op_move rfl rfl) rfl rfl rfl rfl ?_
  refine J.dy rfl ((op_sslice (a := [0, 0, 0, 0, 0, 0, 0, 0, 0, 0, 0, 0, 0, 0, 0, 0]) (l := 1) (h := ([0, 0, 0, 0, 0, 0, 0, 0, 0, 0, 0, 0, 0, 0, 0, 0]).length) Tryd.underlying9 rfl rfl rfl rfl ⟨by first | omega | (simp only [List.length_append, List.length_cons, List.length_nil, List.length_take, List.length_drop] at *; omega), by first | omega | (simp only [List.length_append, List.length_cons, List.length_nil, List.length_take, List.length_drop] at *; omega)⟩).as (v' := Str (([0, 0, 0, 0, 0, 0, 0, 0, 0, 0, 0, 0, 0, 0, 0, 0]).drop 1)) (by rw [List.take_length])) rfl rfl rfl rfl ?_
  refine J.dy rfl (op_move rfl rfl) rfl rfl rfl rfl ?_
  refine J.deN (fun g => _ ++ [blk g [B8 n] 5]) rfl (op_buildSlice (l := [.tmp 5]) (xs := [[B8 (n)]]) rfl rfl rfl rfl Tryd.underlying30 el5 rfl (by decide) (by decide) (by simp)) rfl rfl rfl (fun _ _ h => List.mem_append_left _ h) (by simp) ?_
  intro g6 _
  change J _ _ _ [F, blk g4 [Str [], Str [], I 0] 32, blk g6 [B8 (n)] 5] _
  refine J.dy rfl (op_toStr (l := [n]) rfl rfl Tryd.underlying30 Tryd.underlying5 Tryd.underlying9 (m := blk g6 [B8 (n)] 5) (by simp) ((row_lit (q := True) (bytesV [n]) rfl (by simp [bytesV]) rfl).sl)) rfl rfl rfl rfl ?_
  refine J.dy rfl (op_sadd (a := [n]) (b := ([0, 0, 0, 0, 0, 0, 0, 0, 0, 0, 0, 0, 0, 0, 0, 0]).drop 1) rfl rfl rfl (by first | omega | (simp only [List.length_append, List.length_cons, List.length_nil, List.length_take, List.length_drop] at *; omega))) rfl rfl rfl rfl ?_
  refine J.dy rfl (op_buildStruct (l := [(0, .tmp 9), (1, .const ((Value.string (ByteArray.mk #[0, 0, 0, 0, 0, 0, 0, 0, 0, 0, 0, 0, 0, 0, 0, 0])))), (2, .tmp 10)]) (vs := [Str (([n]) ++ (([0, 0, 0, 0, 0, 0, 0, 0, 0, 0, 0, 0, 0, 0, 0, 0]).drop 1)), Str ([0, 0, 0, 0, 0, 0, 0, 0, 0, 0, 0, 0, 0, 0, 0, 0]), I (h)]) (places := [(0, 1), (1, 1), (2, 1)]) (r := [Str (([n]) ++ (([0, 0, 0, 0, 0, 0, 0, 0, 0, 0, 0, 0, 0, 0, 0, 0]).drop 1)), Str ([0, 0, 0, 0, 0, 0, 0, 0, 0, 0, 0, 0, 0, 0, 0, 0]), I (h)]) rfl rfl rfl Tryd.underlying32 Tryd.zeroValue32 (fun _ => by kernel_rfl) rfl) rfl rfl rfl rfl ?_
  refine J.ds rfl (op_storeAll (i := 1) (l := [Str [], Str [], I 0]) (vs := [Str (([n]) ++ (([0, 0, 0, 0, 0, 0, 0, 0, 0, 0, 0, 0, 0, 0, 0, 0]).drop 1)), Str ([0, 0, 0, 0, 0, 0, 0, 0, 0, 0, 0, 0, 0, 0, 0, 0]), I (h)]) rfl rfl rfl rfl rfl Tryd.sizeOf32 rfl rfl) rfl rfl rfl (fun _ _ => ?_)
  change J _ _ _ [F, blk g4 [Str (([n]) ++ (([0, 0, 0, 0, 0, 0, 0, 0, 0, 0, 0, 0, 0, 0, 0, 0]).drop 1)), Str ([0, 0, 0, 0, 0, 0, 0, 0, 0, 0, 0, 0, 0, 0, 0, 0]), I (h)] 32, blk g6 [B8 (n)] 5] _
  refine J.dnil ?_
  refine J.then_n (J.k hK2 ?_)
  refine J.keepE [(4, _)] ⟨rfl, trivial⟩ ?_
  refine J.ret ?_
  exact J.done hw0 (fun _ _ h => h) (rv1 rfl (RV.blkA 1 rfl rfl Tryd.isAgg32 Tryd.sizeOf32)) (retOk () rfl trivial [0] rfl (by decide))

def ownN (s : List UInt8) : Nat := if whyN s ≠ 0 then whyN s else if (rlo s).all (fun r => decide (small r = r)) = true then 0 else 4
theorem own_no {s : List UInt8} (h : whyN s = 0) {k : Nat} (hk : k < (rlo s).length) (hn : small ((rlo s).getD k 0) ≠ (rlo s).getD k 0) : ownN s = 4 := by
  unfold ownN
  rw [if_neg (by omega), if_neg]
  intro ha
  have := List.all_eq_true.1 ha (rlo s)[k] (List.getElem_mem hk)
  rw [List.getD_eq_getElem?_getD, List.getElem?_eq_getElem hk] at hn
  exact hn (of_decide_eq_true this)
theorem own_yes {s : List UInt8} (h : whyN s = 0) (hn : ∀ j < (rlo s).length, small ((rlo s).getD j 0) = (rlo s).getD j 0) : ownN s = 0 := by
  unfold ownN
  rw [if_neg (by omega), if_pos]
  refine List.all_eq_true.2 fun x hx => ?_
  obtain ⟨j, hj, rfl⟩ := List.getElem_of_mem hx
  have := hn j hj
  rw [List.getD_eq_getElem?_getD, List.getElem?_eq_getElem hj] at this
  exact decide_eq_true this

end Go.Proofs.YtnkfapecbmmpeaaDoor

namespace Go.Proofs.YtnkfapecbmmpeaaDoor
open Go Go.Fw
set_option maxRecDepth 100000
set_option maxHeartbeats 1000000
theorem map_self : ∀ {l : List Nat}, l.map small = l ↔ l.all (fun r => decide (small r = r)) = true
  | [] => ⟨fun _ => rfl, fun _ => rfl⟩
  | r :: l => by
    rw [List.map_cons, List.all_cons, Bool.and_eq_true, ← map_self (l := l), decide_eq_true_eq]
    exact ⟨fun h => by injection h with h1 h2; exact ⟨h1, h2⟩, fun ⟨h1, h2⟩ => by rw [h1, h2]⟩
theorem own_code (s : List UInt8) : ownN s = codeN s := by
  unfold ownN codeN
  rw [normal_why]
  by_cases hw : whyN s = 0
  · have hw2 : ¬ whyN s ≠ 0 := fun q => q hw
    rw [if_neg hw2, if_neg hw2]
    obtain ⟨x, hx⟩ : ∃ x, normal s = (x, 0) := ⟨(normal s).1, Prod.ext rfl (by dsimp only; rw [normal_why]; exact hw)⟩
    obtain ⟨l, q1, q2, q3, q4, q5, q6, hv⟩ := normal_ok hx
    have hro : rlo s = rl s := by unfold rlo; rw [if_pos hv]
    have hs := (vld_runes hv).2
    rw [hx, hro]
    dsimp only
    by_cases h : (rl s).map small = rl s
    · rw [if_pos (map_self.1 h), if_neg (by rw [q2, q4, h, ← hs]; exact fun h => h rfl)]
    · rw [if_neg (fun e => h (map_self.2 e)), if_pos]
      intro e
      refine h ?_
      rw [← q4, ← rl_of q1, ← q2, e]
  · rw [if_pos hw, if_pos hw]
theorem keyO_len (k : UInt8) : (keyO k).length = 16 := rfl
theorem key_err (k : UInt8) (h : Int) : pubErr (keyO k) z16 h = if h < 0 ∨ 6 < h then 10 else 0 := by
  unfold pubErr
  by_cases hh : h < 0 ∨ 6 < h
  · rw [if_neg (show ¬ pubOk (keyO k) z16 h from fun q => by unfold pubOk at q; omega), if_pos hh]
  · rw [if_pos (show pubOk (keyO k) z16 h from ⟨by omega, by omega, rfl, rfl⟩), if_neg hh]
def toA (x : Lau) : Aud := ⟨x.nm, keyO x.key, z16, x.ht⟩
theorem keyO_inj {a b : UInt8} : keyO a = keyO b ↔ a = b := ⟨fun h => by injection h, fun h => by rw [h]⟩
def hit (x y : Lau) : Bool := decide (y.nm = x.nm ∨ y.key = x.key ∧ y.ht = x.ht)
theorem same_hit (x y : Lau) : same x.nm (keyO x.key) z16 x.ht (toA y) = hit x y := by
  unfold same hit toA
  dsimp only
  rw [Bool.eq_iff_iff, Bool.or_eq_true, decide_eq_true_eq, decide_eq_true_eq, decide_eq_true_eq, keyO_inj]
  simp
theorem any_hit (x : Lau) (m : List Lau) : (m.map toA).any (same x.nm (keyO x.key) z16 x.ht) = m.any (hit x) := by
  rw [List.any_map]; congr 1; funext y; exact same_hit x y
/-- what stops it ahead of the others: its name, its height -/
def wa0 (x : Lau) : Nat := if ownN x.nm = 0 ∧ (x.ht < 0 ∨ 6 < x.ht) then 10 else ownN x.nm
theorem own_le (s : List UInt8) : ownN s ≤ 5 := by
  unfold ownN whyN
  (repeat' split) <;> omega
theorem may_wa0 (x : Lau) : mayE x.nm (keyO x.key) z16 x.ht = ((wa0 x : Nat) : Int) := by
  unfold mayE wa0
  rw [← own_code, key_err]
  by_cases h : ownN x.nm = 0
  · rw [if_neg (by omega)]
    by_cases h2 : x.ht < 0 ∨ 6 < x.ht
    · rw [if_pos h2, if_pos ⟨h, h2⟩]; rfl
    · rw [if_neg h2, if_neg (fun q => h2 q.2), h]; rfl
  · rw [if_pos h, if_neg (fun q => h q.1)]
/-- .. and as far as the first k others -/
def wa1 (x : Lau) (m : List Lau) (k : Nat) : Nat := if wa0 x ≠ 0 then wa0 x else if (m.take k).any (hit x) = true then 19 else 0
theorem wa1_zero (x : Lau) (m : List Lau) : wa1 x m 0 = wa0 x := by
  unfold wa1
  by_cases h : wa0 x = 0
  · rw [if_neg (by omega), if_neg (by simp), h]
  · rw [if_pos h]
theorem wa1_step {x : Lau} {m : List Lau} {k : Nat} (hk : k < m.length) (h : wa1 x m k = 0) : wa1 x m (k + 1) = if hit x (m.getD k noLau) = true then 19 else 0 := by
  unfold wa1 at h ⊢
  by_cases hw : wa0 x = 0
  · rw [if_neg (by omega)] at h ⊢
    have h1 : (m.take k).any (hit x) = false := by
      rw [Bool.eq_false_iff]; intro h1; rw [if_pos h1] at h; cases h
    rw [List.take_succ_eq_append_getElem hk, List.any_append, h1, Bool.false_or, List.getD_eq_getElem?_getD, List.getElem?_eq_getElem hk]
    simp
  · rw [if_pos hw] at h; exact absurd h hw
theorem wa1_le (x : Lau) (m : List Lau) (k : Nat) : wa1 x m k ≤ 19 := by
  have := own_le x.nm
  unfold wa1 wa0
  (repeat' split) <;> omega
theorem wa1_fin {x : Lau} {m : List Lau} {k : Nat} (hk : k ≤ m.length) (h : wa1 x m k = 0 → k = m.length) (hm : m.length ≤ 64) :
    addE (m.map toA) x.nm (keyO x.key) z16 x.ht = (((if wa1 x m k = 0 ∧ m.length = 64 then 9 else wa1 x m k) : Nat) : Int) := by
  unfold addE
  rw [may_wa0, any_hit, List.length_map]
  by_cases hw : wa0 x = 0
  · rw [if_neg (by omega)]
    by_cases h1 : m.any (hit x) = true
    · rw [if_pos h1]
      have h2 : wa1 x m k = 19 := by
        by_cases h3 : wa1 x m k = 0
        · exfalso
          have h4 := h h3
          unfold wa1 at h3
          rw [if_neg (by omega), h4, List.take_length, if_pos h1] at h3
          cases h3
        · unfold wa1 at h3 ⊢
          rw [if_neg (by omega)] at h3 ⊢
          split
          · rfl
          · rename_i h4; rw [if_neg h4] at h3; exact absurd rfl h3
      rw [if_neg (by omega), h2]; rfl
    · rw [if_neg h1]
      have h2 : wa1 x m k = 0 := by
        unfold wa1
        rw [if_neg (by omega), if_neg]
        intro h3
        obtain ⟨y, hy, hp⟩ := List.any_eq_true.1 h3
        exact h1 (List.any_eq_true.2 ⟨y, List.mem_of_mem_take hy, hp⟩)
      by_cases h5 : m.length = 64
      · rw [if_pos (by omega), if_pos ⟨h2, h5⟩]; rfl
      · rw [if_neg (by omega), if_neg (fun q => h5 q.2), h2]; rfl
  · have h2 : wa1 x m k = wa0 x := by unfold wa1; rw [if_pos hw]
    rw [if_pos (by omega), h2, if_neg (fun q => hw q.1)]
theorem addL_no {m : List Lau} {x : Lau} (h : addE (m.map toA) x.nm (keyO x.key) z16 x.ht ≠ 0) : addL (m.map toA) x.nm (keyO x.key) z16 x.ht = m.map toA := by unfold addL; rw [if_neg h]
theorem addL_yes {m : List Lau} {x : Lau} (h : addE (m.map toA) x.nm (keyO x.key) z16 x.ht = 0) : addL (m.map toA) x.nm (keyO x.key) z16 x.ht = (m ++ [x]).map toA := by
  unfold addL; rw [if_pos h, List.map_append]; rfl
theorem add_room {m : List Lau} {x : Lau} (h : addE (m.map toA) x.nm (keyO x.key) z16 x.ht = 0) : m.length < 64 := by
  unfold addE at h
  rw [List.length_map] at h
  split at h
  · contradiction
  · split at h
    · cases h
    · split at h
      · cases h
      · omega
def eve : List UInt8 := [101, 118, 101]
def mallory : List UInt8 := [109, 97, 108, 108, 111, 114, 121]
theorem code_eve : codeN eve = 0 := by
  unfold codeN
  rw [show normal eve = (eve, 0) from normal_lit (l := [101, 118, 101]) (by decide) (by decide) (by decide)]; rfl
theorem code_mallory : codeN mallory = 0 := by
  unfold codeN
  rw [show normal mallory = (mallory, 0) from normal_lit (l := [109, 97, 108, 108, 111, 114, 121]) (by decide) (by decide) (by decide)]; rfl
theorem may_ok {s : List UInt8} (h : codeN s = 0) (k : UInt8) : mayE s (keyO k) z16 2 = 0 := by
  unfold mayE
  rw [if_neg (by omega), key_err]; rfl
theorem sp_a : addE [] eve (keyO 1) z16 2 = 0 := by
  unfold addE; rw [may_ok code_eve]; decide
theorem sp_al : addL [] eve (keyO 1) z16 2 = [⟨eve, keyO 1, z16, 2⟩] := by unfold addL; rw [if_pos sp_a]; rfl
theorem sp_an : addNo [] eve (keyO 1) z16 2 = 0 := by unfold addNo; rw [if_pos sp_a]; rfl
theorem sp_b : addE [⟨eve, keyO 1, z16, 2⟩] mallory (keyO 2) z16 2 = 0 := by
  unfold addE; rw [may_ok code_mallory]; decide
theorem sp_bl : addL [⟨eve, keyO 1, z16, 2⟩] mallory (keyO 2) z16 2 = [⟨eve, keyO 1, z16, 2⟩, ⟨mallory, keyO 2, z16, 2⟩] := by unfold addL; rw [if_pos sp_b]; rfl
theorem sp_bn : addNo [⟨eve, keyO 1, z16, 2⟩] mallory (keyO 2) z16 2 = 1 := by unfold addNo; rw [if_pos sp_b]; rfl
theorem sp_c : addE [⟨eve, keyO 1, z16, 2⟩, ⟨mallory, keyO 2, z16, 2⟩] eve (keyO 3) z16 2 = 19 := by
  unfold addE; rw [may_ok code_eve]; decide
theorem sp_cl : addL [⟨eve, keyO 1, z16, 2⟩, ⟨mallory, keyO 2, z16, 2⟩] eve (keyO 3) z16 2 = [⟨eve, keyO 1, z16, 2⟩, ⟨mallory, keyO 2, z16, 2⟩] := by unfold addL; rw [if_neg (by rw [sp_c]; decide)]
theorem hit_step {x y : Lau} {w u : Nat} (hu : u = 0) (h : (w = 19 ∧ (y.nm = x.nm ∨ (y.key.toNat : Int) = x.key.toNat ∧ y.ht = x.ht)) ∨ (w = u ∧ ¬ y.nm = x.nm ∧ ((y.key.toNat : Int) = x.key.toNat → ¬ y.ht = x.ht))) : w = if hit x y = true then 19 else 0 := by
  unfold hit
  rcases h with ⟨rfl, h⟩ | ⟨rfl, h1, h2⟩
  · rw [if_pos (decide_eq_true ?_)]
    rcases h with h | ⟨h1, h2⟩
    · exact .inl h
    · exact .inr ⟨UInt8.toNat_inj.1 (by omega), h2⟩
  · rw [if_neg ?_, hu]
    rw [decide_eq_true_eq]
    rintro (q | ⟨q1, q2⟩)
    · exact h1 q
    · exact h2 (by rw [q1]) q2

end Go.Proofs.YtnkfapecbmmpeaaDoor

namespace Go.Proofs.YtnkfapecbmmpeaaDoor
open Go Go.Fw
set_option maxRecDepth 100000
set_option maxHeartbeats 1000000
theorem ent9 : Enters Tryd.prog 9 := Enters.of Tryd.func9 rfl (by kernel_rfl)
theorem ent11 : Enters Tryd.prog 11 := Enters.of Tryd.func11 rfl (by kernel_rfl)
theorem ent12 : Enters Tryd.prog 12 := Enters.of Tryd.func12 rfl (by kernel_rfl)

theorem speaks20_ct (F : Hp) (hA : Cells F ⟨0, 0, none⟩ alphaV) (hT : TabsF F) : Ct Tryd.prog 8 [] [F] (fun _ : Unit => .bool true) (fun _ => True) (fun _ => [F]) := by
  refine Ct.walk Tryd.func8 rfl Tryd.ntmps8 rfl (fun w0 hw0 => ?_)
  change J _ [] _ _ _
  refine J.seq (fun K1 hK1 => ?_)
  refine J.region ?_
  refine J.y (op_assign rfl rfl) rfl rfl rfl ?_
  refine J.nil ?_
  refine J.then_n (J.k hK1 ?_)
  refine J.keepE [] trivial ?_
  refine J.seq (fun K2 hK2 => ?_)
  refine J.region ?_
  refine J.e (op_call rfl rfl ent9 (Ct.use (new := fun x : Nat × Hp => [x.2]) (fun F' hF => Ct.swap2 (rnew_ct F' )))) rfl rfl rfl ?_
  rintro ⟨g8, m8⟩ h8
  try dsimp only at h8
  change J _ ((8, Ptr g8) :: _) _ [F, m8] _
  refine J.y (op_assign rfl rfl) rfl rfl rfl ?_
  refine J.nil ?_
  refine J.then_n (J.k hK2 ?_)
  refine J.keepE [(1, _)] ⟨rfl, trivial⟩ ?_
  refine J.seq (fun K3 hK3 => ?_)
  refine J.region ?_
  refine J.y (op_move rfl rfl) rfl rfl rfl ?_
  refine J.e (op_call rfl rfl ent12 (Ct.use0 (fun F' hF => key20_ct F' 1 ((2 : Nat) : Int)))) rfl rfl rfl ?_
  intro g11 _
  refine J.y (op_buildStruct (l := [(0, .const ((Value.string (ByteArray.mk #[101, 118, 101])))), (1, .tmp 11)]) (vs := [Str ([101, 118, 101]), .agg #[Str (keyO 1), Str (z16), I (((2 : Nat) : Int))]]) (places := [(0, 1), (1, 3)]) (r := [Str ([101, 118, 101]), Str (keyO 1), Str (z16), I (((2 : Nat) : Int))]) rfl rfl rfl Tryd.underlying35 Tryd.zeroValue35 (fun _ => by kernel_rfl) rfl) rfl rfl rfl ?_
  refine J.e (op_call rfl rfl ent11 (Ct.use1 1 (m' := fun x : Hp => x) (new := fun _ => []) rfl (fun F' hF => radd_ct F' m8 g8 ([]) h8 (hA.mono (hF F (by simp))) (hT.mono (hF F (by simp))) ([101, 118, 101]) (keyO 1) z16 ((2 : Nat) : Int) (by first | omega | exact Nat.le_of_ble_eq_true rfl | (rw [List.length_map]; omega)) (by first | omega | exact Nat.le_of_ble_eq_true rfl | (rw [List.length_map]; omega)) (by first | omega | exact Nat.le_of_ble_eq_true rfl | (rw [List.length_map]; omega)) (by first | omega | exact Nat.le_of_ble_eq_true rfl | (rw [List.length_map]; omega))))) rfl rfl rfl ?_
  rintro m13 h13
  change J _ ((13, .tuple #[I (addNo ([]) ([101, 118, 101]) (keyO 1) z16 ((2 : Nat) : Int)), I (addE ([]) ([101, 118, 101]) (keyO 1) z16 ((2 : Nat) : Int))]) :: _) _ [F, m13] _
  refine J.y (op_move rfl rfl) rfl rfl rfl ?_
  refine J.y (op_extract (v := I (addNo ([]) ([101, 118, 101]) (keyO 1) z16 ((2 : Nat) : Int))) rfl rfl rfl) rfl rfl rfl ?_
  refine J.y (op_extract (v := I (addE ([]) ([101, 118, 101]) (keyO 1) z16 ((2 : Nat) : Int))) rfl rfl rfl) rfl rfl rfl ?_
  refine J.y (op_assign rfl rfl) rfl rfl rfl ?_
  refine J.y (op_assign rfl rfl) rfl rfl rfl ?_
  refine J.nil ?_
  refine J.then_n (J.k hK3 ?_)
  refine J.keepE [(1, _), (2, _), (3, _)] ⟨rfl, rfl, rfl, trivial⟩ ?_
  refine J.seq (fun K4 hK4 => ?_)
  replace h13 := (congrArg (Rost m13 g8) sp_al).mp h13
  refine J.region ?_
  refine J.y (op_move rfl rfl) rfl rfl rfl ?_
  refine J.e (op_call rfl rfl ent12 (Ct.use0 (fun F' hF => key20_ct F' 2 ((2 : Nat) : Int)))) rfl rfl rfl ?_
  intro g18 _
  refine J.y (op_buildStruct (l := [(0, .const ((Value.string (ByteArray.mk #[109, 97, 108, 108, 111, 114, 121])))), (1, .tmp 18)]) (vs := [Str ([109, 97, 108, 108, 111, 114, 121]), .agg #[Str (keyO 2), Str (z16), I (((2 : Nat) : Int))]]) (places := [(0, 1), (1, 3)]) (r := [Str ([109, 97, 108, 108, 111, 114, 121]), Str (keyO 2), Str (z16), I (((2 : Nat) : Int))]) rfl rfl rfl Tryd.underlying35 Tryd.zeroValue35 (fun _ => by kernel_rfl) rfl) rfl rfl rfl ?_
  refine J.e (op_call rfl rfl ent11 (Ct.use1 1 (m' := fun x : Hp => x) (new := fun _ => []) rfl (fun F' hF => radd_ct F' m13 g8 ([⟨eve, keyO 1, z16, 2⟩]) h13 (hA.mono (hF F (by simp))) (hT.mono (hF F (by simp))) ([109, 97, 108, 108, 111, 114, 121]) (keyO 2) z16 ((2 : Nat) : Int) (by first | omega | exact Nat.le_of_ble_eq_true rfl | (rw [List.length_map]; omega)) (by first | omega | exact Nat.le_of_ble_eq_true rfl | (rw [List.length_map]; omega)) (by first | omega | exact Nat.le_of_ble_eq_true rfl | (rw [List.length_map]; omega)) (by first | omega | exact Nat.le_of_ble_eq_true rfl | (rw [List.length_map]; omega))))) rfl rfl rfl ?_
  rintro m20 h20
  change J _ ((20, .tuple #[I (addNo ([⟨eve, keyO 1, z16, 2⟩]) ([109, 97, 108, 108, 111, 114, 121]) (keyO 2) z16 ((2 : Nat) : Int)), I (addE ([⟨eve, keyO 1, z16, 2⟩]) ([109, 97, 108, 108, 111, 114, 121]) (keyO 2) z16 ((2 : Nat) : Int))]) :: _) _ [F, m20] _
  refine J.y (op_move rfl rfl) rfl rfl rfl ?_
  refine J.y (op_extract (v := I (addNo ([⟨eve, keyO 1, z16, 2⟩]) ([109, 97, 108, 108, 111, 114, 121]) (keyO 2) z16 ((2 : Nat) : Int))) rfl rfl rfl) rfl rfl rfl ?_
  refine J.y (op_extract (v := I (addE ([⟨eve, keyO 1, z16, 2⟩]) ([109, 97, 108, 108, 111, 114, 121]) (keyO 2) z16 ((2 : Nat) : Int))) rfl rfl rfl) rfl rfl rfl ?_
  refine J.y (op_assign rfl rfl) rfl rfl rfl ?_
  refine J.y (op_assign rfl rfl) rfl rfl rfl ?_
  refine J.nil ?_
  refine J.then_n (J.k hK4 ?_)
  refine J.keepE [(1, _), (2, _), (3, _), (4, _), (5, _)] ⟨rfl, rfl, rfl, rfl, rfl, trivial⟩ ?_
  refine J.seq (fun K5 hK5 => ?_)
  replace h20 := (congrArg (Rost m20 g8) sp_bl).mp h20
  refine J.region ?_
  refine J.y (op_move rfl rfl) rfl rfl rfl ?_
  refine J.e (op_call rfl rfl ent12 (Ct.use0 (fun F' hF => key20_ct F' 3 ((2 : Nat) : Int)))) rfl rfl rfl ?_
  intro g25 _
  refine J.y (op_buildStruct (l := [(0, .const ((Value.string (ByteArray.mk #[101, 118, 101])))), (1, .tmp 25)]) (vs := [Str ([101, 118, 101]), .agg #[Str (keyO 3), Str (z16), I (((2 : Nat) : Int))]]) (places := [(0, 1), (1, 3)]) (r := [Str ([101, 118, 101]), Str (keyO 3), Str (z16), I (((2 : Nat) : Int))]) rfl rfl rfl Tryd.underlying35 Tryd.zeroValue35 (fun _ => by kernel_rfl) rfl) rfl rfl rfl ?_
  refine J.e (op_call rfl rfl ent11 (Ct.use1 1 (m' := fun x : Hp => x) (new := fun _ => []) rfl (fun F' hF => radd_ct F' m20 g8 ([⟨eve, keyO 1, z16, 2⟩, ⟨mallory, keyO 2, z16, 2⟩]) h20 (hA.mono (hF F (by simp))) (hT.mono (hF F (by simp))) ([101, 118, 101]) (keyO 3) z16 ((2 : Nat) : Int) (by first | omega | exact Nat.le_of_ble_eq_true rfl | (rw [List.length_map]; omega)) (by first | omega | exact Nat.le_of_ble_eq_true rfl | (rw [List.length_map]; omega)) (by first | omega | exact Nat.le_of_ble_eq_true rfl | (rw [List.length_map]; omega)) (by first | omega | exact Nat.le_of_ble_eq_true rfl | (rw [List.length_map]; omega))))) rfl rfl rfl ?_
  rintro m27 h27
  change J _ ((27, .tuple #[I (addNo ([⟨eve, keyO 1, z16, 2⟩, ⟨mallory, keyO 2, z16, 2⟩]) ([101, 118, 101]) (keyO 3) z16 ((2 : Nat) : Int)), I (addE ([⟨eve, keyO 1, z16, 2⟩, ⟨mallory, keyO 2, z16, 2⟩]) ([101, 118, 101]) (keyO 3) z16 ((2 : Nat) : Int))]) :: _) _ [F, m27] _
  refine J.y (op_move rfl rfl) rfl rfl rfl ?_
  refine J.y (op_extract (v := I (addNo ([⟨eve, keyO 1, z16, 2⟩, ⟨mallory, keyO 2, z16, 2⟩]) ([101, 118, 101]) (keyO 3) z16 ((2 : Nat) : Int))) rfl rfl rfl) rfl rfl rfl ?_
  refine J.y (op_extract (v := I (addE ([⟨eve, keyO 1, z16, 2⟩, ⟨mallory, keyO 2, z16, 2⟩]) ([101, 118, 101]) (keyO 3) z16 ((2 : Nat) : Int))) rfl rfl rfl) rfl rfl rfl ?_
  refine J.y (op_assign rfl rfl) rfl rfl rfl ?_
  refine J.y (op_assign rfl rfl) rfl rfl rfl ?_
  refine J.nil ?_
  refine J.then_n (J.k hK5 ?_)
  refine J.keepE [(1, _), (2, _), (3, _), (4, _), (5, _), (7, _)] ⟨rfl, rfl, rfl, rfl, rfl, rfl, trivial⟩ ?_
  refine J.seq (fun K6 hK6 => ?_)
  replace h27 := (congrArg (Rost m27 g8) sp_cl).mp h27
  refine J.region ?_
  refine J.y (op_move rfl rfl) rfl rfl rfl ?_
  refine J.y ((op_eql rfl rfl rfl).as (v' := .bool true) (congrArg Value.bool (decide_eq_true (sp_a)))) rfl rfl rfl ?_
  refine J.y (op_move rfl rfl) rfl rfl rfl ?_
  refine J.yg (Wan.is rfl rfl rfl rfl rfl) (op_move rfl rfl) rfl rfl ?_
  refine J.yg (Wan.is rfl rfl rfl rfl rfl) ((op_eql rfl rfl rfl).as (v' := .bool true) (congrArg Value.bool (decide_eq_true (sp_b)))) rfl rfl ?_
  refine J.y (op_pickT rfl rfl rfl) rfl rfl rfl ?_
  refine J.y (op_move rfl rfl) rfl rfl rfl ?_
  refine J.yg (Wan.is rfl rfl rfl rfl rfl) (op_move rfl rfl) rfl rfl ?_
  refine J.yg (Wan.is rfl rfl rfl rfl rfl) ((op_eql rfl rfl rfl).as (v' := .bool true) (congrArg Value.bool (decide_eq_true (sp_c)))) rfl rfl ?_
  refine J.y (op_pickT rfl rfl rfl) rfl rfl rfl ?_
  refine J.y (op_move rfl rfl) rfl rfl rfl ?_
  refine J.yg (Wan.is rfl rfl rfl rfl rfl) (op_move rfl rfl) rfl rfl ?_
  refine J.yg (Wan.is rfl rfl rfl rfl rfl) ((op_eql rfl rfl rfl).as (v' := .bool true) (congrArg Value.bool (decide_eq_true (sp_an)))) rfl rfl ?_
  refine J.y (op_pickT rfl rfl rfl) rfl rfl rfl ?_
  refine J.y (op_move rfl rfl) rfl rfl rfl ?_
  refine J.yg (Wan.is rfl rfl rfl rfl rfl) (op_move rfl rfl) rfl rfl ?_
  refine J.yg (Wan.is rfl rfl rfl rfl rfl) ((op_eql rfl rfl rfl).as (v' := .bool true) (congrArg Value.bool (decide_eq_true (sp_bn)))) rfl rfl ?_
  refine J.y (op_pickT rfl rfl rfl) rfl rfl rfl ?_
  refine J.y (op_move rfl rfl) rfl rfl rfl ?_
  refine J.yg (Wan.is rfl rfl rfl rfl rfl) (op_move rfl rfl) rfl rfl ?_
  refine J.eg (Wan.is rfl rfl rfl rfl rfl) (op_call rfl rfl ent16 (Ct.use1 1 (m' := fun _ : Unit => m27) (new := fun _ => []) rfl (fun F' hF => rlen20_ct F' m27 g8 ([⟨eve, keyO 1, z16, 2⟩, ⟨mallory, keyO 2, z16, 2⟩]) h27 ))) rfl rfl ?_
  rintro _ _
  change J _ _ _ [F, m27] _
  refine J.yg (Wan.is rfl rfl rfl rfl rfl) ((op_eql rfl rfl rfl).as (v' := .bool true) (congrArg Value.bool (decide_eq_true (rfl)))) rfl rfl ?_
  refine J.y (op_pickT rfl rfl rfl) rfl rfl rfl ?_
  refine J.y (op_assign rfl rfl) rfl rfl rfl ?_
  refine J.nil ?_
  refine J.then_n (J.k hK6 ?_)
  refine J.keepE [(0, _)] ⟨rfl, trivial⟩ ?_
  refine J.ret ?_
  exact J.done hw0 (fun _ _ h => h) (res1 rfl rfl) (retOk () rfl trivial [0] rfl (by decide))

end Go.Proofs.YtnkfapecbmmpeaaDoor
