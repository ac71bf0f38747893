/- A part of the proof: contracts of functions of the program, each for every state of the heaps that it names. -/
import Derived.Test.YtpcffgkmpmcobaaDoorNrm
import Derived.Test.YtpcffgkmpmcobaaDoorPen
import Derived.Test.YtpcffgkmpmcobaaDoorFwT
set_option linter.unusedSimpArgs false
set_option linter.unusedVariables false
namespace Go.Proofs.YtpcffgkmpmcobaaDoor
open Go Go.Fw
set_option maxRecDepth 100000
set_option maxHeartbeats 1000000
theorem ent16 : Enters Tryd.prog 16 := Enters.of Tryd.func16 rfl (by kernel_rfl)
theorem ent30 : Enters Tryd.prog 30 := Enters.of Tryd.func30 rfl (by kernel_rfl)
theorem ent91 : Enters Tryd.prog 91 := Enters.of Tryd.func91 rfl (by kernel_rfl)
theorem ent92 : Enters Tryd.prog 92 := Enters.of Tryd.func92 rfl (by kernel_rfl)
theorem ent93 : Enters Tryd.prog 93 := Enters.of Tryd.func93 rfl (by kernel_rfl)
theorem ent132 : Enters Tryd.prog 132 := Enters.of Tryd.func132 rfl (by kernel_rfl)
theorem ent133 : Enters Tryd.prog 133 := Enters.of Tryd.func133 rfl (by kernel_rfl)
theorem el50 : Elem Tryd.prog 50 [Str [], Str [], Str [], .int .i64 0] 56 := Elem.of (by kernel_rfl) rfl
theorem eqPub3 (d : Nat) (o r : List UInt8) (h : Int) (o' r' : List UInt8) (h' : Int) (w : World) : (Op.equalIn (d + 2) 47 (.agg #[Str o, Str r, I h]) (.agg #[Str o', Str r', I h'])).run Tryd.prog w = .ok (decide (o = o' ∧ r = r' ∧ h = h')) w := eqPub d o r o' r' h h' w
structure Aud where
  nm : List UInt8
  op : List UInt8
  rt : List UInt8
  ht : Int
  deriving DecidableEq
def Aud.cells (x : Aud) : List Value := [Str (x.nm), Str (x.op), Str (x.rt), I (x.ht)]
def noAud : Aud := ⟨[], [], [], 0⟩
def audsV (l : List Aud) : List (List Value) := l.map Aud.cells
theorem audsV_get {l : List Aud} {k : Nat} (h : k < l.length) : (audsV l)[k]? = some (l.getD k noAud).cells := by
  unfold audsV
  rw [List.getElem?_map, getSome noAud h]; rfl
theorem audsV_len (l : List Aud) : (audsV l).length = l.length := by simp [audsV]
theorem audsV_app (a b : List Aud) : audsV (a ++ b) = audsV a ++ audsV b := by simp [audsV]
theorem audsV_snoc (a : List Aud) (x : Aud) : audsV (a ++ [x]) = audsV a ++ [x.cells] := by simp [audsV]
theorem one_auds (a : List Aud) : (audsV a).all (fun x => x.all Value.oneCell') = true := one_map Aud.cells (fun _ => rfl) a
theorem audsV_take (l : List Aud) (k : Nat) : (audsV l).take k = audsV (l.take k) := by simp [audsV]
theorem audsV_drop (l : List Aud) (k : Nat) : (audsV l).drop k = audsV (l.drop k) := by simp [audsV]
theorem audsV_set (l : List Aud) (k : Nat) (x : Aud) : (audsV l).set k x.cells = audsV (l.set k x) := by simp [audsV, List.map_set]
structure Lau where
  nm : List UInt8
  key : UInt8
  ht : Int
  deriving DecidableEq
def Lau.cells (x : Lau) : List Value := [Str (x.nm), B8 (x.key), I (x.ht)]
def noLau : Lau := ⟨[], 0, 0⟩
def lausV (l : List Lau) : List (List Value) := l.map Lau.cells
theorem lausV_get {l : List Lau} {k : Nat} (h : k < l.length) : (lausV l)[k]? = some (l.getD k noLau).cells := by
  unfold lausV
  rw [List.getElem?_map, getSome noLau h]; rfl
theorem lausV_len (l : List Lau) : (lausV l).length = l.length := by simp [lausV]
theorem lausV_app (a b : List Lau) : lausV (a ++ b) = lausV a ++ lausV b := by simp [lausV]
theorem lausV_snoc (a : List Lau) (x : Lau) : lausV (a ++ [x]) = lausV a ++ [x.cells] := by simp [lausV]
theorem one_laus (a : List Lau) : (lausV a).all (fun x => x.all Value.oneCell') = true := one_map Lau.cells (fun _ => rfl) a
theorem lausV_take (l : List Lau) (k : Nat) : (lausV l).take k = lausV (l.take k) := by simp [lausV]
theorem lausV_drop (l : List Lau) (k : Nat) : (lausV l).drop k = lausV (l.drop k) := by simp [lausV]
theorem lausV_set (l : List Lau) (k : Nat) (x : Lau) : (lausV l).set k x.cells = lausV (l.set k x) := by simp [lausV, List.map_set]

def Rost (m : Hp) (g : Nat) (l : List Aud) : Prop := ∃ A n c mr, m = U [blk g [.slice A n c] 127, mr] ∧ Dj (blk g [.slice A n c] 127) mr ∧ Row mr 50 4 A n c (audsV l)
def codeN (s : List UInt8) : Nat := if (normal s).2 ≠ 0 then (normal s).2 else if (normal s).1 ≠ s then 4 else 0
def mayE (nm o r : List UInt8) (h : Int) : Int := if codeN nm ≠ 0 then ((codeN nm : Nat) : Int) else pubErr o r h
def same (nm o r : List UInt8) (h : Int) (x : Aud) : Bool := decide (x.nm = nm) || decide (x.op = o ∧ x.rt = r ∧ x.ht = h)
def addE (l : List Aud) (nm o r : List UInt8) (h : Int) : Int := if mayE nm o r h ≠ 0 then mayE nm o r h else if l.any (same nm o r h) = true then 19 else if 64 ≤ l.length then 9 else 0
def addL (l : List Aud) (nm o r : List UInt8) (h : Int) : List Aud := if addE l nm o r h = 0 then l ++ [⟨nm, o, r, h⟩] else l
def addNo (l : List Aud) (nm o r : List UInt8) (h : Int) : Int := if addE l nm o r h = 0 then ((l.length : Nat) : Int) else 0
def atA (l : List Aud) (i : Int) : Aud := if 0 ≤ i ∧ i < l.length then l.getD i.toNat noAud else noAud
def ixA (p : Aud → Bool) (l : List Aud) : Int := if l.any p = true then ((l.findIdx p : Nat) : Int) else -1
theorem ixA_at {p : Aud → Bool} {l : List Aud} {k : Nat} (h : k < l.length) (hp : p (l.getD k noAud) = true) (hn : ∀ j < k, p (l.getD j noAud) = false) : ixA p l = ((k : Nat) : Int) := by
  have hk : l.getD k noAud = l[k] := by rw [List.getD_eq_getElem?_getD, List.getElem?_eq_getElem h]; rfl
  unfold ixA
  rw [if_pos (List.any_eq_true.2 ⟨l[k], List.getElem_mem h, hk ▸ hp⟩)]
  congr 1
  rw [List.findIdx_eq h]
  refine ⟨hk ▸ hp, fun j hj => ?_⟩
  have := hn j hj
  rw [List.getD_eq_getElem?_getD, List.getElem?_eq_getElem (by omega)] at this
  exact this
theorem ixA_no {p : Aud → Bool} {l : List Aud} (hn : ∀ j < l.length, p (l.getD j noAud) = false) : ixA p l = -1 := by
  unfold ixA
  rw [if_neg]
  intro h
  obtain ⟨x, hx, hp⟩ := List.any_eq_true.1 h
  obtain ⟨j, hj, rfl⟩ := List.getElem_of_mem hx
  have := hn j hj
  rw [List.getD_eq_getElem?_getD, List.getElem?_eq_getElem hj] at this
  rw [show (some l[j]).getD noAud = l[j] from rfl, hp] at this
  cases this
theorem ixA_ge (p : Aud → Bool) (l : List Aud) : decide (ixA p l ≥ 0) = l.any p := by
  unfold ixA
  by_cases h : l.any p = true
  · rw [if_pos h, h, decide_eq_true (by omega)]
  · rw [if_neg h, Bool.eq_false_iff.2 h]; rfl

theorem add1_ct (F : Hp) (a b c : List UInt8) (d : Int) (nm op rt : List UInt8) (ht : Int) (p : Nat) (hp : Cells F ⟨p, 0, none⟩ [Str nm, Str op, Str rt, I ht]) : Ct Tryd.prog 93 [.agg #[Str (a), Str (b), Str (c), I (d)], Ptr p] [F] (fun _ : Unit => .bool (same nm op rt ht ⟨a, b, c, d⟩)) (fun _ => True) (fun _ => [F]) := by
  refine Ct.walk Tryd.func93 rfl Tryd.ntmps93 rfl (fun w0 hw0 => ?_)
  change J _ [(0, _), (1, _)] _ _ _
  refine J.seq (fun K1 hK1 => ?_)
  refine J.region ?_
  refine J.e (op_box (l := [Str (a), Str (b), Str (c), I (d)]) rfl rfl rfl) rfl rfl rfl ?_
  intro g2 _
  change J _ _ _ [F, blk g2 [Str (a), Str (b), Str (c), I (d)] 50] _
  refine J.y (op_assign rfl rfl) rfl rfl rfl ?_
  refine J.nil ?_
  refine J.then_n (J.k hK1 ?_)
  refine J.keepE [(1, _), (2, _)] ⟨rfl, rfl, trivial⟩ ?_
  refine J.seq (fun K2 hK2 => ?_)
  refine J.region ?_
  refine J.y (op_fieldAddr (j := 0) rfl rfl Tryd.underlying50 rfl Tryd.sizeOf9 rfl) rfl rfl rfl ?_
  refine J.y (op_loadB 1 (v := Str (a)) rfl rfl rfl Tryd.isAgg9 rfl) rfl rfl rfl ?_
  refine J.y (op_fieldAddr (j := 0) rfl rfl Tryd.underlying50 rfl Tryd.sizeOf9 rfl) rfl rfl rfl ?_
  refine J.y (op_load (v := Str (nm)) rfl rfl Tryd.isAgg9 (m := F) (by simp) (hp.at (i := 0) rfl)) rfl rfl rfl ?_
  refine J.y (op_seq rfl rfl rfl) rfl rfl rfl ?_
  refine J.y (op_move rfl rfl) rfl rfl rfl ?_
  refine J.split (d := 9) rfl (fun h9 => ?_) (fun h9 => ?_)
  ·
    refine J.no (Wan.is rfl rfl rfl rfl rfl) rfl rfl ?_
    refine J.no (Wan.is rfl rfl rfl rfl rfl) rfl rfl ?_
    refine J.no (Wan.is rfl rfl rfl rfl rfl) rfl rfl ?_
    refine J.no (Wan.is rfl rfl rfl rfl rfl) rfl rfl ?_
    refine J.no (Wan.is rfl rfl rfl rfl rfl) rfl rfl ?_
    refine J.y (op_pickT rfl rfl rfl) rfl rfl rfl ?_
    refine J.y (op_assign rfl rfl) rfl rfl rfl ?_
    refine J.nil ?_
    refine J.then_n (J.k hK2 ?_)
    refine J.keepE [(3, _)] ⟨rfl, trivial⟩ ?_
    refine J.ret ?_
    exact J.done hw0 (fun _ _ h => h) (res1 rfl rfl) (retOk () (by unfold same; dsimp only; first | rw [decide_eq_true h9, Bool.true_or] | rw [decide_eq_false h9, Bool.false_or]) trivial [0] rfl (by decide))
  ·
    refine J.yg (Wan.is rfl rfl rfl rfl rfl) (op_fieldAddr (j := 1) rfl rfl Tryd.underlying50 rfl Tryd.sizeOf47 rfl) rfl rfl ?_
    refine J.yg (Wan.is rfl rfl rfl rfl rfl) (op_loadA (vs := [Str (b), Str (c), I (d)]) rfl rfl Tryd.isAgg47 Tryd.sizeOf47 (m := blk g2 [Str (a), Str (b), Str (c), I (d)] 50) (by simp) (Cells.blk0.sub 1 3) rfl) rfl rfl ?_
    refine J.yg (Wan.is rfl rfl rfl rfl rfl) (op_fieldAddr (j := 1) rfl rfl Tryd.underlying50 rfl Tryd.sizeOf47 rfl) rfl rfl ?_
    refine J.yg (Wan.is rfl rfl rfl rfl rfl) (op_loadA (vs := [Str (op), Str (rt), I (ht)]) rfl rfl Tryd.isAgg47 Tryd.sizeOf47 (m := F) (by simp) (hp.sub 1 3) rfl) rfl rfl ?_
    refine J.yg (Wan.is rfl rfl rfl rfl rfl) (op_eqS rfl rfl rfl (by kernel_rfl) (fun w => eqPub3 9998 b c d op rt ht w)) rfl rfl ?_
    refine J.y (op_pickF rfl rfl rfl) rfl rfl rfl ?_
    refine J.y (op_assign rfl rfl) rfl rfl rfl ?_
    refine J.nil ?_
    refine J.then_n (J.k hK2 ?_)
    refine J.keepE [(3, _)] ⟨rfl, trivial⟩ ?_
    refine J.ret ?_
    exact J.done hw0 (fun _ _ h => h) (res1 rfl rfl) (retOk () (by unfold same; dsimp only; first | rw [decide_eq_true h9, Bool.true_or] | rw [decide_eq_false h9, Bool.false_or]) trivial [0] rfl (by decide))

theorem aindex_ct (F : Hp) (A : Option Addr) (n c : Nat) (l : List Aud) (hs : Sl F 4 A n c (audsV l)) (hnb : n ≤ 1073741824) (nm op rt : List UInt8) (ht : Int) (p : Nat) (hp : Cells F ⟨p, 0, none⟩ [Str nm, Str op, Str rt, I ht]) : Ct Tryd.prog 133 [.slice A n c, .func (.func 93) #[] #[Ptr p]] [F] (fun _ : Unit => I (ixA (same nm op rt ht) l)) (fun _ => True) (fun _ => [F]) := by
  have hn : l.length = n := by have := hs.1; simpa [audsV] using this
  refine Ct.walk Tryd.func133 rfl Tryd.ntmps133 rfl (fun w0 hw0 => ?_)
  change J _ [(0, _), (1, _)] _ _ _
  refine J.seq (fun K1 hK1 => ?_)
  refine J.region ?_
  refine J.y (op_assign rfl rfl) rfl rfl rfl ?_
  refine J.nil ?_
  refine J.then_n (J.k hK1 ?_)
  refine J.keepE [(0, _), (1, _)] ⟨rfl, rfl, trivial⟩ ?_
  refine J.seq (fun K2 hK2 => ?_)
  refine J.seq (fun K3 hK3 => ?_)
  refine J.region ?_
  refine J.y (op_move rfl rfl) rfl rfl rfl ?_
  refine J.y (op_len Tryd.underlying125 rfl rfl) rfl rfl rfl ?_
  refine J.y (op_move rfl rfl) rfl rfl rfl ?_
  refine J.nil ?_
  refine J.then_n (J.k hK3 ?_)
  refine J.keepE [(0, _), (1, _), (7, _), (8, _)] ⟨rfl, rfl, rfl, rfl, trivial⟩ ?_
  refine J.block ?_
  refine J.loop (X := Nat) (fun ζ => [(0, .slice A n c), (1, .func (.func 93) #[] #[Ptr p]), (7, I ((n : Nat) : Int)), (8, I ((ζ : Nat) : Int))]) (fun ζ => [F]) (fun ζ => ζ ≤ n ∧ ∀ j < ζ, same nm op rt ht (l.getD j noAud) = false) (fun ζ => n - ζ) 0 (⟨Nat.zero_le _, fun j h => absurd h (Nat.not_lt_zero j)⟩) ⟨rfl, rfl, rfl, rfl, trivial⟩ (fun _ h => h) ?_
  rintro k ⟨hk, hno⟩ I0 hI0
  refine J.seq (fun K4 hK4 => ?_)
  refine J.region ?_
  refine J.y (op_lss rfl rfl rfl) rfl rfl rfl ?_
  refine J.nil ?_
  refine J.then_n (J.k hK4 ?_)
  refine J.keepE [(0, _), (1, _), (7, _), (8, _), (9, _)] ⟨rfl, rfl, rfl, rfl, rfl, trivial⟩ ?_
  refine J.seq (fun K5 hK5 => ?_)
  refine J.ite rfl (fun h9 => ?_) (fun h9 => ?_)
  ·
    refine J.skip ?_
    refine J.then_n (J.k hK5 ?_)
    refine J.keepE [(0, _), (1, _), (7, _), (8, _)] ⟨rfl, rfl, rfl, rfl, trivial⟩ ?_
    refine J.seq (fun K6 hK6 => ?_)
    refine J.block ?_
    refine J.seq (fun K7 hK7 => ?_)
    refine J.region ?_
    refine J.y (op_move rfl rfl) rfl rfl rfl ?_
    refine J.y (op_assign rfl rfl) rfl rfl rfl ?_
    refine J.nil ?_
    refine J.then_n (J.k hK7 ?_)
    refine J.keepE [(0, _), (1, _), (5, _), (7, _), (8, _)] ⟨rfl, rfl, rfl, rfl, rfl, trivial⟩ ?_
    refine J.seq (fun K8 hK8 => ?_)
    refine J.region ?_
    refine J.y (op_move rfl rfl) rfl rfl rfl ?_
    refine J.y (op_move rfl rfl) rfl rfl rfl ?_
    refine J.y (op_move rfl rfl) rfl rfl rfl ?_
    refine J.y (op_indexAddr (i := k) rfl rfl rfl Tryd.underlying125 Tryd.sizeOf50 hs (by first | omega | (simp only [List.length_append, List.length_cons, List.length_nil, List.length_take, List.length_drop] at *; omega))) rfl rfl rfl ?_
    refine J.y (op_loadA (vs := [Str ((l.getD k noAud).nm), Str ((l.getD k noAud).op), Str ((l.getD k noAud).rt), I ((l.getD k noAud).ht)]) rfl rfl Tryd.isAgg50 Tryd.sizeOf50 (m := F) (by simp) (hs.elem (audsV_get (by first | omega | (simp only [List.length_append, List.length_cons, List.length_nil, List.length_take, List.length_drop] at *; omega)))) rfl) rfl rfl rfl ?_
    refine J.e (op_callV rfl rfl rfl ent93 (Ct.use0 (fun F' hF => add1_ct F' ((l.getD k noAud).nm) ((l.getD k noAud).op) ((l.getD k noAud).rt) ((l.getD k noAud).ht) nm op rt ht p (hp.mono (hF F (by simp)))))) rfl rfl rfl ?_
    intro g16 _
    refine J.nil ?_
    refine J.then_n (J.k hK8 ?_)
    refine J.keepE [(0, _), (1, _), (5, _), (7, _), (8, _), (16, _)] ⟨rfl, rfl, rfl, rfl, rfl, rfl, trivial⟩ ?_
    refine J.cond rfl (fun h16 => ?_) (fun h16 => ?_)
    ·
      refine J.seq (fun K9 hK9 => ?_)
      refine J.region ?_
      refine J.y (op_move rfl rfl) rfl rfl rfl ?_
      refine J.y (op_assign rfl rfl) rfl rfl rfl ?_
      refine J.nil ?_
      refine J.then_n (J.k hK9 ?_)
      refine J.keepE [(4, _)] ⟨rfl, trivial⟩ ?_
      refine J.ret ?_
      refine J.blk_r ?_
      refine J.then_r ?_
      refine J.then_r ?_
      refine J.blk_r ?_
      refine J.then_r ?_
      exact J.done hw0 (fun _ _ h => h) (res1 rfl rfl) (retOk () (by rw [ixA_at (k := k) (by omega) (by simpa using h16) hno]) trivial [0] rfl (by decide))
    ·
      refine J.skip ?_
      refine J.blk_n ?_
      refine J.then_n (J.k hK6 ?_)
      refine J.keepE [(0, _), (1, _), (7, _), (8, _)] ⟨rfl, rfl, rfl, rfl, trivial⟩ ?_
      refine J.region ?_
      refine J.y ((op_add rfl rfl rfl (by first | omega | (simp only [List.length_append, List.length_cons, List.length_nil, List.length_take, List.length_drop] at *; omega))).as (v' := I ((k + 1 : Nat) : Int)) (congrArg I (by omega))) rfl rfl rfl ?_
      refine J.y (op_move rfl rfl) rfl rfl rfl ?_
      refine J.nil ?_
      refine J.then_n ?_
      exact J.kk (k + 1) (fun η (hη : _ ∧ n - η < n - k) => hI0 η hη.1 hη.2) ⟨⟨by omega, fun j hj => by rcases Nat.lt_succ_iff_lt_or_eq.1 hj with h | rfl; exact hno j h; simpa using h16⟩, by first | omega | (dsimp only; omega)⟩ ⟨rfl, rfl, rfl, rfl, trivial⟩ (fun _ h => h)
  ·
    refine J.exit ?_
    refine J.then_x ?_
    refine J.then_x ?_
    refine J.blk_eq ?_
    refine J.then_n (J.k hK2 ?_)
    refine J.keepE [] trivial ?_
    refine J.seq (fun K10 hK10 => ?_)
    refine J.region ?_
    refine J.y (op_assign rfl rfl) rfl rfl rfl ?_
    refine J.nil ?_
    refine J.then_n (J.k hK10 ?_)
    refine J.keepE [(4, _)] ⟨rfl, trivial⟩ ?_
    refine J.ret ?_
    exact J.done hw0 (fun _ _ h => h) (res1 rfl rfl) (retOk () (by rw [ixA_no (fun j hj => hno j (by omega))]) trivial [0] rfl (by decide))

theorem acontains_ct (F : Hp) (A : Option Addr) (n c : Nat) (l : List Aud) (hs : Sl F 4 A n c (audsV l)) (hnb : n ≤ 1073741824) (nm op rt : List UInt8) (ht : Int) (p : Nat) (hp : Cells F ⟨p, 0, none⟩ [Str nm, Str op, Str rt, I ht]) : Ct Tryd.prog 92 [.slice A n c, .func (.func 93) #[] #[Ptr p]] [F] (fun _ : Unit => .bool (l.any (same nm op rt ht))) (fun _ => True) (fun _ => [F]) := by
  refine Ct.walk Tryd.func92 rfl Tryd.ntmps92 rfl (fun w0 hw0 => ?_)
  change J _ [(0, _), (1, _)] _ _ _
  refine J.seq (fun K1 hK1 => ?_)
  refine J.region ?_
  refine J.y (op_assign rfl rfl) rfl rfl rfl ?_
  refine J.nil ?_
  refine J.then_n (J.k hK1 ?_)
  refine J.keepE [(0, _), (1, _)] ⟨rfl, rfl, trivial⟩ ?_
  refine J.seq (fun K2 hK2 => ?_)
  refine J.region ?_
  refine J.y (op_move rfl rfl) rfl rfl rfl ?_
  refine J.y (op_move rfl rfl) rfl rfl rfl ?_
  refine J.e (op_call rfl rfl ent133 (Ct.use0 (fun F' hF => aindex_ct F' A n c l (hs.mono (hF F (by simp))) (by omega) nm op rt ht p (hp.mono (hF F (by simp)))))) rfl rfl rfl ?_
  intro g7 _
  refine J.y (op_geq rfl rfl rfl) rfl rfl rfl ?_
  refine J.y (op_assign rfl rfl) rfl rfl rfl ?_
  refine J.nil ?_
  refine J.then_n (J.k hK2 ?_)
  refine J.keepE [(4, _)] ⟨rfl, trivial⟩ ?_
  refine J.ret ?_
  exact J.done hw0 (fun _ _ h => h) (res1 rfl rfl) (retOk () (by rw [ixA_ge]) trivial [0] rfl (by decide))

theorem amay_ct (F : Hp) (hA : Cells F ⟨0, 0, none⟩ alphaV) (hT : TabsF F) (nm op rt : List UInt8) (ht : Int) (h1 : nm.length ≤ 1000000) (h2 : op.length ≤ 1048576) (h3 : rt.length ≤ 1048576) : Ct Tryd.prog 91 [.agg #[Str (nm), Str (op), Str (rt), I (ht)]] [F] (fun _ : Unit => I (mayE nm op rt ht)) (fun _ => True) (fun _ => [F]) := by
  refine Ct.walk Tryd.func91 rfl Tryd.ntmps91 rfl (fun w0 hw0 => ?_)
  change J _ [(0, _)] _ _ _
  refine J.seq (fun K1 hK1 => ?_)
  refine J.region ?_
  refine J.e (op_box (l := [Str (nm), Str (op), Str (rt), I (ht)]) rfl rfl rfl) rfl rfl rfl ?_
  intro g1 _
  change J _ _ _ [F, blk g1 [Str (nm), Str (op), Str (rt), I (ht)] 50] _
  refine J.y (op_assign rfl rfl) rfl rfl rfl ?_
  refine J.nil ?_
  refine J.then_n (J.k hK1 ?_)
  refine J.keepE [(1, _)] ⟨rfl, trivial⟩ ?_
  refine J.seq (fun K2 hK2 => ?_)
  refine J.region ?_
  refine J.y (op_fieldAddr (j := 0) rfl rfl Tryd.underlying50 rfl Tryd.sizeOf9 rfl) rfl rfl rfl ?_
  refine J.y (op_loadB 1 (v := Str (nm)) rfl rfl rfl Tryd.isAgg9 rfl) rfl rfl rfl ?_
  refine J.e (op_call rfl rfl ent16 (Ct.use0 (fun F' hF => normal_ct F' (hA.mono (hF F (by simp))) (hT.mono (hF F (by simp))) nm (by first | omega | decide)))) rfl rfl rfl ?_
  intro g8 _
  refine J.y (op_move rfl rfl) rfl rfl rfl ?_
  refine J.y (op_extract (v := Str ((normal nm).1)) rfl rfl rfl) rfl rfl rfl ?_
  refine J.y (op_extract (v := I (((normal nm).2 : Nat) : Int)) rfl rfl rfl) rfl rfl rfl ?_
  refine J.y (op_assign rfl rfl) rfl rfl rfl ?_
  refine J.y (op_assign rfl rfl) rfl rfl rfl ?_
  refine J.nil ?_
  refine J.then_n (J.k hK2 ?_)
  refine J.keepE [(1, _), (3, _), (4, _)] ⟨rfl, rfl, rfl, trivial⟩ ?_
  refine J.seq (fun K3 hK3 => ?_)
  refine J.block ?_
  refine J.seq (fun K4 hK4 => ?_)
  refine J.region ?_
  refine J.y (op_move rfl rfl) rfl rfl rfl ?_
  refine J.y (op_neq rfl rfl rfl) rfl rfl rfl ?_
  refine J.y (op_assign rfl rfl) rfl rfl rfl ?_
  refine J.nil ?_
  refine J.then_n (J.k hK4 ?_)
  refine J.keepE [(1, _), (3, _), (4, _), (11, _)] ⟨rfl, rfl, rfl, rfl, trivial⟩ ?_
  refine J.ite rfl (fun h11 => ?_) (fun h11 => ?_)
  ·
    refine J.seq (fun K5 hK5 => ?_)
    refine J.region ?_
    refine J.y (op_move rfl rfl) rfl rfl rfl ?_
    refine J.y (op_assign rfl rfl) rfl rfl rfl ?_
    refine J.nil ?_
    refine J.then_n (J.k hK5 ?_)
    refine J.keepE [(2, _)] ⟨rfl, trivial⟩ ?_
    refine J.ret ?_
    refine J.blk_r ?_
    refine J.then_r ?_
    exact J.done hw0 (fun _ _ h => h) (res1 rfl rfl) (retOk () (by unfold mayE codeN; rw [if_pos (show (normal nm).2 ≠ 0 by omega), if_pos (by omega)]) trivial [0] rfl (by decide))
  ·
    refine J.seq (fun K6 hK6 => ?_)
    refine J.region ?_
    refine J.y (op_move rfl rfl) rfl rfl rfl ?_
    refine J.y (op_fieldAddr (j := 0) rfl rfl Tryd.underlying50 rfl Tryd.sizeOf9 rfl) rfl rfl rfl ?_
    refine J.y (op_loadB 1 (v := Str (nm)) rfl rfl rfl Tryd.isAgg9 rfl) rfl rfl rfl ?_
    refine J.y (op_sne rfl rfl rfl) rfl rfl rfl ?_
    refine J.y (op_assign rfl rfl) rfl rfl rfl ?_
    refine J.nil ?_
    refine J.then_n (J.k hK6 ?_)
    refine J.keepE [(1, _), (15, _)] ⟨rfl, rfl, trivial⟩ ?_
    refine J.ite rfl (fun h15 => ?_) (fun h15 => ?_)
    ·
      refine J.seq (fun K7 hK7 => ?_)
      refine J.region ?_
      refine J.y (op_assign rfl rfl) rfl rfl rfl ?_
      refine J.nil ?_
      refine J.then_n (J.k hK7 ?_)
      refine J.keepE [(2, _)] ⟨rfl, trivial⟩ ?_
      refine J.ret ?_
      refine J.blk_r ?_
      refine J.then_r ?_
      exact J.done hw0 (fun _ _ h => h) (res1 rfl rfl) (retOk () (by unfold mayE codeN; rw [if_neg (show ¬ (normal nm).2 ≠ 0 by omega), if_pos h15]; rfl) trivial [0] rfl (by decide))
    ·
      refine J.skip ?_
      refine J.blk_n ?_
      refine J.then_n (J.k hK3 ?_)
      refine J.keepE [(1, _)] ⟨rfl, trivial⟩ ?_
      refine J.seq (fun K8 hK8 => ?_)
      refine J.region ?_
      refine J.y (op_fieldAddr (j := 1) rfl rfl Tryd.underlying50 rfl Tryd.sizeOf47 rfl) rfl rfl rfl ?_
      refine J.y (op_loadA (vs := [Str (op), Str (rt), I (ht)]) rfl rfl Tryd.isAgg47 Tryd.sizeOf47 (m := blk g1 [Str (nm), Str (op), Str (rt), I (ht)] 50) (by simp) (Cells.blk0.sub 1 3) rfl) rfl rfl rfl ?_
      refine J.e (op_call rfl rfl ent132 (Ct.use0 (fun F' hF => pencode_ct F' op rt ht (by omega) (by omega)))) rfl rfl rfl ?_
      intro g23 _
      refine J.y (op_move rfl rfl) rfl rfl rfl ?_
      refine J.y (op_extract (v := Str (pubEnc op rt ht)) rfl rfl rfl) rfl rfl rfl ?_
      refine J.y (op_extract (v := I (pubErr op rt ht)) rfl rfl rfl) rfl rfl rfl ?_
      refine J.y (op_assign rfl rfl) rfl rfl rfl ?_
      refine J.nil ?_
      refine J.then_n (J.k hK8 ?_)
      refine J.keepE [(4, _)] ⟨rfl, trivial⟩ ?_
      refine J.seq (fun K9 hK9 => ?_)
      refine J.region ?_
      refine J.y (op_move rfl rfl) rfl rfl rfl ?_
      refine J.y (op_assign rfl rfl) rfl rfl rfl ?_
      refine J.nil ?_
      refine J.then_n (J.k hK9 ?_)
      refine J.keepE [(2, _)] ⟨rfl, trivial⟩ ?_
      refine J.ret ?_
      exact J.done hw0 (fun _ _ h => h) (res1 rfl rfl) (retOk () (by unfold mayE codeN; rw [if_neg (show ¬ (normal nm).2 ≠ 0 by omega), if_neg h15]; rfl) trivial [0] rfl (by decide))

theorem rnew_ct (F : Hp)  : Ct Tryd.prog 26 [] [F] (fun x : Nat × Hp => Ptr x.1) (fun x => Rost x.2 x.1 ([])) (fun x => [x.2, F]) := by
  refine Ct.walk Tryd.func26 rfl Tryd.ntmps26 rfl (fun w0 hw0 => ?_)
  change J _ [] _ _ _
  refine J.seq (fun K1 hK1 => ?_)
  refine J.region ?_
  refine J.y (op_assign rfl rfl) rfl rfl rfl ?_
  refine J.nil ?_
  refine J.then_n (J.k hK1 ?_)
  refine J.keepE [] trivial ?_
  refine J.seq (fun K2 hK2 => ?_)
  refine J.region ?_
  refine J.y (op_buildStruct (l := []) (vs := []) (places := [(0, 1)]) (r := [.slice none 0 0]) rfl rfl rfl Tryd.underlying127 Tryd.zeroValue127 (fun _ => by kernel_rfl) rfl) rfl rfl rfl ?_
  refine J.e (op_box (l := [.slice none 0 0]) rfl rfl rfl) rfl rfl rfl ?_
  intro g2 _
  change J _ _ _ [F, blk g2 [.slice none 0 0] 127] _
  refine J.y (op_assign rfl rfl) rfl rfl rfl ?_
  refine J.nil ?_
  refine J.then_n (J.k hK2 ?_)
  refine J.keepE [(0, _)] ⟨rfl, trivial⟩ ?_
  refine J.ret ?_
  refine J.addEmpty [1, 2, 0] [blk g2 [.slice none 0 0] 127, (fun _ => none), F] rfl (by decide) ?_
  exact J.done hw0 (fun _ _ h => h) (res1 rfl rfl) (retOkU (g2, U [blk g2 [.slice none 0 0] 127, (fun _ => none)]) (rfl) (fun hd => ⟨none, 0, 0, (fun _ => none), rfl, hd, RowQ.nil⟩) [0, 1, 2] rfl rfl (by decide))

theorem radd_ct (F m : Hp) (g : Nat) (l : List Aud) (hb : Rost m g l) (hA : Cells F ⟨0, 0, none⟩ alphaV) (hT : TabsF F) (nm op rt : List UInt8) (ht : Int) (h1 : nm.length ≤ 1000000) (h2 : op.length ≤ 1048576) (h3 : rt.length ≤ 1048576) (hl : l.length ≤ 1000000) : Ct Tryd.prog 27 [Ptr g, .agg #[Str (nm), Str (op), Str (rt), I (ht)]] [m, F] (fun _ : Hp => .tuple #[I (addNo l nm op rt ht), I (addE l nm op rt ht)]) (fun m' => Rost m' g (addL l nm op rt ht)) (fun m' => [m', F]) := by
  obtain ⟨A, n, c, mr, rfl, hd, hr⟩ := hb
  have hn : l.length = n := by have := hr.len; simpa [audsV] using this
  have hnc := hr.2.2.1
  refine Ct.walk Tryd.func27 rfl Tryd.ntmps27 rfl (fun w0 hw0 => ?_)
  change J _ [(0, _), (1, _)] _ _ _
  refine J.splitU hd ?_
  refine J.seq (fun K1 hK1 => ?_)
  refine J.region ?_
  refine J.e (op_box (l := [Str (nm), Str (op), Str (rt), I (ht)]) rfl rfl rfl) rfl rfl rfl ?_
  intro g3 _
  change J _ _ _ [blk g [.slice A n c] 127, mr, F, blk g3 [Str (nm), Str (op), Str (rt), I (ht)] 50] _
  refine J.y (op_assign rfl rfl) rfl rfl rfl ?_
  refine J.y (op_assign rfl rfl) rfl rfl rfl ?_
  refine J.nil ?_
  refine J.then_n (J.k hK1 ?_)
  refine J.keepE [(0, _), (3, _)] ⟨rfl, rfl, trivial⟩ ?_
  refine J.seq (fun K2 hK2 => ?_)
  refine J.seq (fun K3 hK3 => ?_)
  refine J.region ?_
  refine J.y (op_move rfl rfl) rfl rfl rfl ?_
  refine J.y (op_peq Tryd.underlying40 rfl rfl rfl) rfl rfl rfl ?_
  refine J.nil ?_
  refine J.then_n (J.k hK3 ?_)
  refine J.keepE [(0, _), (3, _), (8, _)] ⟨rfl, rfl, rfl, trivial⟩ ?_
  refine J.condF rfl rfl ?_
  refine J.skip ?_
  refine J.then_n (J.k hK2 ?_)
  refine J.keepE [(0, _), (3, _)] ⟨rfl, rfl, trivial⟩ ?_
  refine J.seq (fun K4 hK4 => ?_)
  refine J.seq (fun K5 hK5 => ?_)
  refine J.region ?_
  refine J.y (op_loadBA 3 rfl rfl rfl Tryd.isAgg50 Tryd.sizeOf50 rfl) rfl rfl rfl ?_
  refine J.e (op_call rfl rfl ent91 (Ct.use0 (fun F' hF => amay_ct F' (hA.mono (hF F (by simp))) (hT.mono (hF F (by simp))) nm op rt ht (by omega) (by omega) (by omega)))) rfl rfl rfl ?_
  intro g10 _
  refine J.y (op_assign rfl rfl) rfl rfl rfl ?_
  refine J.nil ?_
  refine J.then_n (J.k hK5 ?_)
  refine J.keepE [(0, _), (3, _), (6, _)] ⟨rfl, rfl, rfl, trivial⟩ ?_
  refine J.seq (fun K6 hK6 => ?_)
  refine J.region ?_
  refine J.y (op_move rfl rfl) rfl rfl rfl ?_
  refine J.y (op_neq rfl rfl rfl) rfl rfl rfl ?_
  refine J.nil ?_
  refine J.then_n (J.k hK6 ?_)
  refine J.keepE [(0, _), (3, _), (6, _), (12, _)] ⟨rfl, rfl, rfl, rfl, trivial⟩ ?_
  refine J.ite rfl (fun h12 => ?_) (fun h12 => ?_)
  ·
    refine J.seq (fun K7 hK7 => ?_)
    refine J.region ?_
    refine J.y (op_move rfl rfl) rfl rfl rfl ?_
    refine J.y (op_assign rfl rfl) rfl rfl rfl ?_
    refine J.y (op_assign rfl rfl) rfl rfl rfl ?_
    refine J.nil ?_
    refine J.then_n (J.k hK7 ?_)
    refine J.keepE [(4, _), (5, _)] ⟨rfl, rfl, trivial⟩ ?_
    refine J.ret ?_
    refine J.then_r ?_
    have hE : addE l nm op rt ht = mayE nm op rt ht := by unfold addE; rw [if_pos h12]
    have hL : addL l nm op rt ht = l := by unfold addL; rw [hE, if_neg h12]
    have hN : addNo l nm op rt ht = 0 := by unfold addNo; rw [hE, if_neg h12]
    exact J.done hw0 (fun _ _ h => h) (res2 rfl rfl rfl) (retOkU (U [blk g [.slice A n c] 127, mr]) (by rw [hE, hN]) (fun hd => by rw [hL]; exact ⟨A, n, c, mr, rfl, hd, hr⟩) [0, 1, 2] rfl rfl (by decide))
  ·
    refine J.skip ?_
    refine J.then_n (J.k hK4 ?_)
    refine J.keepE [(0, _), (3, _)] ⟨rfl, rfl, trivial⟩ ?_
    refine J.seq (fun K8 hK8 => ?_)
    refine J.block ?_
    refine J.seq (fun K9 hK9 => ?_)
    refine J.region ?_
    refine J.y (op_move rfl rfl) rfl rfl rfl ?_
    refine J.y (op_nilCheck rfl rfl) rfl rfl rfl ?_
    refine J.y (op_fieldAddr (j := 0) rfl rfl Tryd.underlying127 rfl Tryd.sizeOf125 rfl) rfl rfl rfl ?_
    refine J.y (op_loadB 0 (v := .slice A n c) rfl rfl rfl Tryd.isAgg125 rfl) rfl rfl rfl ?_
    refine J.y (op_makeFunc rfl rfl) rfl rfl rfl ?_
    refine J.e (op_call rfl rfl ent92 (Ct.use0 (fun F' hF => acontains_ct F' A n c l (hr.sl.mono (hF mr (by simp))) (by omega) nm op rt ht g3 (Cells.blk0.mono (hF (blk g3 [Str (nm), Str (op), Str (rt), I (ht)] 50) (by simp)))))) rfl rfl rfl ?_
    intro g20 _
    refine J.y (op_assign rfl rfl) rfl rfl rfl ?_
    refine J.nil ?_
    refine J.then_n (J.k hK9 ?_)
    refine J.keepE [(0, _), (3, _), (14, _)] ⟨rfl, rfl, rfl, trivial⟩ ?_
    refine J.cond rfl (fun h14 => ?_) (fun h14 => ?_)
    ·
      refine J.seq (fun K10 hK10 => ?_)
      have hE : addE l nm op rt ht = 19 := by unfold addE; rw [if_neg h12, if_pos h14]
      have hL : addL l nm op rt ht = l := by unfold addL; rw [hE]; rfl
      have hN : addNo l nm op rt ht = 0 := by unfold addNo; rw [hE]; rfl
      refine J.region ?_
      refine J.y (op_assign rfl rfl) rfl rfl rfl ?_
      refine J.y (op_assign rfl rfl) rfl rfl rfl ?_
      refine J.nil ?_
      refine J.then_n (J.k hK10 ?_)
      refine J.keepE [(4, _), (5, _)] ⟨rfl, rfl, trivial⟩ ?_
      refine J.ret ?_
      refine J.blk_r ?_
      refine J.then_r ?_
      exact J.done hw0 (fun _ _ h => h) (res2 rfl rfl rfl) (retOkU (U [blk g [.slice A n c] 127, mr]) (by rw [hE, hN]) (fun hd => by rw [hL]; exact ⟨A, n, c, mr, rfl, hd, hr⟩) [0, 1, 2] rfl rfl (by decide))
    ·
      refine J.seq (fun K11 hK11 => ?_)
      refine J.region ?_
      refine J.y (op_move rfl rfl) rfl rfl rfl ?_
      refine J.y (op_nilCheck rfl rfl) rfl rfl rfl ?_
      refine J.y (op_fieldAddr (j := 0) rfl rfl Tryd.underlying127 rfl Tryd.sizeOf125 rfl) rfl rfl rfl ?_
      refine J.y (op_loadB 0 (v := .slice A n c) rfl rfl rfl Tryd.isAgg125 rfl) rfl rfl rfl ?_
      refine J.y (op_len Tryd.underlying125 rfl rfl) rfl rfl rfl ?_
      refine J.y (op_geq rfl rfl rfl) rfl rfl rfl ?_
      refine J.y (op_assign rfl rfl) rfl rfl rfl ?_
      refine J.nil ?_
      refine J.then_n (J.k hK11 ?_)
      refine J.keepE [(0, _), (3, _), (21, _)] ⟨rfl, rfl, rfl, trivial⟩ ?_
      refine J.ite rfl (fun h21 => ?_) (fun h21 => ?_)
      ·
        refine J.seq (fun K12 hK12 => ?_)
        have hE : addE l nm op rt ht = 9 := by unfold addE; rw [if_neg h12, if_neg (by simpa using h14), if_pos (by omega)]
        have hL : addL l nm op rt ht = l := by unfold addL; rw [hE]; rfl
        have hN : addNo l nm op rt ht = 0 := by unfold addNo; rw [hE]; rfl
        refine J.region ?_
        refine J.y (op_assign rfl rfl) rfl rfl rfl ?_
        refine J.y (op_assign rfl rfl) rfl rfl rfl ?_
        refine J.nil ?_
        refine J.then_n (J.k hK12 ?_)
        refine J.keepE [(4, _), (5, _)] ⟨rfl, rfl, trivial⟩ ?_
        refine J.ret ?_
        refine J.blk_r ?_
        refine J.then_r ?_
        exact J.done hw0 (fun _ _ h => h) (res2 rfl rfl rfl) (retOkU (U [blk g [.slice A n c] 127, mr]) (by rw [hE, hN]) (fun hd => by rw [hL]; exact ⟨A, n, c, mr, rfl, hd, hr⟩) [0, 1, 2] rfl rfl (by decide))
      ·
        refine J.skip ?_
        refine J.blk_n ?_
        refine J.then_n (J.k hK8 ?_)
        refine J.keepE [(0, _), (3, _)] ⟨rfl, rfl, trivial⟩ ?_
        refine J.seq (fun K13 hK13 => ?_)
        have hE : addE l nm op rt ht = 0 := by unfold addE; rw [if_neg h12, if_neg (by simpa using h14), if_neg (by omega)]
        have hL : addL l nm op rt ht = l ++ [⟨nm, op, rt, ht⟩] := by unfold addL; rw [hE]; rfl
        have hN : addNo l nm op rt ht = ((l.length : Nat) : Int) := by unfold addNo; rw [hE]; rfl
        refine J.draw [blk g [.slice A n c] 127, blk g3 [Str (nm), Str (op), Str (rt), I (ht)] 50] [10] (.y 0 (.y 1 (.y 2 (.y 3 (.y 4 (.y 5 (.e 6 (.e 7 (.y 8 (.y 9 (.e 10 .nil))))))))))) Tryd.wide (by decide +kernel) (by simp) ?_
        refine J.dy rfl (op_move rfl rfl) rfl rfl rfl rfl ?_
        refine J.dy rfl (op_move rfl rfl) rfl rfl rfl rfl ?_
        refine J.dy rfl (op_nilCheck rfl rfl) rfl rfl rfl rfl ?_
        refine J.dy rfl (op_fieldAddr (j := 0) rfl rfl Tryd.underlying127 rfl Tryd.sizeOf125 rfl) rfl rfl rfl rfl ?_
        refine J.dy rfl (op_loadB 0 (v := .slice A n c) rfl rfl rfl Tryd.isAgg125 rfl) rfl rfl rfl rfl ?_
        refine J.dy rfl (op_loadBA 1 rfl rfl rfl Tryd.isAgg50 Tryd.sizeOf50 rfl) rfl rfl rfl rfl ?_
        refine J.de rfl (op_buildSlice (l := [.tmp 33]) (xs := [[Str (nm), Str (op), Str (rt), I (ht)]]) rfl rfl rfl rfl Tryd.underlying125 el50 rfl (by decide) (by decide) (by simp)) rfl rfl rfl (by simp) ?_
        intro g34 _
        change J _ _ _ [blk g [.slice A n c] 127, mr, F, blk g3 [Str (nm), Str (op), Str (rt), I (ht)] 50, blk g34 [Str (nm), Str (op), Str (rt), I (ht)] 50] _
        refine J.de rfl (op_append (i := 1) (xs := audsV l) (m2 := blk g34 [Str (nm), Str (op), Str (rt), I (ht)] 50) (ys := [[Str (nm), Str (op), Str (rt), I (ht)]]) rfl rfl rfl Tryd.underlying125 Tryd.underlying125 el50 rfl hr (by simp) ((row_blk (q := True) (xs := audsV [(⟨nm, op, rt, ht⟩ : Aud)]) rfl (by intro x hx; rw [List.mem_singleton.1 hx]; rfl)).sl) rfl (by first | omega | (simp only [List.length_append, List.length_cons, List.length_nil, List.length_take, List.length_drop] at *; omega)) (by first | omega | (simp only [List.length_append, List.length_cons, List.length_nil, List.length_take, List.length_drop] at *; omega))) rfl rfl rfl (by simp) ?_
        rintro ⟨A35, c35, m35⟩ h35
        try dsimp only at h35
        change J _ ((35, .slice A35 (n + 1) c35) :: _) _ [blk g [.slice A n c] 127, m35, F, blk g3 [Str (nm), Str (op), Str (rt), I (ht)] 50, blk g34 [Str (nm), Str (op), Str (rt), I (ht)] 50] _
        replace h35 : Row m35 50 4 A35 (n + 1) c35 (audsV (l ++ ([(⟨nm, op, rt, ht⟩ : Aud)]))) := by rw [audsV_snoc]; exact h35
        refine J.dy rfl (op_nilCheck rfl rfl) rfl rfl rfl rfl ?_
        refine J.dy rfl (op_fieldAddr (j := 0) rfl rfl Tryd.underlying127 rfl Tryd.sizeOf125 rfl) rfl rfl rfl rfl ?_
        refine J.ds rfl (op_storeAll (i := 0) (l := [.slice A n c]) (vs := [.slice A35 (n + 1) c35]) rfl rfl rfl rfl rfl Tryd.sizeOf125 rfl rfl) rfl rfl rfl (fun _ _ => ?_)
        change J _ _ _ [blk g [.slice A35 (n + 1) c35] 127, m35, F, blk g3 [Str (nm), Str (op), Str (rt), I (ht)] 50, blk g34 [Str (nm), Str (op), Str (rt), I (ht)] 50] _
        refine J.dnil ?_
        refine J.then_n (J.k hK13 ?_)
        refine J.keepE [(0, _)] ⟨rfl, trivial⟩ ?_
        refine J.seq (fun K14 hK14 => ?_)
        refine J.region ?_
        refine J.y (op_move rfl rfl) rfl rfl rfl ?_
        refine J.y (op_nilCheck rfl rfl) rfl rfl rfl ?_
        refine J.y (op_fieldAddr (j := 0) rfl rfl Tryd.underlying127 rfl Tryd.sizeOf125 rfl) rfl rfl rfl ?_
        refine J.y (op_loadB 0 (v := .slice A35 (n + 1) c35) rfl rfl rfl Tryd.isAgg125 rfl) rfl rfl rfl ?_
        refine J.y (op_len Tryd.underlying125 rfl rfl) rfl rfl rfl ?_
        refine J.y (op_sub rfl rfl rfl (by first | omega | (simp only [List.length_append, List.length_cons, List.length_nil, List.length_take, List.length_drop] at *; omega))) rfl rfl rfl ?_
        refine J.y (op_assign rfl rfl) rfl rfl rfl ?_
        refine J.y (op_assign rfl rfl) rfl rfl rfl ?_
        refine J.nil ?_
        refine J.then_n (J.k hK14 ?_)
        refine J.keepE [(4, _), (5, _)] ⟨rfl, rfl, trivial⟩ ?_
        refine J.ret ?_
        exact J.done hw0 (fun _ _ h => h) (res2 rfl rfl rfl) (retOkU (U [blk g [.slice A35 (n + 1) c35] 127, m35]) (by rw [hE, hN, hn, show ((n + 1 : Nat) : Int) - 1 = ((n : Nat) : Int) by omega]) (fun hd => by rw [hL]; exact ⟨A35, n + 1, c35, m35, rfl, hd, h35⟩) [0, 1, 2] rfl rfl (by decide))

theorem rlen20_ct (F m : Hp) (g : Nat) (l : List Aud) (hb : Rost m g l)  : Ct Tryd.prog 30 [Ptr g] [m, F] (fun _ : Unit => I ((l.length : Nat) : Int)) (fun _ => True) (fun _ => [m, F]) := by
  obtain ⟨A, n, c, mr, rfl, hd, hr⟩ := hb
  have hn : l.length = n := by have := hr.len; simpa [audsV] using this
  have hnc := hr.2.2.1
  refine Ct.walk Tryd.func30 rfl Tryd.ntmps30 rfl (fun w0 hw0 => ?_)
  change J _ [(0, _)] _ _ _
  refine J.splitU hd ?_
  refine J.seq (fun K1 hK1 => ?_)
  refine J.region ?_
  refine J.y (op_assign rfl rfl) rfl rfl rfl ?_
  refine J.nil ?_
  refine J.then_n (J.k hK1 ?_)
  refine J.keepE [(0, _)] ⟨rfl, trivial⟩ ?_
  refine J.seq (fun K2 hK2 => ?_)
  refine J.seq (fun K3 hK3 => ?_)
  refine J.region ?_
  refine J.y (op_move rfl rfl) rfl rfl rfl ?_
  refine J.y (op_peq Tryd.underlying40 rfl rfl rfl) rfl rfl rfl ?_
  refine J.nil ?_
  refine J.then_n (J.k hK3 ?_)
  refine J.keepE [(0, _), (4, _)] ⟨rfl, rfl, trivial⟩ ?_
  refine J.condF rfl rfl ?_
  refine J.skip ?_
  refine J.then_n (J.k hK2 ?_)
  refine J.keepE [(0, _)] ⟨rfl, trivial⟩ ?_
  refine J.seq (fun K4 hK4 => ?_)
  refine J.region ?_
  refine J.y (op_move rfl rfl) rfl rfl rfl ?_
  refine J.y (op_nilCheck rfl rfl) rfl rfl rfl ?_
  refine J.y (op_fieldAddr (j := 0) rfl rfl Tryd.underlying127 rfl Tryd.sizeOf125 rfl) rfl rfl rfl ?_
  refine J.y (op_loadB 0 (v := .slice A n c) rfl rfl rfl Tryd.isAgg125 rfl) rfl rfl rfl ?_
  refine J.y (op_len Tryd.underlying125 rfl rfl) rfl rfl rfl ?_
  refine J.y (op_assign rfl rfl) rfl rfl rfl ?_
  refine J.nil ?_
  refine J.then_n (J.k hK4 ?_)
  refine J.keepE [(2, _)] ⟨rfl, trivial⟩ ?_
  refine J.ret ?_
  exact J.done hw0 (fun _ _ h => h) (res1 rfl rfl) (retOkU () (by rw [hn]) (fun _ => trivial) [0, 1, 2] rfl rfl (by decide))

theorem rlen0_ct (F : Hp) (g : Nat) (A : Option Addr) (n c : Nat) (hp : Cells F ⟨g, 0, none⟩ [.slice A n c]) : Ct Tryd.prog 30 [Ptr g] [F] (fun _ : Unit => I ((n : Nat) : Int)) (fun _ => True) (fun _ => [F]) := by
  refine Ct.walk Tryd.func30 rfl Tryd.ntmps30 rfl (fun w0 hw0 => ?_)
  change J _ [(0, _)] _ _ _
  refine J.seq (fun K1 hK1 => ?_)
  refine J.region ?_
  refine J.y (op_assign rfl rfl) rfl rfl rfl ?_
  refine J.nil ?_
  refine J.then_n (J.k hK1 ?_)
  refine J.keepE [(0, _)] ⟨rfl, trivial⟩ ?_
  refine J.seq (fun K2 hK2 => ?_)
  refine J.seq (fun K3 hK3 => ?_)
  refine J.region ?_
  refine J.y (op_move rfl rfl) rfl rfl rfl ?_
  refine J.y ((op_peq Tryd.underlying40 rfl rfl rfl).as (v' := .bool false) rfl) rfl rfl rfl ?_
  refine J.nil ?_
  refine J.then_n (J.k hK3 ?_)
  refine J.keepE [(0, _), (4, _)] ⟨rfl, rfl, trivial⟩ ?_
  refine J.condF rfl rfl ?_
  refine J.skip ?_
  refine J.then_n (J.k hK2 ?_)
  refine J.keepE [(0, _)] ⟨rfl, trivial⟩ ?_
  refine J.seq (fun K4 hK4 => ?_)
  refine J.region ?_
  refine J.y (op_move rfl rfl) rfl rfl rfl ?_
  refine J.y (op_nilCheck rfl rfl) rfl rfl rfl ?_
  refine J.y (op_fieldAddr (j := 0) rfl rfl Tryd.underlying127 rfl Tryd.sizeOf125 rfl) rfl rfl rfl ?_
  refine J.y (op_load (v := .slice A n c) rfl rfl Tryd.isAgg125 (m := F) (by simp) (hp)) rfl rfl rfl ?_
  refine J.y (op_len Tryd.underlying125 rfl rfl) rfl rfl rfl ?_
  refine J.y (op_assign rfl rfl) rfl rfl rfl ?_
  refine J.nil ?_
  refine J.then_n (J.k hK4 ?_)
  refine J.keepE [(2, _)] ⟨rfl, trivial⟩ ?_
  refine J.ret ?_
  exact J.done hw0 (fun _ _ h => h) (res1 rfl rfl) (retOk () rfl trivial [0] rfl (by decide))

theorem rat_ct (F m : Hp) (g : Nat) (l : List Aud) (hb : Rost m g l) (i : Int) : Ct Tryd.prog 31 [Ptr g, I (i)] [m, F] (fun _ : Unit => .tuple #[.agg #[Str ((atA l i).nm), Str ((atA l i).op), Str ((atA l i).rt), I ((atA l i).ht)], I (if 0 ≤ i ∧ i < l.length then 0 else 20)]) (fun _ => True) (fun _ => [m, F]) := by
  obtain ⟨A, n, c, mr, rfl, hd, hr⟩ := hb
  have hn : l.length = n := by have := hr.len; simpa [audsV] using this
  have hnc := hr.2.2.1
  refine Ct.walk Tryd.func31 rfl Tryd.ntmps31 rfl (fun w0 hw0 => ?_)
  change J _ [(0, _), (1, _)] _ _ _
  refine J.splitU hd ?_
  refine J.seq (fun K1 hK1 => ?_)
  refine J.region ?_
  refine J.e (op_alloc (l := [Str [], Str [], Str [], I 0]) rfl Tryd.zeroValue50 rfl) rfl rfl rfl ?_
  intro g4 _
  change J _ _ _ [blk g [.slice A n c] 127, mr, F, blk g4 [Str [], Str [], Str [], I 0] 50] _
  refine J.y (op_assign rfl rfl) rfl rfl rfl ?_
  refine J.nil ?_
  refine J.then_n (J.k hK1 ?_)
  refine J.keepE [(0, _), (1, _), (4, _)] ⟨rfl, rfl, rfl, trivial⟩ ?_
  refine J.seq (fun K2 hK2 => ?_)
  refine J.seq (fun K3 hK3 => ?_)
  refine J.region ?_
  refine J.y (op_move rfl rfl) rfl rfl rfl ?_
  refine J.y (op_lss rfl rfl rfl) rfl rfl rfl ?_
  refine J.y (op_move rfl rfl) rfl rfl rfl ?_
  refine J.split (d := 8) rfl (fun h8 => ?_) (fun h8 => ?_)
  ·
    refine J.no (Wan.is rfl rfl rfl rfl rfl) rfl rfl ?_
    refine J.no (Wan.is rfl rfl rfl rfl rfl) rfl rfl ?_
    refine J.no (Wan.is rfl rfl rfl rfl rfl) rfl rfl ?_
    refine J.no (Wan.is rfl rfl rfl rfl rfl) rfl rfl ?_
    refine J.y (op_pickT rfl rfl rfl) rfl rfl rfl ?_
    refine J.nil ?_
    refine J.then_n (J.k hK3 ?_)
    refine J.keepE [(0, _), (1, _), (4, _), (13, _)] ⟨rfl, rfl, rfl, rfl, trivial⟩ ?_
    refine J.condT rfl rfl ?_
    refine J.seq (fun K4 hK4 => ?_)
    refine J.region ?_
    refine J.y (op_buildStruct (l := []) (vs := []) (places := [(0, 1), (1, 3)]) (r := [Str [], Str [], Str [], I 0]) rfl rfl rfl Tryd.underlying50 Tryd.zeroValue50 (fun _ => by kernel_rfl) rfl) rfl rfl rfl ?_
    refine J.s (op_storeAll (i := 3) (l := [Str [], Str [], Str [], I 0]) (vs := [Str [], Str [], Str [], I 0]) rfl rfl rfl rfl rfl Tryd.sizeOf50 rfl rfl) rfl rfl (fun _ _ => ?_)
    change J _ _ _ [blk g [.slice A n c] 127, mr, F, blk g4 [Str [], Str [], Str [], I 0] 50] _
    refine J.y (op_assign rfl rfl) rfl rfl rfl ?_
    refine J.nil ?_
    refine J.then_n (J.k hK4 ?_)
    refine J.keepE [(4, _), (5, _)] ⟨rfl, rfl, trivial⟩ ?_
    refine J.ret ?_
    refine J.then_r ?_
    exact J.done hw0 (fun _ _ h => h) (rv2 rfl (RV.blkA 3 rfl rfl Tryd.isAgg50 Tryd.sizeOf50) rfl) (retOkU () (by unfold atA; rw [if_neg (by omega), if_neg (by omega)]; rfl) (fun _ => trivial) [0, 1, 2] rfl rfl (by decide))
  ·
    refine J.yg (Wan.is rfl rfl rfl rfl rfl) (op_move rfl rfl) rfl rfl ?_
    refine J.yg (Wan.is rfl rfl rfl rfl rfl) (op_move rfl rfl) rfl rfl ?_
    refine J.eg (Wan.is rfl rfl rfl rfl rfl) (op_call rfl rfl ent30 (Ct.use0 (fun F' hF => rlen0_ct F' g A n c (Cells.blk0.mono (hF (blk g [.slice A n c] 127) (by simp)))))) rfl rfl ?_
    intro g11 _
    refine J.yg (Wan.is rfl rfl rfl rfl rfl) (op_geq rfl rfl rfl) rfl rfl ?_
    refine J.y (op_pickF rfl rfl rfl) rfl rfl rfl ?_
    refine J.nil ?_
    refine J.then_n (J.k hK3 ?_)
    refine J.keepE [(0, _), (1, _), (4, _), (13, _)] ⟨rfl, rfl, rfl, rfl, trivial⟩ ?_
    refine J.ite rfl (fun h13 => ?_) (fun h13 => ?_)
    ·
      refine J.seq (fun K5 hK5 => ?_)
      refine J.region ?_
      refine J.y (op_buildStruct (l := []) (vs := []) (places := [(0, 1), (1, 3)]) (r := [Str [], Str [], Str [], I 0]) rfl rfl rfl Tryd.underlying50 Tryd.zeroValue50 (fun _ => by kernel_rfl) rfl) rfl rfl rfl ?_
      refine J.s (op_storeAll (i := 3) (l := [Str [], Str [], Str [], I 0]) (vs := [Str [], Str [], Str [], I 0]) rfl rfl rfl rfl rfl Tryd.sizeOf50 rfl rfl) rfl rfl (fun _ _ => ?_)
      change J _ _ _ [blk g [.slice A n c] 127, mr, F, blk g4 [Str [], Str [], Str [], I 0] 50] _
      refine J.y (op_assign rfl rfl) rfl rfl rfl ?_
      refine J.nil ?_
      refine J.then_n (J.k hK5 ?_)
      refine J.keepE [(4, _), (5, _)] ⟨rfl, rfl, trivial⟩ ?_
      refine J.ret ?_
      refine J.then_r ?_
      exact J.done hw0 (fun _ _ h => h) (rv2 rfl (RV.blkA 3 rfl rfl Tryd.isAgg50 Tryd.sizeOf50) rfl) (retOkU () (by unfold atA; rw [if_neg (by omega), if_neg (by omega)]; rfl) (fun _ => trivial) [0, 1, 2] rfl rfl (by decide))
    ·
      refine J.skip ?_
      refine J.then_n (J.k hK2 ?_)
      refine J.keepE [(0, _), (1, _), (4, _)] ⟨rfl, rfl, rfl, trivial⟩ ?_
      refine J.seq (fun K6 hK6 => ?_)
      obtain ⟨k, rfl⟩ := Int.eq_ofNat_of_zero_le (show 0 ≤ i by omega)
      have hk : atA l ((k : Nat) : Int) = l.getD k noAud := by unfold atA; rw [if_pos (by omega)]; rfl
      refine J.region ?_
      refine J.y (op_move rfl rfl) rfl rfl rfl ?_
      refine J.y (op_nilCheck rfl rfl) rfl rfl rfl ?_
      refine J.y (op_fieldAddr (j := 0) rfl rfl Tryd.underlying127 rfl Tryd.sizeOf125 rfl) rfl rfl rfl ?_
      refine J.y (op_loadB 0 (v := .slice A n c) rfl rfl rfl Tryd.isAgg125 rfl) rfl rfl rfl ?_
      refine J.y (op_move rfl rfl) rfl rfl rfl ?_
      refine J.y (op_indexAddr (i := k) rfl rfl rfl Tryd.underlying125 Tryd.sizeOf50 hr.sl (by first | omega | (simp only [List.length_append, List.length_cons, List.length_nil, List.length_take, List.length_drop] at *; omega))) rfl rfl rfl ?_
      refine J.y (op_loadA (vs := [Str ((l.getD k noAud).nm), Str ((l.getD k noAud).op), Str ((l.getD k noAud).rt), I ((l.getD k noAud).ht)]) rfl rfl Tryd.isAgg50 Tryd.sizeOf50 (m := mr) (by simp) (hr.sl.elem (audsV_get (by first | omega | (simp only [List.length_append, List.length_cons, List.length_nil, List.length_take, List.length_drop] at *; omega)))) rfl) rfl rfl rfl ?_
      refine J.s (op_storeAll (i := 3) (l := [Str [], Str [], Str [], I 0]) (vs := [Str ((l.getD k noAud).nm), Str ((l.getD k noAud).op), Str ((l.getD k noAud).rt), I ((l.getD k noAud).ht)]) rfl rfl rfl rfl rfl Tryd.sizeOf50 rfl rfl) rfl rfl (fun _ _ => ?_)
      change J _ _ _ [blk g [.slice A n c] 127, mr, F, blk g4 [Str ((l.getD k noAud).nm), Str ((l.getD k noAud).op), Str ((l.getD k noAud).rt), I ((l.getD k noAud).ht)] 50] _
      refine J.y (op_assign rfl rfl) rfl rfl rfl ?_
      refine J.nil ?_
      refine J.then_n (J.k hK6 ?_)
      refine J.keepE [(4, _), (5, _)] ⟨rfl, rfl, trivial⟩ ?_
      refine J.ret ?_
      exact J.done hw0 (fun _ _ h => h) (rv2 rfl (RV.blkA 3 rfl rfl Tryd.isAgg50 Tryd.sizeOf50) rfl) (retOkU () (by rw [hk, if_pos (by omega)]) (fun _ => trivial) [0, 1, 2] rfl rfl (by decide))

end Go.Proofs.YtpcffgkmpmcobaaDoor
