/- A part of the proof: contracts of functions of the program, each for every state of the heaps that it names. -/
import Derived.Test.YtnkfapecbmmpeaaDoorTopSiG12
set_option linter.unusedSimpArgs false
set_option linter.unusedVariables false
namespace Go.Proofs.YtnkfapecbmmpeaaDoor
open Go Go.Fw
set_option maxRecDepth 100000
set_option maxHeartbeats 1000000
theorem ent42 : Enters Tryd.prog 42 := Enters.of Tryd.func42 rfl (by kernel_rfl)
theorem ent75 : Enters Tryd.prog 75 := Enters.of Tryd.func75 rfl (by kernel_rfl)
theorem ent91 : Enters Tryd.prog 91 := Enters.of Tryd.func91 rfl (by kernel_rfl)
theorem ent95 : Enters Tryd.prog 95 := Enters.of Tryd.func95 rfl (by kernel_rfl)
theorem ent161 : Enters Tryd.prog 161 := Enters.of Tryd.func161 rfl (by kernel_rfl)
theorem ent162 : Enters Tryd.prog 162 := Enters.of Tryd.func162 rfl (by kernel_rfl)
theorem ent165 : Enters Tryd.prog 165 := Enters.of Tryd.func165 rfl (by kernel_rfl)
theorem ent194 : Enters Tryd.prog 194 := Enters.of Tryd.func194 rfl (by kernel_rfl)
theorem el149 : Elem Tryd.prog 149 [.int .i64 0, Str []] 24 := Elem.of (by kernel_rfl) rfl

abbrev Wri := Nat × List UInt8
/-- a disk -/
structure Dk where
  last : List (List UInt8)
  wait : List Wri
  off : Bool
  armed : Bool
  fuse : Int
  keep : List UInt8
def writV (l : List Wri) : List (List Value) := l.map fun w => [I w.1, Str w.2]
theorem writV_app (a b : List Wri) : writV (a ++ b) = writV a ++ writV b := by simp [writV]
theorem writV_get {l : List Wri} {k : Nat} (h : k < l.length) : (writV l)[k]? = some [I (l.getD k (0, [])).1, Str (l.getD k (0, [])).2] := by
  unfold writV
  rw [List.getElem?_map, getSome (0, []) h]; rfl
theorem writV_one (l : List Wri) : (writV l).all (fun x => x.all Value.oneCell') = true := by simp [writV, Value.oneCell']
theorem bytesV_len (l : List UInt8) : (bytesV l).length = l.length := by simp [bytesV]
theorem strsV_len (l : List (List UInt8)) : (strsV l).length = l.length := by simp [strsV]
theorem strsV_set (l : List (List UInt8)) (k : Nat) (x : List UInt8) : (strsV l).set k [Str x] = strsV (l.set k x) := by unfold strsV; rw [List.map_set]
theorem strsV_app9 (a b : List (List UInt8)) : strsV (a ++ b) = strsV a ++ strsV b := by simp [strsV]
def Dk.cells (d : Dk) (A : Option Addr) (c : Nat) (B : Option Addr) (e : Nat) (C : Option Addr) (f : Nat) : List Value := [.slice A d.last.length c, .slice B d.wait.length e, .bool d.off, .bool d.armed, I d.fuse, .slice C d.keep.length f]
/-- a disk in memory -/
def Dsk (mm : Hp) (g : Nat) (d : Dk) (C : Option Addr) (f : Nat) : Prop := ∃ A c mL B e mW, mm = U [blk g (d.cells A c B e C f) 126, mL, mW] ∧ Djs [blk g (d.cells A c B e C f) 126, mL, mW] ∧ Row mL 9 1 A d.last.length c (strsV d.last) ∧ Row mW 149 2 B d.wait.length e (writV d.wait)
theorem Dsk.see {mm : Hp} {g : Nat} {d : Dk} {C : Option Addr} {f : Nat} (h : Dsk mm g d C f) : ∃ A c B e, Cells mm ⟨g, 0, none⟩ (d.cells A c B e C f) ∧ Sl mm 1 A d.last.length c (strsV d.last) ∧ Sl mm 2 B d.wait.length e (writV d.wait) := by
  obtain ⟨A, c, mL, B, e, mW, rfl, hd, h1, h2⟩ := h
  exact ⟨A, c, B, e, Cells.blk0.mono (le_U hd (.head _)), h1.sl.mono (le_U hd (.tail _ (.head _))), h2.sl.mono (le_U hd (.tail _ (.tail _ (.head _))))⟩
def Dk.ready (d : Dk) (i : Int) : Int := if d.off then 8 else if i < 0 ∨ (d.last.length : Int) ≤ i then 10 else 0
/-- the last writing to a sector among the first k that wait -/
def seek (l : List Wri) (i : Nat) : Nat → Option (List UInt8)
  | 0 => none
  | k + 1 => if (l.getD k (0, [])).1 = i then some (l.getD k (0, [])).2 else seek l i k
theorem seek_zero (l : List Wri) (i : Nat) : seek l i 0 = none := rfl
theorem seek_succ (l : List Wri) (i k : Nat) : seek l i (k + 1) = if (l.getD k (0, [])).1 = i then some (l.getD k (0, [])).2 else seek l i k := rfl
def Dk.now (d : Dk) (i : Nat) : List UInt8 := (seek d.wait i d.wait.length).getD (d.last.getD i [])
def Dk.read (d : Dk) (i : Int) : List UInt8 := if d.ready i = 0 then d.now i.toNat else []
def tear (old t : List UInt8) (n : Nat) : List UInt8 := t.take n ++ old.drop n
def lastW (L : List (List UInt8)) (w : Wri) (n : Nat) : List (List UInt8) := L.set w.1 (tear (L.getD w.1 []) w.2 n)
theorem lastW_len (L : List (List UInt8)) (w : Wri) (n : Nat) : (lastW L w n).length = L.length := by unfold lastW; rw [List.length_set]
/-- what lasts behind the first k writings -/
def syncL (L : List (List UInt8)) (W : List Wri) : Nat → List (List UInt8)
  | 0 => L
  | k + 1 => lastW (syncL L W k) (W.getD k (0, [])) 64
def cutL (L : List (List UInt8)) (W : List Wri) (K : List UInt8) : Nat → List (List UInt8)
  | 0 => L
  | k + 1 => if k < K.length then lastW (cutL L W K k) (W.getD k (0, [])) (min (K.getD k 0).toNat 64) else cutL L W K k
theorem syncL_len (L : List (List UInt8)) (W : List Wri) : ∀ k, (syncL L W k).length = L.length
  | 0 => rfl
  | k + 1 => by rw [syncL, lastW_len, syncL_len L W k]
theorem cutL_len9 (L : List (List UInt8)) (W : List Wri) (K : List UInt8) : ∀ k, (cutL L W K k).length = L.length
  | 0 => rfl
  | k + 1 => by
    rw [cutL]
    split
    · rw [lastW_len, cutL_len9 L W K k]
    · exact cutL_len9 L W K k
def Dk.cut (d : Dk) (K : List UInt8) : Dk := { d with last := cutL d.last d.wait K d.wait.length, wait := [], off := true, armed := false }
def Dk.burns (d : Dk) : Prop := d.armed = true ∧ d.fuse - 1 < 0
instance (d : Dk) : Decidable d.burns := by unfold Dk.burns; infer_instance
def Dk.burn (d : Dk) : Dk := if d.armed = true then (if d.fuse - 1 < 0 then { d with fuse := d.fuse - 1 }.cut d.keep else { d with fuse := d.fuse - 1 }) else d
def full (s : List UInt8) : List UInt8 := s ++ List.replicate (64 - s.length) 0
theorem full_len {s : List UInt8} (h : s.length ≤ 64) : (full s).length = 64 := by unfold full; rw [List.length_append, List.length_replicate]; omega
/-- each text has a sector's length, each writing its place -/
structure Dk.ok0 (d : Dk) : Prop where
  l64 : ∀ s ∈ d.last, s.length = 64
  w64 : ∀ w ∈ d.wait, w.1 < d.last.length ∧ w.2.length = 64
  n0 : 0 < d.last.length
  n1 : d.last.length ≤ 1024
structure Dk.ok (d : Dk) : Prop extends Dk.ok0 d where
  fz : d.armed = true → 0 ≤ d.fuse
  fb : -9223372036854775808 ≤ d.fuse ∧ d.fuse ≤ 9223372036854775807
theorem tear_len {o t : List UInt8} {n : Nat} (ho : o.length = 64) (ht : t.length = 64) (hn : n ≤ 64) : (tear o t n).length = 64 := by unfold tear; rw [List.length_append, List.length_take, List.length_drop]; omega
theorem get64 {L : List (List UInt8)} (h : ∀ s ∈ L, s.length = 64) {k : Nat} (hk : k < L.length) : (L.getD k []).length = 64 := by
  rw [List.getD_eq_getElem?_getD, List.getElem?_eq_getElem hk]; exact h _ (List.getElem_mem hk)
theorem getWr {W : List Wri} {p : Wri → Prop} (h : ∀ w ∈ W, p w) {k : Nat} (hk : k < W.length) : p (W.getD k (0, [])) := by
  rw [List.getD_eq_getElem?_getD, List.getElem?_eq_getElem hk]; exact h _ (List.getElem_mem hk)
theorem lastW_64 {L : List (List UInt8)} (h : ∀ s ∈ L, s.length = 64) {w : Wri} (hw : w.1 < L.length ∧ w.2.length = 64) {n : Nat} (hn : n ≤ 64) : ∀ s ∈ lastW L w n, s.length = 64 := fun s hs => by
  unfold lastW at hs
  rcases List.mem_or_eq_of_mem_set hs with hs | rfl
  · exact h s hs
  · exact tear_len (get64 h hw.1) hw.2 hn
theorem syncL_64 {L : List (List UInt8)} {W : List Wri} (h : ∀ s ∈ L, s.length = 64) (hw : ∀ w ∈ W, w.1 < L.length ∧ w.2.length = 64) : ∀ k, k ≤ W.length → ∀ s ∈ syncL L W k, s.length = 64
  | 0, _ => h
  | k + 1, hk => by
    rw [syncL]
    exact lastW_64 (syncL_64 h hw k (by omega)) (by rw [syncL_len]; exact getWr hw (show k < W.length by omega)) (Nat.le_refl _)
theorem cutL_64 {L : List (List UInt8)} {W : List Wri} {K : List UInt8} (h : ∀ s ∈ L, s.length = 64) (hw : ∀ w ∈ W, w.1 < L.length ∧ w.2.length = 64) : ∀ k, k ≤ W.length → ∀ s ∈ cutL L W K k, s.length = 64
  | 0, _ => h
  | k + 1, hk => by
    rw [cutL]
    split
    · exact lastW_64 (cutL_64 h hw k (by omega)) (by rw [cutL_len9]; exact getWr hw (show k < W.length by omega)) (Nat.min_le_right _ _)
    · exact cutL_64 h hw k (by omega)
theorem Dk.ok0.cut {d : Dk} (h : d.ok0) (K : List UInt8) : (d.cut K).ok0 :=
  ⟨cutL_64 h.l64 h.w64 _ (Nat.le_refl _), (fun w hw => nomatch hw), by show 0 < (cutL _ _ _ _).length; rw [cutL_len9]; exact h.n0, by show (cutL _ _ _ _).length ≤ _; rw [cutL_len9]; exact h.n1⟩
theorem Dk.ok.cut {d : Dk} (h : d.ok) (K : List UInt8) : (d.cut K).ok := ⟨Dk.ok0.cut h.1 K, (fun e => nomatch e), h.fb⟩
theorem Dk.ok.burn {d : Dk} (h : d.ok) : d.burn.ok := by
  unfold Dk.burn
  split
  · rename_i ha
    have h1 := h.fz ha
    have h2 := h.fb
    split
    · exact ⟨Dk.ok0.cut (d := { d with fuse := d.fuse - 1 }) ⟨h.l64, h.w64, h.n0, h.n1⟩ _, (fun e => nomatch e), by show _ ≤ d.fuse - 1 ∧ d.fuse - 1 ≤ _; omega⟩
    · exact ⟨⟨h.l64, h.w64, h.n0, h.n1⟩, fun _ => by show 0 ≤ d.fuse - 1; omega, by show _ ≤ d.fuse - 1 ∧ d.fuse - 1 ≤ _; omega⟩
  · exact h
def Dk.wErr (d : Dk) (i : Int) (s : List UInt8) : Int := if d.ready i ≠ 0 then d.ready i else if 64 < s.length then 2 else if d.burns then 8 else 0
def Dk.write (d : Dk) (i : Int) (s : List UInt8) : Dk := if d.ready i ≠ 0 then d else if 64 < s.length then d else if d.burns then d.burn else { d.burn with wait := d.burn.wait ++ [(i.toNat, full s)] }
def Dk.sErr (d : Dk) : Int := if d.ready 0 ≠ 0 then d.ready 0 else if d.burns then 8 else 0
def Dk.sync (d : Dk) : Dk := if d.ready 0 ≠ 0 then d else if d.burns then d.burn else { d.burn with last := syncL d.burn.last d.burn.wait d.burn.wait.length, wait := [] }
def Dk.setFuse (d : Dk) (n : Int) (K : List UInt8) : Dk := { d with armed := decide (0 ≤ n), fuse := n, keep := K }
def Dk.start (d : Dk) : Dk := { d with off := false }
def Dk.new (n : Nat) : Dk := ⟨List.replicate n (List.replicate 64 0), [], false, false, 0, []⟩
theorem ready_in {d : Dk} {i : Int} (h : d.ready i = 0) : 0 ≤ i ∧ i < d.last.length ∧ d.off = false := by
  unfold Dk.ready at h
  split at h
  · cases h
  · rename_i h1
    split at h
    · cases h
    · exact ⟨by omega, by omega, by simpa using h1⟩
theorem burn_last {d : Dk} (h : ¬ d.burns) : d.burn.last = d.last ∧ d.burn.wait = d.wait ∧ d.burn.off = d.off := by
  unfold Dk.burn
  split
  · rename_i ha
    rw [if_neg (fun e => h ⟨ha, e⟩)]; exact ⟨rfl, rfl, rfl⟩
  · exact ⟨rfl, rfl, rfl⟩
theorem Dk.ok.write {d : Dk} (h : d.ok) (i : Int) (s : List UInt8) : (d.write i s).ok := by
  unfold Dk.write
  split
  · exact h
  · rename_i h0
    split
    · exact h
    · rename_i h1
      have hb := h.burn
      split
      · exact hb
      · rename_i h2
        obtain ⟨r1, r2, _⟩ := ready_in (Decidable.not_not.1 h0)
        refine ⟨⟨hb.l64, fun w hw => ?_, hb.n0, hb.n1⟩, hb.fz, hb.fb⟩
        rcases List.mem_append.1 hw with hw | hw
        · exact hb.w64 w hw
        · simp only [List.mem_singleton] at hw
          subst hw
          exact ⟨by show i.toNat < d.burn.last.length; rw [(burn_last h2).1]; omega, full_len (by omega)⟩
theorem Dk.ok.sync {d : Dk} (h : d.ok) : d.sync.ok := by
  unfold Dk.sync
  split
  · exact h
  · have hb := h.burn
    split
    · exact hb
    · exact ⟨⟨syncL_64 hb.l64 hb.w64 _ (Nat.le_refl _), (fun w hw => nomatch hw), by show 0 < (syncL _ _ _).length; rw [syncL_len]; exact hb.n0, by show (syncL _ _ _).length ≤ _; rw [syncL_len]; exact hb.n1⟩, hb.fz, hb.fb⟩
theorem Dk.ok.setFuse {d : Dk} (h : d.ok) (n : Int) (hn : -9223372036854775808 ≤ n ∧ n ≤ 9223372036854775807) (K : List UInt8) : (d.setFuse n K).ok := ⟨⟨h.l64, h.w64, h.n0, h.n1⟩, fun e => by simpa [Dk.setFuse] using e, hn⟩
theorem Dk.ok.start {d : Dk} (h : d.ok) : d.start.ok := ⟨⟨h.l64, h.w64, h.n0, h.n1⟩, h.fz, h.fb⟩
theorem Dk.new_ok {n : Nat} (h : 4 ≤ n) (h2 : n ≤ 1024) : (Dk.new n).ok := ⟨⟨fun s hs => by have := List.eq_of_mem_replicate hs; rw [this, List.length_replicate], (fun w hw => nomatch hw), by show 0 < (List.replicate n _).length; rw [List.length_replicate]; omega, by show (List.replicate n _).length ≤ _; rw [List.length_replicate]; exact h2⟩, (fun e => nomatch e), ⟨by show -9223372036854775808 ≤ (0 : Int); decide, by show (0 : Int) ≤ _; decide⟩⟩

theorem ready_ct (F : Hp) (g : Nat) (d : Dk) (A : Option Addr) (c : Nat) (B : Option Addr) (e : Nat) (C : Option Addr) (f : Nat) (hc : Cells F ⟨g, 0, none⟩ (d.cells A c B e C f)) (i : Int) (hn : d.last.length ≤ 1073741824) :
    Ct Tryd.prog 161 [Ptr g, I i] [F] (fun _ : Unit => I (d.ready i)) (fun _ => True) (fun _ => [F]) := by
  refine Ct.walk Tryd.func161 rfl Tryd.ntmps161 rfl (fun w0 hw0 => ?_)
  change J _ [(0, _), (1, _)] _ _ _
  refine J.seq (fun K1 hK1 => ?_)
  refine J.region ?_
  refine J.y (op_assign rfl rfl) rfl rfl rfl ?_
  refine J.nil ?_
  refine J.then_n (J.k hK1 ?_)
  refine J.keepE [(0, _), (1, _)] ⟨rfl, rfl, trivial⟩ ?_
  refine J.seq (fun K2 hK2 => ?_)
  refine J.block ?_
  refine J.seq (fun K3 hK3 => ?_)
  refine J.region ?_
  refine J.y (op_move rfl rfl) rfl rfl rfl ?_
  refine J.y ((op_peq Tryd.underlying64 rfl rfl rfl).as (v' := .bool false) rfl) rfl rfl rfl ?_
  refine J.y (op_assign rfl rfl) rfl rfl rfl ?_
  refine J.nil ?_
  refine J.then_n (J.k hK3 ?_)
  refine J.keepE [(0, _), (1, _), (5, _)] ⟨rfl, rfl, rfl, trivial⟩ ?_
  refine J.condF rfl rfl ?_
  refine J.seq (fun K4 hK4 => ?_)
  refine J.region ?_
  refine J.y (op_move rfl rfl) rfl rfl rfl ?_
  refine J.y (op_nilCheck rfl rfl) rfl rfl rfl ?_
  refine J.y (op_fieldAddr (j := 2) rfl rfl Tryd.underlying126 rfl Tryd.sizeOf4 rfl) rfl rfl rfl ?_
  refine J.y ((op_load rfl rfl Tryd.isAgg4 (m := F) (by simp) (hc.at (i := 2) rfl)).as (v' := .bool (decide (d.off = true))) (congrArg Value.bool (by simp))) rfl rfl rfl ?_
  refine J.y (op_assign rfl rfl) rfl rfl rfl ?_
  refine J.nil ?_
  refine J.then_n (J.k hK4 ?_)
  refine J.keepE [(0, _), (1, _), (8, _)] ⟨rfl, rfl, rfl, trivial⟩ ?_
  refine J.ite rfl (fun h8 => ?_) (fun h8 => ?_)
  ·
    refine J.seq (fun K5 hK5 => ?_)
    refine J.region ?_
    refine J.y (op_assign rfl rfl) rfl rfl rfl ?_
    refine J.nil ?_
    refine J.then_n (J.k hK5 ?_)
    refine J.keepE [(4, _)] ⟨rfl, trivial⟩ ?_
    refine J.ret ?_
    refine J.blk_r ?_
    refine J.then_r ?_
    exact J.done hw0 (fun _ _ h => h) (res1 rfl rfl) (retOk () (congrArg I (show (8 : Int) = d.ready i by unfold Dk.ready; rw [if_pos h8])) trivial [0] rfl (by decide))
  ·
    refine J.seq (fun K6 hK6 => ?_)
    refine J.region ?_
    refine J.y (op_move rfl rfl) rfl rfl rfl ?_
    refine J.y (op_lss rfl rfl rfl) rfl rfl rfl ?_
    refine J.y (op_move rfl rfl) rfl rfl rfl ?_
    refine J.split (d := 16) rfl (fun h16 => ?_) (fun h16 => ?_)
    ·
      refine J.no (Wan.is rfl rfl rfl rfl rfl) rfl rfl ?_
      refine J.no (Wan.is rfl rfl rfl rfl rfl) rfl rfl ?_
      refine J.no (Wan.is rfl rfl rfl rfl rfl) rfl rfl ?_
      refine J.no (Wan.is rfl rfl rfl rfl rfl) rfl rfl ?_
      refine J.no (Wan.is rfl rfl rfl rfl rfl) rfl rfl ?_
      refine J.no (Wan.is rfl rfl rfl rfl rfl) rfl rfl ?_
      refine J.no (Wan.is rfl rfl rfl rfl rfl) rfl rfl ?_
      refine J.y (op_pickT rfl rfl rfl) rfl rfl rfl ?_
      refine J.y (op_assign rfl rfl) rfl rfl rfl ?_
      refine J.nil ?_
      refine J.then_n (J.k hK6 ?_)
      refine J.keepE [(13, _)] ⟨rfl, trivial⟩ ?_
      refine J.condT rfl rfl ?_
      refine J.seq (fun K7 hK7 => ?_)
      refine J.region ?_
      refine J.y (op_assign rfl rfl) rfl rfl rfl ?_
      refine J.nil ?_
      refine J.then_n (J.k hK7 ?_)
      refine J.keepE [(4, _)] ⟨rfl, trivial⟩ ?_
      refine J.ret ?_
      refine J.blk_r ?_
      refine J.then_r ?_
      exact J.done hw0 (fun _ _ h => h) (res1 rfl rfl) (retOk () (congrArg I (show (10 : Int) = d.ready i by unfold Dk.ready; rw [if_neg h8, if_pos (by omega)])) trivial [0] rfl (by decide))
    ·
      refine J.yg (Wan.is rfl rfl rfl rfl rfl) (op_move rfl rfl) rfl rfl ?_
      refine J.yg (Wan.is rfl rfl rfl rfl rfl) (op_move rfl rfl) rfl rfl ?_
      refine J.yg (Wan.is rfl rfl rfl rfl rfl) (op_nilCheck rfl rfl) rfl rfl ?_
      refine J.yg (Wan.is rfl rfl rfl rfl rfl) (op_fieldAddr (j := 0) rfl rfl Tryd.underlying126 rfl Tryd.sizeOf55 rfl) rfl rfl ?_
      refine J.yg (Wan.is rfl rfl rfl rfl rfl) (op_load rfl rfl Tryd.isAgg55 (m := F) (by simp) (hc.at (i := 0) rfl)) rfl rfl ?_
      refine J.yg (Wan.is rfl rfl rfl rfl rfl) (op_len Tryd.underlying55 rfl rfl) rfl rfl ?_
      refine J.yg (Wan.is rfl rfl rfl rfl rfl) (op_geq rfl rfl rfl) rfl rfl ?_
      refine J.y (op_pickF rfl rfl rfl) rfl rfl rfl ?_
      refine J.y (op_assign rfl rfl) rfl rfl rfl ?_
      refine J.nil ?_
      refine J.then_n (J.k hK6 ?_)
      refine J.keepE [(13, _)] ⟨rfl, trivial⟩ ?_
      refine J.ite rfl (fun h13 => ?_) (fun h13 => ?_)
      ·
        refine J.seq (fun K8 hK8 => ?_)
        refine J.region ?_
        refine J.y (op_assign rfl rfl) rfl rfl rfl ?_
        refine J.nil ?_
        refine J.then_n (J.k hK8 ?_)
        refine J.keepE [(4, _)] ⟨rfl, trivial⟩ ?_
        refine J.ret ?_
        refine J.blk_r ?_
        refine J.then_r ?_
        exact J.done hw0 (fun _ _ h => h) (res1 rfl rfl) (retOk () (congrArg I (show (10 : Int) = d.ready i by unfold Dk.ready; rw [if_neg h8, if_pos (by omega)])) trivial [0] rfl (by decide))
      ·
        refine J.skip ?_
        refine J.blk_n ?_
        refine J.then_n (J.k hK2 ?_)
        refine J.keepE [] trivial ?_
        refine J.seq (fun K9 hK9 => ?_)
        refine J.region ?_
        refine J.y (op_assign rfl rfl) rfl rfl rfl ?_
        refine J.nil ?_
        refine J.then_n (J.k hK9 ?_)
        refine J.keepE [(4, _)] ⟨rfl, trivial⟩ ?_
        refine J.ret ?_
        exact J.done hw0 (fun _ _ h => h) (res1 rfl rfl) (retOk () (congrArg I (show (0 : Int) = d.ready i by unfold Dk.ready; rw [if_neg h8, if_neg (by omega)])) trivial [0] rfl (by decide))

theorem count_ct (F : Hp) (g : Nat) (d : Dk) (A : Option Addr) (c : Nat) (B : Option Addr) (e : Nat) (C : Option Addr) (f : Nat) (hc : Cells F ⟨g, 0, none⟩ (d.cells A c B e C f)) :
    Ct Tryd.prog 76 [Ptr g] [F] (fun _ : Unit => I d.last.length) (fun _ => True) (fun _ => [F]) := by
  refine Ct.walk Tryd.func76 rfl Tryd.ntmps76 rfl (fun w0 hw0 => ?_)
  change J _ [(0, _)] _ _ _
  refine J.seq (fun K1 hK1 => ?_)
  refine J.region ?_
  refine J.y (op_assign rfl rfl) rfl rfl rfl ?_
  refine J.nil ?_
  refine J.then_n (J.k hK1 ?_)
  refine J.keepE [(0, _)] ⟨rfl, trivial⟩ ?_
  refine J.seq (fun K2 hK2 => ?_)
  refine J.seq (fun K3 hK3 => ?_)
  refine J.region ?_
  refine J.y (op_move rfl rfl) rfl rfl rfl ?_
  refine J.y ((op_peq Tryd.underlying64 rfl rfl rfl).as (v' := .bool false) rfl) rfl rfl rfl ?_
  refine J.nil ?_
  refine J.then_n (J.k hK3 ?_)
  refine J.keepE [(0, _), (4, _)] ⟨rfl, rfl, trivial⟩ ?_
  refine J.condF rfl rfl ?_
  refine J.skip ?_
  refine J.then_n (J.k hK2 ?_)
  refine J.keepE [(0, _)] ⟨rfl, trivial⟩ ?_
  refine J.seq (fun K4 hK4 => ?_)
  refine J.region ?_
  refine J.y (op_move rfl rfl) rfl rfl rfl ?_
  refine J.y (op_nilCheck rfl rfl) rfl rfl rfl ?_
  refine J.y (op_fieldAddr (j := 0) rfl rfl Tryd.underlying126 rfl Tryd.sizeOf55 rfl) rfl rfl rfl ?_
  refine J.y (op_load rfl rfl Tryd.isAgg55 (m := F) (by simp) (hc.at (i := 0) rfl)) rfl rfl rfl ?_
  refine J.y (op_len Tryd.underlying55 rfl rfl) rfl rfl rfl ?_
  refine J.y (op_assign rfl rfl) rfl rfl rfl ?_
  refine J.nil ?_
  refine J.then_n (J.k hK4 ?_)
  refine J.keepE [(2, _)] ⟨rfl, trivial⟩ ?_
  refine J.ret ?_
  exact J.done hw0 (fun _ _ h => h) (res1 rfl rfl) (retOk () rfl trivial [0] rfl (by decide))

theorem on_ct (F : Hp) (g : Nat) (d : Dk) (A : Option Addr) (c : Nat) (B : Option Addr) (e : Nat) (C : Option Addr) (f : Nat) (hc : Cells F ⟨g, 0, none⟩ (d.cells A c B e C f)) :
    Ct Tryd.prog 41 [Ptr g] [F] (fun _ : Unit => .bool (!d.off)) (fun _ => True) (fun _ => [F]) := by
  refine Ct.walk Tryd.func41 rfl Tryd.ntmps41 rfl (fun w0 hw0 => ?_)
  change J _ [(0, _)] _ _ _
  refine J.seq (fun K1 hK1 => ?_)
  refine J.region ?_
  refine J.y (op_assign rfl rfl) rfl rfl rfl ?_
  refine J.nil ?_
  refine J.then_n (J.k hK1 ?_)
  refine J.keepE [(0, _)] ⟨rfl, trivial⟩ ?_
  refine J.seq (fun K2 hK2 => ?_)
  refine J.region ?_
  refine J.y (op_move rfl rfl) rfl rfl rfl ?_
  refine J.y ((op_pne Tryd.underlying64 rfl rfl rfl).as (v' := .bool true) rfl) rfl rfl rfl ?_
  refine J.y (op_move rfl rfl) rfl rfl rfl ?_
  refine J.yg (Wan.is rfl rfl rfl rfl rfl) (op_move rfl rfl) rfl rfl ?_
  refine J.yg (Wan.is rfl rfl rfl rfl rfl) (op_nilCheck rfl rfl) rfl rfl ?_
  refine J.yg (Wan.is rfl rfl rfl rfl rfl) (op_fieldAddr (j := 2) rfl rfl Tryd.underlying126 rfl Tryd.sizeOf4 rfl) rfl rfl ?_
  refine J.yg (Wan.is rfl rfl rfl rfl rfl) (op_load rfl rfl Tryd.isAgg4 (m := F) (by simp) (hc.at (i := 2) rfl)) rfl rfl ?_
  refine J.yg (Wan.is rfl rfl rfl rfl rfl) ((op_not rfl rfl)) rfl rfl ?_
  refine J.y (op_pickT rfl rfl rfl) rfl rfl rfl ?_
  refine J.y (op_assign rfl rfl) rfl rfl rfl ?_
  refine J.nil ?_
  refine J.then_n (J.k hK2 ?_)
  refine J.keepE [(2, _)] ⟨rfl, trivial⟩ ?_
  refine J.ret ?_
  exact J.done hw0 (fun _ _ h => h) (res1 rfl rfl) (retOk () rfl trivial [0] rfl (by decide))

theorem backW_ct (F : Hp) (B : Option Addr) (n e : Nat) : Ct Tryd.prog 162 [.slice B n e] [F] (fun x : Nat => .func (.func 194) #[] #[Ptr x]) (fun _ => True) (fun x => [F, blk x [.slice B n e] 124]) := by
  refine Ct.walk Tryd.func162 rfl Tryd.ntmps162 rfl (fun w0 hw0 => ?_)
  change J _ [(0, _)] _ _ _
  refine J.seq (fun K1 hK1 => ?_)
  refine J.region ?_
  refine J.e (op_box rfl rfl (l := [.slice B n e]) rfl) rfl rfl rfl ?_
  intro g1 _
  change J _ _ _ [F, blk g1 [.slice B n e] 124] _
  refine J.y (op_assign rfl rfl) rfl rfl rfl ?_
  refine J.nil ?_
  refine J.then_n (J.k hK1 ?_)
  refine J.keepE [(1, _)] ⟨rfl, trivial⟩ ?_
  refine J.seq (fun K2 hK2 => ?_)
  refine J.region ?_
  refine J.y (op_makeFunc rfl rfl) rfl rfl rfl ?_
  refine J.y (op_assign rfl rfl) rfl rfl rfl ?_
  refine J.nil ?_
  refine J.then_n (J.k hK2 ?_)
  refine J.keepE [(2, _)] ⟨rfl, trivial⟩ ?_
  refine J.ret ?_
  exact J.done hw0 (fun _ _ h => h) (res1 rfl rfl) (retOk g1 rfl trivial [0, 1] rfl (by decide))

theorem backW_seq (Fr : Hp) (gB : Nat) (B : Option Addr) (W : List Wri) (e : Nat) (hn2 : W.length ≤ 1073741824) (ha : Cells Fr ⟨gB, 0, none⟩ [.slice B W.length e]) (hs : Sl Fr 2 B W.length e (writV W)) :
    SeqCt Tryd.prog 194 [Ptr gB] Fr (fun i => [I ((W.length - 1 - i : Nat) : Int), .agg #[I (W.getD (W.length - 1 - i) (0, [])).1, Str (W.getD (W.length - 1 - i) (0, [])).2]]) W.length := by
  refine SeqCt.walk Tryd.func194 rfl Tryd.ntmps194 rfl (fun {X} M IY S l x0 w0 hw0 h0 hY => ?_)
  change J _ [(0, _), (1, _)] _ _ _
  refine J.seq (fun K1 hK1 => ?_)
  refine J.region ?_
  refine J.y (op_load rfl rfl Tryd.isAgg124 (m := Fr) (by simp) (ha)) rfl rfl rfl ?_
  refine J.y (op_len Tryd.underlying124 rfl rfl) rfl rfl rfl ?_
  refine J.y ((op_sub rfl rfl rfl (by omega)).as (v' := I ((W.length : Int) - 1 - ((0 : Nat) : Int))) (congrArg I (by omega))) rfl rfl rfl ?_
  refine J.y (op_assign rfl rfl) rfl rfl rfl ?_
  refine J.nil ?_
  refine J.then_n (J.k hK1 ?_)
  refine J.keepE [(0, _), (1, _), (3, _)] ⟨rfl, rfl, rfl, trivial⟩ ?_
  refine J.block ?_
  refine J.loop (X := Nat × X) (fun y => [(0, .func (.yield l) #[] #[]), (1, Ptr gB), (3, I ((W.length : Int) - 1 - (y.1 : Int)))]) (fun y => [Fr, M y.2]) (fun y => y.1 ≤ W.length ∧ IY y.1 y.2) (fun y => W.length - y.1) (0, x0) (⟨Nat.zero_le _, h0⟩) ⟨rfl, rfl, rfl, trivial⟩ (fun _ h => h) ?_
  rintro ⟨i, x⟩ ⟨hi, hI⟩ I0 hI0
  dsimp only at hi hI ⊢
  refine J.seq (fun K2 hK2 => ?_)
  refine J.seq (fun K3 hK3 => ?_)
  refine J.region ?_
  refine J.y (op_move rfl rfl) rfl rfl rfl ?_
  refine J.y (op_geq rfl rfl rfl) rfl rfl rfl ?_
  refine J.nil ?_
  refine J.then_n (J.k hK3 ?_)
  refine J.keepE [(0, _), (1, _), (3, _), (8, _)] ⟨rfl, rfl, rfl, rfl, trivial⟩ ?_
  refine J.ite rfl (fun h8 => ?_) (fun h8 => ?_)
  ·
    refine J.skip ?_
    refine J.then_n (J.k hK2 ?_)
    refine J.keepE [(0, _), (1, _), (3, _)] ⟨rfl, rfl, rfl, trivial⟩ ?_
    refine J.seq (fun K4 hK4 => ?_)
    refine J.block ?_
    refine J.seq (fun K5 hK5 => ?_)
    refine J.regionI ?_
    refine J.yI (op_move rfl rfl) rfl rfl rfl ?_
    refine J.yI ((op_move rfl rfl).as (v' := I ((W.length - 1 - i : Nat) : Int)) (congrArg I (by omega))) rfl rfl rfl ?_
    refine J.yI (op_load rfl rfl Tryd.isAgg124 (m := Fr) (by simp) (ha)) rfl rfl rfl ?_
    refine J.yI ((op_move rfl rfl).as (v' := I ((W.length - 1 - i : Nat) : Int)) (congrArg I (by omega))) rfl rfl rfl ?_
    refine J.yI (op_indexAddr (i := W.length - 1 - i) rfl rfl rfl Tryd.underlying124 Tryd.sizeOf149 hs (by omega)) rfl rfl rfl ?_
    refine J.yI (op_loadA rfl rfl Tryd.isAgg149 Tryd.sizeOf149 (m := Fr) (by simp) (vs := [I (W.getD (W.length - 1 - i) (0, [])).1, Str (W.getD (W.length - 1 - i) (0, [])).2]) (hs.elem (writV_get (by omega))) rfl) rfl rfl rfl ?_
    refine J.yieldI (ex := []) rfl rfl rfl rfl rfl rfl (hY i x (by omega) hI) ?_
    rintro x' b hb1 hb2
    cases b
    ·
      have hyb := hb2 rfl
      change J _ _ _ [Fr, M x'] _
      refine J.yI (op_not rfl rfl) rfl rfl rfl ?_
      refine J.nilI ?_
      refine J.then_n (J.k hK5 ?_)
      refine J.keepE [(0, _), (1, _), (3, _), (18, _)] ⟨rfl, rfl, rfl, rfl, trivial⟩ ?_
      refine J.condT rfl rfl ?_
      refine J.ret ?_
      refine J.blk_r ?_
      refine J.then_r ?_
      refine J.then_r ?_
      refine J.blk_r ?_
      exact J.done hw0 (fun _ _ h => h) (res0 rfl) (fun w hs => ⟨x', ⟨_, rfl⟩, .inr hyb, hs⟩)
    ·
      have hyb := hb1 rfl
      change J _ _ _ [Fr, M x'] _
      refine J.yI (op_not rfl rfl) rfl rfl rfl ?_
      refine J.nilI ?_
      refine J.then_n (J.k hK5 ?_)
      refine J.keepE [(0, _), (1, _), (3, _), (18, _)] ⟨rfl, rfl, rfl, rfl, trivial⟩ ?_
      refine J.condF rfl rfl ?_
      refine J.skip ?_
      refine J.blk_n ?_
      refine J.then_n (J.k hK4 ?_)
      refine J.keepE [(0, _), (1, _), (3, _)] ⟨rfl, rfl, rfl, trivial⟩ ?_
      refine J.region ?_
      refine J.y (op_move rfl rfl) rfl rfl rfl ?_
      refine J.y ((op_sub rfl rfl rfl (by omega)).as (v' := I ((W.length : Int) - 1 - ((i + 1 : Nat) : Int))) (congrArg I (by omega))) rfl rfl rfl ?_
      refine J.y (op_assign rfl rfl) rfl rfl rfl ?_
      refine J.nil ?_
      refine J.then_n ?_
      exact J.kk (i + 1, x') (fun y (hy : _ ∧ W.length - y.1 < W.length - i) => hI0 y hy.1 hy.2) ⟨⟨by dsimp only; omega, hyb⟩, by dsimp only; omega⟩ ⟨rfl, rfl, rfl, trivial⟩ (fun _ h => h)
  ·
    refine J.exit ?_
    refine J.then_x ?_
    refine J.then_x ?_
    refine J.blk_eq ?_
    exact J.fin hw0 (fun _ _ h => h) (res0 rfl) (fun w hs => ⟨x, ⟨_, rfl⟩, .inl (by rw [show W.length = i by omega]; exact hI), hs⟩)

theorem sread_ct (F : Hp) (g : Nat) (d : Dk) (A : Option Addr) (c : Nat) (B : Option Addr) (e : Nat) (C : Option Addr) (f : Nat) (hc : Cells F ⟨g, 0, none⟩ (d.cells A c B e C f)) (hL : Sl F 1 A d.last.length c (strsV d.last)) (hW : Sl F 2 B d.wait.length e (writV d.wait)) (i : Int) (hn : d.last.length ≤ 1073741824) (hn2 : d.wait.length ≤ 1073741824) :
    Ct Tryd.prog 120 [Ptr g, I i] [F] (fun _ : Unit => .tuple #[Str (d.read i), I (d.ready i)]) (fun _ => True) (fun _ => [F]) := by
  refine Ct.walk Tryd.func120 rfl Tryd.ntmps120 rfl (fun w0 hw0 => ?_)
  change J _ [(0, _), (1, _)] _ _ _
  refine J.seq (fun K1 hK1 => ?_)
  refine J.region ?_
  refine J.e (op_box rfl rfl (l := [I i]) rfl) rfl rfl rfl ?_
  intro g3 _
  change J _ _ _ [F, blk g3 [I i] 3] _
  refine J.e (op_alloc rfl Tryd.zeroValue9 rfl) rfl rfl rfl ?_
  intro g4 _
  change J _ _ _ [F, blk g3 [I i] 3, blk g4 _ 9] _
  refine J.e (op_alloc rfl Tryd.zeroValue27 rfl) rfl rfl rfl ?_
  intro g5 _
  change J _ _ _ [F, blk g3 [I i] 3, blk g4 _ 9, blk g5 _ 27] _
  refine J.nil ?_
  refine J.then_n (J.k hK1 ?_)
  refine J.keepE [(0, _), (3, _), (4, _), (5, _)] ⟨rfl, rfl, rfl, rfl, trivial⟩ ?_
  refine J.seq (fun K2 hK2 => ?_)
  refine J.seq (fun K3 hK3 => ?_)
  refine J.region ?_
  refine J.y (op_move rfl rfl) rfl rfl rfl ?_
  refine J.y (op_loadB 1 rfl rfl rfl Tryd.isAgg3 rfl) rfl rfl rfl ?_
  refine J.e (op_call rfl rfl ent161 (Ct.use0 (fun F' hF => ready_ct F' g d A c B e C f (hc.mono (hF F (by simp))) i hn))) rfl rfl rfl ?_
  intro g11 _
  refine J.y (op_assign rfl rfl) rfl rfl rfl ?_
  refine J.nil ?_
  refine J.then_n (J.k hK3 ?_)
  refine J.keepE [(0, _), (3, _), (4, _), (5, _), (6, _)] ⟨rfl, rfl, rfl, rfl, rfl, trivial⟩ ?_
  refine J.seq (fun K4 hK4 => ?_)
  refine J.region ?_
  refine J.y (op_move rfl rfl) rfl rfl rfl ?_
  refine J.y (op_neq rfl rfl rfl) rfl rfl rfl ?_
  refine J.nil ?_
  refine J.then_n (J.k hK4 ?_)
  refine J.keepE [(0, _), (3, _), (4, _), (5, _), (6, _), (13, _)] ⟨rfl, rfl, rfl, rfl, rfl, rfl, trivial⟩ ?_
  refine J.ite rfl (fun h13 => ?_) (fun h13 => ?_)
  ·
    refine J.seq (fun K5 hK5 => ?_)
    refine J.region ?_
    refine J.y (op_move rfl rfl) rfl rfl rfl ?_
    refine J.s (op_storeAll (l := [Str []]) (i := 2) (vs := [Str []]) rfl rfl rfl rfl rfl Tryd.sizeOf9 rfl rfl) rfl rfl (fun _ _ => ?_)
    change J _ _ _ [F, blk g3 [I i] 3, blk g4 [Str []] 9, blk g5 _ 27] _
    refine J.s (op_storeAll (l := [I 0]) (i := 3) (vs := [I (d.ready i)]) rfl rfl rfl rfl rfl Tryd.sizeOf27 rfl rfl) rfl rfl (fun _ _ => ?_)
    change J _ _ _ [F, blk g3 [I i] 3, blk g4 [Str []] 9, blk g5 [I (d.ready i)] 27] _
    refine J.nil ?_
    refine J.then_n (J.k hK5 ?_)
    refine J.keepE [(4, _), (5, _)] ⟨rfl, rfl, trivial⟩ ?_
    refine J.ret ?_
    refine J.then_r ?_
    exact J.done hw0 (fun _ _ h => h) (rv2 rfl (RV.blk1 2 rfl rfl Tryd.isAgg9) (RV.blk1 3 rfl rfl Tryd.isAgg27)) (retOk () (by rw [show d.read i = [] from if_neg (by omega)]) trivial [0] rfl (by decide))
  ·
    refine J.skip ?_
    refine J.then_n (J.k hK2 ?_)
    refine J.keepE [(0, _), (3, _), (4, _), (5, _)] ⟨rfl, rfl, rfl, rfl, trivial⟩ ?_
    refine J.seq (fun K6 hK6 => ?_)
    refine J.seq (fun K7 hK7 => ?_)
    have h0 : d.ready i = 0 := by omega
    obtain ⟨hi0, hil⟩ : 0 ≤ i ∧ i < d.last.length := by
      unfold Dk.ready at h0
      split at h0
      · cases h0
      · split at h0
        · cases h0
        · omega
    obtain ⟨iN, hiN⟩ := Int.eq_ofNat_of_zero_le hi0
    have hrd : d.read i = d.now iN := by unfold Dk.read; rw [if_pos h0, hiN]; rfl
    refine J.region ?_
    refine J.y (op_move rfl rfl) rfl rfl rfl ?_
    refine J.y (op_nilCheck rfl rfl) rfl rfl rfl ?_
    refine J.y (op_fieldAddr (j := 1) rfl rfl Tryd.underlying126 rfl Tryd.sizeOf124 rfl) rfl rfl rfl ?_
    refine J.y (op_load rfl rfl Tryd.isAgg124 (m := F) (by simp) (hc.at (i := 1) rfl)) rfl rfl rfl ?_
    refine J.e (op_call rfl rfl ent162 (Ct.use (new := fun x : Nat => [blk x [.slice B d.wait.length e] 124]) (fun F' _ => backW_ct F' B d.wait.length e))) rfl rfl rfl ?_
    rintro gB _
    change J _ _ _ [F, blk g3 [I i] 3, blk g4 _ 9, blk g5 _ 27, blk gB [.slice B d.wait.length e] 124] _
    refine J.nil ?_
    refine J.then_n (J.k hK7 ?_)
    refine J.keepE [(0, _), (3, _), (4, _), (5, _), (19, _)] ⟨rfl, rfl, rfl, rfl, rfl, trivial⟩ ?_
    refine J.block ?_
    refine J.perm [2, 3, 0, 1, 4] [blk g4 [Str []] 9, blk g5 [I 0] 27, F, blk g3 [I i] 3, blk gB [.slice B d.wait.length e] 124] rfl (by decide) ?_
    refine J.range (fun x : List UInt8 × Int => [blk g4 [Str x.1] 9, blk g5 [I x.2] 27]) [F, blk g3 [I i] 3, blk gB [.slice B d.wait.length e] 124] (fun r x => x = ([], 0) ∧ d.now iN = (seek d.wait iN (d.wait.length - r)).getD (d.last.getD iN [])) (fun cd x => cd = .ret ∧ x = (d.now iN, 0)) ([], 0) rfl ent194 (fun Fr hF => backW_seq Fr gB B d.wait e hn2 (Cells.blk0.mono (hF (blk gB [.slice B d.wait.length e] 124) (by simp))) (hW.mono (hF F (by simp)))) (fun _ _ => rfl) rfl (⟨rfl, rfl⟩) ?_ ?_ ?_
    ·
      intro r x l wa wb hi hI K8 Post8 hK8 hN8 hR8 hE8
      obtain ⟨x1, x2⟩ := x
      obtain ⟨hx, hnow⟩ := hI
      cases hx
      have hsk : seek d.wait iN (d.wait.length - r) = if (d.wait.getD (d.wait.length - 1 - r) (0, [])).1 = iN then some (d.wait.getD (d.wait.length - 1 - r) (0, [])).2 else seek d.wait iN (d.wait.length - (r + 1)) := by
        have := seek_succ d.wait iN (d.wait.length - 1 - r)
        rw [show d.wait.length - 1 - r + 1 = d.wait.length - r by omega] at this
        rw [this, show d.wait.length - (r + 1) = d.wait.length - 1 - r by omega]
      change J _ ((21, .agg #[I (d.wait.getD (d.wait.length - 1 - r) (0, [])).1, Str (d.wait.getD (d.wait.length - 1 - r) (0, [])).2]) :: (20, _) :: _) _ [blk g4 [Str []] 9, blk g5 [I 0] 27, F, blk g3 [I i] 3, blk gB [.slice B d.wait.length e] 124] _
      refine J.regionR ?_
      refine J.e (op_alloc rfl Tryd.zeroValue149 rfl) rfl rfl rfl ?_
      intro g8 _
      change J _ _ _ [blk g4 [Str []] 9, blk g5 [I 0] 27, F, blk g3 [I i] 3, blk gB [.slice B d.wait.length e] 124, blk g8 _ 149] _
      refine J.s (op_storeAll (l := [I 0, Str []]) (i := 5) (vs := [I (d.wait.getD (d.wait.length - 1 - r) (0, [])).1, Str (d.wait.getD (d.wait.length - 1 - r) (0, [])).2]) rfl rfl rfl rfl rfl Tryd.sizeOf149 rfl rfl) rfl rfl (fun _ _ => ?_)
      change J _ _ _ [blk g4 [Str []] 9, blk g5 [I 0] 27, F, blk g3 [I i] 3, blk gB [.slice B d.wait.length e] 124, blk g8 [I (d.wait.getD (d.wait.length - 1 - r) (0, [])).1, Str (d.wait.getD (d.wait.length - 1 - r) (0, [])).2] 149] _
      refine J.nilR ?_
      refine J.then_n (hK8 _ _ ?_)
      refine J.keepE [(3, _), (4, _), (5, _), (8, _)] ⟨rfl, rfl, rfl, rfl, trivial⟩ ?_
      refine J.blockR ?_
      refine J.seqR (fun K9 hK9 => ?_)
      refine J.regionR ?_
      refine J.y (op_fieldAddr (j := 0) rfl rfl Tryd.underlying149 rfl Tryd.sizeOf3 rfl) rfl rfl rfl ?_
      refine J.y (op_loadB 5 rfl rfl rfl Tryd.isAgg3 rfl) rfl rfl rfl ?_
      refine J.y (op_loadB 3 rfl rfl rfl Tryd.isAgg3 rfl) rfl rfl rfl ?_
      refine J.y ((op_eql rfl rfl rfl).as (v' := .bool (decide ((d.wait.getD (d.wait.length - 1 - r) (0, [])).1 = iN))) (congrArg Value.bool (decide_eq_decide.2 (by omega)))) rfl rfl rfl ?_
      refine J.nilR ?_
      refine J.then_n (J.k hK9 ?_)
      refine J.keepE [(4, _), (5, _), (8, _), (25, _)] ⟨rfl, rfl, rfl, rfl, trivial⟩ ?_
      refine J.iteR rfl (fun h25 => ?_) (fun h25 => ?_)
      ·
        refine J.seqR (fun K10 hK10 => ?_)
        refine J.regionR ?_
        refine J.y (op_fieldAddr (j := 1) rfl rfl Tryd.underlying149 rfl Tryd.sizeOf9 rfl) rfl rfl rfl ?_
        refine J.y (op_loadB 5 rfl rfl rfl Tryd.isAgg9 rfl) rfl rfl rfl ?_
        refine J.s (op_storeAll (l := [Str []]) (i := 0) (vs := [Str (d.wait.getD (d.wait.length - 1 - r) (0, [])).2]) rfl rfl rfl rfl rfl Tryd.sizeOf9 rfl rfl) rfl rfl (fun _ _ => ?_)
        change J _ _ _ [blk g4 [Str (d.wait.getD (d.wait.length - 1 - r) (0, [])).2] 9, blk g5 [I 0] 27, F, blk g3 [I i] 3, blk gB [.slice B d.wait.length e] 124, blk g8 [I (d.wait.getD (d.wait.length - 1 - r) (0, [])).1, Str (d.wait.getD (d.wait.length - 1 - r) (0, [])).2] 149] _
        refine J.s (op_storeAll (l := [I 0]) (i := 1) (vs := [I 0]) rfl rfl rfl rfl rfl Tryd.sizeOf27 rfl rfl) rfl rfl (fun _ _ => ?_)
        change J _ _ _ [blk g4 [Str (d.wait.getD (d.wait.length - 1 - r) (0, [])).2] 9, blk g5 [I 0] 27, F, blk g3 [I i] 3, blk gB [.slice B d.wait.length e] 124, blk g8 [I (d.wait.getD (d.wait.length - 1 - r) (0, [])).1, Str (d.wait.getD (d.wait.length - 1 - r) (0, [])).2] 149] _
        refine J.nilR ?_
        refine J.then_n (J.k hK10 ?_)
        refine J.keepE [] trivial ?_
        refine J.retR ?_
        refine J.blk_r ?_
        refine J.perm [0, 1, 2, 3, 4] [blk g4 [Str (d.wait.getD (d.wait.length - 1 - r) (0, [])).2] 9, blk g5 [I 0] 27, F, blk g3 [I i] 3, blk gB [.slice B d.wait.length e] 124] rfl (by decide) ?_
        exact hR8 _ ((d.wait.getD (d.wait.length - 1 - r) (0, [])).2, 0) ⟨rfl, by rw [hnow, hsk, if_pos h25]; rfl⟩
      ·
        refine J.skipR ?_
        refine J.blk_n ?_
        refine J.perm [0, 1, 2, 3, 4] [blk g4 [Str []] 9, blk g5 [I 0] 27, F, blk g3 [I i] 3, blk gB [.slice B d.wait.length e] 124] rfl (by decide) ?_
        exact hN8 _ ([], 0) ⟨rfl, by rw [hnow, hsk, if_neg h25]⟩
    ·
      intro w8 x hx8 hI
      obtain ⟨x1, x2⟩ := x
      obtain ⟨hx, hnow⟩ := hI
      cases hx
      rw [Nat.sub_self, seek_zero] at hnow
      change J _ _ _ [blk g4 [Str []] 9, blk g5 [I 0] 27, F, blk g3 [I i] 3, blk gB [.slice B d.wait.length e] 124] _
      refine J.blk_n ?_
      refine J.then_n (J.k hK6 ?_)
      refine J.keepE [(0, _), (3, _), (4, _), (5, _)] ⟨rfl, rfl, rfl, rfl, trivial⟩ ?_
      refine J.seq (fun K11 hK11 => ?_)
      refine J.draw [blk g4 [Str []] 9, blk g5 [I 0] 27, F, blk g3 [I i] 3, blk gB [.slice B d.wait.length e] 124] [7, 8] (.y 0 (.y 1 (.y 2 (.y 3 (.y 4 (.y 5 (.y 6 (.e 7 (.e 8 .nil))))))))) Tryd.wide (by decide +kernel) (by simp) ?_
      refine J.dy rfl (op_move rfl rfl) rfl rfl rfl rfl ?_
      refine J.dy rfl (op_nilCheck rfl rfl) rfl rfl rfl rfl ?_
      refine J.dy rfl (op_fieldAddr (j := 0) rfl rfl Tryd.underlying126 rfl Tryd.sizeOf55 rfl) rfl rfl rfl rfl ?_
      refine J.dy rfl (op_load rfl rfl Tryd.isAgg55 (m := F) (by simp) (hc.at (i := 0) rfl)) rfl rfl rfl rfl ?_
      refine J.dy rfl (op_loadB 3 rfl rfl rfl Tryd.isAgg3 rfl) rfl rfl rfl rfl ?_
      refine J.dy rfl (op_indexAddr (i := iN) rfl rfl (by show some (I i) = _; rw [hiN]) Tryd.underlying55 Tryd.sizeOf9 hL (by omega)) rfl rfl rfl rfl ?_
      refine J.dy rfl (op_load rfl rfl Tryd.isAgg9 (m := F) (by simp) (hL.elem (strsV_get (getSome [] (show iN < d.last.length by omega))))) rfl rfl rfl rfl ?_
      refine J.ds rfl (op_storeAll (l := [Str []]) (i := 0) (vs := [Str (d.last.getD iN [])]) rfl rfl rfl rfl rfl Tryd.sizeOf9 rfl rfl) rfl rfl rfl (fun _ _ => ?_)
      change J _ _ _ [blk g4 [Str (d.last.getD iN [])] 9, blk g5 [I 0] 27, F, blk g3 [I i] 3, blk gB [.slice B d.wait.length e] 124] _
      refine J.ds rfl (op_storeAll (l := [I 0]) (i := 1) (vs := [I 0]) rfl rfl rfl rfl rfl Tryd.sizeOf27 rfl rfl) rfl rfl rfl (fun _ _ => ?_)
      change J _ _ _ [blk g4 [Str (d.last.getD iN [])] 9, blk g5 [I 0] 27, F, blk g3 [I i] 3, blk gB [.slice B d.wait.length e] 124] _
      refine J.dnil ?_
      refine J.then_n (J.k hK11 ?_)
      refine J.keepE [(4, _), (5, _)] ⟨rfl, rfl, trivial⟩ ?_
      refine J.ret ?_
      exact J.doneM hw0 hx8 (fun _ _ h => h) (rv2 rfl (RV.blk1 0 rfl rfl Tryd.isAgg9) (RV.blk1 1 rfl rfl Tryd.isAgg27)) (retOk () (by rw [hrd, h0, hnow]; rfl) trivial [2] rfl (by decide))
    ·
      intro w8 x c hx8 hS
      obtain ⟨rfl, rfl⟩ := hS
      change J _ _ _ [blk g4 [Str (d.now iN)] 9, blk g5 [I 0] 27, F, blk g3 [I i] 3, blk gB [.slice B d.wait.length e] 124] _
      refine J.ret ?_
      refine J.blk_r ?_
      refine J.then_r ?_
      exact J.doneM hw0 hx8 (fun _ _ h => h) (rv2 rfl (RV.blk1 0 rfl rfl Tryd.isAgg9) (RV.blk1 1 rfl rfl Tryd.isAgg27)) (retOk () (by rw [hrd, h0]) trivial [2] rfl (by decide))

theorem elemAt0 (g i : Nat) : elemAt (some ⟨g, 0, none⟩) i 1 = ⟨g, i, none⟩ := by rw [elemAt_mk]; simp

theorem last_ct (F mL : Hp) (g gL c n : Nat) (d : Dk) (B : Option Addr) (e : Nat) (C : Option Addr) (f : Nat) (L : List (List UInt8)) (hc : Cells F ⟨g, 0, none⟩ [.slice (some ⟨gL, 0, none⟩) L.length c, .slice B d.wait.length e, .bool d.off, .bool d.armed, I d.fuse, .slice C d.keep.length f])
    (hr : Row mL 9 1 (some ⟨gL, 0, none⟩) L.length c (strsV L)) (at_ : Nat) (t : List UInt8) (hat : at_ < L.length) (ht : n ≤ t.length) (ho : n ≤ (L.getD at_ []).length) (hs : t.length ≤ 1048576) (hs2 : (L.getD at_ []).length ≤ 1048576) (hn3 : L.length ≤ 1073741824) :
    Ct Tryd.prog 95 [Ptr g, .agg #[I at_, Str t], I n] [mL, F] (fun _ : Hp => .tuple #[]) (fun m => Row m 9 1 (some ⟨gL, 0, none⟩) L.length c (strsV (lastW L (at_, t) n))) (fun m => [m, F]) := by
  refine Ct.walk Tryd.func95 rfl Tryd.ntmps95 rfl (fun w0 hw0 => ?_)
  change J _ [(0, _), (1, _), (2, _)] _ _ _
  refine J.seq (fun K1 hK1 => ?_)
  refine J.region ?_
  refine J.e (op_box rfl rfl (l := [I at_, Str t]) rfl) rfl rfl rfl ?_
  intro g4 _
  change J _ _ _ [mL, F, blk g4 [I at_, Str t] 149] _
  refine J.nil ?_
  refine J.then_n (J.k hK1 ?_)
  refine J.keepE [(0, _), (2, _), (4, _)] ⟨rfl, rfl, rfl, trivial⟩ ?_
  refine J.draw [mL, F, blk g4 [I at_, Str t] 149] [22] (.y 0 (.y 1 (.y 2 (.y 3 (.y 4 (.y 5 (.y 6 (.y 7 (.y 8 (.y 9 (.y 10 (.y 11 (.y 12 (.y 13 (.y 14 (.y 15 (.y 16 (.y 17 (.y 18 (.y 19 (.y 20 (.y 21 (.e 22 .nil))))))))))))))))))))))) Tryd.wide (by decide +kernel) (by simp) ?_
  refine J.dy rfl (op_move rfl rfl) rfl rfl rfl rfl ?_
  refine J.dy rfl (op_nilCheck rfl rfl) rfl rfl rfl rfl ?_
  refine J.dy rfl (op_fieldAddr (j := 0) rfl rfl Tryd.underlying126 rfl Tryd.sizeOf55 rfl) rfl rfl rfl rfl ?_
  refine J.dy rfl (op_load rfl rfl Tryd.isAgg55 (m := F) (by simp) (hc.at (i := 0) rfl)) rfl rfl rfl rfl ?_
  refine J.dy rfl (op_fieldAddr (j := 0) rfl rfl Tryd.underlying149 rfl Tryd.sizeOf3 rfl) rfl rfl rfl rfl ?_
  refine J.dy rfl (op_loadB 2 rfl rfl rfl Tryd.isAgg3 rfl) rfl rfl rfl rfl ?_
  refine J.dy rfl (op_fieldAddr (j := 1) rfl rfl Tryd.underlying149 rfl Tryd.sizeOf9 rfl) rfl rfl rfl rfl ?_
  refine J.dy rfl (op_loadB 2 rfl rfl rfl Tryd.isAgg9 rfl) rfl rfl rfl rfl ?_
  refine J.dy rfl (op_move rfl rfl) rfl rfl rfl rfl ?_
  refine J.dy rfl ((op_sslice (l := 0) (h := n) Tryd.underlying9 rfl rfl rfl rfl ⟨by omega, by omega⟩).as (v' := Str (t.take n)) (congrArg Str List.drop_zero)) rfl rfl rfl rfl ?_
  refine J.dy rfl (op_move rfl rfl) rfl rfl rfl rfl ?_
  refine J.dy rfl (op_nilCheck rfl rfl) rfl rfl rfl rfl ?_
  refine J.dy rfl (op_fieldAddr (j := 0) rfl rfl Tryd.underlying126 rfl Tryd.sizeOf55 rfl) rfl rfl rfl rfl ?_
  refine J.dy rfl (op_load rfl rfl Tryd.isAgg55 (m := F) (by simp) (hc.at (i := 0) rfl)) rfl rfl rfl rfl ?_
  refine J.dy rfl (op_fieldAddr (j := 0) rfl rfl Tryd.underlying149 rfl Tryd.sizeOf3 rfl) rfl rfl rfl rfl ?_
  refine J.dy rfl (op_loadB 2 rfl rfl rfl Tryd.isAgg3 rfl) rfl rfl rfl rfl ?_
  refine J.dy rfl (op_indexAddr (i := at_) rfl rfl rfl Tryd.underlying55 Tryd.sizeOf9 hr.sl (by omega)) rfl rfl rfl rfl ?_
  refine J.dy rfl (op_load rfl rfl Tryd.isAgg9 (m := mL) (by simp) (v := Str (L.getD at_ [])) (hr.sl.elem (strsV_get (getSome [] hat)))) rfl rfl rfl rfl ?_
  refine J.dy rfl (op_move rfl rfl) rfl rfl rfl rfl ?_
  refine J.dy rfl ((op_sslice (l := n) (h := (L.getD at_ []).length) Tryd.underlying9 rfl rfl rfl rfl ⟨by omega, by omega⟩).as (v' := Str ((L.getD at_ []).drop n)) (by rw [List.take_length])) rfl rfl rfl rfl ?_
  refine J.dy rfl ((op_sadd rfl rfl rfl (by simp only [List.length_take, List.length_drop]; omega)).as (v' := Str (tear (L.getD at_ []) t n)) rfl) rfl rfl rfl rfl ?_
  refine J.dy rfl (op_indexAddr (i := at_) rfl rfl rfl Tryd.underlying55 Tryd.sizeOf9 hr.sl (by omega)) rfl rfl rfl rfl ?_
  refine J.ds rfl (op_storeRow (i := 0) (k := at_) (off := 0) (b := [Str (tear (L.getD at_ []) t n)]) rfl (by show some _ = some _; rw [elemAt0]) rfl rfl hr (vs := [Str (tear (L.getD at_ []) t n)]) rfl Tryd.sizeOf9 rfl (by omega) (strsV_get (getSome [] hat)) rfl (by show _ + 1 ≤ 1; decide)) rfl rfl rfl ?_
  rintro m9 h9
  change J _ _ _ [m9, F, blk g4 [I at_, Str t] 149] _
  refine J.dnil ?_
  exact J.fin hw0 (fun _ _ h => h) (res0 rfl) (retOk m9 rfl (by rw [strsV_set] at h9; exact h9) [0, 1] rfl (by decide))

theorem cutI_ct (F mL mW : Hp) (g : Nat) (d : Dk) (hok : d.ok0) (hn2 : d.wait.length ≤ 1073741824) (gL : Nat) (c : Nat) (B : Option Addr) (e : Nat) (C : Option Addr) (f : Nat) (hL : Row mL 9 1 (some ⟨gL, 0, none⟩) d.last.length c (strsV d.last)) (hW : Row mW 149 2 B d.wait.length e (writV d.wait)) (K : List UInt8) (E : Option Addr) (q : Nat) (hK : Sl F 1 E K.length q (bytesV K)) (hKn : K.length ≤ 9223372036854775807) :
    Ct Tryd.prog 42 [Ptr g, .slice E K.length q] [blk g [.slice (some ⟨gL, 0, none⟩) d.last.length c, .slice B d.wait.length e, .bool d.off, .bool d.armed, I d.fuse, .slice C d.keep.length f] 126, mL, mW, F] (fun _ : Hp => .tuple #[]) (fun m => Row m 9 1 (some ⟨gL, 0, none⟩) d.last.length c (strsV (cutL d.last d.wait K d.wait.length))) (fun m => [blk g [.slice (some ⟨gL, 0, none⟩) d.last.length c, .slice none 0 0, .bool true, .bool false, I d.fuse, .slice C d.keep.length f] 126, m, F]) := by
  refine Ct.walk Tryd.func42 rfl Tryd.ntmps42 rfl (fun w0 hw0 => ?_)
  change J _ [(0, _), (1, _)] _ _ _
  refine J.seq (fun K1 hK1 => ?_)
  refine J.seq (fun K2 hK2 => ?_)
  refine J.region ?_
  refine J.y (op_move rfl rfl) rfl rfl rfl ?_
  refine J.y ((op_peq Tryd.underlying64 rfl rfl rfl).as (v' := .bool false) rfl) rfl rfl rfl ?_
  refine J.nil ?_
  refine J.then_n (J.k hK2 ?_)
  refine J.keepE [(0, _), (1, _), (7, _)] ⟨rfl, rfl, rfl, trivial⟩ ?_
  refine J.condF rfl rfl ?_
  refine J.skip ?_
  refine J.then_n (J.k hK1 ?_)
  refine J.keepE [(0, _), (1, _)] ⟨rfl, rfl, trivial⟩ ?_
  refine J.seq (fun K3 hK3 => ?_)
  refine J.seq (fun K4 hK4 => ?_)
  refine J.region ?_
  refine J.y (op_move rfl rfl) rfl rfl rfl ?_
  refine J.y (op_nilCheck rfl rfl) rfl rfl rfl ?_
  refine J.y (op_fieldAddr (j := 1) rfl rfl Tryd.underlying126 rfl Tryd.sizeOf124 rfl) rfl rfl rfl ?_
  refine J.y (op_loadB 0 rfl rfl rfl Tryd.isAgg124 rfl) rfl rfl rfl ?_
  refine J.y (op_len Tryd.underlying124 rfl rfl) rfl rfl rfl ?_
  refine J.y (op_move rfl rfl) rfl rfl rfl ?_
  refine J.nil ?_
  refine J.then_n (J.k hK4 ?_)
  refine J.keepE [(0, _), (1, _), (11, _), (12, _), (13, _)] ⟨rfl, rfl, rfl, rfl, rfl, trivial⟩ ?_
  refine J.block ?_
  refine J.loop (X := Nat × Hp) (fun x => [(0, Ptr g), (1, .slice E K.length q), (11, .slice B d.wait.length e), (12, I d.wait.length), (13, I x.1)]) (fun x => [blk g [.slice (some ⟨gL, 0, none⟩) d.last.length c, .slice B d.wait.length e, .bool d.off, .bool d.armed, I d.fuse, .slice C d.keep.length f] 126, x.2, mW, F]) (fun x => x.1 ≤ d.wait.length ∧ Row x.2 9 1 (some ⟨gL, 0, none⟩) d.last.length c (strsV (cutL d.last d.wait K x.1))) (fun x => d.wait.length - x.1) (0, mL) (⟨Nat.zero_le _, hL⟩) ⟨rfl, rfl, rfl, rfl, rfl, trivial⟩ (fun _ h => h) ?_
  rintro ⟨k, m⟩ ⟨hk, hr⟩ I0 hI0
  dsimp only at hk hr ⊢
  refine J.seq (fun K5 hK5 => ?_)
  refine J.region ?_
  refine J.y (op_lss rfl rfl rfl) rfl rfl rfl ?_
  refine J.nil ?_
  refine J.then_n (J.k hK5 ?_)
  refine J.keepE [(0, _), (1, _), (11, _), (12, _), (13, _), (14, _)] ⟨rfl, rfl, rfl, rfl, rfl, rfl, trivial⟩ ?_
  refine J.seq (fun K6 hK6 => ?_)
  refine J.ite rfl (fun h14 => ?_) (fun h14 => ?_)
  ·
    refine J.skip ?_
    refine J.then_n (J.k hK6 ?_)
    refine J.keepE [(0, _), (1, _), (11, _), (12, _), (13, _)] ⟨rfl, rfl, rfl, rfl, rfl, trivial⟩ ?_
    refine J.seq (fun K7 hK7 => ?_)
    refine J.block ?_
    refine J.seq (fun K8 hK8 => ?_)
    refine J.region ?_
    refine J.y (op_move rfl rfl) rfl rfl rfl ?_
    refine J.y (op_indexAddr (i := k) rfl rfl rfl Tryd.underlying124 Tryd.sizeOf149 hW.sl (by omega)) rfl rfl rfl ?_
    refine J.y (op_loadA rfl rfl Tryd.isAgg149 Tryd.sizeOf149 (m := mW) (by simp) (vs := [I (d.wait.getD k (0, [])).1, Str (d.wait.getD k (0, [])).2]) (hW.sl.elem (writV_get (by omega))) rfl) rfl rfl rfl ?_
    refine J.e (op_alloc rfl Tryd.zeroValue149 rfl) rfl rfl rfl ?_
    intro g5 _
    change J _ _ _ [blk g [.slice (some ⟨gL, 0, none⟩) d.last.length c, .slice B d.wait.length e, .bool d.off, .bool d.armed, I d.fuse, .slice C d.keep.length f] 126, m, mW, F, blk g5 _ 149] _
    refine J.y (op_assign rfl rfl) rfl rfl rfl ?_
    refine J.s (op_storeAll (l := [I 0, Str []]) (i := 4) (vs := [I (d.wait.getD k (0, [])).1, Str (d.wait.getD k (0, [])).2]) rfl rfl rfl rfl rfl Tryd.sizeOf149 rfl rfl) rfl rfl (fun _ _ => ?_)
    change J _ _ _ [blk g [.slice (some ⟨gL, 0, none⟩) d.last.length c, .slice B d.wait.length e, .bool d.off, .bool d.armed, I d.fuse, .slice C d.keep.length f] 126, m, mW, F, blk g5 [I (d.wait.getD k (0, [])).1, Str (d.wait.getD k (0, [])).2] 149] _
    refine J.nil ?_
    refine J.then_n (J.k hK8 ?_)
    refine J.keepE [(0, _), (1, _), (4, _), (5, _), (11, _), (12, _), (13, _)] ⟨rfl, rfl, rfl, rfl, rfl, rfl, rfl, trivial⟩ ?_
    refine J.seq (fun K9 hK9 => ?_)
    refine J.region ?_
    refine J.y (op_move rfl rfl) rfl rfl rfl ?_
    refine J.y (op_move rfl rfl) rfl rfl rfl ?_
    refine J.y (op_len Tryd.underlying30 rfl rfl) rfl rfl rfl ?_
    refine J.y (op_lss rfl rfl rfl) rfl rfl rfl ?_
    refine J.nil ?_
    refine J.then_n (J.k hK9 ?_)
    refine J.keepE [(0, _), (1, _), (4, _), (5, _), (11, _), (12, _), (13, _), (21, _)] ⟨rfl, rfl, rfl, rfl, rfl, rfl, rfl, rfl, trivial⟩ ?_
    refine J.ite rfl (fun h21 => ?_) (fun h21 => ?_)
    ·
      have ⟨hw1, hw2⟩ := getWr hok.w64 (show k < d.wait.length by omega)
      have h64 := get64 (cutL_64 hok.l64 hok.w64 (K := K) k hk) (show (d.wait.getD k (0, [])).1 < (cutL d.last d.wait K k).length by rw [cutL_len9]; exact hw1)
      obtain ⟨nk, hnk⟩ : ∃ nk, nk = min (K.getD k 0).toNat 64 := ⟨_, rfl⟩
      refine J.draw [blk g5 [I (d.wait.getD k (0, [])).1, Str (d.wait.getD k (0, [])).2] 149, F] [] (.y 0 (.y 1 (.y 2 (.y 3 (.y 4 (.y 5 (.y 6 (.y 7 (.e 8 .nil))))))))) Tryd.wide (by decide +kernel) (by simp) ?_
      refine J.dy rfl (op_move rfl rfl) rfl rfl rfl rfl ?_
      refine J.dy rfl (op_loadBA 0 rfl rfl rfl Tryd.isAgg149 Tryd.sizeOf149 rfl) rfl rfl rfl rfl ?_
      refine J.dy rfl (op_move rfl rfl) rfl rfl rfl rfl ?_
      refine J.dy rfl (op_move rfl rfl) rfl rfl rfl rfl ?_
      refine J.dy rfl (op_indexAddr (i := k) rfl rfl rfl Tryd.underlying30 Tryd.sizeOf5 hK (by omega)) rfl rfl rfl rfl ?_
      refine J.dy rfl (op_load rfl rfl Tryd.isAgg5 (m := F) (by simp) (v := B8 (K.getD k 0)) (hK.elem (bytesV_get (getSome 0 (by omega))))) rfl rfl rfl rfl ?_
      refine J.dy rfl (op_cv_u8_i64 rfl rfl Tryd.underlying5 Tryd.underlying3) rfl rfl rfl rfl ?_
      refine J.dy rfl ((op_min rfl rfl rfl).as (v' := I ((nk : Nat) : Int)) (congrArg I (by omega))) rfl rfl rfl rfl ?_
      refine J.de rfl (op_call rfl rfl ent95 (Ct.use1 1 (m' := fun x : Hp => x) (new := fun _ => []) rfl (fun F' hF => by have := last_ct F' m g gL c nk d B e C f (cutL d.last d.wait K k) (by rw [cutL_len9]; exact Cells.blk0.mono (hF (blk g [.slice (some ⟨gL, 0, none⟩) d.last.length c, .slice B d.wait.length e, .bool d.off, .bool d.armed, I d.fuse, .slice C d.keep.length f] 126) (by simp))) (by rw [cutL_len9]; exact hr) (d.wait.getD k (0, [])).1 (d.wait.getD k (0, [])).2 (by rw [cutL_len9]; exact hw1) (by omega) (by omega) (by omega) (by omega) (by rw [cutL_len9]; have := hok.n1; omega); rw [cutL_len9] at this; exact this))) rfl rfl rfl (by simp) ?_
      rintro m30 h30
      change J _ _ _ [blk g [.slice (some ⟨gL, 0, none⟩) d.last.length c, .slice B d.wait.length e, .bool d.off, .bool d.armed, I d.fuse, .slice C d.keep.length f] 126, m30, mW, F, blk g5 [I (d.wait.getD k (0, [])).1, Str (d.wait.getD k (0, [])).2] 149] _
      refine J.perm [0, 1, 2, 3] [blk g [.slice (some ⟨gL, 0, none⟩) d.last.length c, .slice B d.wait.length e, .bool d.off, .bool d.armed, I d.fuse, .slice C d.keep.length f] 126, m30, mW, F] rfl (by decide) ?_
      refine J.dnil ?_
      refine J.blk_n ?_
      refine J.then_n (J.k hK7 ?_)
      refine J.keepE [(0, _), (1, _), (11, _), (12, _), (13, _)] ⟨rfl, rfl, rfl, rfl, rfl, trivial⟩ ?_
      refine J.region ?_
      refine J.y ((op_add rfl rfl rfl (by first | omega | (refine ⟨?_, ?_⟩ <;> omega))).as (v' := I ((k + 1 : Nat) : Int)) (congrArg I (by omega))) rfl rfl rfl ?_
      refine J.y (op_move rfl rfl) rfl rfl rfl ?_
      refine J.nil ?_
      refine J.then_n ?_
      exact J.kk (k + 1, m30) (fun x (hx : _ ∧ d.wait.length - x.1 < d.wait.length - k) => hI0 x hx.1 hx.2) ⟨⟨by dsimp only; omega, by dsimp only; rw [cutL, if_pos (by omega), ← hnk]; exact h30⟩, by dsimp only; omega⟩ ⟨rfl, rfl, rfl, rfl, rfl, trivial⟩ (fun _ h => h)
    ·
      refine J.skip ?_
      refine J.blk_n ?_
      refine J.then_n (J.k hK7 ?_)
      refine J.keepE [(0, _), (1, _), (11, _), (12, _), (13, _)] ⟨rfl, rfl, rfl, rfl, rfl, trivial⟩ ?_
      refine J.region ?_
      refine J.y ((op_add rfl rfl rfl (by first | omega | (refine ⟨?_, ?_⟩ <;> omega))).as (v' := I ((k + 1 : Nat) : Int)) (congrArg I (by omega))) rfl rfl rfl ?_
      refine J.y (op_move rfl rfl) rfl rfl rfl ?_
      refine J.nil ?_
      refine J.then_n ?_
      refine J.perm [0, 1, 2, 3] [blk g [.slice (some ⟨gL, 0, none⟩) d.last.length c, .slice B d.wait.length e, .bool d.off, .bool d.armed, I d.fuse, .slice C d.keep.length f] 126, m, mW, F] rfl (by decide) ?_
      exact J.kk (k + 1, m) (fun x (hx : _ ∧ d.wait.length - x.1 < d.wait.length - k) => hI0 x hx.1 hx.2) ⟨⟨by dsimp only; omega, by dsimp only; rw [cutL, if_neg (by omega)]; exact hr⟩, by dsimp only; omega⟩ ⟨rfl, rfl, rfl, rfl, rfl, trivial⟩ (fun _ h => h)
  ·
    refine J.exit ?_
    refine J.then_x ?_
    refine J.then_x ?_
    refine J.blk_eq ?_
    refine J.then_n (J.k hK3 ?_)
    refine J.keepE [(0, _)] ⟨rfl, trivial⟩ ?_
    have hkn : k = d.wait.length := by omega
    subst hkn
    refine J.region ?_
    refine J.y (op_move rfl rfl) rfl rfl rfl ?_
    refine J.y (op_move rfl rfl) rfl rfl rfl ?_
    refine J.y (op_move rfl rfl) rfl rfl rfl ?_
    refine J.y (op_nilCheck rfl rfl) rfl rfl rfl ?_
    refine J.y (op_fieldAddr (j := 1) rfl rfl Tryd.underlying126 rfl Tryd.sizeOf124 rfl) rfl rfl rfl ?_
    refine J.s (op_store (i := 0) (vs := [.slice none 0 0]) rfl rfl rfl rfl rfl Tryd.sizeOf124 rfl (by simp)) rfl rfl (fun _ _ => ?_)
    change J _ _ _ [blk g [.slice (some ⟨gL, 0, none⟩) d.last.length c, .slice none 0 0, .bool d.off, .bool d.armed, I d.fuse, .slice C d.keep.length f] 126, m, mW, F] _
    refine J.y (op_nilCheck rfl rfl) rfl rfl rfl ?_
    refine J.y (op_fieldAddr (j := 2) rfl rfl Tryd.underlying126 rfl Tryd.sizeOf4 rfl) rfl rfl rfl ?_
    refine J.s (op_store (i := 0) (vs := [.bool true]) rfl rfl rfl rfl rfl Tryd.sizeOf4 rfl (by simp)) rfl rfl (fun _ _ => ?_)
    change J _ _ _ [blk g [.slice (some ⟨gL, 0, none⟩) d.last.length c, .slice none 0 0, .bool true, .bool d.armed, I d.fuse, .slice C d.keep.length f] 126, m, mW, F] _
    refine J.y (op_nilCheck rfl rfl) rfl rfl rfl ?_
    refine J.y (op_fieldAddr (j := 3) rfl rfl Tryd.underlying126 rfl Tryd.sizeOf4 rfl) rfl rfl rfl ?_
    refine J.s (op_store (i := 0) (vs := [.bool false]) rfl rfl rfl rfl rfl Tryd.sizeOf4 rfl (by simp)) rfl rfl (fun _ _ => ?_)
    change J _ _ _ [blk g [.slice (some ⟨gL, 0, none⟩) d.last.length c, .slice none 0 0, .bool true, .bool false, I d.fuse, .slice C d.keep.length f] 126, m, mW, F] _
    refine J.nil ?_
    exact J.fin hw0 (fun _ _ h => h) (res0 rfl) (retOk m rfl hr [0, 1, 3] rfl (by decide))

theorem Dsk.open {mm : Hp} {g : Nat} {d : Dk} {C : Option Addr} {f : Nat} (h : Dsk mm g d C f) (h0 : 0 < d.last.length) : ∃ gL c mL B e mW, mm = U [blk g (d.cells (some ⟨gL, 0, none⟩) c B e C f) 126, mL, mW] ∧ Djs [blk g (d.cells (some ⟨gL, 0, none⟩) c B e C f) 126, mL, mW] ∧ Row mL 9 1 (some ⟨gL, 0, none⟩) d.last.length c (strsV d.last) ∧ Row mW 149 2 B d.wait.length e (writV d.wait) := by
  obtain ⟨A, c, mL, B, e, mW, h1, h2, h3, h4⟩ := h
  obtain ⟨gL, rfl⟩ := h3.at h0
  exact ⟨gL, c, mL, B, e, mW, h1, h2, h3, h4⟩
theorem Djs_none2 {a b : Hp} (h : Djs [a, b]) : Djs [a, b, fun _ => none] := by
  rw [Djs_iff] at h ⊢
  simp only [List.pairwise_cons, List.mem_cons, List.not_mem_nil, or_false] at h ⊢
  refine ⟨?_, fun _ _ _ => .inr (by rename_i h _; rw [h]), fun _ hm => hm.elim, .nil⟩
  rintro m (rfl | rfl)
  · exact h.1 m rfl
  · exact fun _ => .inr rfl
theorem cut_dsk {g : Nat} (d : Dk) (gL c : Nat) (C : Option Addr) (f : Nat) (m : Hp) (K : List UInt8) (hm : Row m 9 1 (some ⟨gL, 0, none⟩) d.last.length c (strsV (cutL d.last d.wait K d.wait.length))) (hj : Djs [blk g [.slice (some ⟨gL, 0, none⟩) d.last.length c, .slice none 0 0, .bool true, .bool false, I d.fuse, .slice C d.keep.length f] 126, m]) :
    Dsk (U [blk g [.slice (some ⟨gL, 0, none⟩) d.last.length c, .slice none 0 0, .bool true, .bool false, I d.fuse, .slice C d.keep.length f] 126, m]) g (d.cut K) C f := by
  refine ⟨some ⟨gL, 0, none⟩, c, m, none, 0, fun _ => none, ?_, ?_, ?_, RowQ.nil⟩
  · show U [blk g [.slice (some ⟨gL, 0, none⟩) d.last.length c, .slice none 0 0, .bool true, .bool false, I d.fuse, .slice C d.keep.length f] 126, m] = U [blk g [.slice (some ⟨gL, 0, none⟩) (cutL d.last d.wait K d.wait.length).length c, .slice none 0 0, .bool true, .bool false, I d.fuse, .slice C d.keep.length f] 126, m, fun _ => none]
    rw [cutL_len9]; rfl
  · show Djs [blk g [.slice (some ⟨gL, 0, none⟩) (cutL d.last d.wait K d.wait.length).length c, .slice none 0 0, .bool true, .bool false, I d.fuse, .slice C d.keep.length f] 126, m, fun _ => none]
    rw [cutL_len9]; exact Djs_none2 hj
  · show Row m 9 1 (some ⟨gL, 0, none⟩) (cutL d.last d.wait K d.wait.length).length c _
    rw [cutL_len9]; exact hm
theorem cutB_ct (F mm : Hp) (g : Nat) (d : Dk) (C : Option Addr) (f : Nat) (hb : Dsk mm g d C f) (hok : d.ok0) (hn2 : d.wait.length ≤ 1073741824) (K : List UInt8) (E : Option Addr) (q : Nat) (hK : Sl F 1 E K.length q (bytesV K)) (hKn : K.length ≤ 9223372036854775807) :
    Ct Tryd.prog 42 [Ptr g, .slice E K.length q] [mm, F] (fun _ : Hp => .tuple #[]) (fun m => Dsk m g (d.cut K) C f) (fun m => [m, F]) := by
  obtain ⟨gL, c, mL, B, e, mW, rfl, hd, h1, h2⟩ := hb.open hok.n0
  exact ct_joinUs (A' := fun m => [blk g [.slice (some ⟨gL, 0, none⟩) d.last.length c, .slice none 0 0, .bool true, .bool false, I d.fuse, .slice C d.keep.length f] 126, m]) hd (fun _ _ => rfl) (fun m hm hj => cut_dsk d gL c C f m K hm hj) (cutI_ct F mL mW g d hok hn2 gL c B e C f h1 h2 K E q hK hKn)

theorem burn_ct (F mm : Hp) (g : Nat) (d : Dk) (C : Option Addr) (f : Nat) (hb : Dsk mm g d C f) (hok : d.ok) (hn2 : d.wait.length ≤ 1073741824) (hKp : Sl F 1 C d.keep.length f (bytesV d.keep)) (hn3 : d.keep.length ≤ 9223372036854775807) :
    Ct Tryd.prog 165 [Ptr g] [mm, F] (fun _ : Hp => .bool (decide d.burns)) (fun m => Dsk m g d.burn C f) (fun m => [m, F]) := by
  obtain ⟨gL, c, mL, B, e, mW, rfl, hd, hL, hW⟩ := hb.open hok.n0
  unfold Dk.cells at hd ⊢
  refine Ct.walk Tryd.func165 rfl Tryd.ntmps165 rfl (fun w0 hw0 => ?_)
  change J _ [(0, _)] _ _ _
  refine J.splitUs hd ?_
  change J _ _ _ [blk g [.slice (some ⟨gL, 0, none⟩) d.last.length c, .slice B d.wait.length e, .bool d.off, .bool d.armed, I d.fuse, .slice C d.keep.length f] 126, mL, mW, F] _
  refine J.seq (fun K1 hK1 => ?_)
  refine J.region ?_
  refine J.y (op_assign rfl rfl) rfl rfl rfl ?_
  refine J.nil ?_
  refine J.then_n (J.k hK1 ?_)
  refine J.keepE [(0, _)] ⟨rfl, trivial⟩ ?_
  refine J.seq (fun K2 hK2 => ?_)
  refine J.seq (fun K3 hK3 => ?_)
  refine J.region ?_
  refine J.y (op_move rfl rfl) rfl rfl rfl ?_
  refine J.y (op_nilCheck rfl rfl) rfl rfl rfl ?_
  refine J.y (op_fieldAddr (j := 3) rfl rfl Tryd.underlying126 rfl Tryd.sizeOf4 rfl) rfl rfl rfl ?_
  refine J.y (op_loadB (v := .bool d.armed) 0 rfl rfl rfl Tryd.isAgg4 rfl) rfl rfl rfl ?_
  refine J.y ((op_not rfl rfl).as (v' := .bool (decide (¬ d.armed = true))) (congrArg Value.bool (by simp))) rfl rfl rfl ?_
  refine J.nil ?_
  refine J.then_n (J.k hK3 ?_)
  refine J.keepE [(0, _), (7, _)] ⟨rfl, rfl, trivial⟩ ?_
  refine J.ite rfl (fun h7 => ?_) (fun h7 => ?_)
  ·
    refine J.seq (fun K4 hK4 => ?_)
    refine J.region ?_
    refine J.y (op_assign rfl rfl) rfl rfl rfl ?_
    refine J.nil ?_
    refine J.then_n (J.k hK4 ?_)
    refine J.keepE [(2, _)] ⟨rfl, trivial⟩ ?_
    refine J.ret ?_
    refine J.then_r ?_
    exact J.done hw0 (fun _ _ h => h) (res1 rfl rfl) (retOkUs [blk g [.slice (some ⟨gL, 0, none⟩) d.last.length c, .slice B d.wait.length e, .bool d.off, .bool d.armed, I d.fuse, .slice C d.keep.length f] 126, mL, mW] [F] (U [blk g [.slice (some ⟨gL, 0, none⟩) d.last.length c, .slice B d.wait.length e, .bool d.off, .bool d.armed, I d.fuse, .slice C d.keep.length f] 126, mL, mW]) (congrArg Value.bool (decide_eq_false (fun h => h7 h.1)).symm) (fun hd => by rw [show d.burn = d from if_neg h7]; exact ⟨_, c, mL, B, e, mW, rfl, hd, hL, hW⟩) [0, 1, 2, 3] rfl rfl (by decide))
  ·
    refine J.skip ?_
    refine J.then_n (J.k hK2 ?_)
    refine J.keepE [(0, _)] ⟨rfl, trivial⟩ ?_
    refine J.seq (fun K5 hK5 => ?_)
    have ha : d.armed = true := by simpa using h7
    refine J.region ?_
    refine J.y (op_move rfl rfl) rfl rfl rfl ?_
    refine J.y (op_nilCheck rfl rfl) rfl rfl rfl ?_
    refine J.y (op_fieldAddr (j := 4) rfl rfl Tryd.underlying126 rfl Tryd.sizeOf3 rfl) rfl rfl rfl ?_
    refine J.y (op_loadB 0 rfl rfl rfl Tryd.isAgg3 rfl) rfl rfl rfl ?_
    refine J.y (op_sub rfl rfl rfl (by have := hok.fb; have := hok.fz ha; omega)) rfl rfl rfl ?_
    refine J.y (op_nilCheck rfl rfl) rfl rfl rfl ?_
    refine J.y (op_fieldAddr (j := 4) rfl rfl Tryd.underlying126 rfl Tryd.sizeOf3 rfl) rfl rfl rfl ?_
    refine J.s (op_store (i := 0) (vs := [I (d.fuse - 1)]) rfl rfl rfl rfl rfl Tryd.sizeOf3 rfl (by simp)) rfl rfl (fun _ _ => ?_)
    change J _ _ _ [blk g [.slice (some ⟨gL, 0, none⟩) d.last.length c, .slice B d.wait.length e, .bool d.off, .bool d.armed, I (d.fuse - 1), .slice C d.keep.length f] 126, mL, mW, F] _
    refine J.nil ?_
    refine J.then_n (J.k hK5 ?_)
    refine J.keepE [(0, _)] ⟨rfl, trivial⟩ ?_
    refine J.seq (fun K6 hK6 => ?_)
    refine J.seq (fun K7 hK7 => ?_)
    refine J.region ?_
    refine J.y (op_move rfl rfl) rfl rfl rfl ?_
    refine J.y (op_nilCheck rfl rfl) rfl rfl rfl ?_
    refine J.y (op_fieldAddr (j := 4) rfl rfl Tryd.underlying126 rfl Tryd.sizeOf3 rfl) rfl rfl rfl ?_
    refine J.y (op_loadB 0 rfl rfl rfl Tryd.isAgg3 rfl) rfl rfl rfl ?_
    refine J.y (op_geq rfl rfl rfl) rfl rfl rfl ?_
    refine J.nil ?_
    refine J.then_n (J.k hK7 ?_)
    refine J.keepE [(0, _), (19, _)] ⟨rfl, rfl, trivial⟩ ?_
    refine J.ite rfl (fun h19 => ?_) (fun h19 => ?_)
    ·
      refine J.seq (fun K8 hK8 => ?_)
      refine J.region ?_
      refine J.y (op_assign rfl rfl) rfl rfl rfl ?_
      refine J.nil ?_
      refine J.then_n (J.k hK8 ?_)
      refine J.keepE [(2, _)] ⟨rfl, trivial⟩ ?_
      refine J.ret ?_
      refine J.then_r ?_
      exact J.done hw0 (fun _ _ h => h) (res1 rfl rfl) (retOkUs [blk g [.slice (some ⟨gL, 0, none⟩) d.last.length c, .slice B d.wait.length e, .bool d.off, .bool d.armed, I (d.fuse - 1), .slice C d.keep.length f] 126, mL, mW] [F] (U [blk g [.slice (some ⟨gL, 0, none⟩) d.last.length c, .slice B d.wait.length e, .bool d.off, .bool d.armed, I (d.fuse - 1), .slice C d.keep.length f] 126, mL, mW]) (congrArg Value.bool (decide_eq_false (fun h => by have := h.2; omega)).symm) (fun hd => by rw [show d.burn = { d with fuse := d.fuse - 1 } from by unfold Dk.burn; rw [if_pos ha, if_neg (by omega)]]; exact ⟨_, c, mL, B, e, mW, rfl, hd, hL, hW⟩) [0, 1, 2, 3] rfl rfl (by decide))
    ·
      refine J.skip ?_
      refine J.then_n (J.k hK6 ?_)
      refine J.keepE [(0, _)] ⟨rfl, trivial⟩ ?_
      refine J.seq (fun K9 hK9 => ?_)
      refine J.region ?_
      refine J.y (op_move rfl rfl) rfl rfl rfl ?_
      refine J.y (op_move rfl rfl) rfl rfl rfl ?_
      refine J.y (op_nilCheck rfl rfl) rfl rfl rfl ?_
      refine J.y (op_fieldAddr (j := 5) rfl rfl Tryd.underlying126 rfl Tryd.sizeOf30 rfl) rfl rfl rfl ?_
      refine J.y (op_loadB 0 rfl rfl rfl Tryd.isAgg30 rfl) rfl rfl rfl ?_
      refine J.e (op_call rfl rfl ent42 ((cutI_ct F mL mW g { d with fuse := d.fuse - 1 } ⟨hok.l64, hok.w64, hok.n0, hok.n1⟩ hn2 gL c B e C f hL hW d.keep C f hKp hn3))) rfl rfl rfl ?_
      rintro m25 h25
      change J _ _ _ [blk g [.slice (some ⟨gL, 0, none⟩) d.last.length c, .slice none 0 0, .bool true, .bool false, I (d.fuse - 1), .slice C d.keep.length f] 126, m25, F] _
      refine J.nil ?_
      refine J.then_n (J.k hK9 ?_)
      refine J.keepE [] trivial ?_
      refine J.seq (fun K10 hK10 => ?_)
      refine J.region ?_
      refine J.y (op_assign rfl rfl) rfl rfl rfl ?_
      refine J.nil ?_
      refine J.then_n (J.k hK10 ?_)
      refine J.keepE [(2, _)] ⟨rfl, trivial⟩ ?_
      refine J.ret ?_
      exact J.done hw0 (fun _ _ h => h) (res1 rfl rfl) (retOkUs [blk g [.slice (some ⟨gL, 0, none⟩) d.last.length c, .slice none 0 0, .bool true, .bool false, I (d.fuse - 1), .slice C d.keep.length f] 126, m25] [F] (U [blk g [.slice (some ⟨gL, 0, none⟩) d.last.length c, .slice none 0 0, .bool true, .bool false, I (d.fuse - 1), .slice C d.keep.length f] 126, m25]) (congrArg Value.bool (decide_eq_true (show d.burns from ⟨ha, by omega⟩)).symm) (fun hj => by rw [show d.burn = { d with fuse := d.fuse - 1 }.cut d.keep from by unfold Dk.burn; rw [if_pos ha, if_pos (by omega)]]; exact cut_dsk { d with fuse := d.fuse - 1 } gL c C f m25 d.keep h25 hj) [0, 1, 2] rfl rfl (by decide))

theorem clone8_ct (F : Hp) (K : List UInt8) (E : Option Addr) (q : Nat) (hK : Sl F 1 E K.length q (bytesV K)) (hn : K.length ≤ 140737488351232) :
    Ct Tryd.prog 91 [.slice E K.length q] [F] (fun x : Option Addr × Nat × Hp => .slice x.1 K.length x.2.1) (fun x => Row x.2.2 5 1 x.1 K.length x.2.1 (bytesV K)) (fun x => [F, x.2.2]) := by
  refine Ct.walk Tryd.func91 rfl Tryd.ntmps91 rfl (fun w0 hw0 => ?_)
  change J _ [(0, _)] _ _ _
  refine J.seq (fun K1 hK1 => ?_)
  refine J.region ?_
  refine J.y (op_assign rfl rfl) rfl rfl rfl ?_
  refine J.nil ?_
  refine J.then_n (J.k hK1 ?_)
  refine J.keepE [(0, _)] ⟨rfl, trivial⟩ ?_
  refine J.seq (fun K2 hK2 => ?_)
  refine J.seq (fun K3 hK3 => ?_)
  refine J.region ?_
  refine J.y (op_move rfl rfl) rfl rfl rfl ?_
  refine J.y ((op_slNil Tryd.underlying30 rfl rfl rfl).as (v' := .bool (decide (E.isNone = true))) (congrArg Value.bool (by cases E <;> rfl))) rfl rfl rfl ?_
  refine J.nil ?_
  refine J.then_n (J.k hK3 ?_)
  refine J.keepE [(0, _), (4, _)] ⟨rfl, rfl, trivial⟩ ?_
  refine J.ite rfl (fun h4 => ?_) (fun h4 => ?_)
  ·
    refine J.seq (fun K4 hK4 => ?_)
    have hnil : K = [] := by
      cases K with
      | nil => rfl
      | cons a r =>
        obtain ⟨_, ad, hA, _⟩ := hK.2.2 0 _ rfl
        rw [hA] at h4; cases h4
    refine J.addEmpty [0, 1] [F, fun _ => none] rfl (by decide) ?_
    refine J.region ?_
    refine J.y (op_assign rfl rfl) rfl rfl rfl ?_
    refine J.nil ?_
    refine J.then_n (J.k hK4 ?_)
    refine J.keepE [(2, _)] ⟨rfl, trivial⟩ ?_
    refine J.ret ?_
    refine J.then_r ?_
    exact J.done hw0 (fun _ _ h => h) (res1 rfl rfl) (retOk (none, 0, fun _ => none) (by rw [hnil]; rfl) (by rw [hnil]; exact RowQ.nil) [0, 1] rfl (by decide))
  ·
    refine J.skip ?_
    refine J.then_n (J.k hK2 ?_)
    refine J.keepE [(0, _)] ⟨rfl, trivial⟩ ?_
    refine J.seq (fun K5 hK5 => ?_)
    refine J.region ?_
    refine J.e (op_buildSlice0 rfl Tryd.underlying30 el5) rfl rfl rfl ?_
    intro g5 _
    change J _ _ _ [F, blk g5 [] 5] _
    refine J.y (op_move rfl rfl) rfl rfl rfl ?_
    refine J.e (op_append (i := 1) (m2 := F) (xs := []) (ys := bytesV K) rfl rfl rfl Tryd.underlying30 Tryd.underlying30 el5 rfl (row_blk (q := True) (xs := []) rfl (by simp)) (by simp) hK (by simp [bytesV, Value.oneCell']) (by omega) (by omega)) rfl rfl rfl ?_
    rintro ⟨A7, c7, m7⟩ h7
    try dsimp only at h7
    change J _ ((7, .slice A7 (0 + K.length) c7) :: _) _ [F, m7] _
    refine J.y (op_assign rfl rfl) rfl rfl rfl ?_
    refine J.nil ?_
    refine J.then_n (J.k hK5 ?_)
    refine J.keepE [(2, _)] ⟨rfl, trivial⟩ ?_
    refine J.ret ?_
    exact J.done hw0 (fun _ _ h => h) (res1 rfl rfl) (retOk (A7, c7, m7) (by rw [Nat.zero_add]) (by rw [Nat.zero_add] at h7; exact h7) [0, 1] rfl (by decide))

theorem cloneS_ct (F : Hp) (K : List (List UInt8)) (E : Option Addr) (q : Nat) (hK : Sl F 1 E K.length q (strsV K)) (hn : K.length ≤ 1073741824) :
    Ct Tryd.prog 66 [.slice E K.length q] [F] (fun x : Option Addr × Nat × Hp => .slice x.1 K.length x.2.1) (fun x => Row x.2.2 9 1 x.1 K.length x.2.1 (strsV K)) (fun x => [F, x.2.2]) := by
  refine Ct.walk Tryd.func66 rfl Tryd.ntmps66 rfl (fun w0 hw0 => ?_)
  change J _ [(0, _)] _ _ _
  refine J.seq (fun K1 hK1 => ?_)
  refine J.region ?_
  refine J.y (op_assign rfl rfl) rfl rfl rfl ?_
  refine J.nil ?_
  refine J.then_n (J.k hK1 ?_)
  refine J.keepE [(0, _)] ⟨rfl, trivial⟩ ?_
  refine J.seq (fun K2 hK2 => ?_)
  refine J.seq (fun K3 hK3 => ?_)
  refine J.region ?_
  refine J.y (op_move rfl rfl) rfl rfl rfl ?_
  refine J.y ((op_slNil Tryd.underlying55 rfl rfl rfl).as (v' := .bool (decide (E.isNone = true))) (congrArg Value.bool (by cases E <;> rfl))) rfl rfl rfl ?_
  refine J.nil ?_
  refine J.then_n (J.k hK3 ?_)
  refine J.keepE [(0, _), (4, _)] ⟨rfl, rfl, trivial⟩ ?_
  refine J.ite rfl (fun h4 => ?_) (fun h4 => ?_)
  ·
    refine J.seq (fun K4 hK4 => ?_)
    have hnil : K = [] := by
      cases K with
      | nil => rfl
      | cons a r =>
        obtain ⟨_, ad, hA, _⟩ := hK.2.2 0 _ rfl
        rw [hA] at h4; cases h4
    refine J.addEmpty [0, 1] [F, fun _ => none] rfl (by decide) ?_
    refine J.region ?_
    refine J.y (op_assign rfl rfl) rfl rfl rfl ?_
    refine J.nil ?_
    refine J.then_n (J.k hK4 ?_)
    refine J.keepE [(2, _)] ⟨rfl, trivial⟩ ?_
    refine J.ret ?_
    refine J.then_r ?_
    exact J.done hw0 (fun _ _ h => h) (res1 rfl rfl) (retOk (none, 0, fun _ => none) (by rw [hnil]; rfl) (by rw [hnil]; exact RowQ.nil) [0, 1] rfl (by decide))
  ·
    refine J.skip ?_
    refine J.then_n (J.k hK2 ?_)
    refine J.keepE [(0, _)] ⟨rfl, trivial⟩ ?_
    refine J.seq (fun K5 hK5 => ?_)
    refine J.region ?_
    refine J.e (op_buildSlice0 rfl Tryd.underlying55 el9) rfl rfl rfl ?_
    intro g5 _
    change J _ _ _ [F, blk g5 [] 9] _
    refine J.y (op_move rfl rfl) rfl rfl rfl ?_
    refine J.e (op_append (i := 1) (m2 := F) (xs := []) (ys := strsV K) rfl rfl rfl Tryd.underlying55 Tryd.underlying55 el9 rfl (row_blk (q := True) (xs := []) rfl (by simp)) (by simp) hK (by simp [strsV, Value.oneCell']) (by omega) (by omega)) rfl rfl rfl ?_
    rintro ⟨A7, c7, m7⟩ h7
    try dsimp only at h7
    change J _ ((7, .slice A7 (0 + K.length) c7) :: _) _ [F, m7] _
    refine J.y (op_assign rfl rfl) rfl rfl rfl ?_
    refine J.nil ?_
    refine J.then_n (J.k hK5 ?_)
    refine J.keepE [(2, _)] ⟨rfl, trivial⟩ ?_
    refine J.ret ?_
    exact J.done hw0 (fun _ _ h => h) (res1 rfl rfl) (retOk (A7, c7, m7) (by rw [Nat.zero_add]) (by rw [Nat.zero_add] at h7; exact h7) [0, 1] rfl (by decide))

theorem write_ct (F mm : Hp) (g : Nat) (d : Dk) (C : Option Addr) (f : Nat) (hb : Dsk mm g d C f) (hok : d.ok) (hn2 : d.wait.length ≤ 1073741824) (hKp : Sl F 1 C d.keep.length f (bytesV d.keep)) (hn3 : d.keep.length ≤ 9223372036854775807) (i : Int) (s : List UInt8) (hs : s.length ≤ 1048576) :
    Ct Tryd.prog 123 [Ptr g, I i, Str s] [mm, F] (fun _ : Hp => I (d.wErr i s)) (fun m => Dsk m g (d.write i s) C f) (fun m => [m, F]) := by
  obtain ⟨A0, c0, B0, e0, hc, hsL, hsW⟩ := hb.see
  have hn1 := hok.n1
  refine Ct.walk Tryd.func123 rfl Tryd.ntmps123 rfl (fun w0 hw0 => ?_)
  change J _ [(0, _), (1, _), (2, _)] _ _ _
  refine J.seq (fun K1 hK1 => ?_)
  refine J.region ?_
  refine J.y (op_assign rfl rfl) rfl rfl rfl ?_
  refine J.nil ?_
  refine J.then_n (J.k hK1 ?_)
  refine J.keepE [(0, _), (1, _), (2, _)] ⟨rfl, rfl, rfl, trivial⟩ ?_
  refine J.seq (fun K2 hK2 => ?_)
  refine J.region ?_
  refine J.y (op_move rfl rfl) rfl rfl rfl ?_
  refine J.y (op_move rfl rfl) rfl rfl rfl ?_
  refine J.e (op_call rfl rfl ent161 (Ct.use0 (fun F' hF => ready_ct F' g d A0 c0 B0 e0 C f (hc.mono (hF mm (by simp))) i (by omega)))) rfl rfl rfl ?_
  intro g10 _
  refine J.y (op_assign rfl rfl) rfl rfl rfl ?_
  refine J.nil ?_
  refine J.then_n (J.k hK2 ?_)
  refine J.keepE [(0, _), (1, _), (2, _), (7, _)] ⟨rfl, rfl, rfl, rfl, trivial⟩ ?_
  refine J.seq (fun K3 hK3 => ?_)
  refine J.block ?_
  refine J.seq (fun K4 hK4 => ?_)
  refine J.region ?_
  refine J.y (op_move rfl rfl) rfl rfl rfl ?_
  refine J.y (op_neq rfl rfl rfl) rfl rfl rfl ?_
  refine J.y (op_assign rfl rfl) rfl rfl rfl ?_
  refine J.nil ?_
  refine J.then_n (J.k hK4 ?_)
  refine J.keepE [(0, _), (1, _), (2, _), (7, _), (11, _)] ⟨rfl, rfl, rfl, rfl, rfl, trivial⟩ ?_
  refine J.ite rfl (fun h11 => ?_) (fun h11 => ?_)
  ·
    refine J.seq (fun K5 hK5 => ?_)
    refine J.region ?_
    refine J.y (op_move rfl rfl) rfl rfl rfl ?_
    refine J.y (op_assign rfl rfl) rfl rfl rfl ?_
    refine J.nil ?_
    refine J.then_n (J.k hK5 ?_)
    refine J.keepE [(6, _)] ⟨rfl, trivial⟩ ?_
    refine J.ret ?_
    refine J.blk_r ?_
    refine J.then_r ?_
    exact J.done hw0 (fun _ _ h => h) (res1 rfl rfl) (retOk mm (congrArg I (by unfold Dk.wErr; rw [if_pos (by omega)])) (by rw [show d.write i s = d from if_pos (by omega)]; exact hb) [0, 1] rfl (by decide))
  ·
    refine J.seq (fun K6 hK6 => ?_)
    refine J.region ?_
    refine J.y (op_move rfl rfl) rfl rfl rfl ?_
    refine J.y (op_slen Tryd.underlying9 rfl rfl) rfl rfl rfl ?_
    refine J.y (op_gtr rfl rfl rfl) rfl rfl rfl ?_
    refine J.y (op_assign rfl rfl) rfl rfl rfl ?_
    refine J.nil ?_
    refine J.then_n (J.k hK6 ?_)
    refine J.keepE [(0, _), (1, _), (2, _), (15, _)] ⟨rfl, rfl, rfl, rfl, trivial⟩ ?_
    refine J.ite rfl (fun h15 => ?_) (fun h15 => ?_)
    ·
      refine J.seq (fun K7 hK7 => ?_)
      refine J.region ?_
      refine J.y (op_assign rfl rfl) rfl rfl rfl ?_
      refine J.nil ?_
      refine J.then_n (J.k hK7 ?_)
      refine J.keepE [(6, _)] ⟨rfl, trivial⟩ ?_
      refine J.ret ?_
      refine J.blk_r ?_
      refine J.then_r ?_
      exact J.done hw0 (fun _ _ h => h) (res1 rfl rfl) (retOk mm (congrArg I (by unfold Dk.wErr; rw [if_neg (by omega), if_pos (by omega)])) (by rw [show d.write i s = d from by unfold Dk.write; rw [if_neg (by omega), if_pos (by omega)]]; exact hb) [0, 1] rfl (by decide))
    ·
      refine J.seq (fun K8 hK8 => ?_)
      refine J.region ?_
      refine J.y (op_move rfl rfl) rfl rfl rfl ?_
      refine J.e (op_call rfl rfl ent165 (Ct.use1 0 (m' := fun x : Hp => x) (new := fun _ => []) rfl (fun F' hF => burn_ct F' mm g d C f hb hok hn2 (hKp.mono (hF F (by simp))) hn3))) rfl rfl rfl ?_
      rintro m21 h21
      change J _ _ _ [m21, F] _
      refine J.y (op_assign rfl rfl) rfl rfl rfl ?_
      refine J.nil ?_
      refine J.then_n (J.k hK8 ?_)
      refine J.keepE [(0, _), (1, _), (2, _), (19, _)] ⟨rfl, rfl, rfl, rfl, trivial⟩ ?_
      refine J.ite rfl (fun h19 => ?_) (fun h19 => ?_)
      ·
        refine J.seq (fun K9 hK9 => ?_)
        refine J.region ?_
        refine J.y (op_assign rfl rfl) rfl rfl rfl ?_
        refine J.nil ?_
        refine J.then_n (J.k hK9 ?_)
        refine J.keepE [(6, _)] ⟨rfl, trivial⟩ ?_
        refine J.ret ?_
        refine J.blk_r ?_
        refine J.then_r ?_
        exact J.done hw0 (fun _ _ h => h) (res1 rfl rfl) (retOk m21 (congrArg I (by unfold Dk.wErr; rw [if_neg (by omega), if_neg (by omega), if_pos h19])) (by rw [show d.write i s = d.burn from by unfold Dk.write; rw [if_neg (by omega), if_neg (by omega), if_pos h19]]; exact h21) [0, 1] rfl (by decide))
      ·
        refine J.skip ?_
        refine J.blk_n ?_
        refine J.then_n (J.k hK3 ?_)
        refine J.keepE [(0, _), (1, _), (2, _)] ⟨rfl, rfl, rfl, trivial⟩ ?_
        refine J.seq (fun K10 hK10 => ?_)
        have h0 : d.ready i = 0 := by omega
        obtain ⟨hi0, hil, _⟩ := ready_in h0
        obtain ⟨iN, hiN⟩ := Int.eq_ofNat_of_zero_le hi0
        have hnb : ¬ d.burns := h19
        obtain ⟨x, hx⟩ : ∃ x, x = d.burn := ⟨_, rfl⟩
        rw [← hx] at h21
        have hxo : x.ok := hx ▸ hok.burn
        have hxw : x.wait = d.wait := hx ▸ (burn_last hnb).2.1
        have hxl : x.last = d.last := hx ▸ (burn_last hnb).1
        obtain ⟨gL, c, mL, B, e, mW, rfl, hd, hL, hW⟩ := h21.open hxo.n0
        unfold Dk.cells at hd ⊢
        refine J.splitUs hd ?_
        change J _ _ _ [blk g [.slice (some ⟨gL, 0, none⟩) x.last.length c, .slice B x.wait.length e, .bool x.off, .bool x.armed, I x.fuse, .slice C x.keep.length f] 126, mL, mW, F] _
        refine J.draw [blk g [.slice (some ⟨gL, 0, none⟩) x.last.length c, .slice B x.wait.length e, .bool x.off, .bool x.armed, I x.fuse, .slice C x.keep.length f] 126] [17] (.y 0 (.y 1 (.y 2 (.y 3 (.y 4 (.y 5 (.y 6 (.y 7 (.y 8 (.y 9 (.e 10 (.y 11 (.y 12 (.e 13 (.e 14 (.y 15 (.y 16 (.e 17 .nil)))))))))))))))))) Tryd.wide (by decide +kernel) (by simp) ?_
        refine J.dy rfl (op_move rfl rfl) rfl rfl rfl rfl ?_
        refine J.dy rfl (op_move rfl rfl) rfl rfl rfl rfl ?_
        refine J.dy rfl (op_nilCheck rfl rfl) rfl rfl rfl rfl ?_
        refine J.dy rfl (op_fieldAddr (j := 1) rfl rfl Tryd.underlying126 rfl Tryd.sizeOf124 rfl) rfl rfl rfl rfl ?_
        refine J.dy rfl (op_loadB 0 rfl rfl rfl Tryd.isAgg124 rfl) rfl rfl rfl rfl ?_
        refine J.dy rfl ((op_move rfl rfl).as (v' := I (iN : Int)) (congrArg I hiN)) rfl rfl rfl rfl ?_
        refine J.dy rfl (op_move rfl rfl) rfl rfl rfl rfl ?_
        refine J.dy rfl (op_move rfl rfl) rfl rfl rfl rfl ?_
        refine J.dy rfl (op_slen Tryd.underlying9 rfl rfl) rfl rfl rfl rfl ?_
        refine J.dy rfl ((op_sub rfl rfl rfl (by first | omega | (refine ⟨?_, ?_⟩ <;> omega))).as (v' := I ((64 - s.length : Nat) : Int)) (congrArg I (by omega))) rfl rfl rfl rfl ?_
        refine J.de rfl (op_call rfl rfl ent75 (Ct.use0 (fun F' hF => repeat_any F' (64 - s.length) (by omega)))) rfl rfl rfl (by simp) ?_
        intro g32 _
        refine J.dy rfl ((op_sadd rfl rfl rfl (by simp only [List.length_replicate]; omega)).as (v' := Str (full s)) rfl) rfl rfl rfl rfl ?_
        refine J.dy rfl (op_buildStruct (l := [(0, .tmp 27), (1, .tmp 33)]) (vs := [I (iN : Int), Str (full s)]) (places := [(0, 1), (1, 1)]) (r := [I (iN : Int), Str (full s)]) rfl rfl rfl Tryd.underlying149 Tryd.zeroValue149 (fun _ => by kernel_rfl) rfl) rfl rfl rfl rfl ?_
        refine J.de rfl (op_buildSlice (l := [.tmp 34]) (xs := [[I (iN : Int), Str (full s)]]) rfl rfl rfl rfl Tryd.underlying124 el149 rfl (by decide) (by decide) (by simp)) rfl rfl rfl (by simp) ?_
        intro g35 _
        change J _ _ _ [blk g [.slice (some ⟨gL, 0, none⟩) x.last.length c, .slice B x.wait.length e, .bool x.off, .bool x.armed, I x.fuse, .slice C x.keep.length f] 126, mL, mW, F, blk g35 [I (iN : Int), Str (full s)] 149] _
        refine J.de rfl (op_append (i := 2) (m2 := blk g35 [I (iN : Int), Str (full s)] 149) (ys := writV [(iN, full s)]) rfl rfl rfl Tryd.underlying124 Tryd.underlying124 el149 rfl hW (by simp) ((row_blk (q := True) (xs := writV [(iN, full s)]) rfl (by simp [writV])).sl) (writV_one _) (by rw [hxw]; omega) (by rw [hxw]; omega)) rfl rfl rfl (by simp) ?_
        rintro ⟨A36, c36, m36⟩ h36
        try dsimp only at h36
        change J _ ((36, .slice A36 (x.wait.length + 1) c36) :: _) _ [blk g [.slice (some ⟨gL, 0, none⟩) x.last.length c, .slice B x.wait.length e, .bool x.off, .bool x.armed, I x.fuse, .slice C x.keep.length f] 126, mL, m36, F, blk g35 [I (iN : Int), Str (full s)] 149] _
        refine J.dy rfl (op_nilCheck rfl rfl) rfl rfl rfl rfl ?_
        refine J.dy rfl (op_fieldAddr (j := 1) rfl rfl Tryd.underlying126 rfl Tryd.sizeOf124 rfl) rfl rfl rfl rfl ?_
        refine J.ds rfl (op_store (i := 0) (vs := [.slice A36 (x.wait.length + 1) c36]) rfl rfl rfl rfl rfl Tryd.sizeOf124 rfl (by simp)) rfl rfl rfl (fun _ _ => ?_)
        change J _ _ _ [blk g [.slice (some ⟨gL, 0, none⟩) x.last.length c, .slice A36 (x.wait.length + 1) c36, .bool x.off, .bool x.armed, I x.fuse, .slice C x.keep.length f] 126, mL, m36, F, blk g35 [I (iN : Int), Str (full s)] 149] _
        refine J.dnil ?_
        refine J.then_n (J.k hK10 ?_)
        refine J.keepE [] trivial ?_
        refine J.seq (fun K11 hK11 => ?_)
        refine J.region ?_
        refine J.y (op_assign rfl rfl) rfl rfl rfl ?_
        refine J.nil ?_
        refine J.then_n (J.k hK11 ?_)
        refine J.keepE [(6, _)] ⟨rfl, trivial⟩ ?_
        refine J.ret ?_
        exact J.done hw0 (fun _ _ h => h) (res1 rfl rfl) (retOkUs [blk g [.slice (some ⟨gL, 0, none⟩) x.last.length c, .slice A36 (x.wait.length + 1) c36, .bool x.off, .bool x.armed, I x.fuse, .slice C x.keep.length f] 126, mL, m36] [F] (U [blk g [.slice (some ⟨gL, 0, none⟩) x.last.length c, .slice A36 (x.wait.length + 1) c36, .bool x.off, .bool x.armed, I x.fuse, .slice C x.keep.length f] 126, mL, m36]) (congrArg I (by unfold Dk.wErr; rw [if_neg (by omega), if_neg (by omega), if_neg hnb])) (fun hd => by rw [show d.write i s = { x with wait := x.wait ++ [(iN, full s)] } from by unfold Dk.write; rw [if_neg (by omega), if_neg (by omega), if_neg hnb, ← hx, hiN]; rfl]; refine ⟨_, c, mL, A36, c36, m36, ?_, ?_, hL, ?_⟩ <;> (try unfold Dk.cells) <;> rw [List.length_append] <;> first | rfl | exact hd | (rw [writV_app]; exact h36)) [0, 1, 2, 3] rfl rfl (by decide))

theorem sync_dsk {g : Nat} (x : Dk) (gL c : Nat) (C : Option Addr) (f : Nat) (m : Hp) (hm : Row m 9 1 (some ⟨gL, 0, none⟩) x.last.length c (strsV (syncL x.last x.wait x.wait.length))) (hj : Djs [blk g [.slice (some ⟨gL, 0, none⟩) x.last.length c, .slice none 0 0, .bool x.off, .bool x.armed, I x.fuse, .slice C x.keep.length f] 126, m]) :
    Dsk (U [blk g [.slice (some ⟨gL, 0, none⟩) x.last.length c, .slice none 0 0, .bool x.off, .bool x.armed, I x.fuse, .slice C x.keep.length f] 126, m]) g { x with last := syncL x.last x.wait x.wait.length, wait := [] } C f := by
  refine ⟨some ⟨gL, 0, none⟩, c, m, none, 0, fun _ => none, ?_, ?_, ?_, RowQ.nil⟩
  · show U [blk g [.slice (some ⟨gL, 0, none⟩) x.last.length c, .slice none 0 0, .bool x.off, .bool x.armed, I x.fuse, .slice C x.keep.length f] 126, m] = U [blk g [.slice (some ⟨gL, 0, none⟩) (syncL x.last x.wait x.wait.length).length c, .slice none 0 0, .bool x.off, .bool x.armed, I x.fuse, .slice C x.keep.length f] 126, m, fun _ => none]
    rw [syncL_len]; rfl
  · show Djs [blk g [.slice (some ⟨gL, 0, none⟩) (syncL x.last x.wait x.wait.length).length c, .slice none 0 0, .bool x.off, .bool x.armed, I x.fuse, .slice C x.keep.length f] 126, m, fun _ => none]
    rw [syncL_len]; exact Djs_none2 hj
  · show Row m 9 1 (some ⟨gL, 0, none⟩) (syncL x.last x.wait x.wait.length).length c _
    rw [syncL_len]; exact hm

theorem sync_ct (F mm : Hp) (g : Nat) (d : Dk) (C : Option Addr) (f : Nat) (hb : Dsk mm g d C f) (hok : d.ok) (hn2 : d.wait.length ≤ 1073741824) (hKp : Sl F 1 C d.keep.length f (bytesV d.keep)) (hn3 : d.keep.length ≤ 9223372036854775807) :
    Ct Tryd.prog 125 [Ptr g] [mm, F] (fun _ : Hp => I d.sErr) (fun m => Dsk m g d.sync C f) (fun m => [m, F]) := by
  obtain ⟨A0, c0, B0, e0, hc, hsL, hsW⟩ := hb.see
  have hn1 := hok.n1
  refine Ct.walk Tryd.func125 rfl Tryd.ntmps125 rfl (fun w0 hw0 => ?_)
  change J _ [(0, _)] _ _ _
  refine J.seq (fun K1 hK1 => ?_)
  refine J.region ?_
  refine J.y (op_assign rfl rfl) rfl rfl rfl ?_
  refine J.nil ?_
  refine J.then_n (J.k hK1 ?_)
  refine J.keepE [(0, _)] ⟨rfl, trivial⟩ ?_
  refine J.seq (fun K2 hK2 => ?_)
  refine J.seq (fun K3 hK3 => ?_)
  refine J.region ?_
  refine J.y (op_move rfl rfl) rfl rfl rfl ?_
  refine J.e (op_call rfl rfl ent161 (Ct.use0 (fun F' hF => ready_ct F' g d A0 c0 B0 e0 C f (hc.mono (hF mm (by simp))) 0 (by omega)))) rfl rfl rfl ?_
  intro g7 _
  refine J.y (op_assign rfl rfl) rfl rfl rfl ?_
  refine J.nil ?_
  refine J.then_n (J.k hK3 ?_)
  refine J.keepE [(0, _), (3, _)] ⟨rfl, rfl, trivial⟩ ?_
  refine J.seq (fun K4 hK4 => ?_)
  refine J.region ?_
  refine J.y (op_move rfl rfl) rfl rfl rfl ?_
  refine J.y (op_neq rfl rfl rfl) rfl rfl rfl ?_
  refine J.nil ?_
  refine J.then_n (J.k hK4 ?_)
  refine J.keepE [(0, _), (3, _), (9, _)] ⟨rfl, rfl, rfl, trivial⟩ ?_
  refine J.ite rfl (fun h9 => ?_) (fun h9 => ?_)
  ·
    refine J.seq (fun K5 hK5 => ?_)
    refine J.region ?_
    refine J.y (op_move rfl rfl) rfl rfl rfl ?_
    refine J.y (op_assign rfl rfl) rfl rfl rfl ?_
    refine J.nil ?_
    refine J.then_n (J.k hK5 ?_)
    refine J.keepE [(2, _)] ⟨rfl, trivial⟩ ?_
    refine J.ret ?_
    refine J.then_r ?_
    exact J.done hw0 (fun _ _ h => h) (res1 rfl rfl) (retOk mm (congrArg I (by unfold Dk.sErr; rw [if_pos (by omega)])) (by rw [show d.sync = d from if_pos (by omega)]; exact hb) [0, 1] rfl (by decide))
  ·
    refine J.skip ?_
    refine J.then_n (J.k hK2 ?_)
    refine J.keepE [(0, _)] ⟨rfl, trivial⟩ ?_
    refine J.seq (fun K6 hK6 => ?_)
    refine J.seq (fun K7 hK7 => ?_)
    refine J.region ?_
    refine J.y (op_move rfl rfl) rfl rfl rfl ?_
    refine J.e (op_call rfl rfl ent165 (Ct.use1 0 (m' := fun x : Hp => x) (new := fun _ => []) rfl (fun F' hF => burn_ct F' mm g d C f hb hok hn2 (hKp.mono (hF F (by simp))) hn3))) rfl rfl rfl ?_
    rintro m12 h12
    change J _ _ _ [m12, F] _
    refine J.nil ?_
    refine J.then_n (J.k hK7 ?_)
    refine J.keepE [(0, _), (12, _)] ⟨rfl, rfl, trivial⟩ ?_
    refine J.ite rfl (fun h12c => ?_) (fun h12c => ?_)
    ·
      refine J.seq (fun K8 hK8 => ?_)
      refine J.region ?_
      refine J.y (op_assign rfl rfl) rfl rfl rfl ?_
      refine J.nil ?_
      refine J.then_n (J.k hK8 ?_)
      refine J.keepE [(2, _)] ⟨rfl, trivial⟩ ?_
      refine J.ret ?_
      refine J.then_r ?_
      exact J.done hw0 (fun _ _ h => h) (res1 rfl rfl) (retOk m12 (congrArg I (by unfold Dk.sErr; rw [if_neg (by omega), if_pos h12c])) (by rw [show d.sync = d.burn from by unfold Dk.sync; rw [if_neg (by omega), if_pos h12c]]; exact h12) [0, 1] rfl (by decide))
    ·
      refine J.skip ?_
      refine J.then_n (J.k hK6 ?_)
      refine J.keepE [(0, _)] ⟨rfl, trivial⟩ ?_
      refine J.seq (fun K9 hK9 => ?_)
      refine J.seq (fun K10 hK10 => ?_)
      have h0 : d.ready 0 = 0 := by omega
      have hnb : ¬ d.burns := h12c
      obtain ⟨x, hx⟩ : ∃ x, x = d.burn := ⟨_, rfl⟩
      rw [← hx] at h12
      have hxo : x.ok := hx ▸ hok.burn
      have hxw : x.wait = d.wait := hx ▸ (burn_last hnb).2.1
      have hxl : x.last = d.last := hx ▸ (burn_last hnb).1
      obtain ⟨gL, c, mL, B, e, mW, rfl, hd, hL, hW⟩ := h12.open hxo.n0
      unfold Dk.cells at hd ⊢
      refine J.splitUs hd ?_
      change J _ _ _ [blk g [.slice (some ⟨gL, 0, none⟩) x.last.length c, .slice B x.wait.length e, .bool x.off, .bool x.armed, I x.fuse, .slice C x.keep.length f] 126, mL, mW, F] _
      have hxn : x.wait.length ≤ 1073741824 := by rw [hxw]; exact hn2
      refine J.region ?_
      refine J.y (op_move rfl rfl) rfl rfl rfl ?_
      refine J.y (op_nilCheck rfl rfl) rfl rfl rfl ?_
      refine J.y (op_fieldAddr (j := 1) rfl rfl Tryd.underlying126 rfl Tryd.sizeOf124 rfl) rfl rfl rfl ?_
      refine J.y (op_loadB 0 rfl rfl rfl Tryd.isAgg124 rfl) rfl rfl rfl ?_
      refine J.y (op_len Tryd.underlying124 rfl rfl) rfl rfl rfl ?_
      refine J.y (op_move rfl rfl) rfl rfl rfl ?_
      refine J.nil ?_
      refine J.then_n (J.k hK10 ?_)
      refine J.keepE [(0, _), (16, _), (17, _), (18, _)] ⟨rfl, rfl, rfl, rfl, trivial⟩ ?_
      refine J.block ?_
      refine J.loop (X := Nat × Hp) (fun y => [(0, Ptr g), (16, .slice B x.wait.length e), (17, I x.wait.length), (18, I y.1)]) (fun y => [blk g [.slice (some ⟨gL, 0, none⟩) x.last.length c, .slice B x.wait.length e, .bool x.off, .bool x.armed, I x.fuse, .slice C x.keep.length f] 126, y.2, mW, F]) (fun y => y.1 ≤ x.wait.length ∧ Row y.2 9 1 (some ⟨gL, 0, none⟩) x.last.length c (strsV (syncL x.last x.wait y.1))) (fun y => x.wait.length - y.1) (0, mL) (⟨Nat.zero_le _, hL⟩) ⟨rfl, rfl, rfl, rfl, trivial⟩ (fun _ h => h) ?_
      rintro ⟨k, m⟩ ⟨hk, hr⟩ I0 hI0
      dsimp only at hk hr ⊢
      refine J.seq (fun K11 hK11 => ?_)
      refine J.region ?_
      refine J.y (op_lss rfl rfl rfl) rfl rfl rfl ?_
      refine J.nil ?_
      refine J.then_n (J.k hK11 ?_)
      refine J.keepE [(0, _), (16, _), (17, _), (18, _), (19, _)] ⟨rfl, rfl, rfl, rfl, rfl, trivial⟩ ?_
      refine J.seq (fun K12 hK12 => ?_)
      refine J.ite rfl (fun h19 => ?_) (fun h19 => ?_)
      ·
        refine J.skip ?_
        refine J.then_n (J.k hK12 ?_)
        refine J.keepE [(0, _), (16, _), (17, _), (18, _)] ⟨rfl, rfl, rfl, rfl, trivial⟩ ?_
        refine J.seq (fun K13 hK13 => ?_)
        refine J.block ?_
        refine J.seq (fun K14 hK14 => ?_)
        refine J.region ?_
        refine J.y (op_indexAddr (i := k) rfl rfl rfl Tryd.underlying124 Tryd.sizeOf149 hW.sl (by omega)) rfl rfl rfl ?_
        refine J.y (op_loadA rfl rfl Tryd.isAgg149 Tryd.sizeOf149 (m := mW) (by simp) (vs := [I (x.wait.getD k (0, [])).1, Str (x.wait.getD k (0, [])).2]) (hW.sl.elem (writV_get (by omega))) rfl) rfl rfl rfl ?_
        refine J.e (op_alloc rfl Tryd.zeroValue149 rfl) rfl rfl rfl ?_
        intro g5 _
        change J _ _ _ [blk g [.slice (some ⟨gL, 0, none⟩) x.last.length c, .slice B x.wait.length e, .bool x.off, .bool x.armed, I x.fuse, .slice C x.keep.length f] 126, m, mW, F, blk g5 _ 149] _
        refine J.s (op_storeAll (l := [I 0, Str []]) (i := 4) (vs := [I (x.wait.getD k (0, [])).1, Str (x.wait.getD k (0, [])).2]) rfl rfl rfl rfl rfl Tryd.sizeOf149 rfl rfl) rfl rfl (fun _ _ => ?_)
        change J _ _ _ [blk g [.slice (some ⟨gL, 0, none⟩) x.last.length c, .slice B x.wait.length e, .bool x.off, .bool x.armed, I x.fuse, .slice C x.keep.length f] 126, m, mW, F, blk g5 [I (x.wait.getD k (0, [])).1, Str (x.wait.getD k (0, [])).2] 149] _
        refine J.nil ?_
        refine J.then_n (J.k hK14 ?_)
        refine J.keepE [(0, _), (5, _), (16, _), (17, _), (18, _)] ⟨rfl, rfl, rfl, rfl, rfl, trivial⟩ ?_
        have ⟨hw1, hw2⟩ := getWr hxo.w64 (show k < x.wait.length by omega)
        have h64 := get64 (syncL_64 hxo.l64 hxo.w64 k hk) (show (x.wait.getD k (0, [])).1 < (syncL x.last x.wait k).length by rw [syncL_len]; exact hw1)
        refine J.region ?_
        refine J.y (op_move rfl rfl) rfl rfl rfl ?_
        refine J.y (op_loadBA 4 rfl rfl rfl Tryd.isAgg149 Tryd.sizeOf149 rfl) rfl rfl rfl ?_
        refine J.e (op_call rfl rfl ent95 (Ct.use1 1 (m' := fun x : Hp => x) (new := fun _ => []) rfl (fun F' hF => by have := last_ct F' m g gL c 64 x B e C f (syncL x.last x.wait k) (by rw [syncL_len]; exact Cells.blk0.mono (hF (blk g [.slice (some ⟨gL, 0, none⟩) x.last.length c, .slice B x.wait.length e, .bool x.off, .bool x.armed, I x.fuse, .slice C x.keep.length f] 126) (by simp))) (by rw [syncL_len]; exact hr) (x.wait.getD k (0, [])).1 (x.wait.getD k (0, [])).2 (by rw [syncL_len]; exact hw1) (by omega) (by omega) (by omega) (by omega) (by rw [syncL_len]; have := hxo.n1; omega); rw [syncL_len] at this; exact this))) rfl rfl rfl ?_
        rintro m24 h24
        change J _ _ _ [blk g [.slice (some ⟨gL, 0, none⟩) x.last.length c, .slice B x.wait.length e, .bool x.off, .bool x.armed, I x.fuse, .slice C x.keep.length f] 126, m24, mW, F, blk g5 [I (x.wait.getD k (0, [])).1, Str (x.wait.getD k (0, [])).2] 149] _
        refine J.perm [0, 1, 2, 3] [blk g [.slice (some ⟨gL, 0, none⟩) x.last.length c, .slice B x.wait.length e, .bool x.off, .bool x.armed, I x.fuse, .slice C x.keep.length f] 126, m24, mW, F] rfl (by decide) ?_
        refine J.nil ?_
        refine J.blk_n ?_
        refine J.then_n (J.k hK13 ?_)
        refine J.keepE [(0, _), (16, _), (17, _), (18, _)] ⟨rfl, rfl, rfl, rfl, trivial⟩ ?_
        refine J.region ?_
        refine J.y ((op_add rfl rfl rfl (by first | omega | (refine ⟨?_, ?_⟩ <;> omega))).as (v' := I ((k + 1 : Nat) : Int)) (congrArg I (by omega))) rfl rfl rfl ?_
        refine J.y (op_move rfl rfl) rfl rfl rfl ?_
        refine J.nil ?_
        refine J.then_n ?_
        exact J.kk (k + 1, m24) (fun y (hy : _ ∧ x.wait.length - y.1 < x.wait.length - k) => hI0 y hy.1 hy.2) ⟨⟨by dsimp only; omega, h24⟩, by dsimp only; omega⟩ ⟨rfl, rfl, rfl, rfl, trivial⟩ (fun _ h => h)
      ·
        refine J.exit ?_
        refine J.then_x ?_
        refine J.then_x ?_
        refine J.blk_eq ?_
        refine J.then_n (J.k hK9 ?_)
        refine J.keepE [(0, _)] ⟨rfl, trivial⟩ ?_
        refine J.seq (fun K15 hK15 => ?_)
        have hkn : k = x.wait.length := by omega
        subst hkn
        refine J.region ?_
        refine J.y (op_move rfl rfl) rfl rfl rfl ?_
        refine J.y (op_nilCheck rfl rfl) rfl rfl rfl ?_
        refine J.y (op_fieldAddr (j := 1) rfl rfl Tryd.underlying126 rfl Tryd.sizeOf124 rfl) rfl rfl rfl ?_
        refine J.s (op_store (i := 0) (vs := [.slice none 0 0]) rfl rfl rfl rfl rfl Tryd.sizeOf124 rfl (by simp)) rfl rfl (fun _ _ => ?_)
        change J _ _ _ [blk g [.slice (some ⟨gL, 0, none⟩) x.last.length c, .slice none 0 0, .bool x.off, .bool x.armed, I x.fuse, .slice C x.keep.length f] 126, m, mW, F] _
        refine J.nil ?_
        refine J.then_n (J.k hK15 ?_)
        refine J.keepE [] trivial ?_
        refine J.seq (fun K16 hK16 => ?_)
        refine J.region ?_
        refine J.y (op_assign rfl rfl) rfl rfl rfl ?_
        refine J.nil ?_
        refine J.then_n (J.k hK16 ?_)
        refine J.keepE [(2, _)] ⟨rfl, trivial⟩ ?_
        refine J.ret ?_
        exact J.done hw0 (fun _ _ h => h) (res1 rfl rfl) (retOkUs [blk g [.slice (some ⟨gL, 0, none⟩) x.last.length c, .slice none 0 0, .bool x.off, .bool x.armed, I x.fuse, .slice C x.keep.length f] 126, m] [F] (U [blk g [.slice (some ⟨gL, 0, none⟩) x.last.length c, .slice none 0 0, .bool x.off, .bool x.armed, I x.fuse, .slice C x.keep.length f] 126, m]) (congrArg I (by unfold Dk.sErr; rw [if_neg (by omega), if_neg hnb])) (fun hj => by rw [show d.sync = { x with last := syncL x.last x.wait x.wait.length, wait := [] } from by unfold Dk.sync; rw [if_neg (by omega), if_neg hnb, ← hx]]; exact sync_dsk x gL c C f m hr hj) [0, 1, 3] rfl rfl (by decide))

theorem fuse_ct (F mm : Hp) (g : Nat) (d : Dk) (C : Option Addr) (f : Nat) (hb : Dsk mm g d C f) (hok : d.ok) (n : Int) (K : List UInt8) (E : Option Addr) (q : Nat) (hK : Sl F 1 E K.length q (bytesV K)) (hKn : K.length ≤ 140737488351232) :
    Ct Tryd.prog 39 [Ptr g, I n, .slice E K.length q] [mm, F] (fun _ : Hp × Option Addr × Nat × Hp => .tuple #[]) (fun x => Dsk x.1 g (d.setFuse n K) x.2.1 x.2.2.1 ∧ Row x.2.2.2 5 1 x.2.1 K.length x.2.2.1 (bytesV K)) (fun x => [x.1, F, x.2.2.2]) := by
  obtain ⟨gL, c, mL, B, e, mW, rfl, hd, hL, hW⟩ := hb.open hok.n0
  unfold Dk.cells at hd ⊢
  refine Ct.walk Tryd.func39 rfl Tryd.ntmps39 rfl (fun w0 hw0 => ?_)
  change J _ [(0, _), (1, _), (2, _)] _ _ _
  refine J.splitUs hd ?_
  change J _ _ _ [blk g [.slice (some ⟨gL, 0, none⟩) d.last.length c, .slice B d.wait.length e, .bool d.off, .bool d.armed, I d.fuse, .slice C d.keep.length f] 126, mL, mW, F] _
  refine J.seq (fun K1 hK1 => ?_)
  refine J.region ?_
  refine J.y (op_move rfl rfl) rfl rfl rfl ?_
  refine J.y ((op_pne Tryd.underlying64 rfl rfl rfl).as (v' := .bool true) rfl) rfl rfl rfl ?_
  refine J.nil ?_
  refine J.then_n (J.k hK1 ?_)
  refine J.keepE [(0, _), (1, _), (2, _), (7, _)] ⟨rfl, rfl, rfl, rfl, trivial⟩ ?_
  refine J.condT rfl rfl ?_
  refine J.region ?_
  refine J.y (op_move rfl rfl) rfl rfl rfl ?_
  refine J.y (op_move rfl rfl) rfl rfl rfl ?_
  refine J.y (op_move rfl rfl) rfl rfl rfl ?_
  refine J.y (op_move rfl rfl) rfl rfl rfl ?_
  refine J.y ((op_geq rfl rfl rfl).as (v' := .bool (decide (0 ≤ n))) rfl) rfl rfl rfl ?_
  refine J.y (op_move rfl rfl) rfl rfl rfl ?_
  refine J.y (op_move rfl rfl) rfl rfl rfl ?_
  refine J.e (op_call rfl rfl ent91 (Ct.use (new := fun x : Option Addr × Nat × Hp => [x.2.2]) (fun F' hF => clone8_ct F' K E q (hK.mono (hF F (by simp))) hKn))) rfl rfl rfl ?_
  rintro ⟨A15, c15, m15⟩ h15
  try dsimp only at h15
  change J _ _ _ [blk g [.slice (some ⟨gL, 0, none⟩) d.last.length c, .slice B d.wait.length e, .bool d.off, .bool d.armed, I d.fuse, .slice C d.keep.length f] 126, mL, mW, F, m15] _
  refine J.y (op_nilCheck rfl rfl) rfl rfl rfl ?_
  refine J.y (op_fieldAddr (j := 3) rfl rfl Tryd.underlying126 rfl Tryd.sizeOf4 rfl) rfl rfl rfl ?_
  refine J.s (op_store (i := 0) (vs := [.bool (decide (0 ≤ n))]) rfl rfl rfl rfl rfl Tryd.sizeOf4 rfl (by simp)) rfl rfl (fun _ _ => ?_)
  change J _ _ _ [blk g [.slice (some ⟨gL, 0, none⟩) d.last.length c, .slice B d.wait.length e, .bool d.off, .bool (decide (0 ≤ n)), I d.fuse, .slice C d.keep.length f] 126, mL, mW, F, m15] _
  refine J.y (op_nilCheck rfl rfl) rfl rfl rfl ?_
  refine J.y (op_fieldAddr (j := 4) rfl rfl Tryd.underlying126 rfl Tryd.sizeOf3 rfl) rfl rfl rfl ?_
  refine J.s (op_store (i := 0) (vs := [I n]) rfl rfl rfl rfl rfl Tryd.sizeOf3 rfl (by simp)) rfl rfl (fun _ _ => ?_)
  change J _ _ _ [blk g [.slice (some ⟨gL, 0, none⟩) d.last.length c, .slice B d.wait.length e, .bool d.off, .bool (decide (0 ≤ n)), I n, .slice C d.keep.length f] 126, mL, mW, F, m15] _
  refine J.y (op_nilCheck rfl rfl) rfl rfl rfl ?_
  refine J.y (op_fieldAddr (j := 5) rfl rfl Tryd.underlying126 rfl Tryd.sizeOf30 rfl) rfl rfl rfl ?_
  refine J.s (op_store (i := 0) (vs := [.slice A15 K.length c15]) rfl rfl rfl rfl rfl Tryd.sizeOf30 rfl (by simp)) rfl rfl (fun _ _ => ?_)
  change J _ _ _ [blk g [.slice (some ⟨gL, 0, none⟩) d.last.length c, .slice B d.wait.length e, .bool d.off, .bool (decide (0 ≤ n)), I n, .slice A15 K.length c15] 126, mL, mW, F, m15] _
  refine J.nil ?_
  exact J.fin hw0 (fun _ _ h => h) (res0 rfl) (retOkUs [blk g [.slice (some ⟨gL, 0, none⟩) d.last.length c, .slice B d.wait.length e, .bool d.off, .bool (decide (0 ≤ n)), I n, .slice A15 K.length c15] 126, mL, mW] [F, m15] (U [blk g [.slice (some ⟨gL, 0, none⟩) d.last.length c, .slice B d.wait.length e, .bool d.off, .bool (decide (0 ≤ n)), I n, .slice A15 K.length c15] 126, mL, mW], A15, c15, m15) rfl (fun hd => ⟨⟨_, c, mL, B, e, mW, rfl, hd, hL, hW⟩, h15⟩) [0, 1, 2, 3, 4] rfl rfl (by decide))

theorem start_ct (F mm : Hp) (g : Nat) (d : Dk) (C : Option Addr) (f : Nat) (hb : Dsk mm g d C f) (hok : d.ok) :
    Ct Tryd.prog 43 [Ptr g] [mm, F] (fun _ : Hp => .tuple #[]) (fun m => Dsk m g d.start C f) (fun m => [m, F]) := by
  obtain ⟨gL, c, mL, B, e, mW, rfl, hd, hL, hW⟩ := hb.open hok.n0
  unfold Dk.cells at hd ⊢
  refine Ct.walk Tryd.func43 rfl Tryd.ntmps43 rfl (fun w0 hw0 => ?_)
  change J _ [(0, _)] _ _ _
  refine J.splitUs hd ?_
  change J _ _ _ [blk g [.slice (some ⟨gL, 0, none⟩) d.last.length c, .slice B d.wait.length e, .bool d.off, .bool d.armed, I d.fuse, .slice C d.keep.length f] 126, mL, mW, F] _
  refine J.seq (fun K1 hK1 => ?_)
  refine J.region ?_
  refine J.y (op_move rfl rfl) rfl rfl rfl ?_
  refine J.y ((op_pne Tryd.underlying64 rfl rfl rfl).as (v' := .bool true) rfl) rfl rfl rfl ?_
  refine J.nil ?_
  refine J.then_n (J.k hK1 ?_)
  refine J.keepE [(0, _), (3, _)] ⟨rfl, rfl, trivial⟩ ?_
  refine J.condT rfl rfl ?_
  refine J.region ?_
  refine J.y (op_move rfl rfl) rfl rfl rfl ?_
  refine J.y (op_nilCheck rfl rfl) rfl rfl rfl ?_
  refine J.y (op_fieldAddr (j := 2) rfl rfl Tryd.underlying126 rfl Tryd.sizeOf4 rfl) rfl rfl rfl ?_
  refine J.s (op_store (i := 0) (vs := [.bool false]) rfl rfl rfl rfl rfl Tryd.sizeOf4 rfl (by simp)) rfl rfl (fun _ _ => ?_)
  change J _ _ _ [blk g [.slice (some ⟨gL, 0, none⟩) d.last.length c, .slice B d.wait.length e, .bool false, .bool d.armed, I d.fuse, .slice C d.keep.length f] 126, mL, mW, F] _
  refine J.nil ?_
  exact J.fin hw0 (fun _ _ h => h) (res0 rfl) (retOkUs [blk g [.slice (some ⟨gL, 0, none⟩) d.last.length c, .slice B d.wait.length e, .bool false, .bool d.armed, I d.fuse, .slice C d.keep.length f] 126, mL, mW] [F] (U [blk g [.slice (some ⟨gL, 0, none⟩) d.last.length c, .slice B d.wait.length e, .bool false, .bool d.armed, I d.fuse, .slice C d.keep.length f] 126, mL, mW]) (rfl) (fun hd => ⟨_, c, mL, B, e, mW, rfl, hd, hL, hW⟩) [0, 1, 2, 3] rfl rfl (by decide))

theorem strsV_rep9 (n : Nat) : List.replicate n [Str []] = strsV (List.replicate n []) := by simp [strsV]
theorem rep_set {n k : Nat} (a b : List UInt8) (h : k < n) : (List.replicate k a ++ List.replicate (n - k) b).set k a = List.replicate (k + 1) a ++ List.replicate (n - (k + 1)) b := by
  rw [List.set_append_right _ _ (by rw [List.length_replicate]; exact Nat.le_refl _), List.length_replicate, Nat.sub_self, show n - k = (n - (k + 1)) + 1 by omega, List.replicate_succ, List.set_cons_zero, List.replicate_succ', List.append_assoc]; rfl
theorem rep_len {n k : Nat} (a b : List UInt8) (h : k ≤ n) : (List.replicate k a ++ List.replicate (n - k) b).length = n := by rw [List.length_append, List.length_replicate, List.length_replicate]; omega

theorem new_dsk (k g g13 : Nat) (m : Hp) (hr : Row m 9 1 (some ⟨g13, 0, none⟩) k k (strsV (List.replicate k (List.replicate 64 (0 : UInt8))))) (hj : Djs [blk g [.slice (some ⟨g13, 0, none⟩) k k, .slice none 0 0, .bool false, .bool false, I 0, .slice none 0 0] 126, m, fun _ => none]) : Dsk (U [blk g [.slice (some ⟨g13, 0, none⟩) k k, .slice none 0 0, .bool false, .bool false, I 0, .slice none 0 0] 126, m, fun _ => none]) g (Dk.new k) none 0 := by
  have hl : (Dk.new k).last.length = k := List.length_replicate
  refine ⟨some ⟨g13, 0, none⟩, k, m, none, 0, fun _ => none, ?_, ?_, ?_, RowQ.nil⟩
  · unfold Dk.cells; rw [hl]; rfl
  · unfold Dk.cells; rw [hl]; exact hj
  · rw [hl]; exact hr

theorem new_ct (F : Hp) (i : Int) : Ct Tryd.prog 32 [I i] [F] (fun x : Option (Nat × Hp) => match x with | none => .tuple #[.pointer none, I 1] | some y => .tuple #[Ptr y.1, I 0]) (fun x => match x with | none => i < 4 ∨ 1024 < i | some y => (4 ≤ i ∧ i ≤ 1024) ∧ Dsk y.2 y.1 (Dk.new i.toNat) none 0) (fun x => match x with | none => [F] | some y => [y.2, F]) := by
  refine Ct.walk Tryd.func32 rfl Tryd.ntmps32 rfl (fun w0 hw0 => ?_)
  change J _ [(0, _)] _ _ _
  refine J.seq (fun K1 hK1 => ?_)
  refine J.region ?_
  refine J.y (op_assign rfl rfl) rfl rfl rfl ?_
  refine J.y (op_assign rfl rfl) rfl rfl rfl ?_
  refine J.nil ?_
  refine J.then_n (J.k hK1 ?_)
  refine J.keepE [(0, _)] ⟨rfl, trivial⟩ ?_
  refine J.seq (fun K2 hK2 => ?_)
  refine J.seq (fun K3 hK3 => ?_)
  refine J.region ?_
  refine J.y (op_move rfl rfl) rfl rfl rfl ?_
  refine J.y (op_lss rfl rfl rfl) rfl rfl rfl ?_
  refine J.y (op_move rfl rfl) rfl rfl rfl ?_
  refine J.split (d := 8) rfl (fun h8 => ?_) (fun h8 => ?_)
  ·
    refine J.no (Wan.is rfl rfl rfl rfl rfl) rfl rfl ?_
    refine J.no (Wan.is rfl rfl rfl rfl rfl) rfl rfl ?_
    refine J.y (op_pickT rfl rfl rfl) rfl rfl rfl ?_
    refine J.nil ?_
    refine J.then_n (J.k hK3 ?_)
    refine J.keepE [(0, _), (11, _)] ⟨rfl, rfl, trivial⟩ ?_
    refine J.condT rfl rfl ?_
    refine J.seq (fun K4 hK4 => ?_)
    refine J.region ?_
    refine J.y (op_assign rfl rfl) rfl rfl rfl ?_
    refine J.y (op_assign rfl rfl) rfl rfl rfl ?_
    refine J.nil ?_
    refine J.then_n (J.k hK4 ?_)
    refine J.keepE [(2, _), (3, _)] ⟨rfl, rfl, trivial⟩ ?_
    refine J.ret ?_
    refine J.then_r ?_
    exact J.done hw0 (fun _ _ h => h) (res2 rfl rfl rfl) (retOk none rfl (by show i < 4 ∨ 1024 < i; omega) [0] rfl (by decide))
  ·
    refine J.yg (Wan.is rfl rfl rfl rfl rfl) (op_move rfl rfl) rfl rfl ?_
    refine J.yg (Wan.is rfl rfl rfl rfl rfl) (op_gtr rfl rfl rfl) rfl rfl ?_
    refine J.y (op_pickF rfl rfl rfl) rfl rfl rfl ?_
    refine J.nil ?_
    refine J.then_n (J.k hK3 ?_)
    refine J.keepE [(0, _), (11, _)] ⟨rfl, rfl, trivial⟩ ?_
    refine J.ite rfl (fun h11 => ?_) (fun h11 => ?_)
    ·
      refine J.seq (fun K5 hK5 => ?_)
      refine J.region ?_
      refine J.y (op_assign rfl rfl) rfl rfl rfl ?_
      refine J.y (op_assign rfl rfl) rfl rfl rfl ?_
      refine J.nil ?_
      refine J.then_n (J.k hK5 ?_)
      refine J.keepE [(2, _), (3, _)] ⟨rfl, rfl, trivial⟩ ?_
      refine J.ret ?_
      refine J.then_r ?_
      exact J.done hw0 (fun _ _ h => h) (res2 rfl rfl rfl) (retOk none rfl (by show i < 4 ∨ 1024 < i; omega) [0] rfl (by decide))
    ·
      refine J.skip ?_
      refine J.then_n (J.k hK2 ?_)
      refine J.keepE [(0, _)] ⟨rfl, trivial⟩ ?_
      refine J.seq (fun K6 hK6 => ?_)
      obtain ⟨n, hn⟩ := Int.eq_ofNat_of_zero_le (show 0 ≤ i by omega)
      refine J.region ?_
      refine J.y (op_move rfl rfl) rfl rfl rfl ?_
      refine J.e (op_makeSlice (n' := n) rfl (by show some (I i) = _; rw [hn]) Tryd.underlying55 el9 (by omega) (by omega)) rfl rfl rfl ?_
      intro g13 _
      change J _ _ _ [F, blk g13 (List.replicate n [Str []]).flatten 9] _
      refine J.y (op_buildStruct (l := [(0, .tmp 13)]) (vs := [.slice (some ⟨g13, 0, none⟩) n n]) (places := [(0, 1), (1, 1), (2, 1), (3, 1), (4, 1), (5, 1)]) (r := [.slice (some ⟨g13, 0, none⟩) n n, .slice none 0 0, .bool false, .bool false, I 0, .slice none 0 0]) rfl rfl rfl Tryd.underlying126 Tryd.zeroValue126 (fun _ => by kernel_rfl) rfl) rfl rfl rfl ?_
      refine J.e (op_box rfl rfl (l := [.slice (some ⟨g13, 0, none⟩) n n, .slice none 0 0, .bool false, .bool false, I 0, .slice none 0 0]) rfl) rfl rfl rfl ?_
      rintro g15 _
      change J _ _ _ [F, blk g13 (List.replicate n [Str []]).flatten 9, blk g15 [.slice (some ⟨g13, 0, none⟩) n n, .slice none 0 0, .bool false, .bool false, I 0, .slice none 0 0] 126] _
      refine J.y (op_assign rfl rfl) rfl rfl rfl ?_
      refine J.nil ?_
      refine J.then_n (J.k hK6 ?_)
      refine J.keepE [(4, _)] ⟨rfl, trivial⟩ ?_
      refine J.seq (fun K7 hK7 => ?_)
      refine J.seq (fun K8 hK8 => ?_)
      refine J.region ?_
      refine J.y (op_move rfl rfl) rfl rfl rfl ?_
      refine J.y (op_nilCheck rfl rfl) rfl rfl rfl ?_
      refine J.y (op_fieldAddr (j := 0) rfl rfl Tryd.underlying126 rfl Tryd.sizeOf55 rfl) rfl rfl rfl ?_
      refine J.y (op_loadB 2 rfl rfl rfl Tryd.isAgg55 rfl) rfl rfl rfl ?_
      refine J.y (op_len Tryd.underlying55 rfl rfl) rfl rfl rfl ?_
      refine J.y (op_move rfl rfl) rfl rfl rfl ?_
      refine J.nil ?_
      refine J.then_n (J.k hK8 ?_)
      refine J.keepE [(4, _), (20, _), (21, _)] ⟨rfl, rfl, rfl, trivial⟩ ?_
      refine J.block ?_
      refine J.loop (X := Nat × Hp) (fun x => [(4, Ptr g15), (20, I n), (21, I x.1)]) (fun x => [F, x.2, blk g15 [.slice (some ⟨g13, 0, none⟩) n n, .slice none 0 0, .bool false, .bool false, I 0, .slice none 0 0] 126]) (fun x => x.1 ≤ n ∧ Row x.2 9 1 (some ⟨g13, 0, none⟩) n n (strsV (List.replicate x.1 (List.replicate 64 (0 : UInt8)) ++ List.replicate (n - x.1) []))) (fun x => n - x.1) (0, blk g13 (List.replicate n [Str []]).flatten 9) (⟨Nat.zero_le _, by dsimp only; rw [List.replicate_zero, List.nil_append, Nat.sub_zero, ← strsV_rep9]; exact row_make⟩) ⟨rfl, rfl, rfl, trivial⟩ (fun _ h => h) ?_
      rintro ⟨k, m⟩ ⟨hk, hr⟩ I0 hI0
      dsimp only at hk hr ⊢
      refine J.seq (fun K9 hK9 => ?_)
      refine J.region ?_
      refine J.y (op_lss rfl rfl rfl) rfl rfl rfl ?_
      refine J.nil ?_
      refine J.then_n (J.k hK9 ?_)
      refine J.keepE [(4, _), (20, _), (21, _), (22, _)] ⟨rfl, rfl, rfl, rfl, trivial⟩ ?_
      refine J.seq (fun K10 hK10 => ?_)
      refine J.ite rfl (fun h22 => ?_) (fun h22 => ?_)
      ·
        refine J.skip ?_
        refine J.then_n (J.k hK10 ?_)
        refine J.keepE [(4, _), (20, _), (21, _)] ⟨rfl, rfl, rfl, trivial⟩ ?_
        refine J.seq (fun K11 hK11 => ?_)
        refine J.block ?_
        refine J.seq (fun K12 hK12 => ?_)
        refine J.region ?_
        refine J.y (op_move rfl rfl) rfl rfl rfl ?_
        refine J.y (op_assign rfl rfl) rfl rfl rfl ?_
        refine J.nil ?_
        refine J.then_n (J.k hK12 ?_)
        refine J.keepE [(4, _), (5, _), (20, _), (21, _)] ⟨rfl, rfl, rfl, rfl, trivial⟩ ?_
        refine J.draw [blk g15 [.slice (some ⟨g13, 0, none⟩) n n, .slice none 0 0, .bool false, .bool false, I 0, .slice none 0 0] 126] [7] (.y 0 (.y 1 (.y 2 (.y 3 (.y 4 (.e 5 (.y 6 (.e 7 .nil)))))))) Tryd.wide (by decide +kernel) (by simp) ?_
        refine J.dy rfl (op_move rfl rfl) rfl rfl rfl rfl ?_
        refine J.dy rfl (op_nilCheck rfl rfl) rfl rfl rfl rfl ?_
        refine J.dy rfl (op_fieldAddr (j := 0) rfl rfl Tryd.underlying126 rfl Tryd.sizeOf55 rfl) rfl rfl rfl rfl ?_
        refine J.dy rfl (op_loadB 0 rfl rfl rfl Tryd.isAgg55 rfl) rfl rfl rfl rfl ?_
        refine J.dy rfl (op_move rfl rfl) rfl rfl rfl rfl ?_
        refine J.de rfl (op_call rfl rfl ent75 (Ct.use0 (fun F' hF => repeat_any F' 64 (by decide)))) rfl rfl rfl (by simp) ?_
        intro g29 _
        refine J.dy rfl (op_indexAddr (i := k) rfl rfl rfl Tryd.underlying55 Tryd.sizeOf9 hr.sl (by omega)) rfl rfl rfl rfl ?_
        refine J.ds rfl (op_storeRow (i := 1) (k := k) (off := 0) (b := [Str (List.replicate 64 (0 : UInt8))]) rfl (by show some _ = some _; rw [elemAt0]) rfl rfl hr (vs := [Str (List.replicate 64 (0 : UInt8))]) rfl Tryd.sizeOf9 rfl (by omega) (strsV_get (getSome [] (by rw [rep_len _ _ hk]; omega))) rfl (by show _ + 1 ≤ 1; decide)) rfl rfl rfl ?_
        rintro m9 h9
        change J _ _ _ [F, m9, blk g15 [.slice (some ⟨g13, 0, none⟩) n n, .slice none 0 0, .bool false, .bool false, I 0, .slice none 0 0] 126] _
        refine J.dnil ?_
        refine J.blk_n ?_
        refine J.then_n (J.k hK11 ?_)
        refine J.keepE [(4, _), (20, _), (21, _)] ⟨rfl, rfl, rfl, trivial⟩ ?_
        refine J.region ?_
        refine J.y ((op_add rfl rfl rfl (by first | omega | (refine ⟨?_, ?_⟩ <;> omega))).as (v' := I ((k + 1 : Nat) : Int)) (congrArg I (by omega))) rfl rfl rfl ?_
        refine J.y (op_move rfl rfl) rfl rfl rfl ?_
        refine J.nil ?_
        refine J.then_n ?_
        exact J.kk (k + 1, m9) (fun y (hy : _ ∧ n - y.1 < n - k) => hI0 y hy.1 hy.2) ⟨⟨by dsimp only; omega, by dsimp only; rw [strsV_set, rep_set _ _ (by omega)] at h9; exact h9⟩, by dsimp only; omega⟩ ⟨rfl, rfl, rfl, trivial⟩ (fun _ h => h)
      ·
        refine J.exit ?_
        refine J.then_x ?_
        refine J.then_x ?_
        refine J.blk_eq ?_
        refine J.then_n (J.k hK7 ?_)
        refine J.keepE [(4, _)] ⟨rfl, trivial⟩ ?_
        refine J.seq (fun K13 hK13 => ?_)
        have hkn : k = n := by omega
        subst hkn
        rw [Nat.sub_self, List.replicate_zero, List.append_nil] at hr
        refine J.region ?_
        refine J.y (op_move rfl rfl) rfl rfl rfl ?_
        refine J.y (op_assign rfl rfl) rfl rfl rfl ?_
        refine J.y (op_assign rfl rfl) rfl rfl rfl ?_
        refine J.nil ?_
        refine J.then_n (J.k hK13 ?_)
        refine J.keepE [(2, _), (3, _)] ⟨rfl, rfl, trivial⟩ ?_
        refine J.ret ?_
        refine J.addEmpty [0, 1, 2, 3] [F, m, blk g15 [.slice (some ⟨g13, 0, none⟩) k k, .slice none 0 0, .bool false, .bool false, I 0, .slice none 0 0] 126, fun _ => none] rfl (by decide) ?_
        exact J.done hw0 (fun _ _ h => h) (res2 rfl rfl rfl) (retOkUs [blk g15 [.slice (some ⟨g13, 0, none⟩) k k, .slice none 0 0, .bool false, .bool false, I 0, .slice none 0 0] 126, m, fun _ => none] [F] (some (g15, U [blk g15 [.slice (some ⟨g13, 0, none⟩) k k, .slice none 0 0, .bool false, .bool false, I 0, .slice none 0 0] 126, m, fun _ => none])) rfl (fun hj => ⟨by omega, by rw [show i.toNat = k by omega]; exact new_dsk k g15 g13 m hr hj⟩) [2, 1, 3, 0] rfl rfl (by decide))

theorem new_ok_ct (F : Hp) (n : Nat) (h4 : 4 ≤ n) (hm : n ≤ 1024) : Ct Tryd.prog 32 [I n] [F] (fun x : Nat × Hp => .tuple #[Ptr x.1, I 0]) (fun x => Dsk x.2 x.1 (Dk.new n) none 0) (fun x => F :: [x.2]) := fun w0 w hs =>
  (new_ct F n w0 w hs).mono fun e w' ⟨x, he, hx, hs'⟩ => by
    cases x with
    | none => exact absurd hx (by show ¬ ((n : Int) < 4 ∨ 1024 < (n : Int)); omega)
    | some y => exact ⟨y, he, by have := hx.2; rwa [Int.toNat_natCast] at this, hs'.pick [1, 0] (by decide)⟩
theorem seek_app (l r : List Wri) (i : Nat) : ∀ k, k ≤ l.length → seek (l ++ r) i k = seek l i k
  | 0, _ => rfl
  | k + 1, h => by
    have e : (l ++ r).getD k (0, []) = l.getD k (0, []) := by rw [List.getD_eq_getElem?_getD, List.getD_eq_getElem?_getD, List.getElem?_append_left (by omega)]
    rw [seek_succ, seek_succ, e, seek_app l r i k (by omega)]
theorem write_in {d : Dk} {i : Int} {s : List UInt8} (h : d.ready i = 0) (h1 : s.length ≤ 64) (h2 : ¬ d.burns) : d.write i s = { d.burn with wait := d.burn.wait ++ [(i.toNat, full s)] } ∧ d.wErr i s = 0 := by
  unfold Dk.write Dk.wErr
  rw [if_neg (by omega), if_neg (by omega), if_neg h2, if_neg (by omega), if_neg (by omega), if_neg h2]
  exact ⟨rfl, rfl⟩
theorem read_in {d : Dk} {i : Int} (h : d.ready i = 0) : d.read i = d.now i.toNat := if_pos h
end Go.Proofs.YtnkfapecbmmpeaaDoor
