/- A part of the proof: contracts of functions of the program, each for every state of the heaps that it names. -/
import Derived.Test.YtnkfapecbmmpeaaDoorRows
import Derived.Test.YtnkfapecbmmpeaaDoorTopSiG4
set_option linter.unusedSimpArgs false
set_option linter.unusedVariables false
namespace Go.Proofs.YtnkfapecbmmpeaaDoor
open Go Go.Fw
set_option maxRecDepth 100000
set_option maxHeartbeats 1000000
theorem Tryd.wide : Tryd.prog.follows .mixedOrders = true := by kernel_rfl

theorem noEsc (v : Value) (w : World) : (callFunc 185 #[v]).run Tryd.prog w = .ok (.value v) w := by kernel_rfl
theorem infoBuilder : Tryd.prog.info? 102 = some Tryd.t102 := by kernel_rfl
theorem el5 : Elem Tryd.prog 5 [.int .u8 0] 1 := Elem.of (by kernel_rfl) rfl
/-- a builder, from cell 'off' of a block on: what it holds -/
structure Bld (g off : Nat) (l : List Value) (mr : Hp) (bs : List UInt8) (A : Option Addr) (c : Nat) (p : Option Addr) : Prop where
  a0 : l[off]? = some (.pointer p)
  self : p = none ∨ p = some ⟨g, off, none⟩
  a1 : l[off + 1]? = some (.slice A bs.length c)
  row : RowQ False mr 5 1 A bs.length c (bytesV bs)
  cap : A = none ∨ 0 < c

theorem copyCheck_nil (F : Hp) (g T off : Nat) (l : List Value) (hl : l[off]? = some (.pointer none)) (hT : liesAt Tryd.prog Tryd.prog.depth T (l.length / Tryd.prog.cellsOf T) off 102 1 = true) :
    Ct Tryd.prog 144 [.pointer (some ⟨g, off, none⟩)] [blk g l T, F] (fun _ : Unit => .tuple #[]) (fun _ => True) (fun _ => [blk g (setAt l off [.pointer (some ⟨g, off, none⟩)]) T, F]) := by
  have hoff : off < l.length := (List.getElem?_eq_some_iff.1 hl).1
  refine Ct.walk Tryd.func144 rfl Tryd.ntmps144 rfl (fun w0 hw0 => ?_)
  change J _ [(0, _)] _ _ _
  refine J.seq (fun K1 hK1 => ?_)
  refine J.region ?_
  refine J.y (op_move rfl rfl) rfl rfl rfl ?_
  refine J.y (op_nilCheck rfl rfl) rfl rfl rfl ?_
  refine J.y (op_fieldAddr (j := off) rfl rfl Tryd.underlying102 rfl Tryd.sizeOf100 rfl) rfl rfl rfl ?_
  refine J.y (op_loadB 0 rfl rfl rfl Tryd.isAgg100 hl) rfl rfl rfl ?_
  refine J.y (op_peq Tryd.underlying100 rfl rfl rfl) rfl rfl rfl ?_
  refine J.nil ?_
  refine J.then_n (J.k hK1 ?_)
  refine J.keepE [(0, _), (6, _)] ⟨rfl, rfl, trivial⟩ ?_
  refine J.condT rfl rfl ?_
  refine J.region ?_
  refine J.y (op_move rfl rfl) rfl rfl rfl ?_
  refine J.y (op_move rfl rfl) rfl rfl rfl ?_
  refine J.y (op_toUnsafe rfl rfl Tryd.underlying100 Tryd.underlying243 infoBuilder (by decide) (m := blk g l T) (by simp) (single_self _ _) (by simpa using hoff)) rfl rfl rfl ?_
  refine J.e (op_same rfl rfl noEsc) rfl rfl rfl ?_
  intro g10 _
  change J _ _ _ [blk g l T, F] _
  refine J.y (op_fromUnsafe rfl rfl Tryd.underlying243 Tryd.underlying100 infoBuilder (m := blk g l T) (by simp) (single_self _ _) (by simpa using hT)) rfl rfl rfl ?_
  refine J.y (op_nilCheck rfl rfl) rfl rfl rfl ?_
  refine J.y (op_fieldAddr (j := off) rfl rfl Tryd.underlying102 rfl Tryd.sizeOf100 rfl) rfl rfl rfl ?_
  refine J.s (op_store (i := 0) (vs := [.pointer (some ⟨g, off, none⟩)]) rfl rfl rfl rfl rfl Tryd.sizeOf100 rfl (by simp only [List.length_cons, List.length_nil]; omega)) rfl rfl (fun _ _ => ?_)
  change J _ _ _ [blk g (setAt l off [.pointer (some ⟨g, off, none⟩)]) T, F] _
  refine J.nil ?_
  exact J.fin hw0 (fun _ _ h => h) (res0 rfl) (retOk () rfl trivial [0, 1] rfl (by decide))

theorem copyCheck_self (F : Hp) (g T off : Nat) (l : List Value) (hl : l[off]? = some (.pointer (some ⟨g, off, none⟩))) :
    Ct Tryd.prog 144 [.pointer (some ⟨g, off, none⟩)] [blk g l T, F] (fun _ : Unit => .tuple #[]) (fun _ => True) (fun _ => [blk g l T, F]) := by
  refine Ct.walk Tryd.func144 rfl Tryd.ntmps144 rfl (fun w0 hw0 => ?_)
  change J _ [(0, _)] _ _ _
  refine J.seq (fun K1 hK1 => ?_)
  refine J.region ?_
  refine J.y (op_move rfl rfl) rfl rfl rfl ?_
  refine J.y (op_nilCheck rfl rfl) rfl rfl rfl ?_
  refine J.y (op_fieldAddr (j := off) rfl rfl Tryd.underlying102 rfl Tryd.sizeOf100 rfl) rfl rfl rfl ?_
  refine J.y (op_loadB 0 rfl rfl rfl Tryd.isAgg100 hl) rfl rfl rfl ?_
  refine J.y (op_peq Tryd.underlying100 rfl rfl rfl) rfl rfl rfl ?_
  refine J.nil ?_
  refine J.then_n (J.k hK1 ?_)
  refine J.keepE [(0, _), (6, _)] ⟨rfl, rfl, trivial⟩ ?_
  refine J.condF rfl rfl ?_
  refine J.seq (fun K2 hK2 => ?_)
  refine J.region ?_
  refine J.y (op_move rfl rfl) rfl rfl rfl ?_
  refine J.y (op_nilCheck rfl rfl) rfl rfl rfl ?_
  refine J.y (op_fieldAddr (j := off) rfl rfl Tryd.underlying102 rfl Tryd.sizeOf100 rfl) rfl rfl rfl ?_
  refine J.y (op_loadB 0 rfl rfl rfl Tryd.isAgg100 hl) rfl rfl rfl ?_
  refine J.y (op_move rfl rfl) rfl rfl rfl ?_
  refine J.y (op_pneSame Tryd.underlying100 infoBuilder rfl rfl rfl) rfl rfl rfl ?_
  refine J.nil ?_
  refine J.then_n (J.k hK2 ?_)
  refine J.keepE [(19, _)] ⟨rfl, trivial⟩ ?_
  refine J.condF rfl rfl ?_
  refine J.skip ?_
  exact J.fin hw0 (fun _ _ h => h) (res0 rfl) (retOk () rfl trivial [0, 1] rfl (by decide))

theorem setAt_same {l : List Value} {k : Nat} {v : Value} (h : l[k]? = some v) : setAt l k [v] = l := by
  obtain ⟨hk, rfl⟩ := List.getElem?_eq_some_iff.1 h
  unfold setAt
  rw [List.append_assoc, List.singleton_append, List.length_singleton, ← List.drop_eq_getElem_cons hk, List.take_append_drop]
theorem setAt_get {l : List Value} {k : Nat} {v : Value} (hk : k < l.length) : (setAt l k [v])[k]? = some v := by
  unfold setAt
  rw [List.append_assoc, List.getElem?_append_right (by simp; omega)]
  simp [Nat.min_eq_left (Nat.le_of_lt hk)]
theorem setAt_ne {l : List Value} {k j : Nat} {v : Value} (hk : k < l.length) (hj : j ≠ k) : (setAt l k [v])[j]? = l[j]? := by
  unfold setAt
  rw [List.append_assoc, List.getElem?_append, List.getElem?_append]
  simp only [List.length_take, Nat.min_eq_left (Nat.le_of_lt hk), List.length_singleton]
  by_cases h1 : j < k
  · rw [if_pos h1, List.getElem?_take, if_pos h1]
  · rw [if_neg h1, if_neg (by omega), List.getElem?_drop]
    congr 1; omega
theorem setAt_len {l : List Value} {k : Nat} {v : Value} (hk : k < l.length) : (setAt l k [v]).length = l.length := by
  unfold setAt
  simp; omega
theorem copyCheck_ct (F : Hp) (g T off : Nat) (l : List Value) (p : Option Addr) (hl : l[off]? = some (.pointer p)) (hp : p = none ∨ p = some ⟨g, off, none⟩) (hT : liesAt Tryd.prog Tryd.prog.depth T (l.length / Tryd.prog.cellsOf T) off 102 1 = true) :
    Ct Tryd.prog 144 [.pointer (some ⟨g, off, none⟩)] [blk g l T, F] (fun _ : Unit => .tuple #[]) (fun _ => True) (fun _ => [blk g (setAt l off [.pointer (some ⟨g, off, none⟩)]) T, F]) := by
  rcases hp with rfl | rfl
  · exact copyCheck_nil F g T off l hl hT
  · rw [setAt_same hl]; exact copyCheck_self F g T off l hl
theorem entCC : Enters Tryd.prog 144 := Enters.of Tryd.func144 rfl (by kernel_rfl)
/-- a block whose builder alone may have turned -/
def Upd (off : Nat) (l l' : List Value) : Prop := l'.length = l.length ∧ ∀ j, j ≠ off → j ≠ off + 1 → l'[j]? = l[j]?
theorem Upd.refl (off : Nat) (l : List Value) : Upd off l l := ⟨rfl, fun _ _ _ => rfl⟩
theorem Upd.trans {off : Nat} {a b c : List Value} (h : Upd off a b) (h' : Upd off b c) : Upd off a c := ⟨h'.1.trans h.1, fun j h1 h2 => (h'.2 j h1 h2).trans (h.2 j h1 h2)⟩
theorem bld_put {g off : Nat} {l : List Value} {mr mr' : Hp} {bs bs' : List UInt8} {A A' : Option Addr} {c c' : Nat} {p : Option Addr} (hb : Bld g off l mr bs A c p) (hr : RowQ False mr' 5 1 A' bs'.length c' (bytesV bs')) (hc : A' = none ∨ 0 < c') :
    Bld g off (setAt (setAt l off [.pointer (some ⟨g, off, none⟩)]) (off + 1) [.slice A' bs'.length c']) mr' bs' A' c' (some ⟨g, off, none⟩) ∧ Upd off l (setAt (setAt l off [.pointer (some ⟨g, off, none⟩)]) (off + 1) [.slice A' bs'.length c']) := by
  have h1 : off + 1 < l.length := (List.getElem?_eq_some_iff.1 hb.a1).1
  have h0 : off < l.length := by omega
  have hl1 := setAt_len (v := Value.pointer (some ⟨g, off, none⟩)) h0
  have h1' : off + 1 < (setAt l off [.pointer (some ⟨g, off, none⟩)]).length := by omega
  refine ⟨⟨?_, .inr rfl, ?_, hr, hc⟩, by rw [setAt_len h1', hl1], fun j hj hj' => ?_⟩
  · rw [setAt_ne h1' (by omega), setAt_get h0]
  · exact setAt_get h1'
  · rw [setAt_ne h1' hj', setAt_ne h0 hj]
theorem row_cap {m : Hp} {e : TypeId} {A : Option Addr} {n c : Nat} {xs : List (List Value)} (h : RowQ False m e 1 A n c xs) (hn : 0 < n) : A = none ∨ 0 < c := .inr (Nat.lt_of_lt_of_le hn h.2.2.1)

theorem writeByte_ct (F mr : Hp) (g T off : Nat) (l : List Value) (bs : List UInt8) (A : Option Addr) (c : Nat) (p : Option Addr) (hb : Bld g off l mr bs A c p) (hT : liesAt Tryd.prog Tryd.prog.depth T (l.length / Tryd.prog.cellsOf T) off 102 1 = true) (b : UInt8) (hlen : bs.length < 70368744177664) :
    Ct Tryd.prog 103 [.pointer (some ⟨g, off, none⟩), B8 b] [blk g l T, mr, F] (fun _ : List Value × Hp => .nilIface) (fun x => ∃ A c, Bld g off x.1 x.2 (bs ++ [b]) A c (some ⟨g, off, none⟩) ∧ Upd off l x.1) (fun x => [blk g x.1 T, x.2, F]) := by
  have hoff : off + 1 < l.length := (List.getElem?_eq_some_iff.1 hb.a1).1
  have hoff0 : off < l.length := by omega
  refine Ct.walk Tryd.func103 rfl Tryd.ntmps103 rfl (fun w0 hw0 => ?_)
  change J _ [(0, _), (1, _)] _ _ _
  refine J.seq (fun K1 hK1 => ?_)
  refine J.region ?_
  refine J.y (op_assign rfl rfl) rfl rfl rfl ?_
  refine J.nil ?_
  refine J.then_n (J.k hK1 ?_)
  refine J.keepE [(0, _), (1, _)] ⟨rfl, rfl, trivial⟩ ?_
  refine J.seq (fun K2 hK2 => ?_)
  refine J.region ?_
  refine J.y (op_move rfl rfl) rfl rfl rfl ?_
  refine J.e (op_call rfl rfl entCC (Ct.useA [blk g l T] [mr, F] (A' := fun _ : Unit => [blk g (setAt l off [.pointer (some ⟨g, off, none⟩)]) T]) (new := fun _ => []) (fun F' _ => copyCheck_ct F' g T off l p hb.a0 hb.self hT))) rfl rfl rfl ?_
  intro g6 _
  change J _ _ _ [blk g (setAt l off [.pointer (some ⟨g, off, none⟩)]) T, mr, F] _
  refine J.nil ?_
  refine J.then_n (J.k hK2 ?_)
  refine J.keepE [(0, _), (1, _)] ⟨rfl, rfl, trivial⟩ ?_
  refine J.seq (fun K3 hK3 => ?_)
  refine J.region ?_
  refine J.y (op_move rfl rfl) rfl rfl rfl ?_
  refine J.y (op_move rfl rfl) rfl rfl rfl ?_
  refine J.y (op_nilCheck rfl rfl) rfl rfl rfl ?_
  refine J.y (op_fieldAddr (j := off + 1) rfl rfl Tryd.underlying102 rfl Tryd.sizeOf30 rfl) rfl rfl rfl ?_
  refine J.y (op_loadB 0 rfl rfl rfl Tryd.isAgg30 ((setAt_ne hoff0 (by omega)).trans hb.a1)) rfl rfl rfl ?_
  refine J.y (op_move rfl rfl) rfl rfl rfl ?_
  refine J.e (op_buildSlice (l := [.tmp 12]) (xs := [[B8 b]]) rfl rfl rfl rfl Tryd.underlying30 el5 rfl (by decide) (by decide) (by simp)) rfl rfl rfl ?_
  intro g13 _
  change J _ _ _ [blk g (setAt l off [.pointer (some ⟨g, off, none⟩)]) T, mr, F, blk g13 [B8 b] 5] _
  refine J.e (op_append (i := 1) (m2 := blk g13 [B8 b] 5) (ys := [[B8 b]]) rfl rfl rfl Tryd.underlying30 Tryd.underlying30 el5 rfl hb.row (by simp) (row_blk (q := True) (xs := [[B8 b]]) rfl (by simp)).sl rfl (by omega) (by omega)) rfl rfl rfl ?_
  rintro ⟨A14, c14, m14⟩ h14
  try dsimp only at h14
  change J _ ((14, .slice A14 (bs.length + 1) c14) :: _) _ [blk g (setAt l off [.pointer (some ⟨g, off, none⟩)]) T, m14, F, blk g13 [B8 b] 5] _
  have hbp := bld_put (bs' := bs ++ [b]) (A' := A14) (c' := c14) (mr' := m14) hb (by simpa [bytesV] using h14) (row_cap h14 (by omega))
  simp only [List.length_append, List.length_singleton] at hbp
  refine J.y (op_nilCheck rfl rfl) rfl rfl rfl ?_
  refine J.y (op_fieldAddr (j := off + 1) rfl rfl Tryd.underlying102 rfl Tryd.sizeOf30 rfl) rfl rfl rfl ?_
  refine J.s (op_store (i := 0) (vs := [.slice A14 (bs.length + 1) c14]) rfl rfl rfl rfl rfl Tryd.sizeOf30 rfl (by rw [setAt_len hoff0]; exact hoff)) rfl rfl (fun _ _ => ?_)
  change J _ _ _ [blk g (setAt (setAt l off [.pointer (some ⟨g, off, none⟩)]) (off + 1) [.slice A14 (bs.length + 1) c14]) T, m14, F, blk g13 [B8 b] 5] _
  refine J.nil ?_
  refine J.then_n (J.k hK3 ?_)
  refine J.keepE [] trivial ?_
  refine J.seq (fun K4 hK4 => ?_)
  refine J.region ?_
  refine J.y (op_assign rfl rfl) rfl rfl rfl ?_
  refine J.nil ?_
  refine J.then_n (J.k hK4 ?_)
  refine J.keepE [(4, _)] ⟨rfl, trivial⟩ ?_
  refine J.ret ?_
  exact J.done hw0 (fun _ _ h => h) (res1 rfl rfl) (retOk (_, m14) rfl ⟨A14, c14, hbp⟩ [0, 1, 2] rfl (by decide))

theorem writeString_ct (F mr : Hp) (g T off : Nat) (l : List Value) (bs : List UInt8) (A : Option Addr) (c : Nat) (p : Option Addr) (hb : Bld g off l mr bs A c p) (hT : liesAt Tryd.prog Tryd.prog.depth T (l.length / Tryd.prog.cellsOf T) off 102 1 = true) (s : List UInt8) (hlen : bs.length + s.length < 70368744177664) :
    Ct Tryd.prog 102 [.pointer (some ⟨g, off, none⟩), Str s] [blk g l T, mr, F] (fun _ : List Value × Hp => .tuple #[I s.length, .nilIface]) (fun x => ∃ A c, Bld g off x.1 x.2 (bs ++ s) A c (some ⟨g, off, none⟩) ∧ Upd off l x.1) (fun x => [blk g x.1 T, x.2, F]) := by
  have hoff : off + 1 < l.length := (List.getElem?_eq_some_iff.1 hb.a1).1
  have hoff0 : off < l.length := by omega
  refine Ct.walk Tryd.func102 rfl Tryd.ntmps102 rfl (fun w0 hw0 => ?_)
  change J _ [(0, _), (1, _)] _ _ _
  refine J.seq (fun K1 hK1 => ?_)
  refine J.region ?_
  refine J.y (op_assign rfl rfl) rfl rfl rfl ?_
  refine J.y (op_assign rfl rfl) rfl rfl rfl ?_
  refine J.nil ?_
  refine J.then_n (J.k hK1 ?_)
  refine J.keepE [(0, _), (1, _)] ⟨rfl, rfl, trivial⟩ ?_
  refine J.seq (fun K2 hK2 => ?_)
  refine J.region ?_
  refine J.y (op_move rfl rfl) rfl rfl rfl ?_
  refine J.e (op_call rfl rfl entCC (Ct.useA [blk g l T] [mr, F] (A' := fun _ : Unit => [blk g (setAt l off [.pointer (some ⟨g, off, none⟩)]) T]) (new := fun _ => []) (fun F' _ => copyCheck_ct F' g T off l p hb.a0 hb.self hT))) rfl rfl rfl ?_
  intro g7 _
  change J _ _ _ [blk g (setAt l off [.pointer (some ⟨g, off, none⟩)]) T, mr, F] _
  refine J.nil ?_
  refine J.then_n (J.k hK2 ?_)
  refine J.keepE [(0, _), (1, _)] ⟨rfl, rfl, trivial⟩ ?_
  refine J.seq (fun K3 hK3 => ?_)
  refine J.region ?_
  refine J.y (op_move rfl rfl) rfl rfl rfl ?_
  refine J.y (op_move rfl rfl) rfl rfl rfl ?_
  refine J.y (op_nilCheck rfl rfl) rfl rfl rfl ?_
  refine J.y (op_fieldAddr (j := off + 1) rfl rfl Tryd.underlying102 rfl Tryd.sizeOf30 rfl) rfl rfl rfl ?_
  refine J.y (op_loadB 0 rfl rfl rfl Tryd.isAgg30 ((setAt_ne hoff0 (by omega)).trans hb.a1)) rfl rfl rfl ?_
  refine J.y (op_move rfl rfl) rfl rfl rfl ?_
  refine J.e (op_appendS (i := 1) rfl rfl rfl Tryd.underlying30 Tryd.underlying9 el5 rfl hb.row (by omega) (by omega)) rfl rfl rfl ?_
  rintro ⟨A14, c14, m14⟩ h14
  try dsimp only at h14
  change J _ ((14, .slice A14 (bs.length + s.length) c14) :: _) _ [blk g (setAt l off [.pointer (some ⟨g, off, none⟩)]) T, m14, F] _
  obtain ⟨h14, hcap⟩ := h14
  have hbp := bld_put (bs' := bs ++ s) (A' := A14) (c' := c14) (mr' := m14) hb (by simpa [bytesV] using h14) (hcap hb.cap)
  simp only [List.length_append] at hbp
  refine J.y (op_nilCheck rfl rfl) rfl rfl rfl ?_
  refine J.y (op_fieldAddr (j := off + 1) rfl rfl Tryd.underlying102 rfl Tryd.sizeOf30 rfl) rfl rfl rfl ?_
  refine J.s (op_store (i := 0) (vs := [.slice A14 (bs.length + s.length) c14]) rfl rfl rfl rfl rfl Tryd.sizeOf30 rfl (by rw [setAt_len hoff0]; exact hoff)) rfl rfl (fun _ _ => ?_)
  change J _ _ _ [blk g (setAt (setAt l off [.pointer (some ⟨g, off, none⟩)]) (off + 1) [.slice A14 (bs.length + s.length) c14]) T, m14, F] _
  refine J.nil ?_
  refine J.then_n (J.k hK3 ?_)
  refine J.keepE [(1, _)] ⟨rfl, trivial⟩ ?_
  refine J.seq (fun K4 hK4 => ?_)
  refine J.region ?_
  refine J.y (op_move rfl rfl) rfl rfl rfl ?_
  refine J.y (op_slen Tryd.underlying9 rfl rfl) rfl rfl rfl ?_
  refine J.y (op_assign rfl rfl) rfl rfl rfl ?_
  refine J.y (op_assign rfl rfl) rfl rfl rfl ?_
  refine J.nil ?_
  refine J.then_n (J.k hK4 ?_)
  refine J.keepE [(4, _), (5, _)] ⟨rfl, rfl, trivial⟩ ?_
  refine J.ret ?_
  exact J.done hw0 (fun _ _ h => h) (res2 rfl rfl rfl) (retOk (_, m14) rfl ⟨A14, c14, hbp⟩ [0, 1, 2] rfl (by decide))

theorem bString_ct (F mr : Hp) (g T off : Nat) (l : List Value) (bs : List UInt8) (A : Option Addr) (c : Nat) (p : Option Addr) (hb : Bld g off l mr bs A c p)  (hlen : bs.length < 70368744177664) :
    Ct Tryd.prog 104 [.pointer (some ⟨g, off, none⟩)] [blk g l T, mr, F] (fun _ : Hp => Str bs) (fun m => Bld g off l m bs A c p) (fun m => [blk g l T, m, F]) := by
  refine Ct.walk Tryd.func104 rfl Tryd.ntmps104 rfl (fun w0 hw0 => ?_)
  change J _ [(0, _)] _ _ _
  refine J.seq (fun K1 hK1 => ?_)
  refine J.region ?_
  refine J.y (op_assign rfl rfl) rfl rfl rfl ?_
  refine J.nil ?_
  refine J.then_n (J.k hK1 ?_)
  refine J.keepE [(0, _)] ⟨rfl, trivial⟩ ?_
  refine J.seq (fun K2 hK2 => ?_)
  refine J.draw [blk g l T, F] [] (.y 0 (.y 1 (.y 2 (.y 3 (.y 4 (.y 5 (.y 6 (.y 7 (.y 8 (.y 9 (.e 10 (.y 11 .nil)))))))))))) Tryd.wide (by decide +kernel) (by simp) ?_
  refine J.dy rfl (op_move rfl rfl) rfl rfl rfl rfl ?_
  refine J.dy rfl (op_nilCheck rfl rfl) rfl rfl rfl rfl ?_
  refine J.dy rfl (op_fieldAddr (j := off + 1) rfl rfl Tryd.underlying102 rfl Tryd.sizeOf30 rfl) rfl rfl rfl rfl ?_
  refine J.dy rfl (op_loadB 0 rfl rfl rfl Tryd.isAgg30 hb.a1) rfl rfl rfl rfl ?_
  refine J.dy rfl (op_sliceData rfl rfl hb.cap) rfl rfl rfl rfl ?_
  refine J.dy rfl (op_move rfl rfl) rfl rfl rfl rfl ?_
  refine J.dy rfl (op_nilCheck rfl rfl) rfl rfl rfl rfl ?_
  refine J.dy rfl (op_fieldAddr (j := off + 1) rfl rfl Tryd.underlying102 rfl Tryd.sizeOf30 rfl) rfl rfl rfl rfl ?_
  refine J.dy rfl (op_loadB 0 rfl rfl rfl Tryd.isAgg30 hb.a1) rfl rfl rfl rfl ?_
  refine J.dy rfl (op_len Tryd.underlying30 rfl rfl) rfl rfl rfl rfl ?_
  refine J.de rfl (op_unsafeString (i := 1) rfl rfl rfl Tryd.underlying202 rfl rfl hb.row (by omega)) rfl rfl rfl (by simp) ?_
  rintro m13 h13
  change J _ _ _ [blk g l T, m13, F] _
  refine J.dy rfl (op_assign rfl rfl) rfl rfl rfl rfl ?_
  refine J.dnil ?_
  refine J.then_n (J.k hK2 ?_)
  refine J.keepE [(2, _)] ⟨rfl, trivial⟩ ?_
  refine J.ret ?_
  exact J.done hw0 (fun _ _ h => h) (res1 rfl rfl) (retOk m13 rfl ⟨hb.a0, hb.self, hb.a1, h13, hb.cap⟩ [0, 1, 2] rfl (by decide))

theorem mnz (v : Value) (w : World) : (callFunc 193 #[v]).run Tryd.prog w = (do let x ← Extern.BytealgMakeNoZero.makeNoZero #[3] #[30] #[v]; pure (.value x) : Sem Next).run Tryd.prog w := by kernel_rfl
theorem ent160 : Enters Tryd.prog 160 := Enters.of Tryd.func160 rfl (by kernel_rfl)
theorem ent118 : Enters Tryd.prog 118 := Enters.of Tryd.func118 rfl (by kernel_rfl)
theorem ent102 : Enters Tryd.prog 102 := Enters.of Tryd.func102 rfl (by kernel_rfl)
theorem ent104 : Enters Tryd.prog 104 := Enters.of Tryd.func104 rfl (by kernel_rfl)
theorem ent103 : Enters Tryd.prog 103 := Enters.of Tryd.func103 rfl (by kernel_rfl)

theorem bgrow_ct (F : Hp) (g T off : Nat) (l : List Value) (hl : l[off + 1]? = some (.slice none 0 0)) (n : Nat) (hn : n ≤ 70368744177664) :
    Ct Tryd.prog 160 [.pointer (some ⟨g, off, none⟩), I n] [blk g l T, F] (fun _ : Nat × Nat × List Value => .tuple #[]) (fun x => n ≤ x.2.1 ∧ x.2.2.length = x.2.1) (fun x => [blk g (setAt l (off + 1) [.slice (some ⟨x.1, 0, none⟩) 0 x.2.1]) T, F, blk x.1 x.2.2 5]) := by
  have hoff : off + 1 < l.length := (List.getElem?_eq_some_iff.1 hl).1
  refine Ct.walk Tryd.func160 rfl Tryd.ntmps160 rfl (fun w0 hw0 => ?_)
  change J _ [(0, _), (1, _)] _ _ _
  refine J.seq (fun K1 hK1 => ?_)
  refine J.draw [blk g l T, F] [] (.y 0 (.y 1 (.y 2 (.y 3 (.y 4 (.y 5 (.y 6 (.y 7 (.y 9 (.y 10 (.y 11 (.y 12 (.y 13 (.e 8 (.y 14 (.y 15 .nil)))))))))))))))) Tryd.wide (by decide +kernel) (by simp) ?_
  refine J.dy rfl (op_move rfl rfl) rfl rfl rfl rfl ?_
  refine J.dy rfl (op_nilCheck rfl rfl) rfl rfl rfl rfl ?_
  refine J.dy rfl (op_fieldAddr (j := off + 1) rfl rfl Tryd.underlying102 rfl Tryd.sizeOf30 rfl) rfl rfl rfl rfl ?_
  refine J.dy rfl (op_loadB 0 rfl rfl rfl Tryd.isAgg30 hl) rfl rfl rfl rfl ?_
  refine J.dy rfl (op_cap Tryd.underlying30 rfl rfl) rfl rfl rfl rfl ?_
  refine J.dy rfl (op_mul (a := 2) (b := 0) rfl rfl rfl (by omega)) rfl rfl rfl rfl ?_
  refine J.dy rfl (op_move rfl rfl) rfl rfl rfl rfl ?_
  refine J.dy rfl ((op_add rfl rfl rfl (by omega)).as (v' := I n) (by simp)) rfl rfl rfl rfl ?_
  refine J.dy rfl (op_move rfl rfl) rfl rfl rfl rfl ?_
  refine J.dy rfl (op_nilCheck rfl rfl) rfl rfl rfl rfl ?_
  refine J.dy rfl (op_fieldAddr (j := off + 1) rfl rfl Tryd.underlying102 rfl Tryd.sizeOf30 rfl) rfl rfl rfl rfl ?_
  refine J.dy rfl (op_loadB 0 rfl rfl rfl Tryd.isAgg30 hl) rfl rfl rfl rfl ?_
  refine J.dy rfl (op_len Tryd.underlying30 rfl rfl) rfl rfl rfl rfl ?_
  refine J.de rfl (op_mnz rfl rfl mnz Tryd.underlying30 (by omega)) rfl rfl rfl (by simp) ?_
  rintro ⟨g13, c13, l13⟩ h13
  try dsimp only at h13
  change J _ ((13, .slice (some ⟨g13, 0, none⟩) n c13) :: _) _ [blk g l T, F, blk g13 l13 5] _
  refine J.dy rfl (op_sliceTo (h := 0) rfl rfl Tryd.underlying30 Tryd.sizeOf5 rfl (by omega)) rfl rfl rfl rfl ?_
  refine J.dy rfl (op_assign rfl rfl) rfl rfl rfl rfl ?_
  refine J.dnil ?_
  refine J.then_n (J.k hK1 ?_)
  refine J.keepE [(0, _), (4, _)] ⟨rfl, rfl, trivial⟩ ?_
  refine J.seq (fun K2 hK2 => ?_)
  refine J.region ?_
  refine J.y (op_move rfl rfl) rfl rfl rfl ?_
  refine J.y (op_move rfl rfl) rfl rfl rfl ?_
  refine J.y (op_nilCheck rfl rfl) rfl rfl rfl ?_
  refine J.y (op_fieldAddr (j := off + 1) rfl rfl Tryd.underlying102 rfl Tryd.sizeOf30 rfl) rfl rfl rfl ?_
  refine J.y (op_loadB 0 rfl rfl rfl Tryd.isAgg30 hl) rfl rfl rfl ?_
  refine J.e (op_copy0 rfl rfl rfl Tryd.underlying30 el5) rfl rfl rfl ?_
  intro g25 _
  change J _ _ _ [blk g l T, F, blk g13 l13 5] _
  refine J.nil ?_
  refine J.then_n (J.k hK2 ?_)
  refine J.keepE [(0, _), (4, _)] ⟨rfl, rfl, trivial⟩ ?_
  refine J.region ?_
  refine J.y (op_move rfl rfl) rfl rfl rfl ?_
  refine J.y (op_move rfl rfl) rfl rfl rfl ?_
  refine J.y (op_nilCheck rfl rfl) rfl rfl rfl ?_
  refine J.y (op_fieldAddr (j := off + 1) rfl rfl Tryd.underlying102 rfl Tryd.sizeOf30 rfl) rfl rfl rfl ?_
  refine J.s (op_store (i := 0) (vs := [.slice (some ⟨g13, 0, none⟩) 0 c13]) rfl rfl rfl rfl rfl Tryd.sizeOf30 rfl (by exact hoff)) rfl rfl (fun _ _ => ?_)
  change J _ _ _ [blk g (setAt l (off + 1) [.slice (some ⟨g13, 0, none⟩) 0 c13]) T, F, blk g13 l13 5] _
  refine J.nil ?_
  exact J.fin hw0 (fun _ _ h => h) (res0 rfl) (retOk (g13, c13, l13) rfl h13 [0, 1, 2] rfl (by decide))

theorem bGrow_ct (F : Hp) (g T off : Nat) (l : List Value) (p : Option Addr) (hb : Bld g off l (fun _ => none) [] none 0 p) (hT : liesAt Tryd.prog Tryd.prog.depth T (l.length / Tryd.prog.cellsOf T) off 102 1 = true) (n : Nat) (hn : n ≤ 70368744177664) :
    Ct Tryd.prog 118 [.pointer (some ⟨g, off, none⟩), I n] [blk g l T, fun _ => none, F] (fun _ : List Value × Hp => .tuple #[]) (fun x => ∃ A c, Bld g off x.1 x.2 ([]) A c (some ⟨g, off, none⟩) ∧ Upd off l x.1) (fun x => [blk g x.1 T, x.2, F]) := by
  have hoff : off + 1 < l.length := (List.getElem?_eq_some_iff.1 hb.a1).1
  have hoff0 : off < l.length := by omega
  refine Ct.walk Tryd.func118 rfl Tryd.ntmps118 rfl (fun w0 hw0 => ?_)
  change J _ [(0, _), (1, _)] _ _ _
  refine J.seq (fun K1 hK1 => ?_)
  refine J.region ?_
  refine J.y (op_move rfl rfl) rfl rfl rfl ?_
  refine J.e (op_call rfl rfl entCC (Ct.useA [blk g l T] [(fun _ => none), F] (A' := fun _ : Unit => [blk g (setAt l off [.pointer (some ⟨g, off, none⟩)]) T]) (new := fun _ => []) (fun F' _ => copyCheck_ct F' g T off l p hb.a0 hb.self hT))) rfl rfl rfl ?_
  intro g5 _
  change J _ _ _ [blk g (setAt l off [.pointer (some ⟨g, off, none⟩)]) T, (fun _ => none), F] _
  refine J.nil ?_
  refine J.then_n (J.k hK1 ?_)
  refine J.keepE [(0, _), (1, _)] ⟨rfl, rfl, trivial⟩ ?_
  refine J.seq (fun K2 hK2 => ?_)
  refine J.seq (fun K3 hK3 => ?_)
  refine J.region ?_
  refine J.y (op_move rfl rfl) rfl rfl rfl ?_
  refine J.y (op_lss rfl rfl rfl) rfl rfl rfl ?_
  refine J.nil ?_
  refine J.then_n (J.k hK3 ?_)
  refine J.keepE [(0, _), (1, _), (7, _)] ⟨rfl, rfl, rfl, trivial⟩ ?_
  refine J.condF rfl ((by simp)) ?_
  refine J.skip ?_
  refine J.then_n (J.k hK2 ?_)
  refine J.keepE [(0, _), (1, _)] ⟨rfl, rfl, trivial⟩ ?_
  refine J.seq (fun K4 hK4 => ?_)
  refine J.draw [blk g (setAt l off [.pointer (some ⟨g, off, none⟩)]) T, (fun _ => none), F] [] (.y 0 (.y 1 (.y 2 (.y 3 (.y 4 (.y 5 (.y 6 (.y 7 (.y 8 (.y 9 (.y 10 (.y 11 (.y 12 .nil))))))))))))) Tryd.wide (by decide +kernel) (by simp) ?_
  refine J.dy rfl (op_move rfl rfl) rfl rfl rfl rfl ?_
  refine J.dy rfl (op_nilCheck rfl rfl) rfl rfl rfl rfl ?_
  refine J.dy rfl (op_fieldAddr (j := off + 1) rfl rfl Tryd.underlying102 rfl Tryd.sizeOf30 rfl) rfl rfl rfl rfl ?_
  refine J.dy rfl (op_loadB 0 rfl rfl rfl Tryd.isAgg30 ((setAt_ne hoff0 (by omega)).trans hb.a1)) rfl rfl rfl rfl ?_
  refine J.dy rfl (op_cap Tryd.underlying30 rfl rfl) rfl rfl rfl rfl ?_
  refine J.dy rfl (op_move rfl rfl) rfl rfl rfl rfl ?_
  refine J.dy rfl (op_nilCheck rfl rfl) rfl rfl rfl rfl ?_
  refine J.dy rfl (op_fieldAddr (j := off + 1) rfl rfl Tryd.underlying102 rfl Tryd.sizeOf30 rfl) rfl rfl rfl rfl ?_
  refine J.dy rfl (op_loadB 0 rfl rfl rfl Tryd.isAgg30 ((setAt_ne hoff0 (by omega)).trans hb.a1)) rfl rfl rfl rfl ?_
  refine J.dy rfl (op_len Tryd.underlying30 rfl rfl) rfl rfl rfl rfl ?_
  refine J.dy rfl (op_sub (a := 0) (b := 0) rfl rfl rfl (by omega)) rfl rfl rfl rfl ?_
  refine J.dy rfl (op_move rfl rfl) rfl rfl rfl rfl ?_
  refine J.dy rfl (op_lss rfl rfl rfl) rfl rfl rfl rfl ?_
  refine J.dnil ?_
  refine J.then_n (J.k hK4 ?_)
  refine J.keepE [(0, _), (1, _), (21, _)] ⟨rfl, rfl, rfl, trivial⟩ ?_
  refine J.ite rfl (fun h21 => ?_) (fun h21 => ?_)
  ·
    refine J.region ?_
    refine J.y (op_move rfl rfl) rfl rfl rfl ?_
    refine J.y (op_move rfl rfl) rfl rfl rfl ?_
    refine J.e (op_call rfl rfl ent160 (Ct.useA [blk g (setAt l off [.pointer (some ⟨g, off, none⟩)]) T] [fun _ => none, F] (A' := fun x : Nat × Nat × List Value => [blk g (setAt (setAt l off [.pointer (some ⟨g, off, none⟩)]) (off + 1) [.slice (some ⟨x.1, 0, none⟩) 0 x.2.1]) T]) (new := fun x => [blk x.1 x.2.2 5]) (fun F' _ => bgrow_ct F' g T off (setAt l off [.pointer (some ⟨g, off, none⟩)]) ((setAt_ne hoff0 (by omega)).trans hb.a1) n hn))) rfl rfl rfl ?_
    rintro ⟨g24, c24, l24⟩ h24
    try dsimp only at h24
    change J _ _ _ [blk g (setAt (setAt l off [.pointer (some ⟨g, off, none⟩)]) (off + 1) [.slice (some ⟨g24, 0, none⟩) 0 c24]) T, (fun _ => none), F, blk g24 l24 5] _
    refine J.nil ?_
    have hbp := bld_put (bs' := []) (A' := some ⟨g24, 0, none⟩) (c' := c24) (mr' := blk g24 l24 5) hb (row_new (xs := []) (rest := l24) (lo := 0) (hi := 0) rfl rfl (by simp) (by simpa using h24.2) (Nat.zero_le _) (.inl rfl)) (.inr (by omega))
    simp only [List.length_nil] at hbp
    exact J.fin hw0 (fun _ _ h => h) (res0 rfl) (retOk (_, blk g24 l24 5) rfl ⟨some ⟨g24, 0, none⟩, c24, hbp⟩ [0, 3, 2] rfl (by decide))
  ·
    refine J.skip ?_
    have hbp := bld_put (bs' := []) (A' := none) (c' := 0) (mr' := fun _ => none) hb RowQ.nil (.inl rfl)
    have e1 := setAt_same ((setAt_ne (v := .pointer (some ⟨g, off, none⟩)) hoff0 (by omega)).trans hb.a1)
    simp only [List.length_nil] at e1 hbp
    rw [e1] at hbp
    exact J.fin hw0 (fun _ _ h => h) (res0 rfl) (retOk (_, fun _ => none) rfl ⟨none, 0, hbp⟩ [0, 1, 2] rfl (by decide))

def joinB (sep : List UInt8) : List (List UInt8) → List UInt8
  | [] => []
  | a :: r => a ++ (r.map fun x => sep ++ x).flatten
theorem joinB_nil : ∀ ls, joinB [] ls = ls.flatten
  | [] => rfl
  | a :: r => by simp [joinB]
def sumLen (ls : List (List UInt8)) : Nat := (ls.map List.length).sum
theorem sumLen_take (ls : List (List UInt8)) (k : Nat) {s : List UInt8} (h : ls[k]? = some s) : sumLen (ls.take (k + 1)) = sumLen (ls.take k) + s.length := by
  obtain ⟨hk, rfl⟩ := List.getElem?_eq_some_iff.1 h
  unfold sumLen
  rw [List.take_succ_eq_append_getElem hk, List.map_append, List.sum_append]; rfl
theorem sumLen_le (ls : List (List UInt8)) (k : Nat) : sumLen (ls.take k) ≤ sumLen ls := by
  unfold sumLen
  conv => rhs; rw [← List.take_append_drop k ls, List.map_append, List.sum_append]
  omega
theorem length_joinB (sep : List UInt8) : ∀ (ls : List (List UInt8)), (joinB sep ls).length = sumLen ls + sep.length * (ls.length - 1)
  | [] => by simp [joinB, sumLen]
  | a :: r => by
    have h : ∀ r : List (List UInt8), (r.map fun x => sep ++ x).flatten.length = (r.map List.length).sum + sep.length * r.length := by
      intro r
      induction r with
      | nil => rfl
      | cons x r ih =>
        simp only [List.map_cons, List.flatten_cons, List.length_append, List.sum_cons, List.length_cons, Nat.mul_add, ih]
        omega
    simp [joinB, sumLen, h]; omega
theorem joinB_snoc (sep : List UInt8) (ls : List (List UInt8)) (k : Nat) {s : List UInt8} (h : ls[k + 1]? = some s) : joinB sep (ls.take (k + 2)) = joinB sep (ls.take (k + 1)) ++ sep ++ s := by
  cases ls with
  | nil => simp at h
  | cons a r =>
    simp only [List.getElem?_cons_succ] at h
    obtain ⟨hk, rfl⟩ := List.getElem?_eq_some_iff.1 h
    simp only [List.take_succ_cons, joinB]
    rw [List.take_succ_eq_append_getElem hk, List.map_append, List.flatten_append]
    simp only [List.map_cons, List.map_nil, List.flatten_cons, List.flatten_nil, List.append_nil, List.append_assoc]
theorem joinB_mono (sep : List UInt8) (ls : List (List UInt8)) (k : Nat) : (joinB sep (ls.take (k + 1))).length ≤ (joinB sep ls).length := by
  rw [length_joinB, length_joinB]
  have h1 := sumLen_le ls (k + 1)
  have h2 : (ls.take (k + 1)).length ≤ ls.length := by simp; omega
  have h3 : sep.length * ((ls.take (k + 1)).length - 1) ≤ sep.length * (ls.length - 1) := Nat.mul_le_mul_left _ (by omega)
  omega
theorem lies0 : liesAt Tryd.prog Tryd.prog.depth 102 (2 / Tryd.prog.cellsOf 102) 0 102 1 = true := by kernel_rfl
theorem sep_div (a b M : Int) (hb : 0 < b) (h : a * b + b ≤ M) : a + 1 ≤ M / b := by
  rw [Int.le_ediv_iff_mul_le hb, Int.add_mul]; omega

theorem join_nil (F : Hp) (A : Option Addr) (n c : Nat) (sep : List UInt8) (hl : Sl F 1 A n c (strsV [])) :
    Ct Tryd.prog 148 [.slice A n c, Str sep] [F] (fun _ : Unit => Str (joinB sep [])) (fun _ => True) (fun _ => [F]) := by
  have hn : n = 0 := hl.1.symm
  subst hn
  refine Ct.walk Tryd.func148 rfl Tryd.ntmps148 rfl (fun w0 hw0 => ?_)
  change J _ [(0, _), (1, _)] _ _ _
  refine J.seq (fun K1 hK1 => ?_)
  refine J.region ?_
  refine J.y (op_assign rfl rfl) rfl rfl rfl ?_
  refine J.nil ?_
  refine J.then_n (J.k hK1 ?_)
  refine J.keepE [(0, _), (1, _)] ⟨rfl, rfl, trivial⟩ ?_
  refine J.seq (fun K2 hK2 => ?_)
  refine J.seq (fun K3 hK3 => ?_)
  refine J.region ?_
  refine J.y (op_move rfl rfl) rfl rfl rfl ?_
  refine J.y (op_len Tryd.underlying55 rfl rfl) rfl rfl rfl ?_
  refine J.nil ?_
  refine J.then_n (J.k hK3 ?_)
  refine J.keepE [(0, _), (1, _), (12, _)] ⟨rfl, rfl, rfl, trivial⟩ ?_
  refine J.block ?_
  refine J.seq (fun K4 hK4 => ?_)
  refine J.region ?_
  refine J.y (op_eql rfl rfl rfl) rfl rfl rfl ?_
  refine J.y (op_assign rfl rfl) rfl rfl rfl ?_
  refine J.nil ?_
  refine J.then_n (J.k hK4 ?_)
  refine J.keepE [(0, _), (1, _), (12, _), (13, _)] ⟨rfl, rfl, rfl, rfl, trivial⟩ ?_
  refine J.condT rfl rfl ?_
  refine J.seq (fun K5 hK5 => ?_)
  refine J.region ?_
  refine J.y (op_assign rfl rfl) rfl rfl rfl ?_
  refine J.nil ?_
  refine J.then_n (J.k hK5 ?_)
  refine J.keepE [(4, _)] ⟨rfl, trivial⟩ ?_
  refine J.ret ?_
  refine J.blk_r ?_
  refine J.then_r ?_
  exact J.done hw0 (fun _ _ h => h) (res1 rfl rfl) (retOk () rfl trivial [0] rfl (by decide))

theorem join_one (F : Hp) (A : Option Addr) (n c : Nat) (s : List UInt8) (sep : List UInt8) (hl : Sl F 1 A n c (strsV [s])) :
    Ct Tryd.prog 148 [.slice A n c, Str sep] [F] (fun _ : Unit => Str (joinB sep [s])) (fun _ => True) (fun _ => [F]) := by
  have hn : n = 1 := hl.1.symm
  subst hn
  refine Ct.walk Tryd.func148 rfl Tryd.ntmps148 rfl (fun w0 hw0 => ?_)
  change J _ [(0, _), (1, _)] _ _ _
  refine J.seq (fun K1 hK1 => ?_)
  refine J.region ?_
  refine J.y (op_assign rfl rfl) rfl rfl rfl ?_
  refine J.nil ?_
  refine J.then_n (J.k hK1 ?_)
  refine J.keepE [(0, _), (1, _)] ⟨rfl, rfl, trivial⟩ ?_
  refine J.seq (fun K2 hK2 => ?_)
  refine J.seq (fun K3 hK3 => ?_)
  refine J.region ?_
  refine J.y (op_move rfl rfl) rfl rfl rfl ?_
  refine J.y (op_len Tryd.underlying55 rfl rfl) rfl rfl rfl ?_
  refine J.nil ?_
  refine J.then_n (J.k hK3 ?_)
  refine J.keepE [(0, _), (1, _), (12, _)] ⟨rfl, rfl, rfl, trivial⟩ ?_
  refine J.block ?_
  refine J.seq (fun K4 hK4 => ?_)
  refine J.region ?_
  refine J.y (op_eql rfl rfl rfl) rfl rfl rfl ?_
  refine J.y (op_assign rfl rfl) rfl rfl rfl ?_
  refine J.nil ?_
  refine J.then_n (J.k hK4 ?_)
  refine J.keepE [(0, _), (1, _), (12, _), (13, _)] ⟨rfl, rfl, rfl, rfl, trivial⟩ ?_
  refine J.condF rfl (rfl) ?_
  refine J.seq (fun K5 hK5 => ?_)
  refine J.region ?_
  refine J.y (op_eql rfl rfl rfl) rfl rfl rfl ?_
  refine J.y (op_assign rfl rfl) rfl rfl rfl ?_
  refine J.nil ?_
  refine J.then_n (J.k hK5 ?_)
  refine J.keepE [(0, _), (1, _), (15, _)] ⟨rfl, rfl, rfl, trivial⟩ ?_
  refine J.condT rfl (rfl) ?_
  refine J.seq (fun K6 hK6 => ?_)
  refine J.region ?_
  refine J.y (op_move rfl rfl) rfl rfl rfl ?_
  refine J.y (op_indexAddr (i := 0) rfl rfl rfl Tryd.underlying55 Tryd.sizeOf9 hl (by decide)) rfl rfl rfl ?_
  refine J.y (op_load rfl rfl Tryd.isAgg9 (by simp) (hl.elem (strsV_get (k := 0) rfl))) rfl rfl rfl ?_
  refine J.y (op_assign rfl rfl) rfl rfl rfl ?_
  refine J.nil ?_
  refine J.then_n (J.k hK6 ?_)
  refine J.keepE [(4, _)] ⟨rfl, trivial⟩ ?_
  refine J.ret ?_
  refine J.blk_r ?_
  refine J.then_r ?_
  exact J.done hw0 (fun _ _ h => h) (res1 rfl rfl) (retOk () (by simp [joinB]) trivial [0] rfl (by decide))

theorem join_many (F : Hp) (A : Option Addr) (n c : Nat) (ls : List (List UInt8)) (sep : List UInt8) (hl : Sl F 1 A n c (strsV ls)) (h2 : 2 ≤ n) (htot : (joinB sep ls).length ≤ 35184372088832) (hn47 : n ≤ 70368744177664) :
    Ct Tryd.prog 148 [.slice A n c, Str sep] [F] (fun _ : Unit => Str (joinB sep ls)) (fun _ => True) (fun _ => [F]) := by
  have hlen : ls.length = n := by have := hl.1; simpa [strsV] using this
  have hjl := length_joinB sep ls
  rw [hlen] at hjl
  have hq : (sep.length : Int) * ((n : Int) - 1) = ((sep.length * (n - 1) : Nat) : Int) := by rw [Int.natCast_mul]; congr 1; omega
  have hB0 : ¬ 0 < (sep.length : Int) → sep.length * (n - 1) = 0 := fun h => by rw [show sep.length = 0 by omega, Nat.zero_mul]
  have hsm : sep.length ≤ 35184372088832 := by
    have : sep.length * 1 ≤ sep.length * (n - 1) := Nat.mul_le_mul_left _ (by omega)
    omega
  have hdiv : (sep.length : Int) + 1 ≤ 9223372036854775807 / ((n : Int) - 1) := sep_div _ _ _ (by omega) (by rw [hq]; omega)
  have hnc := hl.2.1
  obtain ⟨B, hB⟩ : ∃ B, sep.length * (n - 1) = B := ⟨_, rfl⟩
  rw [hB] at hjl hq hB0
  generalize hD : (9223372036854775807 : Int) / ((n : Int) - 1) = D at hdiv
  have H2 : (0 : Int) ≤ 9223372036854775807 ∧ 0 < (n : Int) - 1 ∧ (9223372036854775807 : Int) ≤ 9223372036854775807 := by omega
  refine Ct.walk Tryd.func148 rfl Tryd.ntmps148 rfl (fun w0 hw0 => ?_)
  change J _ [(0, _), (1, _)] _ _ _
  refine J.seq (fun K1 hK1 => ?_)
  refine J.region ?_
  refine J.y (op_assign rfl rfl) rfl rfl rfl ?_
  refine J.nil ?_
  refine J.then_n (J.k hK1 ?_)
  refine J.keepE [(0, _), (1, _)] ⟨rfl, rfl, trivial⟩ ?_
  refine J.seq (fun K2 hK2 => ?_)
  refine J.seq (fun K3 hK3 => ?_)
  refine J.region ?_
  refine J.y (op_move rfl rfl) rfl rfl rfl ?_
  refine J.y (op_len Tryd.underlying55 rfl rfl) rfl rfl rfl ?_
  refine J.nil ?_
  refine J.then_n (J.k hK3 ?_)
  refine J.keepE [(0, _), (1, _), (12, _)] ⟨rfl, rfl, rfl, trivial⟩ ?_
  refine J.block ?_
  refine J.seq (fun K4 hK4 => ?_)
  refine J.region ?_
  refine J.y (op_eql rfl rfl rfl) rfl rfl rfl ?_
  refine J.y (op_assign rfl rfl) rfl rfl rfl ?_
  refine J.nil ?_
  refine J.then_n (J.k hK4 ?_)
  refine J.keepE [(0, _), (1, _), (12, _), (13, _)] ⟨rfl, rfl, rfl, rfl, trivial⟩ ?_
  refine J.condF rfl ((by simp; omega)) ?_
  refine J.seq (fun K5 hK5 => ?_)
  refine J.region ?_
  refine J.y (op_eql rfl rfl rfl) rfl rfl rfl ?_
  refine J.y (op_assign rfl rfl) rfl rfl rfl ?_
  refine J.nil ?_
  refine J.then_n (J.k hK5 ?_)
  refine J.keepE [(0, _), (1, _), (15, _)] ⟨rfl, rfl, rfl, trivial⟩ ?_
  refine J.condF rfl ((by simp; omega)) ?_
  refine J.skip ?_
  refine J.blk_n ?_
  refine J.then_n (J.k hK2 ?_)
  refine J.keepE [(0, _), (1, _)] ⟨rfl, rfl, trivial⟩ ?_
  refine J.seq (fun K6 hK6 => ?_)
  refine J.region ?_
  refine J.y (op_assign rfl rfl) rfl rfl rfl ?_
  refine J.nil ?_
  refine J.then_n (J.k hK6 ?_)
  refine J.keepE [(0, _), (1, _), (5, _)] ⟨rfl, rfl, rfl, trivial⟩ ?_
  refine J.cut (fun _ : Unit => [(0, .slice A n c), (1, Str sep), (5, I (B : Int))]) (fun _ => [F]) (fun _ => True) (fun K7 hK7 => ?_) ?_
  ·
    refine J.seq (fun K8 hK8 => ?_)
    refine J.region ?_
    refine J.y (op_move rfl rfl) rfl rfl rfl ?_
    refine J.y (op_slen Tryd.underlying9 rfl rfl) rfl rfl rfl ?_
    refine J.y (op_gtr rfl rfl rfl) rfl rfl rfl ?_
    refine J.nil ?_
    refine J.then_n (J.k hK8 ?_)
    refine J.keepE [(0, _), (1, _), (5, _), (22, _)] ⟨rfl, rfl, rfl, rfl, trivial⟩ ?_
    refine J.ite rfl (fun h22 => ?_) (fun h22 => ?_)
    ·
      refine J.seq (fun K9 hK9 => ?_)
      refine J.seq (fun K10 hK10 => ?_)
      refine J.region ?_
      refine J.y (op_move rfl rfl) rfl rfl rfl ?_
      refine J.y (op_slen Tryd.underlying9 rfl rfl) rfl rfl rfl ?_
      refine J.y (op_move rfl rfl) rfl rfl rfl ?_
      refine J.y (op_len Tryd.underlying55 rfl rfl) rfl rfl rfl ?_
      refine J.y (op_sub rfl rfl rfl (by omega)) rfl rfl rfl ?_
      refine J.y ((op_quo rfl rfl rfl H2).as (congrArg I hD)) rfl rfl rfl ?_
      refine J.y (op_geq rfl rfl rfl) rfl rfl rfl ?_
      refine J.nil ?_
      refine J.then_n (J.k hK10 ?_)
      refine J.keepE [(0, _), (1, _), (5, _), (29, _)] ⟨rfl, rfl, rfl, rfl, trivial⟩ ?_
      refine J.condF rfl ((by simp; omega)) ?_
      refine J.skip ?_
      refine J.then_n (J.k hK9 ?_)
      refine J.keepE [(0, _), (1, _), (5, _)] ⟨rfl, rfl, rfl, trivial⟩ ?_
      refine J.region ?_
      refine J.y (op_move rfl rfl) rfl rfl rfl ?_
      refine J.y (op_move rfl rfl) rfl rfl rfl ?_
      refine J.y (op_slen Tryd.underlying9 rfl rfl) rfl rfl rfl ?_
      refine J.y (op_move rfl rfl) rfl rfl rfl ?_
      refine J.y (op_len Tryd.underlying55 rfl rfl) rfl rfl rfl ?_
      refine J.y (op_sub rfl rfl rfl (by omega)) rfl rfl rfl ?_
      refine J.y ((op_mul rfl rfl rfl (by rw [hq]; omega)).as (v' := I (B : Int)) (by rw [hq])) rfl rfl rfl ?_
      refine J.y ((op_add (a := 0) rfl rfl rfl (by omega)).as (v' := I (B : Int)) (by simp)) rfl rfl rfl ?_
      refine J.y (op_assign rfl rfl) rfl rfl rfl ?_
      refine J.nil ?_
      refine J.then_n ?_
      exact J.kk () hK7 trivial ⟨rfl, rfl, rfl, trivial⟩ (fun _ h => h)
    ·
      refine J.skip ?_
      refine J.then_n ?_
      exact J.kk () hK7 trivial ⟨rfl, rfl, by rw [hB0 h22]; rfl, trivial⟩ (fun _ h => h)
  rintro _ _
  refine J.seq (fun K11 hK11 => ?_)
  refine J.seq (fun K12 hK12 => ?_)
  refine J.region ?_
  refine J.y (op_move rfl rfl) rfl rfl rfl ?_
  refine J.y (op_len Tryd.underlying55 rfl rfl) rfl rfl rfl ?_
  refine J.y (op_move rfl rfl) rfl rfl rfl ?_
  refine J.nil ?_
  refine J.then_n (J.k hK12 ?_)
  refine J.keepE [(0, _), (1, _), (5, _), (39, _), (40, _), (41, _)] ⟨rfl, rfl, rfl, rfl, rfl, rfl, trivial⟩ ?_
  refine J.block ?_
  refine J.loop (fun k : Nat => [(0, .slice A n c), (1, Str sep), (5, I ((B + sumLen (ls.take k) : Nat) : Int)), (39, .slice A n c), (40, I n), (41, I k)]) (fun _ => [F]) (fun k => k ≤ n) (fun k => n - k) 0 (Nat.zero_le _) ⟨rfl, rfl, rfl, rfl, rfl, rfl, trivial⟩ (fun _ h => h) ?_
  intro k hk I1 hI1
  refine J.seq (fun K13 hK13 => ?_)
  refine J.region ?_
  refine J.y (op_lss rfl rfl rfl) rfl rfl rfl ?_
  refine J.nil ?_
  refine J.then_n (J.k hK13 ?_)
  refine J.keepE [(0, _), (1, _), (5, _), (39, _), (40, _), (41, _), (42, _)] ⟨rfl, rfl, rfl, rfl, rfl, rfl, rfl, trivial⟩ ?_
  refine J.seq (fun K14 hK14 => ?_)
  refine J.ite rfl (fun h42 => ?_) (fun h42 => ?_)
  ·
    refine J.skip ?_
    refine J.then_n (J.k hK14 ?_)
    refine J.keepE [(0, _), (1, _), (5, _), (39, _), (40, _), (41, _)] ⟨rfl, rfl, rfl, rfl, rfl, rfl, trivial⟩ ?_
    refine J.seq (fun K15 hK15 => ?_)
    refine J.block ?_
    refine J.seq (fun K16 hK16 => ?_)
    have hkn : k < n := by omega
    obtain ⟨s, hs⟩ : ∃ s, ls[k]? = some s := ⟨_, List.getElem?_eq_getElem (by omega)⟩
    have hst := sumLen_take ls k hs
    have hst2 := sumLen_le ls (k + 1)
    refine J.region ?_
    refine J.y (op_indexAddr (i := k) rfl rfl rfl Tryd.underlying55 Tryd.sizeOf9 hl hkn) rfl rfl rfl ?_
    refine J.y (op_load rfl rfl Tryd.isAgg9 (by simp) (hl.elem (strsV_get hs))) rfl rfl rfl ?_
    refine J.y (op_assign rfl rfl) rfl rfl rfl ?_
    refine J.nil ?_
    refine J.then_n (J.k hK16 ?_)
    refine J.keepE [(0, _), (1, _), (5, _), (7, _), (39, _), (40, _), (41, _)] ⟨rfl, rfl, rfl, rfl, rfl, rfl, rfl, trivial⟩ ?_
    refine J.seq (fun K17 hK17 => ?_)
    refine J.seq (fun K18 hK18 => ?_)
    refine J.region ?_
    refine J.y (op_move rfl rfl) rfl rfl rfl ?_
    refine J.y (op_slen Tryd.underlying9 rfl rfl) rfl rfl rfl ?_
    refine J.y (op_move rfl rfl) rfl rfl rfl ?_
    refine J.y (op_sub rfl rfl rfl (by omega)) rfl rfl rfl ?_
    refine J.y (op_gtr rfl rfl rfl) rfl rfl rfl ?_
    refine J.nil ?_
    refine J.then_n (J.k hK18 ?_)
    refine J.keepE [(0, _), (1, _), (5, _), (7, _), (39, _), (40, _), (41, _), (49, _)] ⟨rfl, rfl, rfl, rfl, rfl, rfl, rfl, rfl, trivial⟩ ?_
    refine J.condF rfl ((by simp; omega)) ?_
    refine J.skip ?_
    refine J.then_n (J.k hK17 ?_)
    refine J.keepE [(0, _), (1, _), (5, _), (7, _), (39, _), (40, _), (41, _)] ⟨rfl, rfl, rfl, rfl, rfl, rfl, rfl, trivial⟩ ?_
    refine J.region ?_
    refine J.y (op_move rfl rfl) rfl rfl rfl ?_
    refine J.y (op_move rfl rfl) rfl rfl rfl ?_
    refine J.y (op_slen Tryd.underlying9 rfl rfl) rfl rfl rfl ?_
    refine J.y (op_add rfl rfl rfl (by omega)) rfl rfl rfl ?_
    refine J.y (op_assign rfl rfl) rfl rfl rfl ?_
    refine J.nil ?_
    refine J.blk_n ?_
    refine J.then_n (J.k hK15 ?_)
    refine J.keepE [(0, _), (1, _), (5, _), (39, _), (40, _), (41, _)] ⟨rfl, rfl, rfl, rfl, rfl, rfl, trivial⟩ ?_
    refine J.region ?_
    refine J.y (op_add rfl rfl rfl (by omega)) rfl rfl rfl ?_
    refine J.y (op_move rfl rfl) rfl rfl rfl ?_
    refine J.nil ?_
    refine J.then_n ?_
    exact J.kk (k + 1) (fun x (hx : x ≤ n ∧ n - x < n - k) => hI1 x hx.1 hx.2) ⟨by omega, by omega⟩ ⟨rfl, rfl, by rw [hst]; exact congrArg (fun z => some (I z)) (by omega), rfl, rfl, rfl, trivial⟩ (fun _ h => h)
  ·
    refine J.exit ?_
    refine J.then_x ?_
    refine J.then_x ?_
    refine J.blk_eq ?_
    refine J.then_n (J.k hK11 ?_)
    refine J.keepE [(0, _), (1, _), (5, _)] ⟨rfl, rfl, rfl, trivial⟩ ?_
    refine J.seq (fun K19 hK19 => ?_)
    refine J.region ?_
    refine J.e (op_alloc rfl Tryd.zeroValue102 rfl) rfl rfl rfl ?_
    intro g8 _
    change J _ _ _ [F, blk g8 _ 102] _
    refine J.addEmpty [1, 2, 0] [blk g8 [.pointer none, .slice none 0 0] 102, fun _ => none, F] rfl (by decide) ?_
    refine J.nil ?_
    refine J.then_n (J.k hK19 ?_)
    refine J.keepE [(0, _), (1, _), (5, _), (8, _)] ⟨rfl, rfl, rfl, rfl, trivial⟩ ?_
    refine J.seq (fun K20 hK20 => ?_)
    have hst3 := sumLen_le ls k
    refine J.region ?_
    refine J.y (op_move rfl rfl) rfl rfl rfl ?_
    refine J.e (op_call rfl rfl ent118 (bGrow_ct F g8 102 0 [.pointer none, .slice none 0 0] none ⟨rfl, .inl rfl, rfl, RowQ.nil, .inl rfl⟩ lies0 _ (by omega))) rfl rfl rfl ?_
    rintro ⟨l57, m57⟩ ⟨A57, c57, hb57, hu57⟩
    change J _ _ _ [blk g8 l57 102, m57, F] _
    dsimp only at hb57 hu57
    obtain ⟨s0, hs0⟩ : ∃ s0, ls[0]? = some s0 := ⟨_, List.getElem?_eq_getElem (by omega)⟩
    have hs0l : s0.length ≤ sumLen ls := by have h1 := sumLen_take ls 0 hs0; have h2 := sumLen_le ls 1; simp only [Nat.zero_add] at h1; omega
    refine J.nil ?_
    refine J.then_n (J.k hK20 ?_)
    refine J.keepE [(0, _), (1, _), (8, _)] ⟨rfl, rfl, rfl, trivial⟩ ?_
    refine J.seq (fun K21 hK21 => ?_)
    refine J.region ?_
    refine J.y (op_move rfl rfl) rfl rfl rfl ?_
    refine J.y (op_indexAddr (i := 0) rfl rfl rfl Tryd.underlying55 Tryd.sizeOf9 hl (by omega)) rfl rfl rfl ?_
    refine J.y (op_load rfl rfl Tryd.isAgg9 (by simp) (hl.elem (strsV_get hs0))) rfl rfl rfl ?_
    refine J.e (op_call rfl rfl ent102 (writeString_ct F m57 g8 102 0 l57 [] A57 c57 _ hb57 (by rw [hu57.1]; exact lies0) s0 (by simp; omega))) rfl rfl rfl ?_
    rintro ⟨l61, m61⟩ ⟨A61, c61, hb61, hu61⟩
    change J _ _ _ [blk g8 l61 102, m61, F] _
    dsimp only at hb61 hu61
    have hb61 : Bld g8 0 l61 m61 (joinB sep (ls.take 1)) A61 c61 (some ⟨g8, 0, none⟩) := by
      have e : joinB sep (ls.take 1) = [] ++ s0 := by cases ls with
        | nil => simp at hs0
        | cons a r => simp at hs0; subst hs0; simp [joinB]
      rw [e]; exact hb61
    refine J.nil ?_
    refine J.then_n (J.k hK21 ?_)
    refine J.keepE [(0, _), (1, _), (8, _)] ⟨rfl, rfl, rfl, trivial⟩ ?_
    refine J.seq (fun K22 hK22 => ?_)
    refine J.seq (fun K23 hK23 => ?_)
    refine J.region ?_
    refine J.y (op_move rfl rfl) rfl rfl rfl ?_
    refine J.y (op_slice (l := 1) (h := n) rfl rfl Tryd.underlying55 Tryd.sizeOf9 rfl rfl (by omega)) rfl rfl rfl ?_
    refine J.y (op_len Tryd.underlying55 rfl rfl) rfl rfl rfl ?_
    refine J.y (op_move rfl rfl) rfl rfl rfl ?_
    refine J.nil ?_
    refine J.then_n (J.k hK23 ?_)
    refine J.keepE [(1, _), (8, _), (63, _), (64, _), (65, _)] ⟨rfl, rfl, rfl, rfl, rfl, trivial⟩ ?_
    refine J.block ?_
    refine J.loop (X := Nat × List Value × Hp × Option Addr × Nat) (fun x => [(1, Str sep), (8, Ptr g8), (63, _), (64, I (n - 1 : Nat)), (65, I x.1)]) (fun x => [blk g8 x.2.1 102, x.2.2.1, F]) (fun x => x.1 ≤ n - 1 ∧ x.2.1.length = 2 ∧ Bld g8 0 x.2.1 x.2.2.1 (joinB sep (ls.take (x.1 + 1))) x.2.2.2.1 x.2.2.2.2 (some ⟨g8, 0, none⟩)) (fun x => n - 1 - x.1) (0, l61, m61, A61, c61) (⟨Nat.zero_le _, by rw [hu61.1, hu57.1]; rfl, hb61⟩) ⟨rfl, rfl, rfl, rfl, rfl, trivial⟩ (fun _ h => h) ?_
    rintro ⟨k, l, m, A1, c1⟩ ⟨hk, hll, hb⟩ I3 hI3
    dsimp only at hk hll hb ⊢
    have hl2 := hl.cut (lo := 1) (hi := n) (mx := c) (by omega) (Nat.le_refl _) hl.2.1
    refine J.seq (fun K24 hK24 => ?_)
    refine J.region ?_
    refine J.y (op_lss rfl rfl rfl) rfl rfl rfl ?_
    refine J.nil ?_
    refine J.then_n (J.k hK24 ?_)
    refine J.keepE [(1, _), (8, _), (63, _), (64, _), (65, _), (66, _)] ⟨rfl, rfl, rfl, rfl, rfl, rfl, trivial⟩ ?_
    refine J.seq (fun K25 hK25 => ?_)
    refine J.ite rfl (fun h66 => ?_) (fun h66 => ?_)
    ·
      refine J.skip ?_
      refine J.then_n (J.k hK25 ?_)
      refine J.keepE [(1, _), (8, _), (63, _), (64, _), (65, _)] ⟨rfl, rfl, rfl, rfl, rfl, trivial⟩ ?_
      refine J.seq (fun K26 hK26 => ?_)
      refine J.block ?_
      refine J.seq (fun K27 hK27 => ?_)
      have hkn : k + 1 < n := by omega
      obtain ⟨s, hs⟩ : ∃ s, ls[k + 1]? = some s := ⟨_, List.getElem?_eq_getElem (by omega)⟩
      have hs2 : ((((strsV ls).take n).drop 1))[k]? = some [Str s] := by rw [List.getElem?_drop, List.getElem?_take, Nat.add_comm 1 k, if_pos hkn]; exact strsV_get hs
      have hj1 := joinB_mono sep ls (k + 1)
      rw [joinB_snoc sep ls k hs] at hj1
      simp only [List.length_append] at hj1
      refine J.region ?_
      refine J.y (op_indexAddr (i := k) rfl rfl rfl Tryd.underlying55 Tryd.sizeOf9 hl2 (by omega)) rfl rfl rfl ?_
      refine J.y (op_load rfl rfl Tryd.isAgg9 (by simp) (hl2.elem hs2)) rfl rfl rfl ?_
      refine J.y (op_assign rfl rfl) rfl rfl rfl ?_
      refine J.nil ?_
      refine J.then_n (J.k hK27 ?_)
      refine J.keepE [(1, _), (8, _), (10, _), (63, _), (64, _), (65, _)] ⟨rfl, rfl, rfl, rfl, rfl, rfl, trivial⟩ ?_
      refine J.seq (fun K28 hK28 => ?_)
      refine J.region ?_
      refine J.y (op_move rfl rfl) rfl rfl rfl ?_
      refine J.e (op_call rfl rfl ent102 (writeString_ct F m g8 102 0 l _ A1 c1 _ hb (by rw [hll]; exact lies0) sep (by omega))) rfl rfl rfl ?_
      rintro ⟨l70, m70⟩ ⟨A70, c70, hb70, hu70⟩
      change J _ _ _ [blk g8 l70 102, m70, F] _
      dsimp only at hb70 hu70
      refine J.nil ?_
      refine J.then_n (J.k hK28 ?_)
      refine J.keepE [(1, _), (8, _), (10, _), (63, _), (64, _), (65, _)] ⟨rfl, rfl, rfl, rfl, rfl, rfl, trivial⟩ ?_
      refine J.region ?_
      refine J.y (op_move rfl rfl) rfl rfl rfl ?_
      refine J.e (op_call rfl rfl ent102 (writeString_ct F m70 g8 102 0 l70 _ A70 c70 _ hb70 (by rw [hu70.1, hll]; exact lies0) s (by simp; omega))) rfl rfl rfl ?_
      rintro ⟨l72, m72⟩ ⟨A72, c72, hb72, hu72⟩
      change J _ _ _ [blk g8 l72 102, m72, F] _
      dsimp only at hb72 hu72
      rw [← joinB_snoc sep ls k hs] at hb72
      refine J.nil ?_
      refine J.blk_n ?_
      refine J.then_n (J.k hK26 ?_)
      refine J.keepE [(1, _), (8, _), (63, _), (64, _), (65, _)] ⟨rfl, rfl, rfl, rfl, rfl, trivial⟩ ?_
      refine J.region ?_
      refine J.y (op_add rfl rfl rfl (by omega)) rfl rfl rfl ?_
      refine J.y (op_move rfl rfl) rfl rfl rfl ?_
      refine J.nil ?_
      refine J.then_n ?_
      refine J.kk (k + 1, l72, m72, A72, c72) (fun x (hx : _ ∧ n - 1 - x.1 < n - 1 - k) => hI3 x hx.1 hx.2) ⟨⟨by dsimp only; omega, by rw [hu72.1, hu70.1]; exact hll, hb72⟩, by dsimp only; omega⟩ ⟨rfl, rfl, rfl, rfl, rfl, trivial⟩ (fun _ h => h)
    ·
      refine J.exit ?_
      refine J.then_x ?_
      refine J.then_x ?_
      refine J.blk_eq ?_
      refine J.then_n (J.k hK22 ?_)
      refine J.keepE [(8, _)] ⟨rfl, trivial⟩ ?_
      refine J.seq (fun K29 hK29 => ?_)
      have hend : joinB sep (ls.take (k + 1)) = joinB sep ls := by rw [List.take_of_length_le (by omega)]
      have hj1 := joinB_mono sep ls k
      refine J.region ?_
      refine J.e (op_call rfl rfl ent104 (bString_ct F m g8 102 0 l _ A1 c1 _ hb (by omega))) rfl rfl rfl ?_
      rintro m74 h74
      change J _ _ _ [blk g8 l 102, m74, F] _
      refine J.y (op_assign rfl rfl) rfl rfl rfl ?_
      refine J.nil ?_
      refine J.then_n (J.k hK29 ?_)
      refine J.keepE [(4, _)] ⟨rfl, trivial⟩ ?_
      refine J.ret ?_
      exact J.done hw0 (fun _ _ h => h) (res1 rfl rfl) (retOk () (by rw [hend]) trivial [2] rfl (by decide))

theorem join_ct (F : Hp) (A : Option Addr) (n c : Nat) (ls : List (List UInt8)) (sep : List UInt8) (hl : Sl F 1 A n c (strsV ls)) (htot : (joinB sep ls).length ≤ 35184372088832) (hn47 : n ≤ 70368744177664) :
    Ct Tryd.prog 148 [.slice A n c, Str sep] [F] (fun _ : Unit => Str (joinB sep ls)) (fun _ => True) (fun _ => [F]) := by
  have hlen : ls.length = n := by have := hl.1; simpa [strsV] using this
  match ls, hl, htot, hlen with
  | [], hl, _, _ => exact join_nil F A n c sep hl
  | [s], hl, _, _ => exact join_one F A n c s sep hl
  | a :: b :: r, hl, htot, hlen => exact join_many F A n c _ sep hl (by simp at hlen; omega) htot hn47
theorem ent148 : Enters Tryd.prog 148 := Enters.of Tryd.func148 rfl (by kernel_rfl)

end Go.Proofs.YtnkfapecbmmpeaaDoor
