/- A part of the proof: contracts of functions of the program, each for every state of the heaps that it names. -/
import Derived.Test.YtlopnfgacopkbaaRows
import Derived.Test.YtlopnfgacopkbaaFwI
set_option linter.unusedSimpArgs false
set_option linter.unusedVariables false
namespace Go.Proofs.Ytlopnfgacopkbaa
open Go Go.Fw
set_option maxRecDepth 100000
set_option maxHeartbeats 1000000
theorem Try.wide : Try.prog.follows .mixedOrders = true := by kernel_rfl

theorem noEsc (v : Value) (w : World) : (callFunc 40 #[v]).run Try.prog w = .ok (.value v) w := by kernel_rfl
theorem infoBuilder : Try.prog.info? 70 = some Try.t70 := by kernel_rfl
theorem el5 : Elem Try.prog 5 [.int .u8 0] 1 := Elem.of (by kernel_rfl) rfl
/-- a builder, from cell 'off' of a block on: what it holds -/
structure Bld (g off : Nat) (l : List Value) (mr : Hp) (bs : List UInt8) (A : Option Addr) (c : Nat) (p : Option Addr) : Prop where
  a0 : l[off]? = some (.pointer p)
  self : p = none ∨ p = some ⟨g, off, none⟩
  a1 : l[off + 1]? = some (.slice A bs.length c)
  row : RowQ False mr 5 1 A bs.length c (bytesV bs)
  cap : A = none ∨ 0 < c

theorem copyCheck_nil (F : Hp) (g T off : Nat) (l : List Value) (hl : l[off]? = some (.pointer none)) (hT : liesAt Try.prog Try.prog.depth T (l.length / Try.prog.cellsOf T) off 70 1 = true) :
    Ct Try.prog 38 [.pointer (some ⟨g, off, none⟩)] [blk g l T, F] (fun _ : Unit => .tuple #[]) (fun _ => True) (fun _ => [blk g (setAt l off [.pointer (some ⟨g, off, none⟩)]) T, F]) := by
  have hoff : off < l.length := (List.getElem?_eq_some_iff.1 hl).1
  refine Ct.walk Try.func38 rfl Try.ntmps38 rfl (fun w0 hw0 => ?_)
  change J _ [(0, _)] _ _ _
  refine J.seq (fun K1 hK1 => ?_)
  refine J.region ?_
  refine J.y (op_move rfl rfl) rfl rfl rfl ?_
  refine J.y (op_nilCheck rfl rfl) rfl rfl rfl ?_
  refine J.y (op_fieldAddr (j := off) rfl rfl Try.underlying70 rfl Try.sizeOf68 rfl) rfl rfl rfl ?_
  refine J.y (op_loadB 0 rfl rfl rfl Try.isAgg68 hl) rfl rfl rfl ?_
  refine J.y (op_peq Try.underlying68 rfl rfl rfl) rfl rfl rfl ?_
  refine J.nil ?_
  refine J.then_n (J.k hK1 ?_)
  refine J.keepE [(0, _), (6, _)] ⟨rfl, rfl, trivial⟩ ?_
  refine J.condT rfl rfl ?_
  refine J.region ?_
  refine J.y (op_move rfl rfl) rfl rfl rfl ?_
  refine J.y (op_move rfl rfl) rfl rfl rfl ?_
  refine J.y (op_toUnsafe rfl rfl Try.underlying68 Try.underlying85 infoBuilder (by decide) (m := blk g l T) (by simp) (single_self _ _) (by simpa using hoff)) rfl rfl rfl ?_
  refine J.e (op_same rfl rfl noEsc) rfl rfl rfl ?_
  intro g10 _
  change J _ _ _ [blk g l T, F] _
  refine J.y (op_fromUnsafe rfl rfl Try.underlying85 Try.underlying68 infoBuilder (m := blk g l T) (by simp) (single_self _ _) (by simpa using hT)) rfl rfl rfl ?_
  refine J.y (op_nilCheck rfl rfl) rfl rfl rfl ?_
  refine J.y (op_fieldAddr (j := off) rfl rfl Try.underlying70 rfl Try.sizeOf68 rfl) rfl rfl rfl ?_
  refine J.s (op_store (i := 0) (vs := [.pointer (some ⟨g, off, none⟩)]) rfl rfl rfl rfl rfl Try.sizeOf68 rfl (by simp only [List.length_cons, List.length_nil]; omega)) rfl rfl (fun _ _ => ?_)
  change J _ _ _ [blk g (setAt l off [.pointer (some ⟨g, off, none⟩)]) T, F] _
  refine J.nil ?_
  exact J.fin hw0 (fun _ _ h => h) (res0 rfl) (retOk () rfl trivial [0, 1] rfl (by decide))

theorem copyCheck_self (F : Hp) (g T off : Nat) (l : List Value) (hl : l[off]? = some (.pointer (some ⟨g, off, none⟩))) :
    Ct Try.prog 38 [.pointer (some ⟨g, off, none⟩)] [blk g l T, F] (fun _ : Unit => .tuple #[]) (fun _ => True) (fun _ => [blk g l T, F]) := by
  refine Ct.walk Try.func38 rfl Try.ntmps38 rfl (fun w0 hw0 => ?_)
  change J _ [(0, _)] _ _ _
  refine J.seq (fun K1 hK1 => ?_)
  refine J.region ?_
  refine J.y (op_move rfl rfl) rfl rfl rfl ?_
  refine J.y (op_nilCheck rfl rfl) rfl rfl rfl ?_
  refine J.y (op_fieldAddr (j := off) rfl rfl Try.underlying70 rfl Try.sizeOf68 rfl) rfl rfl rfl ?_
  refine J.y (op_loadB 0 rfl rfl rfl Try.isAgg68 hl) rfl rfl rfl ?_
  refine J.y (op_peq Try.underlying68 rfl rfl rfl) rfl rfl rfl ?_
  refine J.nil ?_
  refine J.then_n (J.k hK1 ?_)
  refine J.keepE [(0, _), (6, _)] ⟨rfl, rfl, trivial⟩ ?_
  refine J.condF rfl rfl ?_
  refine J.seq (fun K2 hK2 => ?_)
  refine J.region ?_
  refine J.y (op_move rfl rfl) rfl rfl rfl ?_
  refine J.y (op_nilCheck rfl rfl) rfl rfl rfl ?_
  refine J.y (op_fieldAddr (j := off) rfl rfl Try.underlying70 rfl Try.sizeOf68 rfl) rfl rfl rfl ?_
  refine J.y (op_loadB 0 rfl rfl rfl Try.isAgg68 hl) rfl rfl rfl ?_
  refine J.y (op_move rfl rfl) rfl rfl rfl ?_
  refine J.y (op_pneSame Try.underlying68 infoBuilder rfl rfl rfl) rfl rfl rfl ?_
  refine J.nil ?_
  refine J.then_n (J.k hK2 ?_)
  refine J.keepE [(19, _)] ⟨rfl, trivial⟩ ?_
  refine J.condF rfl rfl ?_
  refine J.skip ?_
  exact J.fin hw0 (fun _ _ h => h) (res0 rfl) (retOk () rfl trivial [0, 1] rfl (by decide))

theorem setAt_same {l : List Value} {k : Nat} {v : Value} (h : l[k]? = some v) : setAt l k [v] = l := by
  obtain ⟨hk, rfl⟩ := List.getElem?_eq_some_iff.1 h
  unfold setAt
  rw [List.append_assoc, List.singleton_append, List.length_singleton, ← List.drop_eq_getElem_cons hk, List.take_append_drop]
theorem setAt_get {l : List Value} {k : Nat} {v : Value} (hk : k < l.length) : (setAt l k [v])[k]? = some v := by
  unfold setAt
  rw [List.append_assoc, List.getElem?_append_right (by simp; omega)]
  simp [Nat.min_eq_left (Nat.le_of_lt hk)]
theorem setAt_ne {l : List Value} {k j : Nat} {v : Value} (hk : k < l.length) (hj : j ≠ k) : (setAt l k [v])[j]? = l[j]? := by
  unfold setAt
  rw [List.append_assoc, List.getElem?_append, List.getElem?_append]
  simp only [List.length_take, Nat.min_eq_left (Nat.le_of_lt hk), List.length_singleton]
  by_cases h1 : j < k
  · rw [if_pos h1, List.getElem?_take, if_pos h1]
  · rw [if_neg h1, if_neg (by omega), List.getElem?_drop]
    congr 1; omega
theorem setAt_len {l : List Value} {k : Nat} {v : Value} (hk : k < l.length) : (setAt l k [v]).length = l.length := by
  unfold setAt
  simp; omega
theorem copyCheck_ct (F : Hp) (g T off : Nat) (l : List Value) (p : Option Addr) (hl : l[off]? = some (.pointer p)) (hp : p = none ∨ p = some ⟨g, off, none⟩) (hT : liesAt Try.prog Try.prog.depth T (l.length / Try.prog.cellsOf T) off 70 1 = true) :
    Ct Try.prog 38 [.pointer (some ⟨g, off, none⟩)] [blk g l T, F] (fun _ : Unit => .tuple #[]) (fun _ => True) (fun _ => [blk g (setAt l off [.pointer (some ⟨g, off, none⟩)]) T, F]) := by
  rcases hp with rfl | rfl
  · exact copyCheck_nil F g T off l hl hT
  · rw [setAt_same hl]; exact copyCheck_self F g T off l hl
theorem entCC : Enters Try.prog 38 := Enters.of Try.func38 rfl (by kernel_rfl)
/-- a block whose builder alone may have turned -/
def Upd (off : Nat) (l l' : List Value) : Prop := l'.length = l.length ∧ ∀ j, j ≠ off → j ≠ off + 1 → l'[j]? = l[j]?
theorem Upd.refl (off : Nat) (l : List Value) : Upd off l l := ⟨rfl, fun _ _ _ => rfl⟩
theorem Upd.trans {off : Nat} {a b c : List Value} (h : Upd off a b) (h' : Upd off b c) : Upd off a c := ⟨h'.1.trans h.1, fun j h1 h2 => (h'.2 j h1 h2).trans (h.2 j h1 h2)⟩
theorem bld_put {g off : Nat} {l : List Value} {mr mr' : Hp} {bs bs' : List UInt8} {A A' : Option Addr} {c c' : Nat} {p : Option Addr} (hb : Bld g off l mr bs A c p) (hr : RowQ False mr' 5 1 A' bs'.length c' (bytesV bs')) (hc : A' = none ∨ 0 < c') :
    Bld g off (setAt (setAt l off [.pointer (some ⟨g, off, none⟩)]) (off + 1) [.slice A' bs'.length c']) mr' bs' A' c' (some ⟨g, off, none⟩) ∧ Upd off l (setAt (setAt l off [.pointer (some ⟨g, off, none⟩)]) (off + 1) [.slice A' bs'.length c']) := by
  have h1 : off + 1 < l.length := (List.getElem?_eq_some_iff.1 hb.a1).1
  have h0 : off < l.length := by omega
  have hl1 := setAt_len (v := Value.pointer (some ⟨g, off, none⟩)) h0
  have h1' : off + 1 < (setAt l off [.pointer (some ⟨g, off, none⟩)]).length := by omega
  refine ⟨⟨?_, .inr rfl, ?_, hr, hc⟩, by rw [setAt_len h1', hl1], fun j hj hj' => ?_⟩
  · rw [setAt_ne h1' (by omega), setAt_get h0]
  · exact setAt_get h1'
  · rw [setAt_ne h1' hj', setAt_ne h0 hj]
theorem row_cap {m : Hp} {e : TypeId} {A : Option Addr} {n c : Nat} {xs : List (List Value)} (h : RowQ False m e 1 A n c xs) (hn : 0 < n) : A = none ∨ 0 < c := .inr (Nat.lt_of_lt_of_le hn h.2.2.1)

theorem writeString_ct (F mr : Hp) (g T off : Nat) (l : List Value) (bs : List UInt8) (A : Option Addr) (c : Nat) (p : Option Addr) (hb : Bld g off l mr bs A c p) (hT : liesAt Try.prog Try.prog.depth T (l.length / Try.prog.cellsOf T) off 70 1 = true) (s : List UInt8) (hlen : bs.length + s.length < 70368744177664) :
    Ct Try.prog 31 [.pointer (some ⟨g, off, none⟩), Str s] [blk g l T, mr, F] (fun _ : List Value × Hp => .tuple #[I s.length, .nilIface]) (fun x => ∃ A c, Bld g off x.1 x.2 (bs ++ s) A c (some ⟨g, off, none⟩) ∧ Upd off l x.1) (fun x => [blk g x.1 T, x.2, F]) := by
  have hoff : off + 1 < l.length := (List.getElem?_eq_some_iff.1 hb.a1).1
  have hoff0 : off < l.length := by omega
  refine Ct.walk Try.func31 rfl Try.ntmps31 rfl (fun w0 hw0 => ?_)
  change J _ [(0, _), (1, _)] _ _ _
  refine J.seq (fun K1 hK1 => ?_)
  refine J.region ?_
  refine J.y (op_assign rfl rfl) rfl rfl rfl ?_
  refine J.y (op_assign rfl rfl) rfl rfl rfl ?_
  refine J.nil ?_
  refine J.then_n (J.k hK1 ?_)
  refine J.keepE [(0, _), (1, _)] ⟨rfl, rfl, trivial⟩ ?_
  refine J.seq (fun K2 hK2 => ?_)
  refine J.region ?_
  refine J.y (op_move rfl rfl) rfl rfl rfl ?_
  refine J.e (op_call rfl rfl entCC (Ct.useA [blk g l T] [mr, F] (A' := fun _ : Unit => [blk g (setAt l off [.pointer (some ⟨g, off, none⟩)]) T]) (new := fun _ => []) (fun F' _ => copyCheck_ct F' g T off l p hb.a0 hb.self hT))) rfl rfl rfl ?_
  intro g7 _
  change J _ _ _ [blk g (setAt l off [.pointer (some ⟨g, off, none⟩)]) T, mr, F] _
  refine J.nil ?_
  refine J.then_n (J.k hK2 ?_)
  refine J.keepE [(0, _), (1, _)] ⟨rfl, rfl, trivial⟩ ?_
  refine J.seq (fun K3 hK3 => ?_)
  refine J.region ?_
  refine J.y (op_move rfl rfl) rfl rfl rfl ?_
  refine J.y (op_move rfl rfl) rfl rfl rfl ?_
  refine J.y (op_nilCheck rfl rfl) rfl rfl rfl ?_
  refine J.y (op_fieldAddr (j := off + 1) rfl rfl Try.underlying70 rfl Try.sizeOf23 rfl) rfl rfl rfl ?_
  refine J.y (op_loadB 0 rfl rfl rfl Try.isAgg23 ((setAt_ne hoff0 (by omega)).trans hb.a1)) rfl rfl rfl ?_
  refine J.y (op_move rfl rfl) rfl rfl rfl ?_
  refine J.e (op_appendS (i := 1) rfl rfl rfl Try.underlying23 Try.underlying9 el5 rfl hb.row (by omega) (by omega)) rfl rfl rfl ?_
  rintro ⟨A14, c14, m14⟩ h14
  try dsimp only at h14
  change J _ ((14, .slice A14 (bs.length + s.length) c14) :: _) _ [blk g (setAt l off [.pointer (some ⟨g, off, none⟩)]) T, m14, F] _
  obtain ⟨h14, hcap⟩ := h14
  have hbp := bld_put (bs' := bs ++ s) (A' := A14) (c' := c14) (mr' := m14) hb (by simpa [bytesV] using h14) (hcap hb.cap)
  simp only [List.length_append] at hbp
  refine J.y (op_nilCheck rfl rfl) rfl rfl rfl ?_
  refine J.y (op_fieldAddr (j := off + 1) rfl rfl Try.underlying70 rfl Try.sizeOf23 rfl) rfl rfl rfl ?_
  refine J.s (op_store (i := 0) (vs := [.slice A14 (bs.length + s.length) c14]) rfl rfl rfl rfl rfl Try.sizeOf23 rfl (by rw [setAt_len hoff0]; exact hoff)) rfl rfl (fun _ _ => ?_)
  change J _ _ _ [blk g (setAt (setAt l off [.pointer (some ⟨g, off, none⟩)]) (off + 1) [.slice A14 (bs.length + s.length) c14]) T, m14, F] _
  refine J.nil ?_
  refine J.then_n (J.k hK3 ?_)
  refine J.keepE [(1, _)] ⟨rfl, trivial⟩ ?_
  refine J.seq (fun K4 hK4 => ?_)
  refine J.region ?_
  refine J.y (op_move rfl rfl) rfl rfl rfl ?_
  refine J.y (op_slen Try.underlying9 rfl rfl) rfl rfl rfl ?_
  refine J.y (op_assign rfl rfl) rfl rfl rfl ?_
  refine J.y (op_assign rfl rfl) rfl rfl rfl ?_
  refine J.nil ?_
  refine J.then_n (J.k hK4 ?_)
  refine J.keepE [(4, _), (5, _)] ⟨rfl, rfl, trivial⟩ ?_
  refine J.ret ?_
  exact J.done hw0 (fun _ _ h => h) (res2 rfl rfl rfl) (retOk (_, m14) rfl ⟨A14, c14, hbp⟩ [0, 1, 2] rfl (by decide))

theorem bString_ct (F mr : Hp) (g T off : Nat) (l : List Value) (bs : List UInt8) (A : Option Addr) (c : Nat) (p : Option Addr) (hb : Bld g off l mr bs A c p)  (hlen : bs.length < 70368744177664) :
    Ct Try.prog 33 [.pointer (some ⟨g, off, none⟩)] [blk g l T, mr, F] (fun _ : Hp => Str bs) (fun m => Bld g off l m bs A c p) (fun m => [blk g l T, m, F]) := by
  refine Ct.walk Try.func33 rfl Try.ntmps33 rfl (fun w0 hw0 => ?_)
  change J _ [(0, _)] _ _ _
  refine J.seq (fun K1 hK1 => ?_)
  refine J.region ?_
  refine J.y (op_assign rfl rfl) rfl rfl rfl ?_
  refine J.nil ?_
  refine J.then_n (J.k hK1 ?_)
  refine J.keepE [(0, _)] ⟨rfl, trivial⟩ ?_
  refine J.seq (fun K2 hK2 => ?_)
  refine J.draw [blk g l T, F] [] (.y 0 (.y 1 (.y 2 (.y 3 (.y 4 (.y 5 (.y 6 (.y 7 (.y 8 (.y 9 (.e 10 (.y 11 .nil)))))))))))) Try.wide (by decide +kernel) (by simp) ?_
  refine J.dy rfl (op_move rfl rfl) rfl rfl rfl rfl ?_
  refine J.dy rfl (op_nilCheck rfl rfl) rfl rfl rfl rfl ?_
  refine J.dy rfl (op_fieldAddr (j := off + 1) rfl rfl Try.underlying70 rfl Try.sizeOf23 rfl) rfl rfl rfl rfl ?_
  refine J.dy rfl (op_loadB 0 rfl rfl rfl Try.isAgg23 hb.a1) rfl rfl rfl rfl ?_
  refine J.dy rfl (op_sliceData rfl rfl hb.cap) rfl rfl rfl rfl ?_
  refine J.dy rfl (op_move rfl rfl) rfl rfl rfl rfl ?_
  refine J.dy rfl (op_nilCheck rfl rfl) rfl rfl rfl rfl ?_
  refine J.dy rfl (op_fieldAddr (j := off + 1) rfl rfl Try.underlying70 rfl Try.sizeOf23 rfl) rfl rfl rfl rfl ?_
  refine J.dy rfl (op_loadB 0 rfl rfl rfl Try.isAgg23 hb.a1) rfl rfl rfl rfl ?_
  refine J.dy rfl (op_len Try.underlying23 rfl rfl) rfl rfl rfl rfl ?_
  refine J.de rfl (op_unsafeString (i := 1) rfl rfl rfl Try.underlying84 rfl rfl hb.row (by omega)) rfl rfl rfl (by simp) ?_
  rintro m13 h13
  change J _ _ _ [blk g l T, m13, F] _
  refine J.dy rfl (op_assign rfl rfl) rfl rfl rfl rfl ?_
  refine J.dnil ?_
  refine J.then_n (J.k hK2 ?_)
  refine J.keepE [(2, _)] ⟨rfl, trivial⟩ ?_
  refine J.ret ?_
  exact J.done hw0 (fun _ _ h => h) (res1 rfl rfl) (retOk m13 rfl ⟨hb.a0, hb.self, hb.a1, h13, hb.cap⟩ [0, 1, 2] rfl (by decide))

theorem mnz (v : Value) (w : World) : (callFunc 41 #[v]).run Try.prog w = (do let x ← Extern.BytealgMakeNoZero.makeNoZero #[3] #[23] #[v]; pure (.value x) : Sem Next).run Try.prog w := by kernel_rfl
theorem ent39 : Enters Try.prog 39 := Enters.of Try.func39 rfl (by kernel_rfl)
theorem ent30 : Enters Try.prog 30 := Enters.of Try.func30 rfl (by kernel_rfl)
theorem ent31 : Enters Try.prog 31 := Enters.of Try.func31 rfl (by kernel_rfl)
theorem ent33 : Enters Try.prog 33 := Enters.of Try.func33 rfl (by kernel_rfl)

theorem bgrow_ct (F : Hp) (g T off : Nat) (l : List Value) (hl : l[off + 1]? = some (.slice none 0 0)) (n : Nat) (hn : n ≤ 70368744177664) :
    Ct Try.prog 39 [.pointer (some ⟨g, off, none⟩), I n] [blk g l T, F] (fun _ : Nat × Nat × List Value => .tuple #[]) (fun x => n ≤ x.2.1 ∧ x.2.2.length = x.2.1) (fun x => [blk g (setAt l (off + 1) [.slice (some ⟨x.1, 0, none⟩) 0 x.2.1]) T, F, blk x.1 x.2.2 5]) := by
  have hoff : off + 1 < l.length := (List.getElem?_eq_some_iff.1 hl).1
  refine Ct.walk Try.func39 rfl Try.ntmps39 rfl (fun w0 hw0 => ?_)
  change J _ [(0, _), (1, _)] _ _ _
  refine J.seq (fun K1 hK1 => ?_)
  refine J.draw [blk g l T, F] [] (.y 0 (.y 1 (.y 2 (.y 3 (.y 4 (.y 5 (.y 6 (.y 7 (.y 9 (.y 10 (.y 11 (.y 12 (.y 13 (.e 8 (.y 14 (.y 15 .nil)))))))))))))))) Try.wide (by decide +kernel) (by simp) ?_
  refine J.dy rfl (op_move rfl rfl) rfl rfl rfl rfl ?_
  refine J.dy rfl (op_nilCheck rfl rfl) rfl rfl rfl rfl ?_
  refine J.dy rfl (op_fieldAddr (j := off + 1) rfl rfl Try.underlying70 rfl Try.sizeOf23 rfl) rfl rfl rfl rfl ?_
  refine J.dy rfl (op_loadB 0 rfl rfl rfl Try.isAgg23 hl) rfl rfl rfl rfl ?_
  refine J.dy rfl (op_cap Try.underlying23 rfl rfl) rfl rfl rfl rfl ?_
  refine J.dy rfl (op_mul (a := 2) (b := 0) rfl rfl rfl (by omega)) rfl rfl rfl rfl ?_
  refine J.dy rfl (op_move rfl rfl) rfl rfl rfl rfl ?_
  refine J.dy rfl ((op_add rfl rfl rfl (by omega)).as (v' := I n) (by simp)) rfl rfl rfl rfl ?_
  refine J.dy rfl (op_move rfl rfl) rfl rfl rfl rfl ?_
  refine J.dy rfl (op_nilCheck rfl rfl) rfl rfl rfl rfl ?_
  refine J.dy rfl (op_fieldAddr (j := off + 1) rfl rfl Try.underlying70 rfl Try.sizeOf23 rfl) rfl rfl rfl rfl ?_
  refine J.dy rfl (op_loadB 0 rfl rfl rfl Try.isAgg23 hl) rfl rfl rfl rfl ?_
  refine J.dy rfl (op_len Try.underlying23 rfl rfl) rfl rfl rfl rfl ?_
  refine J.de rfl (op_mnz rfl rfl mnz Try.underlying23 (by omega)) rfl rfl rfl (by simp) ?_
  rintro ⟨g13, c13, l13⟩ h13
  try dsimp only at h13
  change J _ ((13, .slice (some ⟨g13, 0, none⟩) n c13) :: _) _ [blk g l T, F, blk g13 l13 5] _
  refine J.dy rfl (op_sliceTo (h := 0) rfl rfl Try.underlying23 Try.sizeOf5 rfl (by omega)) rfl rfl rfl rfl ?_
  refine J.dy rfl (op_assign rfl rfl) rfl rfl rfl rfl ?_
  refine J.dnil ?_
  refine J.then_n (J.k hK1 ?_)
  refine J.keepE [(0, _), (4, _)] ⟨rfl, rfl, trivial⟩ ?_
  refine J.seq (fun K2 hK2 => ?_)
  refine J.region ?_
  refine J.y (op_move rfl rfl) rfl rfl rfl ?_
  refine J.y (op_move rfl rfl) rfl rfl rfl ?_
  refine J.y (op_nilCheck rfl rfl) rfl rfl rfl ?_
  refine J.y (op_fieldAddr (j := off + 1) rfl rfl Try.underlying70 rfl Try.sizeOf23 rfl) rfl rfl rfl ?_
  refine J.y (op_loadB 0 rfl rfl rfl Try.isAgg23 hl) rfl rfl rfl ?_
  refine J.e (op_copy0 rfl rfl rfl Try.underlying23 el5) rfl rfl rfl ?_
  intro g25 _
  change J _ _ _ [blk g l T, F, blk g13 l13 5] _
  refine J.nil ?_
  refine J.then_n (J.k hK2 ?_)
  refine J.keepE [(0, _), (4, _)] ⟨rfl, rfl, trivial⟩ ?_
  refine J.region ?_
  refine J.y (op_move rfl rfl) rfl rfl rfl ?_
  refine J.y (op_move rfl rfl) rfl rfl rfl ?_
  refine J.y (op_nilCheck rfl rfl) rfl rfl rfl ?_
  refine J.y (op_fieldAddr (j := off + 1) rfl rfl Try.underlying70 rfl Try.sizeOf23 rfl) rfl rfl rfl ?_
  refine J.s (op_store (i := 0) (vs := [.slice (some ⟨g13, 0, none⟩) 0 c13]) rfl rfl rfl rfl rfl Try.sizeOf23 rfl (by exact hoff)) rfl rfl (fun _ _ => ?_)
  change J _ _ _ [blk g (setAt l (off + 1) [.slice (some ⟨g13, 0, none⟩) 0 c13]) T, F, blk g13 l13 5] _
  refine J.nil ?_
  exact J.fin hw0 (fun _ _ h => h) (res0 rfl) (retOk (g13, c13, l13) rfl h13 [0, 1, 2] rfl (by decide))

theorem bGrow_ct (F : Hp) (g T off : Nat) (l : List Value) (p : Option Addr) (hb : Bld g off l (fun _ => none) [] none 0 p) (hT : liesAt Try.prog Try.prog.depth T (l.length / Try.prog.cellsOf T) off 70 1 = true) (n : Nat) (hn : n ≤ 70368744177664) :
    Ct Try.prog 30 [.pointer (some ⟨g, off, none⟩), I n] [blk g l T, fun _ => none, F] (fun _ : List Value × Hp => .tuple #[]) (fun x => ∃ A c, Bld g off x.1 x.2 ([]) A c (some ⟨g, off, none⟩) ∧ Upd off l x.1) (fun x => [blk g x.1 T, x.2, F]) := by
  have hoff : off + 1 < l.length := (List.getElem?_eq_some_iff.1 hb.a1).1
  have hoff0 : off < l.length := by omega
  refine Ct.walk Try.func30 rfl Try.ntmps30 rfl (fun w0 hw0 => ?_)
  change J _ [(0, _), (1, _)] _ _ _
  refine J.seq (fun K1 hK1 => ?_)
  refine J.region ?_
  refine J.y (op_move rfl rfl) rfl rfl rfl ?_
  refine J.e (op_call rfl rfl entCC (Ct.useA [blk g l T] [(fun _ => none), F] (A' := fun _ : Unit => [blk g (setAt l off [.pointer (some ⟨g, off, none⟩)]) T]) (new := fun _ => []) (fun F' _ => copyCheck_ct F' g T off l p hb.a0 hb.self hT))) rfl rfl rfl ?_
  intro g5 _
  change J _ _ _ [blk g (setAt l off [.pointer (some ⟨g, off, none⟩)]) T, (fun _ => none), F] _
  refine J.nil ?_
  refine J.then_n (J.k hK1 ?_)
  refine J.keepE [(0, _), (1, _)] ⟨rfl, rfl, trivial⟩ ?_
  refine J.seq (fun K2 hK2 => ?_)
  refine J.seq (fun K3 hK3 => ?_)
  refine J.region ?_
  refine J.y (op_move rfl rfl) rfl rfl rfl ?_
  refine J.y (op_lss rfl rfl rfl) rfl rfl rfl ?_
  refine J.nil ?_
  refine J.then_n (J.k hK3 ?_)
  refine J.keepE [(0, _), (1, _), (7, _)] ⟨rfl, rfl, rfl, trivial⟩ ?_
  refine J.condF rfl ((by simp)) ?_
  refine J.skip ?_
  refine J.then_n (J.k hK2 ?_)
  refine J.keepE [(0, _), (1, _)] ⟨rfl, rfl, trivial⟩ ?_
  refine J.seq (fun K4 hK4 => ?_)
  refine J.draw [blk g (setAt l off [.pointer (some ⟨g, off, none⟩)]) T, (fun _ => none), F] [] (.y 0 (.y 1 (.y 2 (.y 3 (.y 4 (.y 5 (.y 6 (.y 7 (.y 8 (.y 9 (.y 10 (.y 11 (.y 12 .nil))))))))))))) Try.wide (by decide +kernel) (by simp) ?_
  refine J.dy rfl (op_move rfl rfl) rfl rfl rfl rfl ?_
  refine J.dy rfl (op_nilCheck rfl rfl) rfl rfl rfl rfl ?_
  refine J.dy rfl (op_fieldAddr (j := off + 1) rfl rfl Try.underlying70 rfl Try.sizeOf23 rfl) rfl rfl rfl rfl ?_
  refine J.dy rfl (op_loadB 0 rfl rfl rfl Try.isAgg23 ((setAt_ne hoff0 (by omega)).trans hb.a1)) rfl rfl rfl rfl ?_
  refine J.dy rfl (op_cap Try.underlying23 rfl rfl) rfl rfl rfl rfl ?_
  refine J.dy rfl (op_move rfl rfl) rfl rfl rfl rfl ?_
  refine J.dy rfl (op_nilCheck rfl rfl) rfl rfl rfl rfl ?_
  refine J.dy rfl (op_fieldAddr (j := off + 1) rfl rfl Try.underlying70 rfl Try.sizeOf23 rfl) rfl rfl rfl rfl ?_
  refine J.dy rfl (op_loadB 0 rfl rfl rfl Try.isAgg23 ((setAt_ne hoff0 (by omega)).trans hb.a1)) rfl rfl rfl rfl ?_
  refine J.dy rfl (op_len Try.underlying23 rfl rfl) rfl rfl rfl rfl ?_
  refine J.dy rfl (op_sub (a := 0) (b := 0) rfl rfl rfl (by omega)) rfl rfl rfl rfl ?_
  refine J.dy rfl (op_move rfl rfl) rfl rfl rfl rfl ?_
  refine J.dy rfl (op_lss rfl rfl rfl) rfl rfl rfl rfl ?_
  refine J.dnil ?_
  refine J.then_n (J.k hK4 ?_)
  refine J.keepE [(0, _), (1, _), (21, _)] ⟨rfl, rfl, rfl, trivial⟩ ?_
  refine J.ite rfl (fun h21 => ?_) (fun h21 => ?_)
  ·
    refine J.region ?_
    refine J.y (op_move rfl rfl) rfl rfl rfl ?_
    refine J.y (op_move rfl rfl) rfl rfl rfl ?_
    refine J.e (op_call rfl rfl ent39 (Ct.useA [blk g (setAt l off [.pointer (some ⟨g, off, none⟩)]) T] [fun _ => none, F] (A' := fun x : Nat × Nat × List Value => [blk g (setAt (setAt l off [.pointer (some ⟨g, off, none⟩)]) (off + 1) [.slice (some ⟨x.1, 0, none⟩) 0 x.2.1]) T]) (new := fun x => [blk x.1 x.2.2 5]) (fun F' _ => bgrow_ct F' g T off (setAt l off [.pointer (some ⟨g, off, none⟩)]) ((setAt_ne hoff0 (by omega)).trans hb.a1) n hn))) rfl rfl rfl ?_
    rintro ⟨g24, c24, l24⟩ h24
    try dsimp only at h24
    change J _ _ _ [blk g (setAt (setAt l off [.pointer (some ⟨g, off, none⟩)]) (off + 1) [.slice (some ⟨g24, 0, none⟩) 0 c24]) T, (fun _ => none), F, blk g24 l24 5] _
    refine J.nil ?_
    have hbp := bld_put (bs' := []) (A' := some ⟨g24, 0, none⟩) (c' := c24) (mr' := blk g24 l24 5) hb (row_new (xs := []) (rest := l24) (lo := 0) (hi := 0) rfl rfl (by simp) (by simpa using h24.2) (Nat.zero_le _) (.inl rfl)) (.inr (by omega))
    simp only [List.length_nil] at hbp
    exact J.fin hw0 (fun _ _ h => h) (res0 rfl) (retOk (_, blk g24 l24 5) rfl ⟨some ⟨g24, 0, none⟩, c24, hbp⟩ [0, 3, 2] rfl (by decide))
  ·
    refine J.skip ?_
    have hbp := bld_put (bs' := []) (A' := none) (c' := 0) (mr' := fun _ => none) hb RowQ.nil (.inl rfl)
    have e1 := setAt_same ((setAt_ne (v := .pointer (some ⟨g, off, none⟩)) hoff0 (by omega)).trans hb.a1)
    simp only [List.length_nil] at e1 hbp
    rw [e1] at hbp
    exact J.fin hw0 (fun _ _ h => h) (res0 rfl) (retOk (_, fun _ => none) rfl ⟨none, 0, hbp⟩ [0, 1, 2] rfl (by decide))
theorem lies0 : liesAt Try.prog Try.prog.depth 70 (2 / Try.prog.cellsOf 70) 0 70 1 = true := by kernel_rfl

end Go.Proofs.Ytlopnfgacopkbaa
