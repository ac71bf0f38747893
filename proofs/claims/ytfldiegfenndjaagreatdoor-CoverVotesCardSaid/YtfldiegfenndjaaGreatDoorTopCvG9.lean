/- A part of the proof. -/
import Derived.Test.YtfldiegfenndjaaGreatDoorTopCvG8
import Derived.Test.YtfldiegfenndjaaGreatDoorRows
import Derived.Test.YtfldiegfenndjaaGreatDoorTopCvG4
set_option linter.unusedSimpArgs false
set_option linter.unusedVariables false
namespace Go.Proofs.YtfldiegfenndjaaGreatDoor
open Go Go.Fw Go.Proofs.Tryz
set_option maxRecDepth 100000
set_option maxHeartbeats 1000000
abbrev qCY := @isAgg246
abbrev qLf := @isAgg26
abbrev b3_ := @isAgg3
abbrev qLX := @isAgg36
abbrev qDv := @isAgg37
abbrev qDR := @isAgg39
abbrev b4_ := @isAgg4
abbrev b5_ := @isAgg5
abbrev qLW := @isAgg56
abbrev qLV := @isAgg58
abbrev qOE := @isAgg88
abbrev b9_ := @isAgg9
abbrev qGd := @sizeOf167
abbrev qBu := @sizeOf246
abbrev qId := @sizeOf26
abbrev z3_ := @sizeOf3
abbrev qQO := @sizeOf30
abbrev qQN := @sizeOf35
abbrev qGc := @sizeOf36
abbrev qEe := @sizeOf37
abbrev qBf := @sizeOf39
abbrev z4_ := @sizeOf4
abbrev qLh := @sizeOf40
abbrev qN9 := @sizeOf43
abbrev qLb := @sizeOf45
abbrev z5_ := @sizeOf5
abbrev qQM := @sizeOf50
abbrev qEd := @sizeOf52
abbrev qF1 := @sizeOf54
abbrev qEr := @sizeOf56
abbrev qFr := @sizeOf58
abbrev qIg := @sizeOf60
abbrev qIc := @sizeOf88
abbrev z9_ := @sizeOf9
abbrev u0_ := @underlying0
abbrev qL5 := @underlying166
abbrev qE8 := @underlying167
abbrev qGi := @underlying169
abbrev qFt := @underlying171
abbrev qKp := @underlying184
abbrev qC1 := @underlying186
abbrev qE7 := @underlying188
abbrev qFs := @underlying240
abbrev qHh := @underlying246
abbrev qEm := @underlying248
abbrev qHg := @underlying26
abbrev qHf := @underlying284
abbrev qRB := @underlying29
abbrev u3_ := @underlying3
abbrev qL4 := @underlying321
abbrev qTD := @underlying33
abbrev qON := @underlying35
abbrev qIf := @underlying36
abbrev qAo := @underlying37
abbrev qDy := @underlying39
abbrev u4_ := @underlying4
abbrev qCQ := @underlying40
abbrev qCf := @underlying42
abbrev qEJ := @underlying43
abbrev qF8 := @underlying45
abbrev u5_ := @underlying5
abbrev qL3 := @underlying50
abbrev qEI := @underlying52
abbrev qIp := @underlying54
abbrev qIe := @underlying56
abbrev qDT := @underlying58
abbrev qEs := @underlying60
abbrev qBd := @underlying88
abbrev u9_ := @underlying9
abbrev qSy := @underlying94
abbrev e0_ := @zeroValue0
abbrev qPu := @zeroValue26
abbrev e3_ := @zeroValue3
abbrev e4_ := @zeroValue4
abbrev qIH := @zeroValue45
abbrev e5_ := @zeroValue5
abbrev qSZ := @zeroValue56
abbrev qS3 := @zeroValue58
abbrev qT0 := @zeroValue60
abbrev e9_ := @zeroValue9
abbrev qTz := @zeroValue94
theorem Tryz.wide : prog.follows .mixedOrders = true := by kernel_rfl
theorem el3 : qDu prog 3 [.int .i64 0] 8 := qDu.of (by kernel_rfl) rfl
theorem el5 : qDu prog 5 [.int .u8 0] 1 := qDu.of (by kernel_rfl) rfl
theorem el9 : qDu prog 9 [Str []] 16 := qDu.of (by kernel_rfl) rfl
theorem ent108 : qAF prog 108 := qAF.of func108 rfl (by kernel_rfl)
theorem ent109 : qAF prog 109 := qAF.of func109 rfl (by kernel_rfl)
theorem ent11 : qAF prog 11 := qAF.of func11 rfl (by kernel_rfl)
theorem ent111 : qAF prog 111 := qAF.of func111 rfl (by kernel_rfl)
theorem ent125 : qAF prog 125 := qAF.of func125 rfl (by kernel_rfl)
theorem ent126 : qAF prog 126 := qAF.of func126 rfl (by kernel_rfl)
theorem ent127 : qAF prog 127 := qAF.of func127 rfl (by kernel_rfl)
theorem ent137 : qAF prog 137 := qAF.of func137 rfl (by kernel_rfl)
theorem ent138 : qAF prog 138 := qAF.of func138 rfl (by kernel_rfl)
theorem ent139 : qAF prog 139 := qAF.of func139 rfl (by kernel_rfl)
theorem ent143 : qAF prog 143 := qAF.of func143 rfl (by kernel_rfl)
theorem ent151 : qAF prog 151 := qAF.of func151 rfl (by kernel_rfl)
theorem ent156 : qAF prog 156 := qAF.of func156 rfl (by kernel_rfl)
theorem ent169 : qAF prog 169 := qAF.of func169 rfl (by kernel_rfl)
theorem ent171 : qAF prog 171 := qAF.of func171 rfl (by kernel_rfl)
theorem ent177 : qAF prog 177 := qAF.of func177 rfl (by kernel_rfl)
theorem ent187 : qAF prog 187 := qAF.of func187 rfl (by kernel_rfl)
theorem ent214 : qAF prog 214 := qAF.of func214 rfl (by kernel_rfl)
theorem ent22 : qAF prog 22 := qAF.of func22 rfl (by kernel_rfl)
theorem ent220 : qAF prog 220 := qAF.of func220 rfl (by kernel_rfl)
theorem ent25 : qAF prog 25 := qAF.of func25 rfl (by kernel_rfl)
theorem ent31 : qAF prog 31 := qAF.of func31 rfl (by kernel_rfl)
theorem ent33 : qAF prog 33 := qAF.of func33 rfl (by kernel_rfl)
theorem ent35 : qAF prog 35 := qAF.of func35 rfl (by kernel_rfl)
theorem ent37 : qAF prog 37 := qAF.of func37 rfl (by kernel_rfl)
theorem ent38 : qAF prog 38 := qAF.of func38 rfl (by kernel_rfl)
theorem ent43 : qAF prog 43 := qAF.of func43 rfl (by kernel_rfl)
theorem ent45 : qAF prog 45 := qAF.of func45 rfl (by kernel_rfl)
theorem ent47 : qAF prog 47 := qAF.of func47 rfl (by kernel_rfl)
theorem ent49 : qAF prog 49 := qAF.of func49 rfl (by kernel_rfl)
theorem ent57 : qAF prog 57 := qAF.of func57 rfl (by kernel_rfl)
theorem ent63 : qAF prog 63 := qAF.of func63 rfl (by kernel_rfl)
theorem ent64 : qAF prog 64 := qAF.of func64 rfl (by kernel_rfl)
theorem ent66 : qAF prog 66 := qAF.of func66 rfl (by kernel_rfl)
theorem ent70 : qAF prog 70 := qAF.of func70 rfl (by kernel_rfl)
theorem ent75 : qAF prog 75 := qAF.of func75 rfl (by kernel_rfl)
theorem ent82 : qAF prog 82 := qAF.of func82 rfl (by kernel_rfl)
theorem ent83 : qAF prog 83 := qAF.of func83 rfl (by kernel_rfl)
theorem ent84 : qAF prog 84 := qAF.of func84 rfl (by kernel_rfl)
theorem ent85 : qAF prog 85 := qAF.of func85 rfl (by kernel_rfl)
theorem ent86 : qAF prog 86 := qAF.of func86 rfl (by kernel_rfl)
theorem ent98 : qAF prog 98 := qAF.of func98 rfl (by kernel_rfl)
theorem noEsc (v : Value) (w : World) : (callFunc 188 #[v]).run prog w = .ok (.value v) w := by kernel_rfl
theorem qDo : prog.info? 186 = some t186 := by kernel_rfl
structure Bld (g off : Nat) (l : List Value) (mr : Hp) (bs : List UInt8) (A : Option Addr) (c : Nat) (p : Option Addr) : Prop where
 a0 : l[off]? = some (.pointer p)
 self : p = none ∨ p = some ⟨g, off, none⟩
 a1 : l[off + 1]? = some (.slice A bs.length c)
 row : qCA False mr 5 1 A bs.length c (qAW bs)
 cap : A = none ∨ 0 < c
theorem qHQ (F : Hp) (g T off : Nat) (l : List Value) (hl : l[off]? = some (.pointer none)) (hT : liesAt prog prog.depth T (l.length / prog.cellsOf T) off 186 1 = true) :
    Ct prog 155 [.pointer (some ⟨g, off, none⟩)] [blk g l T, F] (fun _ : Unit => .tuple #[]) (fun _ => True) (fun _ => [blk g (qAq l off [.pointer (some ⟨g, off, none⟩)]) T, F]) := by
  have hoff : off < l.length := (List.getElem?_eq_some_iff.1 hl).1
  refine Ct.walk func155 rfl ntmps155 rfl (fun w0 hw0 => ?_)
  change J _ [(0, _)] _ _ _
  refine J.g fun K1 hK1 => J.b rfl <| J.f (qAD rfl rfl) rfl <| J.f (qAA (j := off) rfl rfl qC1 rfl sizeOf184 rfl) rfl <| J.f (qAE 0 rfl rfl rfl isAgg184 hl) rfl <| J.f (qBk qKp rfl rfl rfl) rfl <| J.c hK1 <| J.G 0 6 ?_
  refine J.c9 ?_
  refine J.M <| J.j 2 rfl <| J.f (qIw rfl rfl qKp underlying294 qDo (by decide) (m := blk g l T) (by simp) (qAR _ _) (by simpa using hoff)) rfl <| J.q (qRw rfl rfl noEsc) rfl fun g10 _ => ?_
  change J _ _ _ [blk g l T, F] _
  refine J.f (qG9 rfl rfl underlying294 qKp qDo (m := blk g l T) (by simp) (qAR _ _) (by simpa using hT)) rfl <| J.f (qAD rfl rfl) rfl <| J.f (qAA (j := off) rfl rfl qC1 rfl sizeOf184 rfl) rfl <| J.b4 (qAc (i := 0) (vs := [.pointer (some ⟨g, off, none⟩)]) rfl rfl rfl rfl rfl sizeOf184 rfl (by simp only [List.length_cons, List.length_nil]; omega)) rfl rfl fun _ _ => ?_
  change J _ _ _ [blk g (qAq l off [.pointer (some ⟨g, off, none⟩)]) T, _] _
  exact J.a6 <| J.e0 hw0 (fun _ _ h => h) (qLd rfl) (qA6 () rfl trivial [0, 1] rfl (by decide))
theorem qFy (F : Hp) (g T off : Nat) (l : List Value) (hl : l[off]? = some (.pointer (some ⟨g, off, none⟩))) :
    Ct prog 155 [.pointer (some ⟨g, off, none⟩)] [blk g l T, F] (fun _ : Unit => .tuple #[]) (fun _ => True) (fun _ => [blk g l T, F]) := by
  refine Ct.walk func155 rfl ntmps155 rfl (fun w0 hw0 => ?_)
  change J _ [(0, _)] _ _ _
  refine J.g fun K1 hK1 => J.b rfl <| J.f (qAD rfl rfl) rfl <| J.f (qAA (j := off) rfl rfl qC1 rfl sizeOf184 rfl) rfl <| J.f (qAE 0 rfl rfl rfl isAgg184 hl) rfl <| J.f (qBk qKp rfl rfl rfl) rfl <| J.c hK1 <| J.G 0 6 ?_
  refine J.b2 ?_
  refine J.g fun K2 hK2 => J.b rfl <| J.f (qAD rfl rfl) rfl <| J.f (qAA (j := off) rfl rfl qC1 rfl sizeOf184 rfl) rfl <| J.f (qAE 0 rfl rfl rfl isAgg184 hl) rfl <| J.b rfl <| J.f (qK8 qKp qDo rfl rfl rfl) rfl <| J.c hK2 <| J.u 19 ?_
  refine J.b2 ?_
  exact J.b9 <| J.e0 hw0 (fun _ _ h => h) (qLd rfl) (qA6 () rfl trivial [0, 1] rfl (by decide))
theorem qGB {l : List Value} {k : Nat} {v : Value} (h : l[k]? = some v) : qAq l k [v] = l := by
 obtain ⟨hk, rfl⟩ := List.getElem?_eq_some_iff.1 h
 unfold qAq
 rw [List.append_assoc, List.singleton_append, List.length_singleton, ← List.drop_eq_getElem_cons hk, List.take_append_drop]
theorem qCS {l : List Value} {k : Nat} {v : Value} (hk : k < l.length) : (qAq l k [v])[k]? = some v := by
 unfold qAq
 rw [List.append_assoc, List.getElem?_append_right (by simp; omega)]
 simp [Nat.min_eq_left (Nat.le_of_lt hk)]
theorem qBg {l : List Value} {k j : Nat} {v : Value} (hk : k < l.length) (hj : j ≠ k) : (qAq l k [v])[j]? = l[j]? := by
  unfold qAq
  rw [List.append_assoc, List.getElem?_append, List.getElem?_append]
  simp only [List.length_take, Nat.min_eq_left (Nat.le_of_lt hk), List.length_singleton]
  by_cases h1 : j < k
  · rw [if_pos h1, List.getElem?_take, if_pos h1]
  · rw [if_neg h1, if_neg (by omega), List.getElem?_drop]
    congr 1; omega
theorem qCR {l : List Value} {k : Nat} {v : Value} (hk : k < l.length) : (qAq l k [v]).length = l.length := by
 unfold qAq
 simp; omega
theorem qDE (F : Hp) (g T off : Nat) (l : List Value) (p : Option Addr) (hl : l[off]? = some (.pointer p)) (hp : p = none ∨ p = some ⟨g, off, none⟩) (hT : liesAt prog prog.depth T (l.length / prog.cellsOf T) off 186 1 = true) :
    Ct prog 155 [.pointer (some ⟨g, off, none⟩)] [blk g l T, F] (fun _ : Unit => .tuple #[]) (fun _ => True) (fun _ => [blk g (qAq l off [.pointer (some ⟨g, off, none⟩)]) T, F]) := by
  rcases hp with rfl | rfl
  · exact qHQ F g T off l hl hT
  · rw [qGB hl]; exact qFy F g T off l hl
theorem qSX : qAF prog 155 := qAF.of func155 rfl (by kernel_rfl)
def Upd (off : Nat) (l l' : List Value) : Prop := l'.length = l.length ∧ ∀ j, j ≠ off → j ≠ off + 1 → l'[j]? = l[j]?
theorem Upd.refl (off : Nat) (l : List Value) : Upd off l l := ⟨rfl, fun _ _ _ => rfl⟩
theorem Upd.trans {off : Nat} {a b c : List Value} (h : Upd off a b) (h' : Upd off b c) : Upd off a c := ⟨h'.1.trans h.1, fun j h1 h2 => (h'.2 j h1 h2).trans (h.2 j h1 h2)⟩
theorem qHU {g off : Nat} {l : List Value} {mr mr' : Hp} {bs bs' : List UInt8} {A A' : Option Addr} {c c' : Nat} {p : Option Addr} (hb : Bld g off l mr bs A c p) (hr : qCA False mr' 5 1 A' bs'.length c' (qAW bs')) (hc : A' = none ∨ 0 < c') :
    Bld g off (qAq (qAq l off [.pointer (some ⟨g, off, none⟩)]) (off + 1) [.slice A' bs'.length c']) mr' bs' A' c' (some ⟨g, off, none⟩) ∧ Upd off l (qAq (qAq l off [.pointer (some ⟨g, off, none⟩)]) (off + 1) [.slice A' bs'.length c']) := by
  have h1 : off + 1 < l.length := (List.getElem?_eq_some_iff.1 hb.a1).1
  have h0 : off < l.length := by omega
  have hl1 := qCR (v := Value.pointer (some ⟨g, off, none⟩)) h0
  have h1' : off + 1 < (qAq l off [.pointer (some ⟨g, off, none⟩)]).length := by omega
  refine ⟨⟨?_, .inr rfl, ?_, hr, hc⟩, by rw [qCR h1', hl1], fun j hj hj' => ?_⟩
  · rw [qBg h1' (by omega), qCS h0]
  · exact qCS h1'
  · rw [qBg h1' hj', qBg h0 hj]
theorem qRa {m : Hp} {e : TypeId} {A : Option Addr} {n c : Nat} {xs : List (List Value)} (h : qCA False m e 1 A n c xs) (hn : 0 < n) : A = none ∨ 0 < c := .inr (Nat.lt_of_lt_of_le hn h.2.2.1)
theorem qHa (F mr : Hp) (g T off : Nat) (l : List Value) (bs : List UInt8) (A : Option Addr) (c : Nat) (p : Option Addr) (hb : Bld g off l mr bs A c p) (hT : liesAt prog prog.depth T (l.length / prog.cellsOf T) off 186 1 = true) (b : UInt8) (hlen : bs.length < 70368744177664) :
    Ct prog 139 [.pointer (some ⟨g, off, none⟩), B8 b] [blk g l T, mr, F] (fun _ : List Value × Hp => .nilIface) (fun x => ∃ A c, Bld g off x.1 x.2 (bs ++ [b]) A c (some ⟨g, off, none⟩) ∧ Upd off l x.1) (fun x => [blk g x.1 T, x.2, F]) := by
  have hoff : off + 1 < l.length := (List.getElem?_eq_some_iff.1 hb.a1).1
  have hoff0 : off < l.length := by omega
  refine Ct.walk func139 rfl ntmps139 rfl (fun w0 hw0 => ?_)
  change J _ [(0, _), (1, _)] _ _ _
  refine J.g fun K1 hK1 => J.b rfl <| J.c hK1 <| J.G 0 1 ?_
  refine J.g fun K2 hK2 => J.b rfl <| J.q (qAC rfl rfl qSX (Ct.useA [blk g l T] [mr, F] (A' := fun _ : Unit => [blk g (qAq l off [.pointer (some ⟨g, off, none⟩)]) T]) (new := fun _ => []) (fun F' _ => qDE F' g T off l p hb.a0 hb.self hT))) rfl fun g6 _ => ?_
  change J _ _ _ [blk g (qAq l off [.pointer (some ⟨g, off, none⟩)]) T, mr, F] _
  refine J.c hK2 <| J.G 0 1 ?_
  refine J.g fun K3 hK3 => J.j 2 rfl <| J.f (qAD rfl rfl) rfl <| J.f (qAA (j := off + 1) rfl rfl qC1 rfl qIc rfl) rfl <| J.f (qAE 0 rfl rfl rfl qOE ((qBg hoff0 (by omega)).trans hb.a1)) rfl <| J.b rfl <| J.q (qAH (l := [.tmp 12]) (xs := [[B8 b]]) rfl rfl rfl rfl qBd el5 rfl (by decide) (by decide) (by simp)) rfl fun g13 _ => ?_
  change J _ _ _ [_, _, _, blk g13 [B8 b] 5] _
  refine J.q (qAY (i := 1) (m2 := blk g13 [B8 b] 5) (ys := [[B8 b]]) rfl rfl rfl qBd qBd el5 rfl hb.row (by simp) (qAn (q := True) (xs := [[B8 b]]) rfl (by simp)).sl rfl (by omega) (by omega)) rfl ?_
  rintro ⟨A14, c14, m14⟩ h14
  try dsimp only at h14
  change J _ ((14, .slice A14 (bs.length + 1) c14) :: _) _ [_, m14, _, _] _
  have hbp := qHU (bs' := bs ++ [b]) (A' := A14) (c' := c14) (mr' := m14) hb (by simpa [qAW] using h14) (qRa h14 (by omega))
  simp only [List.length_append, List.length_singleton] at hbp
  refine J.f (qAD rfl rfl) rfl <| J.f (qAA (j := off + 1) rfl rfl qC1 rfl qIc rfl) rfl <| J.b4 (qAc (i := 0) (vs := [.slice A14 (bs.length + 1) c14]) rfl rfl rfl rfl rfl qIc rfl (by rw [qCR hoff0]; exact hoff)) rfl rfl fun _ _ => ?_
  change J _ _ _ [blk g (qAq (qAq l off [.pointer (some ⟨g, off, none⟩)]) (off + 1) [.slice A14 (bs.length + 1) c14]) T, _, _, _] _
  refine J.c hK3 <| J.c7 [] trivial <| J.g fun K4 hK4 => J.b rfl <| J.c hK4 <| J.u 4 ?_
  exact J.D <| J.H hw0 rfl (_, m14) rfl ⟨A14, c14, hbp⟩ [0, 1, 2] rfl (by decide)
theorem qBX (F mr : Hp) (g T off : Nat) (l : List Value) (bs : List UInt8) (A : Option Addr) (c : Nat) (p : Option Addr) (hb : Bld g off l mr bs A c p) (hT : liesAt prog prog.depth T (l.length / prog.cellsOf T) off 186 1 = true) (s : List UInt8) (hlen : bs.length + s.length < 70368744177664) :
    Ct prog 109 [.pointer (some ⟨g, off, none⟩), Str s] [blk g l T, mr, F] (fun _ : List Value × Hp => .tuple #[I s.length, .nilIface]) (fun x => ∃ A c, Bld g off x.1 x.2 (bs ++ s) A c (some ⟨g, off, none⟩) ∧ Upd off l x.1) (fun x => [blk g x.1 T, x.2, F]) := by
  have hoff : off + 1 < l.length := (List.getElem?_eq_some_iff.1 hb.a1).1
  have hoff0 : off < l.length := by omega
  refine Ct.walk func109 rfl ntmps109 rfl (fun w0 hw0 => ?_)
  change J _ [(0, _), (1, _)] _ _ _
  refine J.g fun K1 hK1 => J.j 2 rfl <| J.c hK1 <| J.G 0 1 ?_
  refine J.g fun K2 hK2 => J.b rfl <| J.q (qAC rfl rfl qSX (Ct.useA [blk g l T] [mr, F] (A' := fun _ : Unit => [blk g (qAq l off [.pointer (some ⟨g, off, none⟩)]) T]) (new := fun _ => []) (fun F' _ => qDE F' g T off l p hb.a0 hb.self hT))) rfl fun g7 _ => ?_
  change J _ _ _ [blk g (qAq l off [.pointer (some ⟨g, off, none⟩)]) T, mr, F] _
  refine J.c hK2 <| J.G 0 1 ?_
  refine J.g fun K3 hK3 => J.j 2 rfl <| J.f (qAD rfl rfl) rfl <| J.f (qAA (j := off + 1) rfl rfl qC1 rfl qIc rfl) rfl <| J.f (qAE 0 rfl rfl rfl qOE ((qBg hoff0 (by omega)).trans hb.a1)) rfl <| J.b rfl <| J.q (qLC (i := 1) rfl rfl rfl qBd u9_ el5 rfl hb.row (by omega) (by omega)) rfl ?_
  rintro ⟨A14, c14, m14⟩ h14
  try dsimp only at h14
  change J _ ((14, .slice A14 (bs.length + s.length) c14) :: _) _ [_, m14, _] _
  obtain ⟨h14, hcap⟩ := h14
  have hbp := qHU (bs' := bs ++ s) (A' := A14) (c' := c14) (mr' := m14) hb (by simpa [qAW] using h14) (hcap hb.cap)
  simp only [List.length_append] at hbp
  refine J.f (qAD rfl rfl) rfl <| J.f (qAA (j := off + 1) rfl rfl qC1 rfl qIc rfl) rfl <| J.b4 (qAc (i := 0) (vs := [.slice A14 (bs.length + s.length) c14]) rfl rfl rfl rfl rfl qIc rfl (by rw [qCR hoff0]; exact hoff)) rfl rfl fun _ _ => ?_
  change J _ _ _ [blk g (qAq (qAq l off [.pointer (some ⟨g, off, none⟩)]) (off + 1) [.slice A14 (bs.length + s.length) c14]) T, _, _] _
  refine J.c hK3 <| J.u 1 ?_
  refine J.g fun K4 hK4 => J.b rfl <| J.f (qA7 u9_ rfl rfl) rfl <| J.j 2 rfl <| J.c hK4 <| J.G 4 5 ?_
  exact J.D <| J.b8 hw0 (fun _ _ h => h) (qCx rfl rfl rfl) (qA6 (_, m14) rfl ⟨A14, c14, hbp⟩ [0, 1, 2] rfl (by decide))
theorem qGZ (F mr : Hp) (g T off : Nat) (l : List Value) (bs : List UInt8) (A : Option Addr) (c : Nat) (p : Option Addr) (hb : Bld g off l mr bs A c p)  (hlen : bs.length < 70368744177664) :
    Ct prog 111 [.pointer (some ⟨g, off, none⟩)] [blk g l T, mr, F] (fun _ : Hp => Str bs) (fun m => Bld g off l m bs A c p) (fun m => [blk g l T, m, F]) := by
  refine Ct.walk func111 rfl ntmps111 rfl (fun w0 hw0 => ?_)
  change J _ [(0, _)] _ _ _
  refine J.g fun K1 hK1 => J.b rfl <| J.c hK1 <| J.u 0 ?_
  refine J.p fun K2 hK2 => J.c0 [blk g l T, F] [] (.y 0 (.y 1 (.y 2 (.y 3 (.y 4 (.y 5 (.y 6 (.y 7 (.y 8 (.y 9 (.e 10 (.y 11 .nil)))))))))))) Tryz.wide (by decide +kernel) (by simp) ?_
  refine J.V ?_
  refine J.k rfl (qAD rfl rfl) rfl rfl <| J.k rfl (qAA (j := off + 1) rfl rfl qC1 rfl qIc rfl) rfl rfl <| J.k rfl (qAE 0 rfl rfl rfl qOE hb.a1) rfl rfl <| J.k rfl (qHy rfl rfl hb.cap) rfl rfl <| J.V ?_
  refine J.k rfl (qAD rfl rfl) rfl rfl <| J.k rfl (qAA (j := off + 1) rfl rfl qC1 rfl qIc rfl) rfl rfl <| J.k rfl (qAE 0 rfl rfl rfl qOE hb.a1) rfl rfl <| J.k rfl (qAh qBd rfl rfl) rfl rfl <| J.a2 rfl (qFQ (i := 1) rfl rfl rfl underlying265 rfl rfl hb.row (by omega)) rfl (by simp) ?_
  rintro m13 h13
  change J _ _ _ [blk g l T, m13, F] _
  refine J.c1 ?_
  refine J.b3 <| J.A (J.L hK2 ?_)
  refine J.u 2 ?_
  exact J.D <| J.H hw0 rfl m13 rfl ⟨hb.a0, hb.self, hb.a1, h13, hb.cap⟩ [0, 1, 2] rfl (by decide)
theorem mnz (v : Value) (w : World) : (callFunc 189 #[v]).run prog w = (do let x ← Extern.BytealgMakeNoZero.makeNoZero #[3] #[88] #[v]; pure (.value x) : Sem Next).run prog w := by kernel_rfl
theorem qP5 (F : Hp) (g T off : Nat) (l : List Value) (hl : l[off + 1]? = some (.slice none 0 0)) (n : Nat) (hn : n ≤ 70368744177664) :
    Ct prog 156 [.pointer (some ⟨g, off, none⟩), I n] [blk g l T, F] (fun _ : Nat × Nat × List Value => .tuple #[]) (fun x => n ≤ x.2.1 ∧ x.2.2.length = x.2.1) (fun x => [blk g (qAq l (off + 1) [.slice (some ⟨x.1, 0, none⟩) 0 x.2.1]) T, F, blk x.1 x.2.2 5]) := by
  have hoff : off + 1 < l.length := (List.getElem?_eq_some_iff.1 hl).1
  refine Ct.walk func156 rfl ntmps156 rfl (fun w0 hw0 => ?_)
  change J _ [(0, _), (1, _)] _ _ _
  refine J.p fun K1 hK1 => J.c0 [blk g l T, F] [] (.y 0 (.y 1 (.y 2 (.y 3 (.y 4 (.y 5 (.y 6 (.y 7 (.y 9 (.y 10 (.y 11 (.y 12 (.y 13 (.e 8 (.y 14 (.y 15 .nil)))))))))))))))) Tryz.wide (by decide +kernel) (by simp) ?_
  refine J.V ?_
  refine J.k rfl (qAD rfl rfl) rfl rfl <| J.k rfl (qAA (j := off + 1) rfl rfl qC1 rfl qIc rfl) rfl rfl <| J.k rfl (qAE 0 rfl rfl rfl qOE hl) rfl rfl <| J.k rfl (qQa qBd rfl rfl) rfl rfl <| J.k rfl (qC7 (a := 2) (b := 0) rfl rfl rfl (by omega)) rfl rfl <| J.V ?_
  refine J.k rfl ((qAU rfl rfl rfl (by omega)).as (v' := I n) (by simp)) rfl rfl <| J.V ?_
  refine J.k rfl (qAD rfl rfl) rfl rfl <| J.k rfl (qAA (j := off + 1) rfl rfl qC1 rfl qIc rfl) rfl rfl <| J.k rfl (qAE 0 rfl rfl rfl qOE hl) rfl rfl <| J.k rfl (qAh qBd rfl rfl) rfl rfl <| J.a2 rfl (qTZ rfl rfl mnz qBd (by omega)) rfl (by simp) ?_
  rintro ⟨g13, c13, l13⟩ h13
  try dsimp only at h13
  change J _ ((13, .slice (some ⟨g13, 0, none⟩) n c13) :: _) _ [blk g l T, F, blk g13 l13 5] _
  refine J.k rfl (qDM (h := 0) rfl rfl qBd z5_ rfl (by omega)) rfl rfl <| J.c1 ?_
  refine J.b3 <| J.A (J.L hK1 ?_)
  refine J.G 0 4 ?_
  refine J.g fun K2 hK2 => J.j 2 rfl <| J.f (qAD rfl rfl) rfl <| J.f (qAA (j := off + 1) rfl rfl qC1 rfl qIc rfl) rfl <| J.f (qAE 0 rfl rfl rfl qOE hl) rfl <| J.q (qO3 rfl rfl rfl qBd el5) rfl fun g25 _ => ?_
  change J _ _ _ [_, _, _] _
  refine J.c hK2 <| J.G 0 4 ?_
  refine J.M <| J.j 2 rfl <| J.f (qAD rfl rfl) rfl <| J.f (qAA (j := off + 1) rfl rfl qC1 rfl qIc rfl) rfl <| J.b4 (qAc (i := 0) (vs := [.slice (some ⟨g13, 0, none⟩) 0 c13]) rfl rfl rfl rfl rfl qIc rfl (by exact hoff)) rfl rfl fun _ _ => ?_
  change J _ _ _ [blk g (qAq l (off + 1) [.slice (some ⟨g13, 0, none⟩) 0 c13]) T, _, _] _
  exact J.a6 <| J.e0 hw0 (fun _ _ h => h) (qLd rfl) (qA6 (g13, c13, l13) rfl h13 [0, 1, 2] rfl (by decide))
theorem qP8 (F : Hp) (g T off : Nat) (l : List Value) (p : Option Addr) (hb : Bld g off l (fun _ => none) [] none 0 p) (hT : liesAt prog prog.depth T (l.length / prog.cellsOf T) off 186 1 = true) (n : Nat) (hn : n ≤ 70368744177664) :
    Ct prog 108 [.pointer (some ⟨g, off, none⟩), I n] [blk g l T, fun _ => none, F] (fun _ : List Value × Hp => .tuple #[]) (fun x => ∃ A c, Bld g off x.1 x.2 ([]) A c (some ⟨g, off, none⟩) ∧ Upd off l x.1) (fun x => [blk g x.1 T, x.2, F]) := by
  have hoff : off + 1 < l.length := (List.getElem?_eq_some_iff.1 hb.a1).1
  have hoff0 : off < l.length := by omega
  refine Ct.walk func108 rfl ntmps108 rfl (fun w0 hw0 => ?_)
  change J _ [(0, _), (1, _)] _ _ _
  refine J.g fun K1 hK1 => J.b rfl <| J.q (qAC rfl rfl qSX (Ct.useA [blk g l T] [(fun _ => none), F] (A' := fun _ : Unit => [blk g (qAq l off [.pointer (some ⟨g, off, none⟩)]) T]) (new := fun _ => []) (fun F' _ => qDE F' g T off l p hb.a0 hb.self hT))) rfl fun g5 _ => ?_
  change J _ _ _ [blk g (qAq l off [.pointer (some ⟨g, off, none⟩)]) T, (fun _ => none), F] _
  refine J.c hK1 <| J.G 0 1 ?_
  refine J.p fun K2 hK2 => J.g fun K3 hK3 => J.b rfl <| J.f (qAX rfl rfl rfl) rfl <| J.c hK3 <| J.O 0 1 7 ?_
  refine J.e6 rfl ((by simp)) ?_
  refine J.a1 hK2 <| J.G 0 1 ?_
  refine J.p fun K4 hK4 => J.c0 [blk g (qAq l off [.pointer (some ⟨g, off, none⟩)]) T, (fun _ => none), F] [] (.y 0 (.y 1 (.y 2 (.y 3 (.y 4 (.y 5 (.y 6 (.y 7 (.y 8 (.y 9 (.y 10 (.y 11 (.y 12 .nil))))))))))))) Tryz.wide (by decide +kernel) (by simp) ?_
  refine J.V ?_
  refine J.k rfl (qAD rfl rfl) rfl rfl <| J.k rfl (qAA (j := off + 1) rfl rfl qC1 rfl qIc rfl) rfl rfl <| J.k rfl (qAE 0 rfl rfl rfl qOE ((qBg hoff0 (by omega)).trans hb.a1)) rfl rfl <| J.k rfl (qQa qBd rfl rfl) rfl rfl <| J.V ?_
  refine J.k rfl (qAD rfl rfl) rfl rfl <| J.k rfl (qAA (j := off + 1) rfl rfl qC1 rfl qIc rfl) rfl rfl <| J.k rfl (qAE 0 rfl rfl rfl qOE ((qBg hoff0 (by omega)).trans hb.a1)) rfl rfl <| J.k rfl (qAh qBd rfl rfl) rfl rfl <| J.k rfl (qBI (a := 0) (b := 0) rfl rfl rfl (by omega)) rfl rfl <| J.V ?_
  refine J.k rfl (qAX rfl rfl rfl) rfl rfl <| J.b3 <| J.A (J.L hK4 ?_)
  refine J.O 0 1 21 ?_
  refine J.a0 rfl (fun h21 => ?_) (fun h21 => ?_)
  ·
    refine J.M <| J.j 2 rfl <| J.q (qAC rfl rfl ent156 (Ct.useA [blk g (qAq l off [.pointer (some ⟨g, off, none⟩)]) T] [fun _ => none, F] (A' := fun x : Nat × Nat × List Value => [blk g (qAq (qAq l off [.pointer (some ⟨g, off, none⟩)]) (off + 1) [.slice (some ⟨x.1, 0, none⟩) 0 x.2.1]) T]) (new := fun x => [blk x.1 x.2.2 5]) (fun F' _ => qP5 F' g T off (qAq l off [.pointer (some ⟨g, off, none⟩)]) ((qBg hoff0 (by omega)).trans hb.a1) n hn))) rfl ?_
    rintro ⟨g24, c24, l24⟩ h24
    try dsimp only at h24
    change J _ _ _ [blk g (qAq (qAq l off [.pointer (some ⟨g, off, none⟩)]) (off + 1) [.slice (some ⟨g24, 0, none⟩) 0 c24]) T, _, _, blk g24 l24 5] _
    refine J.a6 ?_
    have hbp := qHU (bs' := []) (A' := some ⟨g24, 0, none⟩) (c' := c24) (mr' := blk g24 l24 5) hb (qFE (xs := []) (rest := l24) (lo := 0) (hi := 0) rfl rfl (by simp) (by simpa using h24.2) (Nat.zero_le _) (.inl rfl)) (.inr (by omega))
    simp only [List.length_nil] at hbp
    exact J.e0 hw0 (fun _ _ h => h) (qLd rfl) (qA6 (_, blk g24 l24 5) rfl ⟨some ⟨g24, 0, none⟩, c24, hbp⟩ [0, 3, 2] rfl (by decide))
  refine J.b9 ?_
  have hbp := qHU (bs' := []) (A' := none) (c' := 0) (mr' := fun _ => none) hb qCA.nil (.inl rfl)
  have e1 := qGB ((qBg (v := .pointer (some ⟨g, off, none⟩)) hoff0 (by omega)).trans hb.a1)
  simp only [List.length_nil] at e1 hbp
  rw [e1] at hbp
  exact J.e0 hw0 (fun _ _ h => h) (qLd rfl) (qA6 (_, fun _ => none) rfl ⟨none, 0, hbp⟩ [0, 1, 2] rfl (by decide))
def qB7 (sep : List UInt8) : List (List UInt8) → List UInt8
 | [] => []
 | a :: r => a ++ (r.map fun x => sep ++ x).flatten
theorem qIC : ∀ ls, qB7 [] ls = ls.flatten
 | [] => rfl
 | a :: r => by simp [qB7]
def qC2 (ls : List (List UInt8)) : Nat := (ls.map List.length).sum
theorem qFA (ls : List (List UInt8)) (k : Nat) {s : List UInt8} (h : ls[k]? = some s) : qC2 (ls.take (k + 1)) = qC2 (ls.take k) + s.length := by
 obtain ⟨hk, rfl⟩ := List.getElem?_eq_some_iff.1 h
 unfold qC2
 rw [List.take_succ_eq_append_getElem hk, List.map_append, List.sum_append]; rfl
theorem qDz (ls : List (List UInt8)) (k : Nat) : qC2 (ls.take k) ≤ qC2 ls := by
 unfold qC2
 conv => rhs; rw [← List.take_append_drop k ls, List.map_append, List.sum_append]
 omega
theorem qDC (sep : List UInt8) : ∀ (ls : List (List UInt8)), (qB7 sep ls).length = qC2 ls + sep.length * (ls.length - 1)
 | [] => by simp [qB7, qC2]
 | a :: r => by
  have h : ∀ r : List (List UInt8), (r.map fun x => sep ++ x).flatten.length = (r.map List.length).sum + sep.length * r.length := by
   intro r
   induction r with
   | nil => rfl
   | cons x r ih =>
    simp only [List.map_cons, List.flatten_cons, List.length_append, List.sum_cons, List.length_cons, Nat.mul_add, ih]
    omega
  simp [qB7, qC2, h]; omega
theorem qGR (sep : List UInt8) (ls : List (List UInt8)) (k : Nat) {s : List UInt8} (h : ls[k + 1]? = some s) : qB7 sep (ls.take (k + 2)) = qB7 sep (ls.take (k + 1)) ++ sep ++ s := by
 cases ls with
 | nil => simp at h
 | cons a r =>
  simp only [List.getElem?_cons_succ] at h
  obtain ⟨hk, rfl⟩ := List.getElem?_eq_some_iff.1 h
  simp only [List.take_succ_cons, qB7]
  rw [List.take_succ_eq_append_getElem hk, List.map_append, List.flatten_append]
  simp only [List.map_cons, List.map_nil, List.flatten_cons, List.flatten_nil, List.append_nil, List.append_assoc]
theorem qGS (sep : List UInt8) (ls : List (List UInt8)) (k : Nat) : (qB7 sep (ls.take (k + 1))).length ≤ (qB7 sep ls).length := by
 rw [qDC, qDC]
 have h1 := qDz ls (k + 1)
 have h2 : (ls.take (k + 1)).length ≤ ls.length := by simp; omega
 have h3 : sep.length * ((ls.take (k + 1)).length - 1) ≤ sep.length * (ls.length - 1) := Nat.mul_le_mul_left _ (by omega)
 omega
theorem qPV : liesAt prog prog.depth 186 (2 / prog.cellsOf 186) 0 186 1 = true := by kernel_rfl
theorem qRV (a b M : Int) (hb : 0 < b) (h : a * b + b ≤ M) : a + 1 ≤ M / b := by
 rw [Int.le_ediv_iff_mul_le hb, Int.add_mul]; omega
theorem qPh (F : Hp) (A : Option Addr) (n c : Nat) (sep : List UInt8) (hl : Sl F 1 A n c (qAJ [])) :
    Ct prog 140 [.slice A n c, Str sep] [F] (fun _ : Unit => Str (qB7 sep [])) (fun _ => True) (fun _ => [F]) := by
  have hn : n = 0 := hl.1.symm
  subst hn
  refine Ct.walk func140 rfl ntmps140 rfl (fun w0 hw0 => ?_)
  change J _ [(0, _), (1, _)] _ _ _
  refine J.g fun K1 hK1 => J.b rfl <| J.c hK1 <| J.G 0 1 ?_
  refine J.p fun K2 hK2 => J.g fun K3 hK3 => J.b rfl <| J.f (qAh qAo rfl rfl) rfl <| J.c hK3 <| J.O 0 1 12 ?_
  refine J.W <| J.g fun K4 hK4 => J.f (qAa rfl rfl rfl) rfl <| J.b rfl <| J.c hK4 <| J.T 0 1 12 13 ?_
  refine J.c9 ?_
  refine J.g fun K5 hK5 => J.b rfl <| J.c hK5 <| J.u 4 ?_
  exact J.D <| J.a9 <| J.Z <| J.H hw0 rfl () rfl trivial [0] rfl (by decide)
theorem qPg (F : Hp) (A : Option Addr) (n c : Nat) (s : List UInt8) (sep : List UInt8) (hl : Sl F 1 A n c (qAJ [s])) :
    Ct prog 140 [.slice A n c, Str sep] [F] (fun _ : Unit => Str (qB7 sep [s])) (fun _ => True) (fun _ => [F]) := by
  have hn : n = 1 := hl.1.symm
  subst hn
  refine Ct.walk func140 rfl ntmps140 rfl (fun w0 hw0 => ?_)
  change J _ [(0, _), (1, _)] _ _ _
  refine J.g fun K1 hK1 => J.b rfl <| J.c hK1 <| J.G 0 1 ?_
  refine J.p fun K2 hK2 => J.g fun K3 hK3 => J.b rfl <| J.f (qAh qAo rfl rfl) rfl <| J.c hK3 <| J.O 0 1 12 ?_
  refine J.W <| J.g fun K4 hK4 => J.f (qAa rfl rfl rfl) rfl <| J.b rfl <| J.c hK4 <| J.T 0 1 12 13 ?_
  refine J.e6 rfl (rfl) ?_
  refine J.g fun K5 hK5 => J.f (qAa rfl rfl rfl) rfl <| J.b rfl <| J.c hK5 <| J.O 0 1 15 ?_
  refine J.g6 rfl (rfl) ?_
  refine J.g fun K6 hK6 => J.b rfl <| J.f (qAK (i := 0) rfl rfl rfl qAo z9_ hl (by decide)) rfl <| J.f (qAQ rfl rfl b9_ (by simp) (hl.elem (qAZ (k := 0) rfl))) rfl <| J.b rfl <| J.c hK6 <| J.u 4 ?_
  exact J.D <| J.a9 <| J.Z <| J.H hw0 rfl () (by simp [qB7]) trivial [0] rfl (by decide)
theorem qNI (F : Hp) (A : Option Addr) (n c : Nat) (ls : List (List UInt8)) (sep : List UInt8) (hl : Sl F 1 A n c (qAJ ls)) (h2 : 2 ≤ n) (htot : (qB7 sep ls).length ≤ 35184372088832) (hn47 : n ≤ 70368744177664) :
    Ct prog 140 [.slice A n c, Str sep] [F] (fun _ : Unit => Str (qB7 sep ls)) (fun _ => True) (fun _ => [F]) := by
  have hlen : ls.length = n := by have := hl.1; simpa [qAJ] using this
  have hjl := qDC sep ls
  rw [hlen] at hjl
  have hq : (sep.length : Int) * ((n : Int) - 1) = ((sep.length * (n - 1) : Nat) : Int) := by rw [Int.natCast_mul]; congr 1; omega
  have hB0 : ¬ 0 < (sep.length : Int) → sep.length * (n - 1) = 0 := fun h => by rw [show sep.length = 0 by omega, Nat.zero_mul]
  have hsm : sep.length ≤ 35184372088832 := by
    have : sep.length * 1 ≤ sep.length * (n - 1) := Nat.mul_le_mul_left _ (by omega)
    omega
  have hdiv : (sep.length : Int) + 1 ≤ 9223372036854775807 / ((n : Int) - 1) := qRV _ _ _ (by omega) (by rw [hq]; omega)
  have hnc := hl.2.1
  obtain ⟨B, hB⟩ : ∃ B, sep.length * (n - 1) = B := ⟨_, rfl⟩
  rw [hB] at hjl hq hB0
  generalize hD : (9223372036854775807 : Int) / ((n : Int) - 1) = D at hdiv
  have H2 : (0 : Int) ≤ 9223372036854775807 ∧ 0 < (n : Int) - 1 ∧ (9223372036854775807 : Int) ≤ 9223372036854775807 := by omega
  refine Ct.walk func140 rfl ntmps140 rfl (fun w0 hw0 => ?_)
  change J _ [(0, _), (1, _)] _ _ _
  refine J.g fun K1 hK1 => J.b rfl <| J.c hK1 <| J.G 0 1 ?_
  refine J.p fun K2 hK2 => J.g fun K3 hK3 => J.b rfl <| J.f (qAh qAo rfl rfl) rfl <| J.c hK3 <| J.O 0 1 12 ?_
  refine J.W <| J.g fun K4 hK4 => J.f (qAa rfl rfl rfl) rfl <| J.b rfl <| J.c hK4 <| J.T 0 1 12 13 ?_
  refine J.e6 rfl ((by simp; omega)) ?_
  refine J.g fun K5 hK5 => J.f (qAa rfl rfl rfl) rfl <| J.b rfl <| J.c hK5 <| J.O 0 1 15 ?_
  refine J.e6 rfl ((by simp; omega)) ?_
  refine J.b9 <| J.a5 <| J.A (J.L hK2 ?_)
  refine J.G 0 1 ?_
  refine J.g fun K6 hK6 => J.b rfl <| J.c hK6 <| J.O 0 1 5 ?_
  refine J.e5 (fun _ : Unit => [(0, .slice A n c), (1, Str sep), (5, I (B : Int))]) (fun _ => [F]) (fun _ => True) (fun K7 hK7 => ?_) ?_
  ·
    refine J.g fun K8 hK8 => J.b rfl <| J.f (qA7 u9_ rfl rfl) rfl <| J.f (qBQ rfl rfl rfl) rfl <| J.c hK8 <| J.T 0 1 5 22 ?_
    refine J.a0 rfl (fun h22 => ?_) (fun h22 => ?_)
    ·
      refine J.p fun K9 hK9 => J.g fun K10 hK10 => J.b rfl <| J.f (qA7 u9_ rfl rfl) rfl <| J.b rfl <| J.f (qAh qAo rfl rfl) rfl <| J.f (qBI rfl rfl rfl (by omega)) rfl <| J.f ((qJt rfl rfl rfl H2).as (congrArg I hD)) rfl <| J.f (qBR rfl rfl rfl) rfl <| J.c hK10 <| J.T 0 1 5 29 ?_
      refine J.e6 rfl ((by simp; omega)) ?_
      refine J.a1 hK9 <| J.O 0 1 5 ?_
      exact J.M <| J.j 2 rfl <| J.f (qA7 u9_ rfl rfl) rfl <| J.b rfl <| J.f (qAh qAo rfl rfl) rfl <| J.f (qBI rfl rfl rfl (by omega)) rfl <| J.f ((qC7 rfl rfl rfl (by rw [hq]; omega)).as (v' := I (B : Int)) (by rw [hq])) rfl <| J.f ((qAU (a := 0) rfl rfl rfl (by omega)).as (v' := I (B : Int)) (by simp)) rfl <| J.b rfl <| J.a6 <| J.A <| J.a8 () hK7 trivial ⟨rfl, rfl, rfl, trivial⟩ (fun _ h => h)
    exact J.b9 <| J.A <| J.a8 () hK7 trivial ⟨rfl, rfl, by rw [hB0 h22]; rfl, trivial⟩ (fun _ h => h)
  rintro _ _
  refine J.p fun K11 hK11 => J.g fun K12 hK12 => J.b rfl <| J.f (qAh qAo rfl rfl) rfl <| J.b rfl <| J.c hK12 <| J.b1 0 1 5 39 40 41 ?_
  refine J.W <| J.b6 (fun k : Nat => [(0, .slice A n c), (1, Str sep), (5, I ((B + qC2 (ls.take k) : Nat) : Int)), (39, .slice A n c), (40, I n), (41, I k)]) (fun _ => [F]) (fun k => k ≤ n) (fun k => n - k) 0 (Nat.zero_le _) ⟨rfl, rfl, rfl, rfl, rfl, rfl, trivial⟩ (fun _ h => h) ?_
  intro k hk I1 hI1
  refine J.g fun K13 hK13 => J.f (qAX rfl rfl rfl) rfl <| J.c hK13 <| J.c3 0 1 5 39 40 41 42 ?_
  refine J.p fun K14 hK14 => J.a0 rfl (fun h42 => ?_) (fun h42 => ?_)
  ·
    refine J.a1 hK14 <| J.b1 0 1 5 39 40 41 ?_
    refine J.p fun K15 hK15 => J.W <| J.p fun K16 hK16 => ?_
    have hkn : k < n := by omega
    obtain ⟨s, hs⟩ : ∃ s, ls[k]? = some s := ⟨_, List.getElem?_eq_getElem (by omega)⟩
    have hst := qFA ls k hs
    have hst2 := qDz ls (k + 1)
    refine J.M <| J.f (qAK (i := k) rfl rfl rfl qAo z9_ hl hkn) rfl <| J.f (qAQ rfl rfl b9_ (by simp) (hl.elem (qAZ hs))) rfl <| J.b rfl <| J.c hK16 <| J.c3 0 1 5 7 39 40 41 ?_
    refine J.p fun K17 hK17 => J.g fun K18 hK18 => J.b rfl <| J.f (qA7 u9_ rfl rfl) rfl <| J.b rfl <| J.f (qBI rfl rfl rfl (by omega)) rfl <| J.f (qBQ rfl rfl rfl) rfl <| J.c hK18 <| J.d8 0 1 5 7 39 40 41 49 ?_
    refine J.e6 rfl ((by simp; omega)) ?_
    refine J.a1 hK17 <| J.c3 0 1 5 7 39 40 41 ?_
    refine J.M <| J.j 2 rfl <| J.f (qA7 u9_ rfl rfl) rfl <| J.f (qAU rfl rfl rfl (by omega)) rfl <| J.b rfl <| J.a6 <| J.a5 <| J.A (J.L hK15 ?_)
    refine J.b1 0 1 5 39 40 41 ?_
    exact J.M <| J.f (qAU rfl rfl rfl (by omega)) rfl <| J.b rfl <| J.a6 <| J.A <| J.a8 (k + 1) (fun x (hx : x ≤ n ∧ n - x < n - k) => hI1 x hx.1 hx.2) ⟨by omega, by omega⟩ ⟨rfl, rfl, by rw [hst]; exact congrArg (fun z => some (I z)) (by omega), rfl, rfl, rfl, trivial⟩ (fun _ h => h)
  refine J.b5 <| J.a4 <| J.a4 <| J.b7 ?_
  refine J.A (J.L hK11 ?_)
  refine J.O 0 1 5 ?_
  refine J.g fun K19 hK19 => J.q (qAe rfl zeroValue186 rfl) rfl fun g8 _ => ?_
  change J _ _ _ [F, blk g8 _ 186] _
  refine J.d6 [1, 2, 0] [blk g8 [.pointer none, .slice none 0 0] 186, fun _ => none, F] rfl (by decide) <| J.c hK19 <| J.T 0 1 5 8 ?_
  refine J.p fun K20 hK20 => ?_
  have hst3 := qDz ls k
  refine J.M <| J.b rfl <| J.q (qAC rfl rfl ent108 (qP8 F g8 186 0 [.pointer none, .slice none 0 0] none ⟨rfl, .inl rfl, rfl, qCA.nil, .inl rfl⟩ qPV _ (by omega))) rfl ?_
  rintro ⟨l57, m57⟩ ⟨A57, c57, hb57, hu57⟩
  change J _ _ _ [blk g8 l57 186, m57, F] _
  dsimp only at hb57 hu57
  obtain ⟨s0, hs0⟩ : ∃ s0, ls[0]? = some s0 := ⟨_, List.getElem?_eq_getElem (by omega)⟩
  have hs0l : s0.length ≤ qC2 ls := by have h1 := qFA ls 0 hs0; have h2 := qDz ls 1; simp only [Nat.zero_add] at h1; omega
  refine J.c hK20 <| J.O 0 1 8 ?_
  refine J.g fun K21 hK21 => J.b rfl <| J.f (qAK (i := 0) rfl rfl rfl qAo z9_ hl (by omega)) rfl <| J.f (qAQ rfl rfl b9_ (by simp) (hl.elem (qAZ hs0))) rfl <| J.q (qAC rfl rfl ent109 (qBX F m57 g8 186 0 l57 [] A57 c57 _ hb57 (by rw [hu57.1]; exact qPV) s0 (by simp; omega))) rfl ?_
  rintro ⟨l61, m61⟩ ⟨A61, c61, hb61, hu61⟩
  change J _ _ _ [blk g8 l61 186, m61, _] _
  dsimp only at hb61 hu61
  have hb61 : Bld g8 0 l61 m61 (qB7 sep (ls.take 1)) A61 c61 (some ⟨g8, 0, none⟩) := by
    have e : qB7 sep (ls.take 1) = [] ++ s0 := by cases ls with
      | nil => simp at hs0
      | cons a r => simp at hs0; subst hs0; simp [qB7]
    rw [e]; exact hb61
  refine J.c hK21 <| J.O 0 1 8 ?_
  refine J.p fun K22 hK22 => J.g fun K23 hK23 => J.b rfl <| J.f (qCi (l := 1) (h := n) rfl rfl qAo z9_ rfl rfl (by omega)) rfl <| J.f (qAh qAo rfl rfl) rfl <| J.b rfl <| J.c hK23 <| J.a3 1 8 63 64 65 ?_
  refine J.W <| J.b6 (X := Nat × List Value × Hp × Option Addr × Nat) (fun x => [(1, Str sep), (8, Ptr g8), (63, _), (64, I (n - 1 : Nat)), (65, I x.1)]) (fun x => [blk g8 x.2.1 186, x.2.2.1, F]) (fun x => x.1 ≤ n - 1 ∧ x.2.1.length = 2 ∧ Bld g8 0 x.2.1 x.2.2.1 (qB7 sep (ls.take (x.1 + 1))) x.2.2.2.1 x.2.2.2.2 (some ⟨g8, 0, none⟩)) (fun x => n - 1 - x.1) (0, l61, m61, A61, c61) (⟨Nat.zero_le _, by rw [hu61.1, hu57.1]; rfl, hb61⟩) ⟨rfl, rfl, rfl, rfl, rfl, trivial⟩ (fun _ h => h) ?_
  rintro ⟨k, l, m, A1, c1⟩ ⟨hk, hll, hb⟩ I3 hI3
  dsimp only at hk hll hb ⊢
  have hl2 := hl.cut (lo := 1) (hi := n) (mx := c) (by omega) (Nat.le_refl _) hl.2.1
  refine J.g fun K24 hK24 => J.f (qAX rfl rfl rfl) rfl <| J.c hK24 <| J.b1 1 8 63 64 65 66 ?_
  refine J.p fun K25 hK25 => J.a0 rfl (fun h66 => ?_) (fun h66 => ?_)
  ·
    refine J.a1 hK25 <| J.a3 1 8 63 64 65 ?_
    refine J.p fun K26 hK26 => J.W <| J.p fun K27 hK27 => ?_
    have hkn : k + 1 < n := by omega
    obtain ⟨s, hs⟩ : ∃ s, ls[k + 1]? = some s := ⟨_, List.getElem?_eq_getElem (by omega)⟩
    have hs2 : ((((qAJ ls).take n).drop 1))[k]? = some [Str s] := by rw [List.getElem?_drop, List.getElem?_take, Nat.add_comm 1 k, if_pos hkn]; exact qAZ hs
    have hj1 := qGS sep ls (k + 1)
    rw [qGR sep ls k hs] at hj1
    simp only [List.length_append] at hj1
    refine J.M <| J.f (qAK (i := k) rfl rfl rfl qAo z9_ hl2 (by omega)) rfl <| J.f (qAQ rfl rfl b9_ (by simp) (hl2.elem hs2)) rfl <| J.b rfl <| J.c hK27 <| J.b1 1 8 10 63 64 65 ?_
    refine J.g fun K28 hK28 => J.b rfl <| J.q (qAC rfl rfl ent109 (qBX F m g8 186 0 l _ A1 c1 _ hb (by rw [hll]; exact qPV) sep (by omega))) rfl ?_
    rintro ⟨l70, m70⟩ ⟨A70, c70, hb70, hu70⟩
    change J _ _ _ [blk g8 l70 186, m70, F] _
    dsimp only at hb70 hu70
    refine J.c hK28 <| J.b1 1 8 10 63 64 65 ?_
    refine J.M <| J.b rfl <| J.q (qAC rfl rfl ent109 (qBX F m70 g8 186 0 l70 _ A70 c70 _ hb70 (by rw [hu70.1, hll]; exact qPV) s (by simp; omega))) rfl ?_
    rintro ⟨l72, m72⟩ ⟨A72, c72, hb72, hu72⟩
    change J _ _ _ [blk g8 l72 186, m72, _] _
    dsimp only at hb72 hu72
    rw [← qGR sep ls k hs] at hb72
    refine J.a6 <| J.a5 <| J.A (J.L hK26 ?_)
    refine J.a3 1 8 63 64 65 ?_
    refine J.M <| J.f (qAU rfl rfl rfl (by omega)) rfl <| J.b rfl <| J.a6 <| J.A <| J.a8 (k + 1, l72, m72, A72, c72) (fun x (hx : _ ∧ n - 1 - x.1 < n - 1 - k) => hI3 x hx.1 hx.2) ⟨⟨by dsimp only; omega, by rw [hu72.1, hu70.1]; exact hll, hb72⟩, by dsimp only; omega⟩ ⟨rfl, rfl, rfl, rfl, rfl, trivial⟩ (fun _ h => h)
  refine J.b5 <| J.a4 <| J.a4 <| J.b7 ?_
  refine J.A (J.L hK22 ?_)
  refine J.u 8 ?_
  refine J.p fun K29 hK29 => ?_
  have hend : qB7 sep (ls.take (k + 1)) = qB7 sep ls := by rw [List.take_of_length_le (by omega)]
  have hj1 := qGS sep ls k
  refine J.M <| J.q (qAC rfl rfl ent111 (qGZ F m g8 186 0 l _ A1 c1 _ hb (by omega))) rfl ?_
  rintro m74 h74
  change J _ _ _ [blk g8 l 186, m74, F] _
  refine J.b rfl <| J.c hK29 <| J.u 4 ?_
  exact J.D <| J.H hw0 rfl () (by rw [hend]) trivial [2] rfl (by decide)
theorem qSP (F : Hp) (A : Option Addr) (n c : Nat) (ls : List (List UInt8)) (sep : List UInt8) (hl : Sl F 1 A n c (qAJ ls)) (htot : (qB7 sep ls).length ≤ 35184372088832) (hn47 : n ≤ 70368744177664) :
    Ct prog 140 [.slice A n c, Str sep] [F] (fun _ : Unit => Str (qB7 sep ls)) (fun _ => True) (fun _ => [F]) := by
  have hlen : ls.length = n := by have := hl.1; simpa [qAJ] using this
  match ls, hl, htot, hlen with
  | [], hl, _, _ => exact qPh F A n c sep hl
  | [s], hl, _, _ => exact qPg F A n c s sep hl
  | a :: b :: r, hl, htot, hlen => exact qNI F A n c _ sep hl (by simp at hlen; omega) htot hn47
theorem ent140 : qAF prog 140 := qAF.of func140 rfl (by kernel_rfl)
def small (r : Nat) : Nat := if 65 ≤ r ∧ r ≤ 90 ∨ 913 ≤ r ∧ r ≤ 937 ∧ r ≠ 930 ∨ 1040 ≤ r ∧ r ≤ 1071 then r + 32 else r
def qHX (r : Nat) : Nat := if 97 ≤ small r ∧ small r ≤ 122 then 1 else if 945 ≤ small r ∧ small r ≤ 969 then 2 else if 1072 ≤ small r ∧ small r ≤ 1103 then 4 else 0
def qGC (r : Nat) : Bool := decide (r = 46 ∨ r = 45 ∨ r = 95 ∨ r = 64)
def qMK (c : UInt8) : Bool := qGC c.toNat
def qHY (l : List Nat) (b : Nat) : Nat := l.foldl (fun b r => b ||| qHX r) b
def good (b : Nat) : Bool := decide (b = 0 ∨ b = 1 ∨ b = 2 ∨ b = 4)
theorem qOZ (r : Nat) : small r ≤ r + 32 := by unfold small; split <;> omega
theorem qOl {r : Nat} (h : Rn r) : Rn (small r) := by
 obtain ⟨h1, h2⟩ := h
 unfold small Rn
 split <;> omega
theorem qI7 (r : Nat) : qHX r < 8 := by
 unfold qHX; repeat' split
 all_goals omega
theorem qN0 : ∀ (l : List Nat) (b : Nat), b < 8 → qHY l b < 8
 | [], _, h => h
 | r :: l, b, h => qN0 l (b ||| qHX r) (Nat.or_lt_two_pow (n := 3) h (qI7 r))
theorem qQD (l m : List Nat) (b : Nat) : qHY (l ++ m) b = qHY m (qHY l b) := List.foldl_append
def spl : List UInt8 → List UInt8 → List (List UInt8)
 | cur, [] => [cur]
 | cur, c :: t => if qMK c then cur :: spl [] t else spl (cur ++ [c]) t
def qOA : List Nat → List Nat → List (List Nat)
 | cur, [] => [cur]
 | cur, r :: t => if qGC r then cur :: qOA [] t else qOA (cur ++ [r]) t
theorem qRN {c : UInt8} (h : qMK c = true) (cur t : List UInt8) : spl cur (c :: t) = cur :: spl [] t := by rw [spl, if_pos h]
theorem qFC : ∀ (p : List UInt8), (∀ c ∈ p, qMK c = false) → ∀ cur t, spl cur (p ++ t) = spl (cur ++ p) t
 | [], _, cur, t => by rw [List.append_nil]; rfl
 | c :: p, h, cur, t => by
  rw [List.cons_append, spl, if_neg (by rw [h c (.head _)]; decide), qFC p (fun x hx => h x (.tail _ hx)), List.append_assoc]; rfl
theorem qJD {r : Nat} (h : Rn r) (hb : 128 ≤ r) : ∀ c ∈ enc r, 128 ≤ c.toNat := by
  have := h.1
  intro c hc
  unfold enc at hc
  rw [if_neg (by omega)] at hc
  split at hc
  · rcases List.mem_cons.1 hc with rfl | hc
    · rw [b8 (by omega)]; omega
    · rw [List.mem_singleton.1 hc, b8 (by omega)]; omega
  split at hc
  · rcases List.mem_cons.1 hc with rfl | hc
    · rw [b8 (by omega)]; omega
    rcases List.mem_cons.1 hc with rfl | hc
    · rw [b8 (by omega)]; omega
    · rw [List.mem_singleton.1 hc, b8 (by omega)]; omega
  · rcases List.mem_cons.1 hc with rfl | hc
    · rw [b8 (by omega)]; omega
    rcases List.mem_cons.1 hc with rfl | hc
    · rw [b8 (by omega)]; omega
    rcases List.mem_cons.1 hc with rfl | hc
    · rw [b8 (by omega)]; omega
    · rw [List.mem_singleton.1 hc, b8 (by omega)]; omega
theorem qGs {c : UInt8} (h : 128 ≤ c.toNat) : qMK c = false := by unfold qMK qGC; exact decide_eq_false (by omega)
theorem qOS {s : List UInt8} (h : s ≠ []) (hs : qGC (dec s 0).1 = true) : (dec s 0).2 = 1 ∧ ∃ c t, s = c :: t ∧ qMK c = true ∧ c.toNat = (dec s 0).1 := by
  by_cases ho : dec s 0 = (65533, 1)
  · rw [ho] at hs; exact absurd hs (by decide)
  · obtain ⟨r, t, hr, rfl, hd⟩ := qIP h ho
    rw [hd] at hs ⊢
    dsimp only at hs ⊢
    have hr2 : r < 128 := by unfold qGC at hs; rw [decide_eq_true_eq] at hs; omega
    rw [qB9 hr2]
    refine ⟨rfl, _, _, rfl, ?_, b8 (by omega)⟩
    unfold qMK; rw [b8 (by omega)]; exact hs
theorem qOT {s : List UInt8} (h : s ≠ []) (hs : qGC (dec s 0).1 = false) : ∀ c ∈ s.take (dec s 0).2, qMK c = false := by
  by_cases ho : dec s 0 = (65533, 1)
  · rw [ho]
    obtain ⟨x, t, rfl⟩ := List.exists_cons_of_ne_nil h
    intro c hc
    rw [show (x :: t).take 1 = [x] from rfl, List.mem_singleton] at hc
    subst hc
    refine qGs ?_
    by_cases hx : c.toNat < 128
    · have := qFh (r := c.toNat) ⟨by omega, by omega⟩ t
      rw [qB9 hx, b8e rfl] at this
      rw [show [c] ++ t = c :: t from rfl, ho] at this
      have := congrArg Prod.fst this
      dsimp only at this
      omega
    · omega
  · obtain ⟨r, t, hr, rfl, hd⟩ := qIP h ho
    rw [hd] at hs ⊢
    dsimp only at hs ⊢
    rw [List.take_left]
    by_cases hr2 : r < 128
    · rw [qB9 hr2]
      intro c hc
      rw [List.mem_singleton.1 hc]; unfold qMK; rw [b8 (by omega)]; exact hs
    · exact fun c hc => qGs (qJD hr (by omega) c hc)
theorem qMF : ∀ (l : List Nat), (∀ r ∈ l, Rn r) → ∀ cur, spl (unr cur) (unr l) = (qOA cur l).map unr
  | [], _, cur => rfl
  | r :: l, h, cur => by
    have hr := h r (.head _)
    have ih := qMF l (fun x hx => h x (.tail _ hx))
    rw [qB4, qOA]
    by_cases hs : qGC r = true
    · have hr2 : r < 128 := by unfold qGC at hs; rw [decide_eq_true_eq] at hs; omega
      rw [if_pos hs, qB9 hr2, List.map_cons, ← ih []]
      rw [show [UInt8.ofNat r] ++ unr l = UInt8.ofNat r :: unr l from rfl, spl, if_pos (by unfold qMK; rw [b8 (by omega)]; exact hs)]; rfl
    · rw [if_neg hs, ← ih, qFC, qKo]
      · rw [show unr [r] = enc r from List.append_nil _]
      · by_cases hr2 : r < 128
        · rw [qB9 hr2]
          intro c hc
          rw [List.mem_singleton.1 hc]; unfold qMK; rw [b8 (by omega)]; exact Bool.eq_false_iff.2 hs
        · exact fun c hc => qGs (qJD hr (by omega) c hc)
theorem qGl : ∀ (l cur : List Nat) (p : List Nat), p ∈ qOA cur l → ∀ r ∈ p, r ∈ cur ∨ r ∈ l
  | [], cur, p, h, r, hr => by rw [qOA, List.mem_singleton] at h; subst h; exact .inl hr
  | x :: l, cur, p, h, r, hr => by
    rw [qOA] at h
    split at h
    · rcases List.mem_cons.1 h with rfl | h
      · exact .inl hr
      · rcases qGl l [] p h r hr with h | h
        · cases h
        · exact .inr (.tail _ h)
    · rcases qGl l _ p h r hr with h | h
      · rcases List.mem_append.1 h with h | h
        · exact .inl h
        · rw [List.mem_singleton.1 h]; exact .inr (.head _)
      · exact .inr (.tail _ h)
def okR (r : Nat) : Bool := decide (qHX r ≠ 0 ∨ 48 ≤ r ∧ r ≤ 57) || qGC r
def okP (p : List UInt8) : Bool := decide (p ≠ []) && good (qHY (rl p) 0)
def right (s : List UInt8) : Bool := (rl s).all okR && (spl [] s).all okP && decide (s.count 64 ≤ 1)
def normal (s : List UInt8) : List UInt8 × Nat :=
 if vld s = true then (if (rl s).length ≤ 64 then (if right s = true then (unr ((rl s).map small), 0) else ([], 5)) else ([], 2)) else ([], 4)
def qQP : Nat → Nat → Bool → List Nat → Bool
  | ats, bits, sm, [] => sm && good bits && decide (ats ≤ 1)
  | ats, bits, sm, r :: t => if qGC r = true then sm && good bits && qQP (if r = 64 then ats + 1 else ats) 0 false t
      else decide (qHX r ≠ 0 ∨ 48 ≤ r ∧ r ≤ 57) && qQP ats (bits ||| qHX r) true t
theorem qIl : ∀ (l : List Nat) (ats : Nat) (cur : List Nat),
    qQP ats (qHY cur 0) (decide (cur ≠ [])) l = (l.all okR && (qOA cur l).all (fun p => decide (p ≠ []) && good (qHY p 0)) && decide (ats + l.count 64 ≤ 1))
  | [], ats, cur => by
    rw [qQP, qOA, List.all_nil, Bool.true_and, List.all_cons, List.all_nil, Bool.and_true, List.count_nil, Nat.add_zero]
  | r :: l, ats, cur => by
    rw [qQP, qOA]
    by_cases hs : qGC r = true
    · rw [if_pos hs, if_pos hs]
      have := qIl l (if r = 64 then ats + 1 else ats) []
      rw [show qHY [] 0 = 0 from rfl, show decide (([] : List Nat) ≠ []) = false from rfl] at this
      rw [this, List.all_cons, List.all_cons, show okR r = true from by unfold okR; rw [hs, Bool.or_true]]
      have e : decide ((if r = 64 then ats + 1 else ats) + l.count 64 ≤ 1) = decide (ats + (r :: l).count 64 ≤ 1) := by
        rw [List.count_cons]
        by_cases h : r = 64
        · subst h; rw [if_pos rfl]; simp only [beq_self_eq_true, if_true]; exact decide_eq_decide.2 (by omega)
        · rw [if_neg h, if_neg (by rw [beq_iff_eq]; exact h)]; rfl
      rw [e, Bool.true_and]
      cases decide (cur ≠ []) <;> cases good (qHY cur 0) <;> cases l.all okR <;> simp
    · rw [if_neg hs, if_neg hs]
      have := qIl l ats (cur ++ [r])
      rw [qQD, show qHY [r] (qHY cur 0) = qHY cur 0 ||| qHX r from rfl, show decide (cur ++ [r] ≠ []) = true from decide_eq_true (by simp)] at this
      rw [this, List.all_cons, show okR r = decide (qHX r ≠ 0 ∨ 48 ≤ r ∧ r ≤ 57) from by unfold okR; rw [Bool.eq_false_iff.2 hs, Bool.or_false]]
      have e : (r :: l).count 64 = l.count 64 := by
        rw [List.count_cons, if_neg, Nat.add_zero]
        intro h
        rw [beq_iff_eq] at h; subst h; exact hs rfl
      rw [e, Bool.and_assoc, Bool.and_assoc, Bool.and_assoc]
theorem qNW {r : Nat} (h : Rn r) : (enc r).count 64 = if r = 64 then 1 else 0 := by
  by_cases hr : r < 128
  · rw [qB9 hr, List.count_singleton]
    by_cases h4 : r = 64
    · subst h4; rfl
    · rw [if_neg h4, if_neg]
      rw [beq_iff_eq]; intro e
      have := congrArg UInt8.toNat e
      rw [b8 (by omega)] at this
      exact h4 this
  · rw [if_neg (by omega)]
    refine List.count_eq_zero.2 fun hm => ?_
    have := qJD h (by omega) _ hm
    exact absurd this (by decide)
theorem qHe : ∀ (l : List Nat), (∀ r ∈ l, Rn r) → (unr l).count 64 = l.count 64
 | [], _ => rfl
 | r :: l, h => by
  rw [qB4, List.count_append, qHe l (fun x hx => h x (.tail _ hx)), qNW (h r (.head _)), List.count_cons, Nat.add_comm]
  simp only [beq_iff_eq]
theorem qTC {l : List Nat} (h : l ≠ []) : unr l ≠ [] := by
 obtain ⟨r, t, rfl⟩ := List.exists_cons_of_ne_nil h
 rw [qB4]; simp [qFc]
theorem qN1 {α : Type} {f g : α → Bool} : ∀ {l : List α}, (∀ x ∈ l, f x = g x) → l.all f = l.all g
 | [], _ => rfl
 | x :: l, h => by rw [List.all_cons, List.all_cons, h x (.head _), qN1 (fun y hy => h y (.tail _ hy))]
theorem qMV {l : List Nat} (h : ∀ r ∈ l, Rn r) : right (unr l) = qQP 0 0 false l := by
 have := qIl l 0 []
 rw [show qHY [] 0 = 0 from rfl, show decide (([] : List Nat) ≠ []) = false from rfl] at this
 rw [this]
 unfold right
 have e := qMF l h []
 rw [show unr [] = [] from rfl] at e
 rw [qRh h, e, qHe l h, Nat.zero_add, List.all_map]
 congr 2
 refine qN1 fun p hp => ?_
 have hp2 : ∀ r ∈ p, Rn r := fun r hr => by
  rcases qGl l [] p hp r hr with h' | h'
  · cases h'
  · exact h r h'
 show okP (unr p) = _
 unfold okP
 rw [qRh hp2]
 congr 1
 by_cases h0 : p = []
 · subst h0; rfl
 · rw [decide_eq_true (qTC h0), decide_eq_true h0]
theorem qLE {l : List Nat} (h : ∀ r ∈ l, Rn r) : normal (unr l) = if l.length ≤ 64 then (if qQP 0 0 false l = true then (unr (l.map small), 0) else ([], 5)) else ([], 2) := by
 unfold normal
 rw [if_pos (qS7 h), qRh h, qMV h]
theorem qFe {s : List UInt8} {p : Nat} (h : p < s.length) : s.drop p ≠ [] := fun e => by
 have := congrArg List.length e
 rw [List.length_drop, List.length_nil] at this; omega
theorem qT2 {s : List UInt8} {p : Nat} (h : p < s.length) : Rn (dec s p).1 := by
  rw [qDP (by omega)]
  by_cases ho : dec (s.drop p) 0 = (65533, 1)
  · rw [ho]; exact ⟨by decide, by decide⟩
  · obtain ⟨r, t, hr, _, hd⟩ := qIP (qFe h) ho
    rw [hd]; exact hr
theorem qSb {s : List UInt8} {p : Nat} (h : p < s.length) (hn : (dec s p).1 ≠ 65533) : (enc (dec s p).1).length = (dec s p).2 := by
 rw [qDP (by omega)] at hn ⊢
 obtain ⟨r, t, hr, _, hd⟩ := qIP (qFe h) (fun ho => by rw [ho] at hn; exact hn rfl)
 rw [hd]
theorem qOW {s : List UInt8} {p : Nat} (h : p < s.length) (cur : List UInt8) (hs : qGC (dec s p).1 = true) : spl cur (s.drop p) = cur :: spl [] (s.drop (qFV s p)) := by
 have hd := qDP (s := s) (pos := p) (by omega)
 rw [hd] at hs
 obtain ⟨h1, c, t, e, hc, _⟩ := qOS (qFe h) hs
 rw [qC8 h, hd, h1, ← List.drop_drop, e, qRN hc]; rfl
theorem qFu {s : List UInt8} {p : Nat} (h : p < s.length) (cur : List UInt8) (hs : qGC (dec s p).1 = false) : spl cur (s.drop p) = spl (cur ++ (s.take (p + (dec s p).2)).drop p) (s.drop (qFV s p)) := by
 have hd := qDP (s := s) (pos := p) (by omega)
 have e : (s.take (p + (dec s p).2)).drop p = (s.drop p).take (dec s p).2 := by rw [List.drop_take]; congr 1; omega
 rw [e, qC8 h, ← List.drop_drop]
 rw [hd] at hs ⊢
 rw [← qFC _ (qOT (qFe h) hs), List.take_append_drop]
theorem qPZ (ds : List (List UInt8)) (cur q : List UInt8) {n : Nat} (h : n = ds.length) : (ds ++ [cur]).set n ((ds ++ [cur]).getD n [] ++ q) = ds ++ [cur ++ q] := by
 subst h
 rw [List.getD_eq_getElem?_getD, List.getElem?_append_right (Nat.le_refl _), List.set_append_right _ _ (Nat.le_refl _), Nat.sub_self]; rfl
theorem qO7 : ∀ b, b < 8 → (b &&& (b - 1) = 0 ↔ good b = true) := by decide
theorem qPb (ds : List (List UInt8)) (cur : List UInt8) : (ds ++ [cur]).getD ds.length [] = cur := by
 rw [List.getD_eq_getElem?_getD, List.getElem?_append_right (Nat.le_refl _), Nat.sub_self]; rfl
theorem qEL : ∀ (t cur : List UInt8) (q : List UInt8), q ∈ spl cur t → q.length ≤ cur.length + t.length
  | [], cur, q, h => by rw [spl, List.mem_singleton] at h; subst h; exact Nat.le_refl _
  | c :: t, cur, q, h => by
    rw [spl] at h
    rw [List.length_cons]
    split at h
    · rcases List.mem_cons.1 h with rfl | h
      · omega
      · have := qEL t [] q h; rw [List.length_nil] at this; omega
    · have := qEL t _ q h; rw [List.length_append, List.length_cons, List.length_nil] at this; omega
theorem qRO (s : List UInt8) (k : Nat) : ((spl [] s).getD k []).length ≤ s.length := by
  by_cases h : k < (spl [] s).length
  · have := qEL s [] ((spl [] s).getD k []) (by rw [List.getD_eq_getElem?_getD, List.getElem?_eq_getElem h]; exact List.getElem_mem h)
    rw [List.length_nil] at this; omega
  · rw [List.getD_eq_getElem?_getD, List.getElem?_eq_none (by omega)]; exact Nat.zero_le _
theorem qOQ {l : List (List UInt8)} {f : List UInt8 → Bool} {k : Nat} (h : k < l.length) : (l.take (k + 1)).all f = ((l.take k).all f && f (l.getD k [])) := by
 rw [List.take_add_one, List.getD_eq_getElem?_getD, List.getElem?_eq_getElem h, List.all_append]; simp
theorem qKG {l : List (List UInt8)} {f : List UInt8 → Bool} {k : Nat} (h : k < l.length) (hf : f (l.getD k []) = false) : l.all f = false := by
 rw [List.getD_eq_getElem?_getD, List.getElem?_eq_getElem h] at hf
 rw [List.all_eq_false]; exact ⟨l[k], List.getElem_mem h, by simpa using hf⟩
theorem qHE {r : Nat} (h : qGC r = true) : okR r = true := by unfold okR; rw [h, Bool.or_true]
theorem qHD {r : Nat} (h : qHX r ≠ 0 ∨ 48 ≤ r ∧ r ≤ 57) : okR r = true := by unfold okR; rw [decide_eq_true h, Bool.true_or]
theorem qQb {r : Nat} (h : qHX r = 0) (h2 : ¬ (48 ≤ r ∧ r ≤ 57)) (h3 : qGC r = false) : okR r = false := by unfold okR; rw [h3, decide_eq_false (by omega)]; rfl
theorem qIq : ∀ (t cur : List UInt8), (spl cur t).length ≤ t.length + 1
 | [], cur => by rw [spl]; exact Nat.le_refl _
 | c :: t, cur => by
  rw [spl]
  split
  · have := qIq t []; rw [List.length_cons, List.length_cons]; omega
  · have := qIq t (cur ++ [c]); rw [List.length_cons]; omega
def nx (s : List UInt8) : Nat × Nat := if s = [] ∨ dec s 0 = (65533, 1) then (0, 0) else dec s 0
theorem qTO {l : List Nat} (h : l.all (fun r => decide (r < 55296)) = true) : ∀ r ∈ l, Rn r := fun r hr => by
 have := List.all_eq_true.1 h r hr
 rw [decide_eq_true_eq] at this
 exact ⟨by omega, by omega⟩
theorem qCV {s : List UInt8} {l : List Nat} {x : List UInt8} {e : Nat} (h : s = unr l) (hr : l.all (fun r => decide (r < 55296)) = true) (hx : (if l.length ≤ 64 then (if qQP 0 0 false l = true then (unr (l.map small), 0) else ([], 5)) else ([], 2)) = (x, e)) : normal s = (x, e) := by
 rw [h, qLE (qTO hr)]; exact hx
end Go.Proofs.YtfldiegfenndjaaGreatDoor
