/- A part of the proof. -/
import Derived.Test.YtfldiegfenndjaaGreatDoorTopCcG8
import Derived.Test.YtfldiegfenndjaaGreatDoorRows
import Derived.Test.YtfldiegfenndjaaGreatDoorTopCcG4
set_option linter.unusedSimpArgs false
set_option linter.unusedVariables false
namespace Go.Proofs.YtfldiegfenndjaaGreatDoor
open Go Go.Fw Go.Proofs.Tryz
set_option maxRecDepth 100000
set_option maxHeartbeats 1000000
abbrev qCo := @isAgg246
abbrev b3_ := @isAgg3
abbrev qBq := @isAgg36
abbrev qDq := @isAgg37
abbrev qEH := @isAgg39
abbrev b4_ := @isAgg4
abbrev b5_ := @isAgg5
abbrev qLq := @isAgg56
abbrev qLp := @isAgg58
abbrev qOa := @isAgg88
abbrev b9_ := @isAgg9
abbrev qGe := @sizeOf167
abbrev qBz := @sizeOf246
abbrev qKa := @sizeOf26
abbrev z3_ := @sizeOf3
abbrev qQk := @sizeOf30
abbrev qQj := @sizeOf35
abbrev qBQ := @sizeOf36
abbrev qEZ := @sizeOf37
abbrev qB6 := @sizeOf39
abbrev z4_ := @sizeOf4
abbrev qL2 := @sizeOf40
abbrev z5_ := @sizeOf5
abbrev qFv := @sizeOf52
abbrev qF5 := @sizeOf54
abbrev qE2 := @sizeOf56
abbrev qGd := @sizeOf58
abbrev qL1 := @sizeOf60
abbrev qIb := @sizeOf88
abbrev z9_ := @sizeOf9
abbrev u0_ := @underlying0
abbrev qML := @underlying166
abbrev qE7 := @underlying167
abbrev qGi := @underlying169
abbrev qFx := @underlying171
abbrev qAq := @underlying180
abbrev qKv := @underlying184
abbrev qC6 := @underlying186
abbrev qE6 := @underlying188
abbrev qFw := @underlying240
abbrev qHh := @underlying246
abbrev qEi := @underlying248
abbrev qOU := @underlying26
abbrev qHg := @underlying284
abbrev qOT := @underlying29
abbrev u3_ := @underlying3
abbrev qMK := @underlying321
abbrev qTa := @underlying33
abbrev qOm := @underlying35
abbrev qDu := @underlying36
abbrev qAn := @underlying37
abbrev qEb := @underlying39
abbrev u4_ := @underlying4
abbrev qB1 := @underlying40
abbrev qC3 := @underlying42
abbrev qQr := @underlying43
abbrev qLw := @underlying45
abbrev u5_ := @underlying5
abbrev qOl := @underlying50
abbrev qE5 := @underlying52
abbrev qIn := @underlying54
abbrev qIm := @underlying56
abbrev qDX := @underlying58
abbrev qHf := @underlying60
abbrev qBP := @underlying88
abbrev u9_ := @underlying9
abbrev qTO := @underlying94
abbrev e0_ := @zeroValue0
abbrev qRE := @zeroValue26
abbrev e3_ := @zeroValue3
abbrev e4_ := @zeroValue4
abbrev qOY := @zeroValue45
abbrev e5_ := @zeroValue5
abbrev qSx := @zeroValue56
abbrev qUL := @zeroValue58
abbrev qUK := @zeroValue60
abbrev e9_ := @zeroValue9
abbrev qUJ := @zeroValue94
theorem Tryz.wide : prog.follows .mixedOrders = true := by kernel_rfl
theorem el3 : qDV prog 3 [.int .i64 0] 8 := qDV.of (by kernel_rfl) rfl
theorem el5 : qDV prog 5 [.int .u8 0] 1 := qDV.of (by kernel_rfl) rfl
theorem el9 : qDV prog 9 [Str []] 16 := qDV.of (by kernel_rfl) rfl
theorem ent108 : qAC prog 108 := qAC.of func108 rfl (by kernel_rfl)
theorem ent109 : qAC prog 109 := qAC.of func109 rfl (by kernel_rfl)
theorem ent11 : qAC prog 11 := qAC.of func11 rfl (by kernel_rfl)
theorem ent111 : qAC prog 111 := qAC.of func111 rfl (by kernel_rfl)
theorem ent125 : qAC prog 125 := qAC.of func125 rfl (by kernel_rfl)
theorem ent126 : qAC prog 126 := qAC.of func126 rfl (by kernel_rfl)
theorem ent127 : qAC prog 127 := qAC.of func127 rfl (by kernel_rfl)
theorem ent137 : qAC prog 137 := qAC.of func137 rfl (by kernel_rfl)
theorem ent138 : qAC prog 138 := qAC.of func138 rfl (by kernel_rfl)
theorem ent139 : qAC prog 139 := qAC.of func139 rfl (by kernel_rfl)
theorem ent143 : qAC prog 143 := qAC.of func143 rfl (by kernel_rfl)
theorem ent151 : qAC prog 151 := qAC.of func151 rfl (by kernel_rfl)
theorem ent156 : qAC prog 156 := qAC.of func156 rfl (by kernel_rfl)
theorem ent169 : qAC prog 169 := qAC.of func169 rfl (by kernel_rfl)
theorem ent171 : qAC prog 171 := qAC.of func171 rfl (by kernel_rfl)
theorem ent177 : qAC prog 177 := qAC.of func177 rfl (by kernel_rfl)
theorem ent187 : qAC prog 187 := qAC.of func187 rfl (by kernel_rfl)
theorem ent214 : qAC prog 214 := qAC.of func214 rfl (by kernel_rfl)
theorem ent22 : qAC prog 22 := qAC.of func22 rfl (by kernel_rfl)
theorem ent220 : qAC prog 220 := qAC.of func220 rfl (by kernel_rfl)
theorem ent25 : qAC prog 25 := qAC.of func25 rfl (by kernel_rfl)
theorem ent31 : qAC prog 31 := qAC.of func31 rfl (by kernel_rfl)
theorem ent33 : qAC prog 33 := qAC.of func33 rfl (by kernel_rfl)
theorem ent35 : qAC prog 35 := qAC.of func35 rfl (by kernel_rfl)
theorem ent37 : qAC prog 37 := qAC.of func37 rfl (by kernel_rfl)
theorem ent38 : qAC prog 38 := qAC.of func38 rfl (by kernel_rfl)
theorem ent41 : qAC prog 41 := qAC.of func41 rfl (by kernel_rfl)
theorem ent42 : qAC prog 42 := qAC.of func42 rfl (by kernel_rfl)
theorem ent43 : qAC prog 43 := qAC.of func43 rfl (by kernel_rfl)
theorem ent45 : qAC prog 45 := qAC.of func45 rfl (by kernel_rfl)
theorem ent47 : qAC prog 47 := qAC.of func47 rfl (by kernel_rfl)
theorem ent49 : qAC prog 49 := qAC.of func49 rfl (by kernel_rfl)
theorem ent57 : qAC prog 57 := qAC.of func57 rfl (by kernel_rfl)
theorem ent63 : qAC prog 63 := qAC.of func63 rfl (by kernel_rfl)
theorem ent64 : qAC prog 64 := qAC.of func64 rfl (by kernel_rfl)
theorem ent66 : qAC prog 66 := qAC.of func66 rfl (by kernel_rfl)
theorem ent70 : qAC prog 70 := qAC.of func70 rfl (by kernel_rfl)
theorem ent75 : qAC prog 75 := qAC.of func75 rfl (by kernel_rfl)
theorem ent82 : qAC prog 82 := qAC.of func82 rfl (by kernel_rfl)
theorem ent83 : qAC prog 83 := qAC.of func83 rfl (by kernel_rfl)
theorem ent84 : qAC prog 84 := qAC.of func84 rfl (by kernel_rfl)
theorem ent85 : qAC prog 85 := qAC.of func85 rfl (by kernel_rfl)
theorem ent86 : qAC prog 86 := qAC.of func86 rfl (by kernel_rfl)
theorem ent98 : qAC prog 98 := qAC.of func98 rfl (by kernel_rfl)
theorem noEsc (v : Value) (w : World) : (callFunc 188 #[v]).run prog w = .ok (.value v) w := by kernel_rfl
theorem qDm : prog.info? 186 = some t186 := by kernel_rfl
structure Bld (g off : Nat) (l : List Value) (mr : Hp) (bs : List UInt8) (A : Option Addr) (c : Nat) (p : Option Addr) : Prop where
 a0 : l[off]? = some (.pointer p)
 self : p = none ∨ p = some ⟨g, off, none⟩
 a1 : l[off + 1]? = some (.slice A bs.length c)
 row : qB5 False mr 5 1 A bs.length c (qAX bs)
 cap : A = none ∨ 0 < c
theorem qHQ (F : Hp) (g T off : Nat) (l : List Value) (hl : l[off]? = some (.pointer none)) (hT : liesAt prog prog.depth T (l.length / prog.cellsOf T) off 186 1 = true) :
    Ct prog 155 [.pointer (some ⟨g, off, none⟩)] [blk g l T, F] (fun _ : Unit => .tuple #[]) (fun _ => True) (fun _ => [blk g (qAw l off [.pointer (some ⟨g, off, none⟩)]) T, F]) := by
  have hoff : off < l.length := (List.getElem?_eq_some_iff.1 hl).1
  refine Ct.walk func155 rfl ntmps155 rfl (fun w0 hw0 => ?_)
  refine J.g fun K1 hK1 => J.b rfl <| J.f (qAE rfl rfl) rfl <| J.f (qAA rfl rfl qC6 rfl sizeOf184 rfl) rfl <| J.f (qAF 0 rfl rfl rfl isAgg184 hl) rfl <| J.f (qBm qKv rfl rfl rfl) rfl <| J.c hK1 <| J.M 0 6 ?_
  refine J.d1 ?_
  exact J.E <| J.p 2 rfl <| J.f (qIt rfl rfl qKv underlying294 qDm (by decide) (m := blk g l T) (by simp) (qAU _ _) (by simpa using hoff)) rfl <| J.u (qSH rfl rfl noEsc) rfl fun g10 _ => J.f (qHA rfl rfl underlying294 qKv qDm (m := blk g l T) (by simp) (qAU _ _) (by simpa using hT)) rfl <| J.f (qAE rfl rfl) rfl <| J.f (qAA (j := off) rfl rfl qC6 rfl sizeOf184 rfl) rfl <| J.c1 (qAc (i := 0) (vs := [.pointer (some ⟨g, off, none⟩)]) rfl rfl rfl rfl rfl sizeOf184 rfl (by simp only [List.length_cons, List.length_nil]; omega)) rfl rfl fun _ _ => J.a2 <| J.e4 hw0 (fun _ _ h => h) (qLx rfl) (qBD () rfl trivial [0, 1] rfl (by decide))
theorem qF2 (F : Hp) (g T off : Nat) (l : List Value) (hl : l[off]? = some (.pointer (some ⟨g, off, none⟩))) :
    Ct prog 155 [.pointer (some ⟨g, off, none⟩)] [blk g l T, F] (fun _ : Unit => .tuple #[]) (fun _ => True) (fun _ => [blk g l T, F]) := by
  refine Ct.walk func155 rfl ntmps155 rfl (fun w0 hw0 => ?_)
  refine J.g fun K1 hK1 => J.b rfl <| J.f (qAE rfl rfl) rfl <| J.f (qAA rfl rfl qC6 rfl sizeOf184 rfl) rfl <| J.f (qAF 0 rfl rfl rfl isAgg184 hl) rfl <| J.f (qBm qKv rfl rfl rfl) rfl <| J.c hK1 <| J.M 0 6 ?_
  refine J.b6 ?_
  refine J.g fun K2 hK2 => J.b rfl <| J.f (qAE rfl rfl) rfl <| J.f (qAA rfl rfl qC6 rfl sizeOf184 rfl) rfl <| J.f (qAF 0 rfl rfl rfl isAgg184 hl) rfl <| J.b rfl <| J.f (qLJ qKv qDm rfl rfl rfl) rfl <| J.c hK2 <| J.A 19 ?_
  refine J.b6 ?_
  exact J.b7 <| J.e4 hw0 (fun _ _ h => h) (qLx rfl) (qBD () rfl trivial [0, 1] rfl (by decide))
theorem qGE {l : List Value} {k : Nat} {v : Value} (h : l[k]? = some v) : qAw l k [v] = l := by
 obtain ⟨hk, rfl⟩ := List.getElem?_eq_some_iff.1 h
 unfold qAw
 rw [List.append_assoc, List.singleton_append, List.length_singleton, ← List.drop_eq_getElem_cons hk, List.take_append_drop]
theorem qCZ {l : List Value} {k : Nat} {v : Value} (hk : k < l.length) : (qAw l k [v])[k]? = some v := by
 unfold qAw
 rw [List.append_assoc, List.getElem?_append_right (by simp; omega)]
 simp [Nat.min_eq_left (Nat.le_of_lt hk)]
theorem qBk {l : List Value} {k j : Nat} {v : Value} (hk : k < l.length) (hj : j ≠ k) : (qAw l k [v])[j]? = l[j]? := by
  unfold qAw
  rw [List.append_assoc, List.getElem?_append, List.getElem?_append]
  simp only [List.length_take, Nat.min_eq_left (Nat.le_of_lt hk), List.length_singleton]
  by_cases h1 : j < k
  · rw [if_pos h1, List.getElem?_take, if_pos h1]
  · rw [if_neg h1, if_neg (by omega), List.getElem?_drop]
    congr 1; omega
theorem qCY {l : List Value} {k : Nat} {v : Value} (hk : k < l.length) : (qAw l k [v]).length = l.length := by
 unfold qAw
 simp; omega
theorem qDJ (F : Hp) (g T off : Nat) (l : List Value) (p : Option Addr) (hl : l[off]? = some (.pointer p)) (hp : p = none ∨ p = some ⟨g, off, none⟩) (hT : liesAt prog prog.depth T (l.length / prog.cellsOf T) off 186 1 = true) :
    Ct prog 155 [.pointer (some ⟨g, off, none⟩)] [blk g l T, F] (fun _ : Unit => .tuple #[]) (fun _ => True) (fun _ => [blk g (qAw l off [.pointer (some ⟨g, off, none⟩)]) T, F]) := by
  rcases hp with rfl | rfl
  · exact qHQ F g T off l hl hT
  · rw [qGE hl]; exact qF2 F g T off l hl
theorem qSv : qAC prog 155 := qAC.of func155 rfl (by kernel_rfl)
def Upd (off : Nat) (l l' : List Value) : Prop := l'.length = l.length ∧ ∀ j, j ≠ off → j ≠ off + 1 → l'[j]? = l[j]?
theorem qHU {g off : Nat} {l : List Value} {mr mr' : Hp} {bs bs' : List UInt8} {A A' : Option Addr} {c c' : Nat} {p : Option Addr} (hb : Bld g off l mr bs A c p) (hr : qB5 False mr' 5 1 A' bs'.length c' (qAX bs')) (hc : A' = none ∨ 0 < c') :
    Bld g off (qAw (qAw l off [.pointer (some ⟨g, off, none⟩)]) (off + 1) [.slice A' bs'.length c']) mr' bs' A' c' (some ⟨g, off, none⟩) ∧ Upd off l (qAw (qAw l off [.pointer (some ⟨g, off, none⟩)]) (off + 1) [.slice A' bs'.length c']) := by
  have h1 : off + 1 < l.length := (List.getElem?_eq_some_iff.1 hb.a1).1
  have h0 : off < l.length := by omega
  have hl1 := qCY (v := Value.pointer (some ⟨g, off, none⟩)) h0
  have h1' : off + 1 < (qAw l off [.pointer (some ⟨g, off, none⟩)]).length := by omega
  refine ⟨⟨?_, .inr rfl, ?_, hr, hc⟩, by rw [qCY h1', hl1], fun j hj hj' => ?_⟩
  · rw [qBk h1' (by omega), qCZ h0]
  · exact qCZ h1'
  · rw [qBk h1' hj', qBk h0 hj]
theorem qRu {m : Hp} {e : TypeId} {A : Option Addr} {n c : Nat} {xs : List (List Value)} (h : qB5 False m e 1 A n c xs) (hn : 0 < n) : A = none ∨ 0 < c := .inr (Nat.lt_of_lt_of_le hn h.2.2.1)
theorem qHa (F mr : Hp) (g T off : Nat) (l : List Value) (bs : List UInt8) (A : Option Addr) (c : Nat) (p : Option Addr) (hb : Bld g off l mr bs A c p) (hT : liesAt prog prog.depth T (l.length / prog.cellsOf T) off 186 1 = true) (b : UInt8) (hlen : bs.length < 70368744177664) :
    Ct prog 139 [.pointer (some ⟨g, off, none⟩), B8 b] [blk g l T, mr, F] (fun _ : List Value × Hp => .nilIface) (fun x => ∃ A c, Bld g off x.1 x.2 (bs ++ [b]) A c (some ⟨g, off, none⟩) ∧ Upd off l x.1) (fun x => [blk g x.1 T, x.2, F]) := by
  have hoff : off + 1 < l.length := (List.getElem?_eq_some_iff.1 hb.a1).1
  have hoff0 : off < l.length := by omega
  refine Ct.walk func139 rfl ntmps139 rfl (fun w0 hw0 => ?_)
  refine J.g fun K1 hK1 => J.b rfl <| J.c hK1 <| J.M 0 1 ?_
  refine J.g fun K2 hK2 => J.b rfl <| J.u (qAB rfl rfl qSv (Ct.useA [blk g l T] [mr, F] (A' := fun _ : Unit => [blk g (qAw l off [.pointer (some ⟨g, off, none⟩)]) T]) (new := fun _ => []) (fun F' _ => qDJ F' g T off l p hb.a0 hb.self hT))) rfl fun g6 _ => J.c hK2 <| J.M 0 1 ?_
  refine J.g fun K3 hK3 => J.p 2 rfl <| J.f (qAE rfl rfl) rfl <| J.f (qAA (j := off + 1) rfl rfl qC6 rfl qIb rfl) rfl <| J.f (qAF 0 rfl rfl rfl qOa ((qBk hoff0 (by omega)).trans hb.a1)) rfl <| J.b rfl <| J.u (qAH (l := [.tmp 12]) (xs := [[B8 b]]) rfl rfl rfl rfl qBP el5 rfl (by decide) (by decide) (by simp)) rfl fun g13 _ => J.u (qAb (i := 1) (m2 := blk g13 [B8 b] 5) rfl rfl rfl qBP qBP el5 rfl hb.row (by simp) (qAr (q := True) (xs := [[B8 b]]) rfl (by simp)).sl rfl (by omega) (by omega)) rfl ?_
  rintro ⟨A14, c14, m14⟩ h14
  try dsimp only at h14
  have hbp := qHU (bs' := bs ++ [b]) (A' := A14) (c' := c14) (mr' := m14) hb (by simpa [qAX] using h14) (qRu h14 (by omega))
  simp only [List.length_append, List.length_singleton] at hbp
  refine J.f (qAE rfl rfl) rfl <| J.f (qAA rfl rfl qC6 rfl qIb rfl) rfl <| J.c1 (qAc (i := 0) rfl rfl rfl rfl rfl qIb rfl (by rw [qCY hoff0]; exact hoff)) rfl rfl fun _ _ => J.c hK3 <| J.c6 [] trivial <| J.g fun K4 hK4 => J.b rfl <| J.c hK4 <| J.A 4 ?_
  exact J.D <| J.L hw0 rfl (_, m14) rfl ⟨A14, c14, hbp⟩ [0, 1, 2] rfl (by decide)
theorem qBb (F mr : Hp) (g T off : Nat) (l : List Value) (bs : List UInt8) (A : Option Addr) (c : Nat) (p : Option Addr) (hb : Bld g off l mr bs A c p) (hT : liesAt prog prog.depth T (l.length / prog.cellsOf T) off 186 1 = true) (s : List UInt8) (hlen : bs.length + s.length < 70368744177664) :
    Ct prog 109 [.pointer (some ⟨g, off, none⟩), Str s] [blk g l T, mr, F] (fun _ : List Value × Hp => .tuple #[I s.length, .nilIface]) (fun x => ∃ A c, Bld g off x.1 x.2 (bs ++ s) A c (some ⟨g, off, none⟩) ∧ Upd off l x.1) (fun x => [blk g x.1 T, x.2, F]) := by
  have hoff : off + 1 < l.length := (List.getElem?_eq_some_iff.1 hb.a1).1
  have hoff0 : off < l.length := by omega
  refine Ct.walk func109 rfl ntmps109 rfl (fun w0 hw0 => ?_)
  refine J.g fun K1 hK1 => J.p 2 rfl <| J.c hK1 <| J.M 0 1 ?_
  refine J.g fun K2 hK2 => J.b rfl <| J.u (qAB rfl rfl qSv (Ct.useA [blk g l T] [mr, F] (A' := fun _ : Unit => [blk g (qAw l off [.pointer (some ⟨g, off, none⟩)]) T]) (new := fun _ => []) (fun F' _ => qDJ F' g T off l p hb.a0 hb.self hT))) rfl fun g7 _ => J.c hK2 <| J.M 0 1 ?_
  refine J.g fun K3 hK3 => J.p 2 rfl <| J.f (qAE rfl rfl) rfl <| J.f (qAA (j := off + 1) rfl rfl qC6 rfl qIb rfl) rfl <| J.f (qAF 0 rfl rfl rfl qOa ((qBk hoff0 (by omega)).trans hb.a1)) rfl <| J.b rfl <| J.u (qLO (i := 1) rfl rfl rfl qBP u9_ el5 rfl hb.row (by omega) (by omega)) rfl ?_
  rintro ⟨A14, c14, m14⟩ h14
  try dsimp only at h14
  obtain ⟨h14, hcap⟩ := h14
  have hbp := qHU (bs' := bs ++ s) (A' := A14) (c' := c14) (mr' := m14) hb (by simpa [qAX] using h14) (hcap hb.cap)
  simp only [List.length_append] at hbp
  refine J.f (qAE rfl rfl) rfl <| J.f (qAA rfl rfl qC6 rfl qIb rfl) rfl <| J.c1 (qAc (i := 0) rfl rfl rfl rfl rfl qIb rfl (by rw [qCY hoff0]; exact hoff)) rfl rfl fun _ _ => J.c hK3 <| J.A 1 ?_
  refine J.g fun K4 hK4 => J.b rfl <| J.f (qA0 u9_ rfl rfl) rfl <| J.p 2 rfl <| J.c hK4 <| J.M 4 5 ?_
  exact J.D <| J.c2 hw0 (fun _ _ h => h) (qDb rfl rfl rfl) (qBD (_, m14) rfl ⟨A14, c14, hbp⟩ [0, 1, 2] rfl (by decide))
theorem qGa (F mr : Hp) (g T off : Nat) (l : List Value) (bs : List UInt8) (A : Option Addr) (c : Nat) (p : Option Addr) (hb : Bld g off l mr bs A c p)  (hlen : bs.length < 70368744177664) :
    Ct prog 111 [.pointer (some ⟨g, off, none⟩)] [blk g l T, mr, F] (fun _ : Hp => Str bs) (fun m => Bld g off l m bs A c p) (fun m => [blk g l T, m, F]) := by
  refine Ct.walk func111 rfl ntmps111 rfl (fun w0 hw0 => ?_)
  refine J.g fun K1 hK1 => J.b rfl <| J.c hK1 <| J.A 0 ?_
  refine J.k fun K2 hK2 => J.b5 [blk g l T, F] [] (.y 0 (.y 1 (.y 2 (.y 3 (.y 4 (.y 5 (.y 6 (.y 7 (.y 8 (.y 9 (.e 10 (.y 11 .nil)))))))))))) Tryz.wide (by decide +kernel) (by simp) ?_
  refine J.G ?_
  refine J.j rfl (qAE rfl rfl) rfl rfl <| J.j rfl (qAA rfl rfl qC6 rfl qIb rfl) rfl rfl <| J.j rfl (qAF 0 rfl rfl rfl qOa hb.a1) rfl rfl <| J.j rfl (qHz rfl rfl hb.cap) rfl rfl <| J.G ?_
  refine J.j rfl (qAE rfl rfl) rfl rfl <| J.j rfl (qAA rfl rfl qC6 rfl qIb rfl) rfl rfl <| J.j rfl (qAF 0 rfl rfl rfl qOa hb.a1) rfl rfl <| J.j rfl (qAZ qBP rfl rfl) rfl rfl <| J.a7 rfl (qFR (i := 1) rfl rfl rfl underlying265 rfl rfl hb.row (by omega)) rfl (by simp) ?_
  rintro m13 h13
  refine J.c0 ?_
  refine J.b4 <| J.q (J.H hK2 ?_)
  refine J.A 2 ?_
  exact J.D <| J.L hw0 rfl m13 rfl ⟨hb.a0, hb.self, hb.a1, h13, hb.cap⟩ [0, 1, 2] rfl (by decide)
theorem mnz (v : Value) (w : World) : (callFunc 189 #[v]).run prog w = (do let x ← Extern.BytealgMakeNoZero.makeNoZero #[3] #[88] #[v]; pure (.value x) : Sem Next).run prog w := by kernel_rfl
theorem qQR (F : Hp) (g T off : Nat) (l : List Value) (hl : l[off + 1]? = some (.slice none 0 0)) (n : Nat) (hn : n ≤ 70368744177664) :
    Ct prog 156 [.pointer (some ⟨g, off, none⟩), I n] [blk g l T, F] (fun _ : Nat × Nat × List Value => .tuple #[]) (fun x => n ≤ x.2.1 ∧ x.2.2.length = x.2.1) (fun x => [blk g (qAw l (off + 1) [.slice (some ⟨x.1, 0, none⟩) 0 x.2.1]) T, F, blk x.1 x.2.2 5]) := by
  have hoff : off + 1 < l.length := (List.getElem?_eq_some_iff.1 hl).1
  refine Ct.walk func156 rfl ntmps156 rfl (fun w0 hw0 => ?_)
  refine J.k fun K1 hK1 => J.b5 [blk g l T, F] [] (.y 0 (.y 1 (.y 2 (.y 3 (.y 4 (.y 5 (.y 6 (.y 7 (.y 9 (.y 10 (.y 11 (.y 12 (.y 13 (.e 8 (.y 14 (.y 15 .nil)))))))))))))))) Tryz.wide (by decide +kernel) (by simp) ?_
  refine J.G ?_
  refine J.j rfl (qAE rfl rfl) rfl rfl <| J.j rfl (qAA rfl rfl qC6 rfl qIb rfl) rfl rfl <| J.j rfl (qAF 0 rfl rfl rfl qOa hl) rfl rfl <| J.j rfl (qQw qBP rfl rfl) rfl rfl <| J.j rfl (qCD rfl rfl rfl (by omega)) rfl rfl <| J.G ?_
  refine J.j rfl ((qAO rfl rfl rfl (by omega)).as (v' := I n) (by simp)) rfl rfl <| J.G ?_
  refine J.j rfl (qAE rfl rfl) rfl rfl <| J.j rfl (qAA rfl rfl qC6 rfl qIb rfl) rfl rfl <| J.j rfl (qAF 0 rfl rfl rfl qOa hl) rfl rfl <| J.j rfl (qAZ qBP rfl rfl) rfl rfl <| J.a7 rfl (qTt rfl rfl mnz qBP (by omega)) rfl (by simp) ?_
  rintro ⟨g13, c13, l13⟩ h13
  try dsimp only at h13
  refine J.j rfl (qCe rfl rfl qBP z5_ rfl (by omega)) rfl rfl <| J.c0 ?_
  refine J.b4 <| J.q (J.H hK1 ?_)
  refine J.M 0 4 ?_
  refine J.g fun K2 hK2 => J.p 2 rfl <| J.f (qAE rfl rfl) rfl <| J.f (qAA rfl rfl qC6 rfl qIb rfl) rfl <| J.f (qAF 0 rfl rfl rfl qOa hl) rfl <| J.u (qPV rfl rfl rfl qBP el5) rfl fun g25 _ => J.c hK2 <| J.M 0 4 ?_
  exact J.E <| J.p 2 rfl <| J.f (qAE rfl rfl) rfl <| J.f (qAA rfl rfl qC6 rfl qIb rfl) rfl <| J.c1 (qAc (i := 0) rfl rfl rfl rfl rfl qIb rfl (by exact hoff)) rfl rfl fun _ _ => J.a2 <| J.e4 hw0 (fun _ _ h => h) (qLx rfl) (qBD (g13, c13, l13) rfl h13 [0, 1, 2] rfl (by decide))
theorem qQU (F : Hp) (g T off : Nat) (l : List Value) (p : Option Addr) (hb : Bld g off l (fun _ => none) [] none 0 p) (hT : liesAt prog prog.depth T (l.length / prog.cellsOf T) off 186 1 = true) (n : Nat) (hn : n ≤ 70368744177664) :
    Ct prog 108 [.pointer (some ⟨g, off, none⟩), I n] [blk g l T, fun _ => none, F] (fun _ : List Value × Hp => .tuple #[]) (fun x => ∃ A c, Bld g off x.1 x.2 ([]) A c (some ⟨g, off, none⟩) ∧ Upd off l x.1) (fun x => [blk g x.1 T, x.2, F]) := by
  have hoff : off + 1 < l.length := (List.getElem?_eq_some_iff.1 hb.a1).1
  have hoff0 : off < l.length := by omega
  refine Ct.walk func108 rfl ntmps108 rfl (fun w0 hw0 => ?_)
  refine J.g fun K1 hK1 => J.b rfl <| J.u (qAB rfl rfl qSv (Ct.useA [blk g l T] [(fun _ => none), F] (A' := fun _ : Unit => [blk g (qAw l off [.pointer (some ⟨g, off, none⟩)]) T]) (new := fun _ => []) (fun F' _ => qDJ F' g T off l p hb.a0 hb.self hT))) rfl fun g5 _ => J.c hK1 <| J.M 0 1 ?_
  refine J.k fun K2 hK2 => J.g fun K3 hK3 => J.b rfl <| J.f (qAS rfl rfl rfl) rfl <| J.c hK3 <| J.V 0 1 7 ?_
  refine J.e8 rfl ((by simp)) ?_
  refine J.a1 hK2 <| J.M 0 1 ?_
  refine J.k fun K4 hK4 => J.b5 [blk g (qAw l off [.pointer (some ⟨g, off, none⟩)]) T, (fun _ => none), F] [] (.y 0 (.y 1 (.y 2 (.y 3 (.y 4 (.y 5 (.y 6 (.y 7 (.y 8 (.y 9 (.y 10 (.y 11 (.y 12 .nil))))))))))))) Tryz.wide (by decide +kernel) (by simp) ?_
  refine J.G ?_
  refine J.j rfl (qAE rfl rfl) rfl rfl <| J.j rfl (qAA (j := off + 1) rfl rfl qC6 rfl qIb rfl) rfl rfl <| J.j rfl (qAF 0 rfl rfl rfl qOa ((qBk hoff0 (by omega)).trans hb.a1)) rfl rfl <| J.j rfl (qQw qBP rfl rfl) rfl rfl <| J.G ?_
  refine J.j rfl (qAE rfl rfl) rfl rfl <| J.j rfl (qAA (j := off + 1) rfl rfl qC6 rfl qIb rfl) rfl rfl <| J.j rfl (qAF 0 rfl rfl rfl qOa ((qBk hoff0 (by omega)).trans hb.a1)) rfl rfl <| J.j rfl (qAZ qBP rfl rfl) rfl rfl <| J.j rfl (qAs (a := 0) (b := 0) rfl rfl rfl (by omega)) rfl rfl <| J.G ?_
  refine J.j rfl (qAS rfl rfl rfl) rfl rfl <| J.b4 <| J.q (J.H hK4 ?_)
  refine J.V 0 1 21 ?_
  refine J.a0 rfl (fun h21 => ?_) (fun h21 => ?_)
  ·
    refine J.E <| J.p 2 rfl <| J.u (qAB rfl rfl ent156 (Ct.useA [blk g (qAw l off [.pointer (some ⟨g, off, none⟩)]) T] [fun _ => none, F] (A' := fun x : Nat × Nat × List Value => [blk g (qAw (qAw l off [.pointer (some ⟨g, off, none⟩)]) (off + 1) [.slice (some ⟨x.1, 0, none⟩) 0 x.2.1]) T]) (new := fun x => [blk x.1 x.2.2 5]) (fun F' _ => qQR F' g T off (qAw l off [.pointer (some ⟨g, off, none⟩)]) ((qBk hoff0 (by omega)).trans hb.a1) n hn))) rfl ?_
    rintro ⟨g24, c24, l24⟩ h24
    try dsimp only at h24
    refine J.a2 ?_
    have hbp := qHU (bs' := []) (A' := some ⟨g24, 0, none⟩) (c' := c24) (mr' := blk g24 l24 5) hb (qFE (xs := []) (rest := l24) (lo := 0) (hi := 0) rfl rfl (by simp) (by simpa using h24.2) (Nat.zero_le _) (.inl rfl)) (.inr (by omega))
    simp only [List.length_nil] at hbp
    exact J.e4 hw0 (fun _ _ h => h) (qLx rfl) (qBD (_, blk g24 l24 5) rfl ⟨some ⟨g24, 0, none⟩, c24, hbp⟩ [0, 3, 2] rfl (by decide))
  refine J.b7 ?_
  have hbp := qHU (bs' := []) (A' := none) (c' := 0) (mr' := fun _ => none) hb qB5.nil (.inl rfl)
  have e1 := qGE ((qBk (v := .pointer (some ⟨g, off, none⟩)) hoff0 (by omega)).trans hb.a1)
  simp only [List.length_nil] at e1 hbp
  rw [e1] at hbp
  exact J.e4 hw0 (fun _ _ h => h) (qLx rfl) (qBD (_, fun _ => none) rfl ⟨none, 0, hbp⟩ [0, 1, 2] rfl (by decide))
def qCF (sep : List UInt8) : List (List UInt8) → List UInt8
 | [] => []
 | a :: r => a ++ (r.map fun x => sep ++ x).flatten
theorem qIC : ∀ ls, qCF [] ls = ls.flatten
 | [] => rfl
 | a :: r => by simp [qCF]
def qC7 (ls : List (List UInt8)) : Nat := (ls.map List.length).sum
theorem qE9 (ls : List (List UInt8)) (k : Nat) {s : List UInt8} (h : ls[k]? = some s) : qC7 (ls.take (k + 1)) = qC7 (ls.take k) + s.length := by
 obtain ⟨hk, rfl⟩ := List.getElem?_eq_some_iff.1 h
 unfold qC7
 rw [List.take_succ_eq_append_getElem hk, List.map_append, List.sum_append]; rfl
theorem qDv (ls : List (List UInt8)) (k : Nat) : qC7 (ls.take k) ≤ qC7 ls := by
 unfold qC7
 conv => rhs; rw [← List.take_append_drop k ls, List.map_append, List.sum_append]
 omega
theorem qDG (sep : List UInt8) : ∀ (ls : List (List UInt8)), (qCF sep ls).length = qC7 ls + sep.length * (ls.length - 1)
 | [] => by simp [qCF, qC7]
 | a :: r => by
  have h : ∀ r : List (List UInt8), (r.map fun x => sep ++ x).flatten.length = (r.map List.length).sum + sep.length * r.length := by
   intro r
   induction r with
   | nil => rfl
   | cons x r ih =>
    simp only [List.map_cons, List.flatten_cons, List.length_append, List.sum_cons, List.length_cons, Nat.mul_add, ih]
    omega
  simp [qCF, qC7, h]; omega
theorem qGT (sep : List UInt8) (ls : List (List UInt8)) (k : Nat) {s : List UInt8} (h : ls[k + 1]? = some s) : qCF sep (ls.take (k + 2)) = qCF sep (ls.take (k + 1)) ++ sep ++ s := by
 cases ls with
 | nil => simp at h
 | cons a r =>
  simp only [List.getElem?_cons_succ] at h
  obtain ⟨hk, rfl⟩ := List.getElem?_eq_some_iff.1 h
  simp only [List.take_succ_cons, qCF]
  rw [List.take_succ_eq_append_getElem hk, List.map_append, List.flatten_append]
  simp only [List.map_cons, List.map_nil, List.flatten_cons, List.flatten_nil, List.append_nil, List.append_assoc]
theorem qGU (sep : List UInt8) (ls : List (List UInt8)) (k : Nat) : (qCF sep (ls.take (k + 1))).length ≤ (qCF sep ls).length := by
 rw [qDG, qDG]
 have h1 := qDv ls (k + 1)
 have h2 : (ls.take (k + 1)).length ≤ ls.length := by simp; omega
 have h3 : sep.length * ((ls.take (k + 1)).length - 1) ≤ sep.length * (ls.length - 1) := Nat.mul_le_mul_left _ (by omega)
 omega
theorem qPv : liesAt prog prog.depth 186 (2 / prog.cellsOf 186) 0 186 1 = true := by kernel_rfl
theorem qRp (a b M : Int) (hb : 0 < b) (h : a * b + b ≤ M) : a + 1 ≤ M / b := by
 rw [Int.le_ediv_iff_mul_le hb, Int.add_mul]; omega
theorem qP6 (F : Hp) (A : Option Addr) (n c : Nat) (sep : List UInt8) (hl : Sl F 1 A n c (qAL [])) :
    Ct prog 140 [.slice A n c, Str sep] [F] (fun _ : Unit => Str (qCF sep [])) (fun _ => True) (fun _ => [F]) := by
  have hn : n = 0 := hl.1.symm
  subst hn
  refine Ct.walk func140 rfl ntmps140 rfl (fun w0 hw0 => ?_)
  refine J.g fun K1 hK1 => J.b rfl <| J.c hK1 <| J.M 0 1 ?_
  refine J.k fun K2 hK2 => J.g fun K3 hK3 => J.b rfl <| J.f (qAZ qAn rfl rfl) rfl <| J.c hK3 <| J.V 0 1 12 ?_
  refine J.T <| J.g fun K4 hK4 => J.f (qAd rfl rfl rfl) rfl <| J.b rfl <| J.c hK4 <| J.W 0 1 12 13 ?_
  refine J.d1 ?_
  refine J.g fun K5 hK5 => J.b rfl <| J.c hK5 <| J.A 4 ?_
  exact J.D <| J.b3 <| J.a5 <| J.L hw0 rfl () rfl trivial [0] rfl (by decide)
theorem qP5 (F : Hp) (A : Option Addr) (n c : Nat) (s : List UInt8) (sep : List UInt8) (hl : Sl F 1 A n c (qAL [s])) :
    Ct prog 140 [.slice A n c, Str sep] [F] (fun _ : Unit => Str (qCF sep [s])) (fun _ => True) (fun _ => [F]) := by
  have hn : n = 1 := hl.1.symm
  subst hn
  refine Ct.walk func140 rfl ntmps140 rfl (fun w0 hw0 => ?_)
  refine J.g fun K1 hK1 => J.b rfl <| J.c hK1 <| J.M 0 1 ?_
  refine J.k fun K2 hK2 => J.g fun K3 hK3 => J.b rfl <| J.f (qAZ qAn rfl rfl) rfl <| J.c hK3 <| J.V 0 1 12 ?_
  refine J.T <| J.g fun K4 hK4 => J.f (qAd rfl rfl rfl) rfl <| J.b rfl <| J.c hK4 <| J.W 0 1 12 13 ?_
  refine J.e8 rfl (rfl) ?_
  refine J.g fun K5 hK5 => J.f (qAd rfl rfl rfl) rfl <| J.b rfl <| J.c hK5 <| J.V 0 1 15 ?_
  refine J.g6 rfl (rfl) ?_
  refine J.g fun K6 hK6 => J.b rfl <| J.f (qAG rfl rfl rfl qAn z9_ hl (by decide)) rfl <| J.f (qAK rfl rfl b9_ (by simp) (hl.elem (qAa (k := 0) rfl))) rfl <| J.b rfl <| J.c hK6 <| J.A 4 ?_
  exact J.D <| J.b3 <| J.a5 <| J.L hw0 rfl () (by simp [qCF]) trivial [0] rfl (by decide)
theorem qNc (F : Hp) (A : Option Addr) (n c : Nat) (ls : List (List UInt8)) (sep : List UInt8) (hl : Sl F 1 A n c (qAL ls)) (h2 : 2 ≤ n) (htot : (qCF sep ls).length ≤ 35184372088832) (hn47 : n ≤ 70368744177664) :
    Ct prog 140 [.slice A n c, Str sep] [F] (fun _ : Unit => Str (qCF sep ls)) (fun _ => True) (fun _ => [F]) := by
  have hlen : ls.length = n := by have := hl.1; simpa [qAL] using this
  have hjl := qDG sep ls
  rw [hlen] at hjl
  have hq : (sep.length : Int) * ((n : Int) - 1) = ((sep.length * (n - 1) : Nat) : Int) := by rw [Int.natCast_mul]; congr 1; omega
  have hB0 : ¬ 0 < (sep.length : Int) → sep.length * (n - 1) = 0 := fun h => by rw [show sep.length = 0 by omega, Nat.zero_mul]
  have hsm : sep.length ≤ 35184372088832 := by
    have : sep.length * 1 ≤ sep.length * (n - 1) := Nat.mul_le_mul_left _ (by omega)
    omega
  have hdiv : (sep.length : Int) + 1 ≤ 9223372036854775807 / ((n : Int) - 1) := qRp _ _ _ (by omega) (by rw [hq]; omega)
  have hnc := hl.2.1
  obtain ⟨B, hB⟩ : ∃ B, sep.length * (n - 1) = B := ⟨_, rfl⟩
  rw [hB] at hjl hq hB0
  generalize hD : (9223372036854775807 : Int) / ((n : Int) - 1) = D at hdiv
  have H2 : (0 : Int) ≤ 9223372036854775807 ∧ 0 < (n : Int) - 1 ∧ (9223372036854775807 : Int) ≤ 9223372036854775807 := by omega
  refine Ct.walk func140 rfl ntmps140 rfl (fun w0 hw0 => ?_)
  refine J.g fun K1 hK1 => J.b rfl <| J.c hK1 <| J.M 0 1 ?_
  refine J.k fun K2 hK2 => J.g fun K3 hK3 => J.b rfl <| J.f (qAZ qAn rfl rfl) rfl <| J.c hK3 <| J.V 0 1 12 ?_
  refine J.T <| J.g fun K4 hK4 => J.f (qAd rfl rfl rfl) rfl <| J.b rfl <| J.c hK4 <| J.W 0 1 12 13 ?_
  refine J.e8 rfl ((by simp; omega)) ?_
  refine J.g fun K5 hK5 => J.f (qAd rfl rfl rfl) rfl <| J.b rfl <| J.c hK5 <| J.V 0 1 15 ?_
  refine J.e8 rfl ((by simp; omega)) ?_
  refine J.b7 <| J.a4 <| J.q (J.H hK2 ?_)
  refine J.M 0 1 ?_
  refine J.g fun K6 hK6 => J.b rfl <| J.c hK6 <| J.V 0 1 5 ?_
  refine J.e5 (fun _ : Unit => [(0, .slice A n c), (1, Str sep), (5, I (B : Int))]) (fun _ => [F]) (fun _ => True) (fun K7 hK7 => ?_) ?_
  ·
    refine J.g fun K8 hK8 => J.b rfl <| J.f (qA0 u9_ rfl rfl) rfl <| J.f (qBJ rfl rfl rfl) rfl <| J.c hK8 <| J.W 0 1 5 22 ?_
    refine J.a0 rfl (fun h22 => ?_) (fun h22 => ?_)
    ·
      refine J.k fun K9 hK9 => J.g fun K10 hK10 => J.b rfl <| J.f (qA0 u9_ rfl rfl) rfl <| J.b rfl <| J.f (qAZ qAn rfl rfl) rfl <| J.f (qAs rfl rfl rfl (by omega)) rfl <| J.f ((qJv rfl rfl rfl H2).as (congrArg I hD)) rfl <| J.f (qBG rfl rfl rfl) rfl <| J.c hK10 <| J.W 0 1 5 29 ?_
      refine J.e8 rfl ((by simp; omega)) ?_
      refine J.a1 hK9 <| J.V 0 1 5 ?_
      exact J.E <| J.p 2 rfl <| J.f (qA0 u9_ rfl rfl) rfl <| J.b rfl <| J.f (qAZ qAn rfl rfl) rfl <| J.f (qAs rfl rfl rfl (by omega)) rfl <| J.f ((qCD rfl rfl rfl (by rw [hq]; omega)).as (v' := I (B : Int)) (by rw [hq])) rfl <| J.f ((qAO rfl rfl rfl (by omega)).as (v' := I (B : Int)) (by simp)) rfl <| J.b rfl <| J.a2 <| J.q <| J.a6 () hK7 trivial ⟨rfl, rfl, rfl, trivial⟩ (fun _ h => h)
    exact J.b7 <| J.q <| J.a6 () hK7 trivial ⟨rfl, rfl, by rw [hB0 h22]; rfl, trivial⟩ (fun _ h => h)
  rintro _ _
  refine J.k fun K11 hK11 => J.g fun K12 hK12 => J.b rfl <| J.f (qAZ qAn rfl rfl) rfl <| J.b rfl <| J.c hK12 <| J.a9 0 1 5 39 40 41 ?_
  refine J.T <| J.b2 (fun k : Nat => [(0, .slice A n c), (1, Str sep), (5, I ((B + qC7 (ls.take k) : Nat) : Int)), (39, .slice A n c), (40, I n), (41, I k)]) (fun _ => [F]) (fun k => k ≤ n) (fun k => n - k) 0 (Nat.zero_le _) ⟨rfl, rfl, rfl, rfl, rfl, rfl, trivial⟩ (fun _ h => h) ?_
  intro k hk I1 hI1
  refine J.g fun K13 hK13 => J.f (qAS rfl rfl rfl) rfl <| J.c hK13 <| J.b9 0 1 5 39 40 41 42 ?_
  refine J.k fun K14 hK14 => J.a0 rfl (fun h42 => ?_) (fun h42 => ?_)
  ·
    refine J.a1 hK14 <| J.a9 0 1 5 39 40 41 ?_
    refine J.k fun K15 hK15 => J.T <| J.k fun K16 hK16 => ?_
    have hkn : k < n := by omega
    obtain ⟨s, hs⟩ : ∃ s, ls[k]? = some s := ⟨_, List.getElem?_eq_getElem (by omega)⟩
    have hst := qE9 ls k hs
    have hst2 := qDv ls (k + 1)
    refine J.E <| J.f (qAG rfl rfl rfl qAn z9_ hl hkn) rfl <| J.f (qAK rfl rfl b9_ (by simp) (hl.elem (qAa hs))) rfl <| J.b rfl <| J.c hK16 <| J.b9 0 1 5 7 39 40 41 ?_
    refine J.k fun K17 hK17 => J.g fun K18 hK18 => J.b rfl <| J.f (qA0 u9_ rfl rfl) rfl <| J.b rfl <| J.f (qAs rfl rfl rfl (by omega)) rfl <| J.f (qBJ rfl rfl rfl) rfl <| J.c hK18 <| J.d2 0 1 5 7 39 40 41 49 ?_
    refine J.e8 rfl ((by simp; omega)) ?_
    refine J.a1 hK17 <| J.b9 0 1 5 7 39 40 41 ?_
    refine J.E <| J.p 2 rfl <| J.f (qA0 u9_ rfl rfl) rfl <| J.f (qAO rfl rfl rfl (by omega)) rfl <| J.b rfl <| J.a2 <| J.a4 <| J.q (J.H hK15 ?_)
    refine J.a9 0 1 5 39 40 41 ?_
    exact J.E <| J.f (qAO rfl rfl rfl (by omega)) rfl <| J.b rfl <| J.a2 <| J.q <| J.a6 (k + 1) (fun x (hx : x ≤ n ∧ n - x < n - k) => hI1 x hx.1 hx.2) ⟨by omega, by omega⟩ ⟨rfl, rfl, by rw [hst]; exact congrArg (fun z => some (I z)) (by omega), rfl, rfl, rfl, trivial⟩ (fun _ h => h)
  refine J.b0 <| J.Z <| J.Z <| J.b1 ?_
  refine J.q (J.H hK11 ?_)
  refine J.V 0 1 5 ?_
  refine J.g fun K19 hK19 => J.u (qAf rfl zeroValue186 rfl) rfl fun g8 _ => J.d6 [1, 2, 0] [blk g8 [.pointer none, .slice none 0 0] 186, fun _ => none, F] rfl (by decide) <| J.c hK19 <| J.W 0 1 5 8 ?_
  refine J.k fun K20 hK20 => ?_
  have hst3 := qDv ls k
  refine J.E <| J.b rfl <| J.u (qAB rfl rfl ent108 (qQU F g8 186 0 [.pointer none, .slice none 0 0] none ⟨rfl, .inl rfl, rfl, qB5.nil, .inl rfl⟩ qPv _ (by omega))) rfl ?_
  rintro ⟨l57, m57⟩ ⟨A57, c57, hb57, hu57⟩
  dsimp only at hb57 hu57
  obtain ⟨s0, hs0⟩ : ∃ s0, ls[0]? = some s0 := ⟨_, List.getElem?_eq_getElem (by omega)⟩
  have hs0l : s0.length ≤ qC7 ls := by have h1 := qE9 ls 0 hs0; have h2 := qDv ls 1; simp only [Nat.zero_add] at h1; omega
  refine J.c hK20 <| J.V 0 1 8 ?_
  refine J.g fun K21 hK21 => J.b rfl <| J.f (qAG (i := 0) rfl rfl rfl qAn z9_ hl (by omega)) rfl <| J.f (qAK rfl rfl b9_ (by simp) (hl.elem (qAa hs0))) rfl <| J.u (qAB rfl rfl ent109 (qBb F m57 g8 186 0 l57 [] A57 c57 _ hb57 (by rw [hu57.1]; exact qPv) s0 (by simp; omega))) rfl ?_
  rintro ⟨l61, m61⟩ ⟨A61, c61, hb61, hu61⟩
  dsimp only at hb61 hu61
  have hb61 : Bld g8 0 l61 m61 (qCF sep (ls.take 1)) A61 c61 (some ⟨g8, 0, none⟩) := by
    have e : qCF sep (ls.take 1) = [] ++ s0 := by cases ls with
      | nil => simp at hs0
      | cons a r => simp at hs0; subst hs0; simp [qCF]
    rw [e]; exact hb61
  refine J.c hK21 <| J.V 0 1 8 ?_
  refine J.k fun K22 hK22 => J.g fun K23 hK23 => J.b rfl <| J.f (qCu (l := 1) (h := n) rfl rfl qAn z9_ rfl rfl (by omega)) rfl <| J.f (qAZ qAn rfl rfl) rfl <| J.b rfl <| J.c hK23 <| J.a3 1 8 63 64 65 ?_
  refine J.T <| J.b2 (X := Nat × List Value × Hp × Option Addr × Nat) (fun x => [(1, Str sep), (8, Ptr g8), (63, _), (64, I (n - 1 : Nat)), (65, I x.1)]) (fun x => [blk g8 x.2.1 186, x.2.2.1, F]) (fun x => x.1 ≤ n - 1 ∧ x.2.1.length = 2 ∧ Bld g8 0 x.2.1 x.2.2.1 (qCF sep (ls.take (x.1 + 1))) x.2.2.2.1 x.2.2.2.2 (some ⟨g8, 0, none⟩)) (fun x => n - 1 - x.1) (0, l61, m61, A61, c61) (⟨Nat.zero_le _, by rw [hu61.1, hu57.1]; rfl, hb61⟩) ⟨rfl, rfl, rfl, rfl, rfl, trivial⟩ (fun _ h => h) ?_
  rintro ⟨k, l, m, A1, c1⟩ ⟨hk, hll, hb⟩ I3 hI3
  dsimp only at hk hll hb ⊢
  have hl2 := hl.cut (lo := 1) (hi := n) (mx := c) (by omega) (Nat.le_refl _) hl.2.1
  refine J.g fun K24 hK24 => J.f (qAS rfl rfl rfl) rfl <| J.c hK24 <| J.a9 1 8 63 64 65 66 ?_
  refine J.k fun K25 hK25 => J.a0 rfl (fun h66 => ?_) (fun h66 => ?_)
  ·
    refine J.a1 hK25 <| J.a3 1 8 63 64 65 ?_
    refine J.k fun K26 hK26 => J.T <| J.k fun K27 hK27 => ?_
    have hkn : k + 1 < n := by omega
    obtain ⟨s, hs⟩ : ∃ s, ls[k + 1]? = some s := ⟨_, List.getElem?_eq_getElem (by omega)⟩
    have hs2 : ((((qAL ls).take n).drop 1))[k]? = some [Str s] := by rw [List.getElem?_drop, List.getElem?_take, Nat.add_comm 1 k, if_pos hkn]; exact qAa hs
    have hj1 := qGU sep ls (k + 1)
    rw [qGT sep ls k hs] at hj1
    simp only [List.length_append] at hj1
    refine J.E <| J.f (qAG rfl rfl rfl qAn z9_ hl2 (by omega)) rfl <| J.f (qAK rfl rfl b9_ (by simp) (hl2.elem hs2)) rfl <| J.b rfl <| J.c hK27 <| J.a9 1 8 10 63 64 65 ?_
    refine J.g fun K28 hK28 => J.b rfl <| J.u (qAB rfl rfl ent109 (qBb F m g8 186 0 l _ A1 c1 _ hb (by rw [hll]; exact qPv) sep (by omega))) rfl ?_
    rintro ⟨l70, m70⟩ ⟨A70, c70, hb70, hu70⟩
    dsimp only at hb70 hu70
    refine J.c hK28 <| J.a9 1 8 10 63 64 65 ?_
    refine J.E <| J.b rfl <| J.u (qAB rfl rfl ent109 (qBb F m70 g8 186 0 l70 _ A70 c70 _ hb70 (by rw [hu70.1, hll]; exact qPv) s (by simp; omega))) rfl ?_
    rintro ⟨l72, m72⟩ ⟨A72, c72, hb72, hu72⟩
    dsimp only at hb72 hu72
    rw [← qGT sep ls k hs] at hb72
    refine J.a2 <| J.a4 <| J.q (J.H hK26 ?_)
    refine J.a3 1 8 63 64 65 ?_
    refine J.E <| J.f (qAO rfl rfl rfl (by omega)) rfl <| J.b rfl <| J.a2 <| J.q <| J.a6 (k + 1, l72, m72, A72, c72) (fun x (hx : _ ∧ n - 1 - x.1 < n - 1 - k) => hI3 x hx.1 hx.2) ⟨⟨by dsimp only; omega, by rw [hu72.1, hu70.1]; exact hll, hb72⟩, by dsimp only; omega⟩ ⟨rfl, rfl, rfl, rfl, rfl, trivial⟩ (fun _ h => h)
  refine J.b0 <| J.Z <| J.Z <| J.b1 ?_
  refine J.q (J.H hK22 ?_)
  refine J.A 8 ?_
  refine J.k fun K29 hK29 => ?_
  have hend : qCF sep (ls.take (k + 1)) = qCF sep ls := by rw [List.take_of_length_le (by omega)]
  have hj1 := qGU sep ls k
  refine J.E <| J.u (qAB rfl rfl ent111 (qGa F m g8 186 0 l _ A1 c1 _ hb (by omega))) rfl ?_
  rintro m74 h74
  refine J.b rfl <| J.c hK29 <| J.A 4 ?_
  exact J.D <| J.L hw0 rfl () (by rw [hend]) trivial [2] rfl (by decide)
theorem qSn (F : Hp) (A : Option Addr) (n c : Nat) (ls : List (List UInt8)) (sep : List UInt8) (hl : Sl F 1 A n c (qAL ls)) (htot : (qCF sep ls).length ≤ 35184372088832) (hn47 : n ≤ 70368744177664) :
    Ct prog 140 [.slice A n c, Str sep] [F] (fun _ : Unit => Str (qCF sep ls)) (fun _ => True) (fun _ => [F]) := by
  have hlen : ls.length = n := by have := hl.1; simpa [qAL] using this
  match ls, hl, htot, hlen with
  | [], hl, _, _ => exact qP6 F A n c sep hl
  | [s], hl, _, _ => exact qP5 F A n c s sep hl
  | a :: b :: r, hl, htot, hlen => exact qNc F A n c _ sep hl (by simp at hlen; omega) htot hn47
theorem ent140 : qAC prog 140 := qAC.of func140 rfl (by kernel_rfl)
def small (r : Nat) : Nat := if 65 ≤ r ∧ r ≤ 90 ∨ 913 ≤ r ∧ r ≤ 937 ∧ r ≠ 930 ∨ 1040 ≤ r ∧ r ≤ 1071 then r + 32 else r
def qHX (r : Nat) : Nat := if 97 ≤ small r ∧ small r ≤ 122 then 1 else if 945 ≤ small r ∧ small r ≤ 969 then 2 else if 1072 ≤ small r ∧ small r ≤ 1103 then 4 else 0
def qGF (r : Nat) : Bool := decide (r = 46 ∨ r = 45 ∨ r = 95 ∨ r = 64)
def qMd (c : UInt8) : Bool := qGF c.toNat
def qHY (l : List Nat) (b : Nat) : Nat := l.foldl (fun b r => b ||| qHX r) b
def good (b : Nat) : Bool := decide (b = 0 ∨ b = 1 ∨ b = 2 ∨ b = 4)
theorem qOx (r : Nat) : small r ≤ r + 32 := by unfold small; split <;> omega
theorem qPB {r : Nat} (h : Rn r) : Rn (small r) := by
 obtain ⟨h1, h2⟩ := h
 unfold small Rn
 split <;> omega
theorem qI7 (r : Nat) : qHX r < 8 := by
 unfold qHX; repeat' split
 all_goals omega
theorem qOK : ∀ (l : List Nat) (b : Nat), b < 8 → qHY l b < 8
 | [], _, h => h
 | r :: l, b, h => qOK l (b ||| qHX r) (Nat.or_lt_two_pow (n := 3) h (qI7 r))
theorem qQZ (l m : List Nat) (b : Nat) : qHY (l ++ m) b = qHY m (qHY l b) := List.foldl_append
def spl : List UInt8 → List UInt8 → List (List UInt8)
 | cur, [] => [cur]
 | cur, c :: t => if qMd c then cur :: spl [] t else spl (cur ++ [c]) t
def qOV : List Nat → List Nat → List (List Nat)
 | cur, [] => [cur]
 | cur, r :: t => if qGF r then cur :: qOV [] t else qOV (cur ++ [r]) t
theorem qRh {c : UInt8} (h : qMd c = true) (cur t : List UInt8) : spl cur (c :: t) = cur :: spl [] t := by rw [spl, if_pos h]
theorem qFC : ∀ (p : List UInt8), (∀ c ∈ p, qMd c = false) → ∀ cur t, spl cur (p ++ t) = spl (cur ++ p) t
 | [], _, cur, t => by rw [List.append_nil]; rfl
 | c :: p, h, cur, t => by
  rw [List.cons_append, spl, if_neg (by rw [h c (.head _)]; decide), qFC p (fun x hx => h x (.tail _ hx)), List.append_assoc]; rfl
theorem qJC {r : Nat} (h : Rn r) (hb : 128 ≤ r) : ∀ c ∈ enc r, 128 ≤ c.toNat := by
  have := h.1
  intro c hc
  unfold enc at hc
  rw [if_neg (by omega)] at hc
  split at hc
  · rcases List.mem_cons.1 hc with rfl | hc
    · rw [b8 (by omega)]; omega
    · rw [List.mem_singleton.1 hc, b8 (by omega)]; omega
  split at hc
  · rcases List.mem_cons.1 hc with rfl | hc
    · rw [b8 (by omega)]; omega
    rcases List.mem_cons.1 hc with rfl | hc
    · rw [b8 (by omega)]; omega
    · rw [List.mem_singleton.1 hc, b8 (by omega)]; omega
  · rcases List.mem_cons.1 hc with rfl | hc
    · rw [b8 (by omega)]; omega
    rcases List.mem_cons.1 hc with rfl | hc
    · rw [b8 (by omega)]; omega
    rcases List.mem_cons.1 hc with rfl | hc
    · rw [b8 (by omega)]; omega
    · rw [List.mem_singleton.1 hc, b8 (by omega)]; omega
theorem qGr {c : UInt8} (h : 128 ≤ c.toNat) : qMd c = false := by unfold qMd qGF; exact decide_eq_false (by omega)
theorem qOr {s : List UInt8} (h : s ≠ []) (hs : qGF (dec s 0).1 = true) : (dec s 0).2 = 1 ∧ ∃ c t, s = c :: t ∧ qMd c = true ∧ c.toNat = (dec s 0).1 := by
  by_cases ho : dec s 0 = (65533, 1)
  · rw [ho] at hs; exact absurd hs (by decide)
  · obtain ⟨r, t, hr, rfl, hd⟩ := qIP h ho
    rw [hd] at hs ⊢
    dsimp only at hs ⊢
    have hr2 : r < 128 := by unfold qGF at hs; rw [decide_eq_true_eq] at hs; omega
    rw [qCH hr2]
    refine ⟨rfl, _, _, rfl, ?_, b8 (by omega)⟩
    unfold qMd; rw [b8 (by omega)]; exact hs
theorem qOs {s : List UInt8} (h : s ≠ []) (hs : qGF (dec s 0).1 = false) : ∀ c ∈ s.take (dec s 0).2, qMd c = false := by
  by_cases ho : dec s 0 = (65533, 1)
  · rw [ho]
    obtain ⟨x, t, rfl⟩ := List.exists_cons_of_ne_nil h
    intro c hc
    rw [show (x :: t).take 1 = [x] from rfl, List.mem_singleton] at hc
    subst hc
    refine qGr ?_
    by_cases hx : c.toNat < 128
    · have := qFi (r := c.toNat) ⟨by omega, by omega⟩ t
      rw [qCH hx, b8e rfl] at this
      rw [show [c] ++ t = c :: t from rfl, ho] at this
      have := congrArg Prod.fst this
      dsimp only at this
      omega
    · omega
  · obtain ⟨r, t, hr, rfl, hd⟩ := qIP h ho
    rw [hd] at hs ⊢
    dsimp only at hs ⊢
    rw [List.take_left]
    by_cases hr2 : r < 128
    · rw [qCH hr2]
      intro c hc
      rw [List.mem_singleton.1 hc]; unfold qMd; rw [b8 (by omega)]; exact hs
    · exact fun c hc => qGr (qJC hr (by omega) c hc)
theorem qMX : ∀ (l : List Nat), (∀ r ∈ l, Rn r) → ∀ cur, spl (unr cur) (unr l) = (qOV cur l).map unr
  | [], _, cur => rfl
  | r :: l, h, cur => by
    have hr := h r (.head _)
    have ih := qMX l (fun x hx => h x (.tail _ hx))
    rw [qB8, qOV]
    by_cases hs : qGF r = true
    · have hr2 : r < 128 := by unfold qGF at hs; rw [decide_eq_true_eq] at hs; omega
      rw [if_pos hs, qCH hr2, List.map_cons, ← ih []]
      rw [show [UInt8.ofNat r] ++ unr l = UInt8.ofNat r :: unr l from rfl, spl, if_pos (by unfold qMd; rw [b8 (by omega)]; exact hs)]; rfl
    · rw [if_neg hs, ← ih, qFC, qKu]
      · rw [show unr [r] = enc r from List.append_nil _]
      · by_cases hr2 : r < 128
        · rw [qCH hr2]
          intro c hc
          rw [List.mem_singleton.1 hc]; unfold qMd; rw [b8 (by omega)]; exact Bool.eq_false_iff.2 hs
        · exact fun c hc => qGr (qJC hr (by omega) c hc)
theorem qGk : ∀ (l cur : List Nat) (p : List Nat), p ∈ qOV cur l → ∀ r ∈ p, r ∈ cur ∨ r ∈ l
  | [], cur, p, h, r, hr => by rw [qOV, List.mem_singleton] at h; subst h; exact .inl hr
  | x :: l, cur, p, h, r, hr => by
    rw [qOV] at h
    split at h
    · rcases List.mem_cons.1 h with rfl | h
      · exact .inl hr
      · rcases qGk l [] p h r hr with h | h
        · cases h
        · exact .inr (.tail _ h)
    · rcases qGk l _ p h r hr with h | h
      · rcases List.mem_append.1 h with h | h
        · exact .inl h
        · rw [List.mem_singleton.1 h]; exact .inr (.head _)
      · exact .inr (.tail _ h)
def okR (r : Nat) : Bool := decide (qHX r ≠ 0 ∨ 48 ≤ r ∧ r ≤ 57) || qGF r
def okP (p : List UInt8) : Bool := decide (p ≠ []) && good (qHY (rl p) 0)
def right (s : List UInt8) : Bool := (rl s).all okR && (spl [] s).all okP && decide (s.count 64 ≤ 1)
def normal (s : List UInt8) : List UInt8 × Nat :=
 if vld s = true then (if (rl s).length ≤ 64 then (if right s = true then (unr ((rl s).map small), 0) else ([], 5)) else ([], 2)) else ([], 4)
def qQm : Nat → Nat → Bool → List Nat → Bool
  | ats, bits, sm, [] => sm && good bits && decide (ats ≤ 1)
  | ats, bits, sm, r :: t => if qGF r = true then sm && good bits && qQm (if r = 64 then ats + 1 else ats) 0 false t
      else decide (qHX r ≠ 0 ∨ 48 ≤ r ∧ r ≤ 57) && qQm ats (bits ||| qHX r) true t
theorem qIh : ∀ (l : List Nat) (ats : Nat) (cur : List Nat),
    qQm ats (qHY cur 0) (decide (cur ≠ [])) l = (l.all okR && (qOV cur l).all (fun p => decide (p ≠ []) && good (qHY p 0)) && decide (ats + l.count 64 ≤ 1))
  | [], ats, cur => by
    rw [qQm, qOV, List.all_nil, Bool.true_and, List.all_cons, List.all_nil, Bool.and_true, List.count_nil, Nat.add_zero]
  | r :: l, ats, cur => by
    rw [qQm, qOV]
    by_cases hs : qGF r = true
    · rw [if_pos hs, if_pos hs]
      have := qIh l (if r = 64 then ats + 1 else ats) []
      rw [show qHY [] 0 = 0 from rfl, show decide (([] : List Nat) ≠ []) = false from rfl] at this
      rw [this, List.all_cons, List.all_cons, show okR r = true from by unfold okR; rw [hs, Bool.or_true]]
      have e : decide ((if r = 64 then ats + 1 else ats) + l.count 64 ≤ 1) = decide (ats + (r :: l).count 64 ≤ 1) := by
        rw [List.count_cons]
        by_cases h : r = 64
        · subst h; rw [if_pos rfl]; simp only [beq_self_eq_true, if_true]; exact decide_eq_decide.2 (by omega)
        · rw [if_neg h, if_neg (by rw [beq_iff_eq]; exact h)]; rfl
      rw [e, Bool.true_and]
      cases decide (cur ≠ []) <;> cases good (qHY cur 0) <;> cases l.all okR <;> simp
    · rw [if_neg hs, if_neg hs]
      have := qIh l ats (cur ++ [r])
      rw [qQZ, show qHY [r] (qHY cur 0) = qHY cur 0 ||| qHX r from rfl, show decide (cur ++ [r] ≠ []) = true from decide_eq_true (by simp)] at this
      rw [this, List.all_cons, show okR r = decide (qHX r ≠ 0 ∨ 48 ≤ r ∧ r ≤ 57) from by unfold okR; rw [Bool.eq_false_iff.2 hs, Bool.or_false]]
      have e : (r :: l).count 64 = l.count 64 := by
        rw [List.count_cons, if_neg, Nat.add_zero]
        intro h
        rw [beq_iff_eq] at h; subst h; exact hs rfl
      rw [e, Bool.and_assoc, Bool.and_assoc, Bool.and_assoc]
theorem qNr {r : Nat} (h : Rn r) : (enc r).count 64 = if r = 64 then 1 else 0 := by
  by_cases hr : r < 128
  · rw [qCH hr, List.count_singleton]
    by_cases h4 : r = 64
    · subst h4; rfl
    · rw [if_neg h4, if_neg]
      rw [beq_iff_eq]; intro e
      have := congrArg UInt8.toNat e
      rw [b8 (by omega)] at this
      exact h4 this
  · rw [if_neg (by omega)]
    refine List.count_eq_zero.2 fun hm => ?_
    have := qJC h (by omega) _ hm
    exact absurd this (by decide)
theorem qHe : ∀ (l : List Nat), (∀ r ∈ l, Rn r) → (unr l).count 64 = l.count 64
 | [], _ => rfl
 | r :: l, h => by
  rw [qB8, List.count_append, qHe l (fun x hx => h x (.tail _ hx)), qNr (h r (.head _)), List.count_cons, Nat.add_comm]
  simp only [beq_iff_eq]
theorem qTZ {l : List Nat} (h : l ≠ []) : unr l ≠ [] := by
 obtain ⟨r, t, rfl⟩ := List.exists_cons_of_ne_nil h
 rw [qB8]; simp [qFf]
theorem qOL {α : Type} {f g : α → Bool} : ∀ {l : List α}, (∀ x ∈ l, f x = g x) → l.all f = l.all g
 | [], _ => rfl
 | x :: l, h => by rw [List.all_cons, List.all_cons, h x (.head _), qOL (fun y hy => h y (.tail _ hy))]
theorem qMp {l : List Nat} (h : ∀ r ∈ l, Rn r) : right (unr l) = qQm 0 0 false l := by
 have := qIh l 0 []
 rw [show qHY [] 0 = 0 from rfl, show decide (([] : List Nat) ≠ []) = false from rfl] at this
 rw [this]
 unfold right
 have e := qMX l h []
 rw [show unr [] = [] from rfl] at e
 rw [qR1 h, e, qHe l h, Nat.zero_add, List.all_map]
 congr 2
 refine qOL fun p hp => ?_
 have hp2 : ∀ r ∈ p, Rn r := fun r hr => by
  rcases qGk l [] p hp r hr with h' | h'
  · cases h'
  · exact h r h'
 show okP (unr p) = _
 unfold okP
 rw [qR1 hp2]
 congr 1
 by_cases h0 : p = []
 · subst h0; rfl
 · rw [decide_eq_true (qTZ h0), decide_eq_true h0]
theorem qLR {l : List Nat} (h : ∀ r ∈ l, Rn r) : normal (unr l) = if l.length ≤ 64 then (if qQm 0 0 false l = true then (unr (l.map small), 0) else ([], 5)) else ([], 2) := by
 unfold normal
 rw [if_pos (qTU h), qR1 h, qMp h]
theorem qFg {s : List UInt8} {p : Nat} (h : p < s.length) : s.drop p ≠ [] := fun e => by
 have := congrArg List.length e
 rw [List.length_drop, List.length_nil] at this; omega
theorem qUN {s : List UInt8} {p : Nat} (h : p < s.length) : Rn (dec s p).1 := by
  rw [qDQ (by omega)]
  by_cases ho : dec (s.drop p) 0 = (65533, 1)
  · rw [ho]; exact ⟨by decide, by decide⟩
  · obtain ⟨r, t, hr, _, hd⟩ := qIP (qFg h) ho
    rw [hd]; exact hr
theorem qSy {s : List UInt8} {p : Nat} (h : p < s.length) (hn : (dec s p).1 ≠ 65533) : (enc (dec s p).1).length = (dec s p).2 := by
 rw [qDQ (by omega)] at hn ⊢
 obtain ⟨r, t, hr, _, hd⟩ := qIP (qFg h) (fun ho => by rw [ho] at hn; exact hn rfl)
 rw [hd]
theorem qOu {s : List UInt8} {p : Nat} (h : p < s.length) (cur : List UInt8) (hs : qGF (dec s p).1 = true) : spl cur (s.drop p) = cur :: spl [] (s.drop (qF1 s p)) := by
 have hd := qDQ (s := s) (pos := p) (by omega)
 rw [hd] at hs
 obtain ⟨h1, c, t, e, hc, _⟩ := qOr (qFg h) hs
 rw [qDC h, hd, h1, ← List.drop_drop, e, qRh hc]; rfl
theorem qFy {s : List UInt8} {p : Nat} (h : p < s.length) (cur : List UInt8) (hs : qGF (dec s p).1 = false) : spl cur (s.drop p) = spl (cur ++ (s.take (p + (dec s p).2)).drop p) (s.drop (qF1 s p)) := by
 have hd := qDQ (s := s) (pos := p) (by omega)
 have e : (s.take (p + (dec s p).2)).drop p = (s.drop p).take (dec s p).2 := by rw [List.drop_take]; congr 1; omega
 rw [e, qDC h, ← List.drop_drop]
 rw [hd] at hs ⊢
 rw [← qFC _ (qOs (qFg h) hs), List.take_append_drop]
theorem qPy (ds : List (List UInt8)) (cur q : List UInt8) {n : Nat} (h : n = ds.length) : (ds ++ [cur]).set n ((ds ++ [cur]).getD n [] ++ q) = ds ++ [cur ++ q] := by
 subst h
 rw [List.getD_eq_getElem?_getD, List.getElem?_append_right (Nat.le_refl _), List.set_append_right _ _ (Nat.le_refl _), Nat.sub_self]; rfl
theorem qPX : ∀ b, b < 8 → (b &&& (b - 1) = 0 ↔ good b = true) := by decide
theorem qP0 (ds : List (List UInt8)) (cur : List UInt8) : (ds ++ [cur]).getD ds.length [] = cur := by
 rw [List.getD_eq_getElem?_getD, List.getElem?_append_right (Nat.le_refl _), Nat.sub_self]; rfl
theorem qEJ : ∀ (t cur : List UInt8) (q : List UInt8), q ∈ spl cur t → q.length ≤ cur.length + t.length
  | [], cur, q, h => by rw [spl, List.mem_singleton] at h; subst h; exact Nat.le_refl _
  | c :: t, cur, q, h => by
    rw [spl] at h
    rw [List.length_cons]
    split at h
    · rcases List.mem_cons.1 h with rfl | h
      · omega
      · have := qEJ t [] q h; rw [List.length_nil] at this; omega
    · have := qEJ t _ q h; rw [List.length_append, List.length_cons, List.length_nil] at this; omega
theorem qRi (s : List UInt8) (k : Nat) : ((spl [] s).getD k []).length ≤ s.length := by
  by_cases h : k < (spl [] s).length
  · have := qEJ s [] ((spl [] s).getD k []) (by rw [List.getD_eq_getElem?_getD, List.getElem?_eq_getElem h]; exact List.getElem_mem h)
    rw [List.length_nil] at this; omega
  · rw [List.getD_eq_getElem?_getD, List.getElem?_eq_none (by omega)]; exact Nat.zero_le _
theorem qOp {l : List (List UInt8)} {f : List UInt8 → Bool} {k : Nat} (h : k < l.length) : (l.take (k + 1)).all f = ((l.take k).all f && f (l.getD k [])) := by
 rw [List.take_add_one, List.getD_eq_getElem?_getD, List.getElem?_eq_getElem h, List.all_append]; simp
theorem qKM {l : List (List UInt8)} {f : List UInt8 → Bool} {k : Nat} (h : k < l.length) (hf : f (l.getD k []) = false) : l.all f = false := by
 rw [List.getD_eq_getElem?_getD, List.getElem?_eq_getElem h] at hf
 rw [List.all_eq_false]; exact ⟨l[k], List.getElem_mem h, by simpa using hf⟩
theorem qHF {r : Nat} (h : qGF r = true) : okR r = true := by unfold okR; rw [h, Bool.or_true]
theorem qHE {r : Nat} (h : qHX r ≠ 0 ∨ 48 ≤ r ∧ r ≤ 57) : okR r = true := by unfold okR; rw [decide_eq_true h, Bool.true_or]
theorem qQx {r : Nat} (h : qHX r = 0) (h2 : ¬ (48 ≤ r ∧ r ≤ 57)) (h3 : qGF r = false) : okR r = false := by unfold okR; rw [h3, decide_eq_false (by omega)]; rfl
theorem qIo : ∀ (t cur : List UInt8), (spl cur t).length ≤ t.length + 1
 | [], cur => by rw [spl]; exact Nat.le_refl _
 | c :: t, cur => by
  rw [spl]
  split
  · have := qIo t []; rw [List.length_cons, List.length_cons]; omega
  · have := qIo t (cur ++ [c]); rw [List.length_cons]; omega
def nx (s : List UInt8) : Nat × Nat := if s = [] ∨ dec s 0 = (65533, 1) then (0, 0) else dec s 0
theorem qTi {l : List Nat} (h : l.all (fun r => decide (r < 55296)) = true) : ∀ r ∈ l, Rn r := fun r hr => by
 have := List.all_eq_true.1 h r hr
 rw [decide_eq_true_eq] at this
 exact ⟨by omega, by omega⟩
theorem qCi {s : List UInt8} {l : List Nat} {x : List UInt8} {e : Nat} (h : s = unr l) (hr : l.all (fun r => decide (r < 55296)) = true) (hx : (if l.length ≤ 64 then (if qQm 0 0 false l = true then (unr (l.map small), 0) else ([], 5)) else ([], 2)) = (x, e)) : normal s = (x, e) := by
 rw [h, qLR (qTi hr)]; exact hx
end Go.Proofs.YtfldiegfenndjaaGreatDoor
