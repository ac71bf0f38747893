/- A part of the proof. -/
import Derived.Test.YtfldiegfenndjaaGreatDoorTopAkG7
import Derived.Test.YtfldiegfenndjaaGreatDoorRows
import Derived.Test.YtfldiegfenndjaaGreatDoorTopAkG3
set_option linter.unusedSimpArgs false
set_option linter.unusedVariables false
namespace Go.Proofs.YtfldiegfenndjaaGreatDoor
open Go Go.Fw Go.Proofs.Tryz
set_option maxRecDepth 100000
set_option maxHeartbeats 1000000
abbrev qCr := @isAgg246
abbrev b3_ := @isAgg3
abbrev qLJ := @isAgg30
abbrev qDN := @isAgg36
abbrev qCQ := @isAgg37
abbrev qDD := @isAgg39
abbrev b4_ := @isAgg4
abbrev qHN := @isAgg52
abbrev qJH := @isAgg58
abbrev qId := @isAgg79
abbrev qNJ := @isAgg88
abbrev b9_ := @isAgg9
abbrev qFo := @sizeOf133
abbrev qEG := @sizeOf155
abbrev qE6 := @sizeOf162
abbrev qBj := @sizeOf221
abbrev qGZ := @sizeOf229
abbrev qB1 := @sizeOf246
abbrev z3_ := @sizeOf3
abbrev qIb := @sizeOf30
abbrev qE5 := @sizeOf303
abbrev qCm := @sizeOf36
abbrev qB0 := @sizeOf37
abbrev qB6 := @sizeOf39
abbrev z4_ := @sizeOf4
abbrev z5_ := @sizeOf5
abbrev qLG := @sizeOf50
abbrev qCl := @sizeOf52
abbrev qLF := @sizeOf54
abbrev qFn := @sizeOf58
abbrev qEF := @sizeOf79
abbrev qHO := @sizeOf88
abbrev z9_ := @sizeOf9
abbrev qGe := @underlying133
abbrev qB7 := @underlying135
abbrev qLb := @underlying143
abbrev qFC := @underlying145
abbrev qHV := @underlying148
abbrev qFB := @underlying155
abbrev qKU := @underlying162
abbrev qLa := @underlying164
abbrev qIj := @underlying166
abbrev qFr := @underlying171
abbrev qLZ := @underlying184
abbrev qCy := @underlying186
abbrev qFA := @underlying188
abbrev qEH := @underlying216
abbrev qBu := @underlying221
abbrev qCx := @underlying223
abbrev qLY := @underlying226
abbrev qFq := @underlying229
abbrev qKT := @underlying246
abbrev qEn := @underlying248
abbrev qFp := @underlying267
abbrev qHU := @underlying284
abbrev u3_ := @underlying3
abbrev qBO := @underlying303
abbrev qKS := @underlying309
abbrev qRV := @underlying33
abbrev qEm := @underlying36
abbrev qAh := @underlying37
abbrev qDG := @underlying39
abbrev qNU := @underlying40
abbrev u5_ := @underlying5
abbrev qNg := @underlying50
abbrev qEX := @underlying52
abbrev qNT := @underlying54
abbrev qCw := @underlying58
abbrev qRc := @underlying67
abbrev qNS := @underlying70
abbrev qNR := @underlying73
abbrev qPC := @underlying74
abbrev qNf := @underlying77
abbrev qDp := @underlying79
abbrev qPB := @underlying80
abbrev qBl := @underlying88
abbrev u9_ := @underlying9
abbrev qRb := @underlying94
abbrev qJB := @zeroValue148
abbrev qJA := @zeroValue303
abbrev qPj := @zeroValue39
abbrev qRX := @zeroValue50
abbrev qDr := @zeroValue52
abbrev qRW := @zeroValue79
abbrev e9_ := @zeroValue9
theorem Tryz.wide : prog.follows .mixedOrders = true := by kernel_rfl
theorem el3 : qCu prog 3 [.int .i64 0] 8 := qCu.of (by kernel_rfl) rfl
theorem el9 : qCu prog 9 [Str []] 16 := qCu.of (by kernel_rfl) rfl
theorem ent106 : qAE prog 106 := qAE.of func106 rfl (by kernel_rfl)
theorem ent11 : qAE prog 11 := qAE.of func11 rfl (by kernel_rfl)
theorem ent110 : qAE prog 110 := qAE.of func110 rfl (by kernel_rfl)
theorem ent118 : qAE prog 118 := qAE.of func118 rfl (by kernel_rfl)
theorem ent125 : qAE prog 125 := qAE.of func125 rfl (by kernel_rfl)
theorem ent126 : qAE prog 126 := qAE.of func126 rfl (by kernel_rfl)
theorem ent127 : qAE prog 127 := qAE.of func127 rfl (by kernel_rfl)
theorem ent137 : qAE prog 137 := qAE.of func137 rfl (by kernel_rfl)
theorem ent138 : qAE prog 138 := qAE.of func138 rfl (by kernel_rfl)
theorem ent143 : qAE prog 143 := qAE.of func143 rfl (by kernel_rfl)
theorem ent153 : qAE prog 153 := qAE.of func153 rfl (by kernel_rfl)
theorem ent158 : qAE prog 158 := qAE.of func158 rfl (by kernel_rfl)
theorem ent169 : qAE prog 169 := qAE.of func169 rfl (by kernel_rfl)
theorem ent171 : qAE prog 171 := qAE.of func171 rfl (by kernel_rfl)
theorem ent177 : qAE prog 177 := qAE.of func177 rfl (by kernel_rfl)
theorem ent214 : qAE prog 214 := qAE.of func214 rfl (by kernel_rfl)
theorem ent22 : qAE prog 22 := qAE.of func22 rfl (by kernel_rfl)
theorem ent38 : qAE prog 38 := qAE.of func38 rfl (by kernel_rfl)
theorem ent43 : qAE prog 43 := qAE.of func43 rfl (by kernel_rfl)
theorem ent57 : qAE prog 57 := qAE.of func57 rfl (by kernel_rfl)
theorem ent63 : qAE prog 63 := qAE.of func63 rfl (by kernel_rfl)
theorem ent64 : qAE prog 64 := qAE.of func64 rfl (by kernel_rfl)
theorem ent66 : qAE prog 66 := qAE.of func66 rfl (by kernel_rfl)
theorem ent70 : qAE prog 70 := qAE.of func70 rfl (by kernel_rfl)
theorem ent75 : qAE prog 75 := qAE.of func75 rfl (by kernel_rfl)
theorem ent82 : qAE prog 82 := qAE.of func82 rfl (by kernel_rfl)
theorem ent83 : qAE prog 83 := qAE.of func83 rfl (by kernel_rfl)
theorem ent84 : qAE prog 84 := qAE.of func84 rfl (by kernel_rfl)
theorem ent85 : qAE prog 85 := qAE.of func85 rfl (by kernel_rfl)
theorem ent86 : qAE prog 86 := qAE.of func86 rfl (by kernel_rfl)
theorem ent98 : qAE prog 98 := qAE.of func98 rfl (by kernel_rfl)
theorem noEsc (v : Value) (w : World) : (callFunc 188 #[v]).run prog w = .ok (.value v) w := by kernel_rfl
theorem qDk : prog.info? 186 = some t186 := by kernel_rfl
theorem el5 : qCu prog 5 [.int .u8 0] 1 := qCu.of (by kernel_rfl) rfl
structure Bld (g off : Nat) (l : List Value) (mr : Hp) (bs : List UInt8) (A : Option Addr) (c : Nat) (p : Option Addr) : Prop where
 a0 : l[off]? = some (.pointer p)
 self : p = none ∨ p = some ⟨g, off, none⟩
 a1 : l[off + 1]? = some (.slice A bs.length c)
 row : qBa False mr 5 1 A bs.length c (qAX bs)
 cap : A = none ∨ 0 < c
theorem qHB (F : Hp) (g T off : Nat) (l : List Value) (hl : l[off]? = some (.pointer none)) (hT : liesAt prog prog.depth T (l.length / prog.cellsOf T) off 186 1 = true) :
    Ct prog 155 [.pointer (some ⟨g, off, none⟩)] [blk g l T, F] (fun _ : Unit => .tuple #[]) (fun _ => True) (fun _ => [blk g (qAs l off [.pointer (some ⟨g, off, none⟩)]) T, F]) := by
  have hoff : off < l.length := (List.getElem?_eq_some_iff.1 hl).1
  refine Ct.walk func155 rfl ntmps155 rfl (fun w0 hw0 => ?_)
  change J _ [(0, _)] _ _ _
  refine J.g fun K1 hK1 => J.b rfl <| J.f (qAD rfl rfl) rfl <| J.f (qAA (j := off) rfl rfl qCy rfl sizeOf184 rfl) rfl <| J.f (qAC 0 rfl rfl rfl isAgg184 hl) rfl <| J.f (qAu qLZ rfl rfl rfl) rfl <| J.c hK1 <| J.E 0 6 ?_
  refine J.c6 ?_
  refine J.G <| J.j 2 rfl <| J.f (qIp rfl rfl qLZ underlying294 qDk (by decide) (m := blk g l T) (by simp) (qAU _ _) (by simpa using hoff)) rfl <| J.p (qQf rfl rfl noEsc) rfl fun g10 _ => ?_
  change J _ _ _ [blk g l T, F] _
  refine J.f (qGv rfl rfl underlying294 qLZ qDk (m := blk g l T) (by simp) (qAU _ _) (by simpa using hT)) rfl <| J.f (qAD rfl rfl) rfl <| J.f (qAA (j := off) rfl rfl qCy rfl sizeOf184 rfl) rfl <| J.b1 (qAT (i := 0) (vs := [.pointer (some ⟨g, off, none⟩)]) rfl rfl rfl rfl rfl sizeOf184 rfl (by simp only [List.length_cons, List.length_nil]; omega)) rfl rfl fun _ _ => ?_
  change J _ _ _ [blk g (qAs l off [.pointer (some ⟨g, off, none⟩)]) T, _] _
  exact J.a7 <| J.e7 hw0 (fun _ _ h => h) (qJc rfl) (qAj () rfl trivial [0, 1] rfl (by decide))
theorem qFu (F : Hp) (g T off : Nat) (l : List Value) (hl : l[off]? = some (.pointer (some ⟨g, off, none⟩))) :
    Ct prog 155 [.pointer (some ⟨g, off, none⟩)] [blk g l T, F] (fun _ : Unit => .tuple #[]) (fun _ => True) (fun _ => [blk g l T, F]) := by
  refine Ct.walk func155 rfl ntmps155 rfl (fun w0 hw0 => ?_)
  change J _ [(0, _)] _ _ _
  refine J.g fun K1 hK1 => J.b rfl <| J.f (qAD rfl rfl) rfl <| J.f (qAA (j := off) rfl rfl qCy rfl sizeOf184 rfl) rfl <| J.f (qAC 0 rfl rfl rfl isAgg184 hl) rfl <| J.f (qAu qLZ rfl rfl rfl) rfl <| J.c hK1 <| J.E 0 6 ?_
  refine J.a8 ?_
  refine J.g fun K2 hK2 => J.b rfl <| J.f (qAD rfl rfl) rfl <| J.f (qAA (j := off) rfl rfl qCy rfl sizeOf184 rfl) rfl <| J.f (qAC 0 rfl rfl rfl isAgg184 hl) rfl <| J.b rfl <| J.f (qKp qLZ qDk rfl rfl rfl) rfl <| J.c hK2 <| J.u 19 ?_
  refine J.a8 ?_
  exact J.c7 <| J.e7 hw0 (fun _ _ h => h) (qJc rfl) (qAj () rfl trivial [0, 1] rfl (by decide))
theorem qF4 {l : List Value} {k : Nat} {v : Value} (h : l[k]? = some v) : qAs l k [v] = l := by
 obtain ⟨hk, rfl⟩ := List.getElem?_eq_some_iff.1 h
 unfold qAs
 rw [List.append_assoc, List.singleton_append, List.length_singleton, ← List.drop_eq_getElem_cons hk, List.take_append_drop]
theorem qCT {l : List Value} {k : Nat} {v : Value} (hk : k < l.length) : (qAs l k [v])[k]? = some v := by
 unfold qAs
 rw [List.append_assoc, List.getElem?_append_right (by simp; omega)]
 simp [Nat.min_eq_left (Nat.le_of_lt hk)]
theorem qBb {l : List Value} {k j : Nat} {v : Value} (hk : k < l.length) (hj : j ≠ k) : (qAs l k [v])[j]? = l[j]? := by
  unfold qAs
  rw [List.append_assoc, List.getElem?_append, List.getElem?_append]
  simp only [List.length_take, Nat.min_eq_left (Nat.le_of_lt hk), List.length_singleton]
  by_cases h1 : j < k
  · rw [if_pos h1, List.getElem?_take, if_pos h1]
  · rw [if_neg h1, if_neg (by omega), List.getElem?_drop]
    congr 1; omega
theorem qC2 {l : List Value} {k : Nat} {v : Value} (hk : k < l.length) : (qAs l k [v]).length = l.length := by
 unfold qAs
 simp; omega
theorem qDB (F : Hp) (g T off : Nat) (l : List Value) (p : Option Addr) (hl : l[off]? = some (.pointer p)) (hp : p = none ∨ p = some ⟨g, off, none⟩) (hT : liesAt prog prog.depth T (l.length / prog.cellsOf T) off 186 1 = true) :
    Ct prog 155 [.pointer (some ⟨g, off, none⟩)] [blk g l T, F] (fun _ : Unit => .tuple #[]) (fun _ => True) (fun _ => [blk g (qAs l off [.pointer (some ⟨g, off, none⟩)]) T, F]) := by
  rcases hp with rfl | rfl
  · exact qHB F g T off l hl hT
  · rw [qF4 hl]; exact qFu F g T off l hl
theorem qQ8 : qAE prog 155 := qAE.of func155 rfl (by kernel_rfl)
def Upd (off : Nat) (l l' : List Value) : Prop := l'.length = l.length ∧ ∀ j, j ≠ off → j ≠ off + 1 → l'[j]? = l[j]?
theorem Upd.refl (off : Nat) (l : List Value) : Upd off l l := ⟨rfl, fun _ _ _ => rfl⟩
theorem qHH {g off : Nat} {l : List Value} {mr mr' : Hp} {bs bs' : List UInt8} {A A' : Option Addr} {c c' : Nat} {p : Option Addr} (hb : Bld g off l mr bs A c p) (hr : qBa False mr' 5 1 A' bs'.length c' (qAX bs')) (hc : A' = none ∨ 0 < c') :
    Bld g off (qAs (qAs l off [.pointer (some ⟨g, off, none⟩)]) (off + 1) [.slice A' bs'.length c']) mr' bs' A' c' (some ⟨g, off, none⟩) ∧ Upd off l (qAs (qAs l off [.pointer (some ⟨g, off, none⟩)]) (off + 1) [.slice A' bs'.length c']) := by
  have h1 : off + 1 < l.length := (List.getElem?_eq_some_iff.1 hb.a1).1
  have h0 : off < l.length := by omega
  have hl1 := qC2 (v := Value.pointer (some ⟨g, off, none⟩)) h0
  have h1' : off + 1 < (qAs l off [.pointer (some ⟨g, off, none⟩)]).length := by omega
  refine ⟨⟨?_, .inr rfl, ?_, hr, hc⟩, by rw [qC2 h1', hl1], fun j hj hj' => ?_⟩
  · rw [qBb h1' (by omega), qCT h0]
  · exact qCT h1'
  · rw [qBb h1' hj', qBb h0 hj]
theorem qQK {m : Hp} {e : TypeId} {A : Option Addr} {n c : Nat} {xs : List (List Value)} (h : qBa False m e 1 A n c xs) (hn : 0 < n) : A = none ∨ 0 < c := .inr (Nat.lt_of_lt_of_le hn h.2.2.1)
theorem qHR (F mr : Hp) (g T off : Nat) (l : List Value) (bs : List UInt8) (A : Option Addr) (c : Nat) (p : Option Addr) (hb : Bld g off l mr bs A c p) (hT : liesAt prog prog.depth T (l.length / prog.cellsOf T) off 186 1 = true) (b : UInt8) (hlen : bs.length < 70368744177664) :
    Ct prog 139 [.pointer (some ⟨g, off, none⟩), B8 b] [blk g l T, mr, F] (fun _ : List Value × Hp => .nilIface) (fun x => ∃ A c, Bld g off x.1 x.2 (bs ++ [b]) A c (some ⟨g, off, none⟩) ∧ Upd off l x.1) (fun x => [blk g x.1 T, x.2, F]) := by
  have hoff : off + 1 < l.length := (List.getElem?_eq_some_iff.1 hb.a1).1
  have hoff0 : off < l.length := by omega
  refine Ct.walk func139 rfl ntmps139 rfl (fun w0 hw0 => ?_)
  change J _ [(0, _), (1, _)] _ _ _
  refine J.g fun K1 hK1 => J.b rfl <| J.c hK1 <| J.E 0 1 ?_
  refine J.g fun K2 hK2 => J.b rfl <| J.p (qAB rfl rfl qQ8 (Ct.useA [blk g l T] [mr, F] (A' := fun _ : Unit => [blk g (qAs l off [.pointer (some ⟨g, off, none⟩)]) T]) (new := fun _ => []) (fun F' _ => qDB F' g T off l p hb.a0 hb.self hT))) rfl fun g6 _ => ?_
  change J _ _ _ [blk g (qAs l off [.pointer (some ⟨g, off, none⟩)]) T, mr, F] _
  refine J.c hK2 <| J.E 0 1 ?_
  refine J.g fun K3 hK3 => J.j 2 rfl <| J.f (qAD rfl rfl) rfl <| J.f (qAA (j := off + 1) rfl rfl qCy rfl qHO rfl) rfl <| J.f (qAC 0 rfl rfl rfl qNJ ((qBb hoff0 (by omega)).trans hb.a1)) rfl <| J.b rfl <| J.p (qAJ (l := [.tmp 12]) (xs := [[B8 b]]) rfl rfl rfl rfl qBl el5 rfl (by decide) (by decide) (by simp)) rfl fun g13 _ => ?_
  change J _ _ _ [_, _, _, blk g13 [B8 b] 5] _
  refine J.p (qAd (i := 1) (m2 := blk g13 [B8 b] 5) (ys := [[B8 b]]) rfl rfl rfl qBl qBl el5 rfl hb.row (by simp) (qAv (q := True) (xs := [[B8 b]]) rfl (by simp)).sl rfl (by omega) (by omega)) rfl ?_
  rintro ⟨A14, c14, m14⟩ h14
  try dsimp only at h14
  change J _ ((14, .slice A14 (bs.length + 1) c14) :: _) _ [_, m14, _, _] _
  have hbp := qHH (bs' := bs ++ [b]) (A' := A14) (c' := c14) (mr' := m14) hb (by simpa [qAX] using h14) (qQK h14 (by omega))
  simp only [List.length_append, List.length_singleton] at hbp
  refine J.f (qAD rfl rfl) rfl <| J.f (qAA (j := off + 1) rfl rfl qCy rfl qHO rfl) rfl <| J.b1 (qAT (i := 0) (vs := [.slice A14 (bs.length + 1) c14]) rfl rfl rfl rfl rfl qHO rfl (by rw [qC2 hoff0]; exact hoff)) rfl rfl fun _ _ => ?_
  change J _ _ _ [blk g (qAs (qAs l off [.pointer (some ⟨g, off, none⟩)]) (off + 1) [.slice A14 (bs.length + 1) c14]) T, _, _, _] _
  refine J.c hK3 <| J.c8 [] trivial <| J.g fun K4 hK4 => J.b rfl <| J.c hK4 <| J.u 4 ?_
  exact J.D <| J.V hw0 rfl (_, m14) rfl ⟨A14, c14, hbp⟩ [0, 1, 2] rfl (by decide)
theorem qA7 (F mr : Hp) (g T off : Nat) (l : List Value) (bs : List UInt8) (A : Option Addr) (c : Nat) (p : Option Addr) (hb : Bld g off l mr bs A c p) (hT : liesAt prog prog.depth T (l.length / prog.cellsOf T) off 186 1 = true) (s : List UInt8) (hlen : bs.length + s.length < 70368744177664) :
    Ct prog 109 [.pointer (some ⟨g, off, none⟩), Str s] [blk g l T, mr, F] (fun _ : List Value × Hp => .tuple #[I s.length, .nilIface]) (fun x => ∃ A c, Bld g off x.1 x.2 (bs ++ s) A c (some ⟨g, off, none⟩) ∧ Upd off l x.1) (fun x => [blk g x.1 T, x.2, F]) := by
  have hoff : off + 1 < l.length := (List.getElem?_eq_some_iff.1 hb.a1).1
  have hoff0 : off < l.length := by omega
  refine Ct.walk func109 rfl ntmps109 rfl (fun w0 hw0 => ?_)
  change J _ [(0, _), (1, _)] _ _ _
  refine J.g fun K1 hK1 => J.j 2 rfl <| J.c hK1 <| J.E 0 1 ?_
  refine J.g fun K2 hK2 => J.b rfl <| J.p (qAB rfl rfl qQ8 (Ct.useA [blk g l T] [mr, F] (A' := fun _ : Unit => [blk g (qAs l off [.pointer (some ⟨g, off, none⟩)]) T]) (new := fun _ => []) (fun F' _ => qDB F' g T off l p hb.a0 hb.self hT))) rfl fun g7 _ => ?_
  change J _ _ _ [blk g (qAs l off [.pointer (some ⟨g, off, none⟩)]) T, mr, F] _
  refine J.c hK2 <| J.E 0 1 ?_
  refine J.g fun K3 hK3 => J.j 2 rfl <| J.f (qAD rfl rfl) rfl <| J.f (qAA (j := off + 1) rfl rfl qCy rfl qHO rfl) rfl <| J.f (qAC 0 rfl rfl rfl qNJ ((qBb hoff0 (by omega)).trans hb.a1)) rfl <| J.b rfl <| J.p (qKt (i := 1) rfl rfl rfl qBl u9_ el5 rfl hb.row (by omega) (by omega)) rfl ?_
  rintro ⟨A14, c14, m14⟩ h14
  try dsimp only at h14
  change J _ ((14, .slice A14 (bs.length + s.length) c14) :: _) _ [_, m14, _] _
  obtain ⟨h14, hcap⟩ := h14
  have hbp := qHH (bs' := bs ++ s) (A' := A14) (c' := c14) (mr' := m14) hb (by simpa [qAX] using h14) (hcap hb.cap)
  simp only [List.length_append] at hbp
  refine J.f (qAD rfl rfl) rfl <| J.f (qAA (j := off + 1) rfl rfl qCy rfl qHO rfl) rfl <| J.b1 (qAT (i := 0) (vs := [.slice A14 (bs.length + s.length) c14]) rfl rfl rfl rfl rfl qHO rfl (by rw [qC2 hoff0]; exact hoff)) rfl rfl fun _ _ => ?_
  change J _ _ _ [blk g (qAs (qAs l off [.pointer (some ⟨g, off, none⟩)]) (off + 1) [.slice A14 (bs.length + s.length) c14]) T, _, _] _
  refine J.c hK3 <| J.u 1 ?_
  refine J.g fun K4 hK4 => J.b rfl <| J.f (qAk u9_ rfl rfl) rfl <| J.j 2 rfl <| J.c hK4 <| J.E 4 5 ?_
  exact J.D <| J.b4 hw0 (fun _ _ h => h) (qCq rfl rfl rfl) (qAj (_, m14) rfl ⟨A14, c14, hbp⟩ [0, 1, 2] rfl (by decide))
theorem qDM (F mr : Hp) (g T off : Nat) (l : List Value) (bs : List UInt8) (A : Option Addr) (c : Nat) (p : Option Addr) (hb : Bld g off l mr bs A c p)  (hlen : bs.length < 70368744177664) :
    Ct prog 111 [.pointer (some ⟨g, off, none⟩)] [blk g l T, mr, F] (fun _ : Hp => Str bs) (fun m => Bld g off l m bs A c p) (fun m => [blk g l T, m, F]) := by
  refine Ct.walk func111 rfl ntmps111 rfl (fun w0 hw0 => ?_)
  change J _ [(0, _)] _ _ _
  refine J.g fun K1 hK1 => J.b rfl <| J.c hK1 <| J.u 0 ?_
  refine J.k fun K2 hK2 => J.c1 [blk g l T, F] [] (.y 0 (.y 1 (.y 2 (.y 3 (.y 4 (.y 5 (.y 6 (.y 7 (.y 8 (.y 9 (.e 10 (.y 11 .nil)))))))))))) Tryz.wide (by decide +kernel) (by simp) ?_
  refine J.O ?_
  refine J.q rfl (qAD rfl rfl) rfl rfl <| J.q rfl (qAA (j := off + 1) rfl rfl qCy rfl qHO rfl) rfl rfl <| J.q rfl (qAC 0 rfl rfl rfl qNJ hb.a1) rfl rfl <| J.q rfl (qHn rfl rfl hb.cap) rfl rfl <| J.O ?_
  refine J.q rfl (qAD rfl rfl) rfl rfl <| J.q rfl (qAA (j := off + 1) rfl rfl qCy rfl qHO rfl) rfl rfl <| J.q rfl (qAC 0 rfl rfl rfl qNJ hb.a1) rfl rfl <| J.q rfl (qAa qBl rfl rfl) rfl rfl <| J.b2 rfl (qFO (i := 1) rfl rfl rfl underlying265 rfl rfl hb.row (by omega)) rfl (by simp) ?_
  rintro m13 h13
  change J _ _ _ [blk g l T, m13, F] _
  refine J.b9 ?_
  refine J.b5 <| J.A (J.L hK2 ?_)
  refine J.u 2 ?_
  exact J.D <| J.V hw0 rfl m13 rfl ⟨hb.a0, hb.self, hb.a1, h13, hb.cap⟩ [0, 1, 2] rfl (by decide)
theorem mnz (v : Value) (w : World) : (callFunc 189 #[v]).run prog w = (do let x ← Extern.BytealgMakeNoZero.makeNoZero #[3] #[88] #[v]; pure (.value x) : Sem Next).run prog w := by kernel_rfl
theorem ent156 : qAE prog 156 := qAE.of func156 rfl (by kernel_rfl)
theorem ent108 : qAE prog 108 := qAE.of func108 rfl (by kernel_rfl)
theorem ent109 : qAE prog 109 := qAE.of func109 rfl (by kernel_rfl)
theorem ent111 : qAE prog 111 := qAE.of func111 rfl (by kernel_rfl)
theorem ent139 : qAE prog 139 := qAE.of func139 rfl (by kernel_rfl)
theorem qOx (F : Hp) (g T off : Nat) (l : List Value) (hl : l[off + 1]? = some (.slice none 0 0)) (n : Nat) (hn : n ≤ 70368744177664) :
    Ct prog 156 [.pointer (some ⟨g, off, none⟩), I n] [blk g l T, F] (fun _ : Nat × Nat × List Value => .tuple #[]) (fun x => n ≤ x.2.1 ∧ x.2.2.length = x.2.1) (fun x => [blk g (qAs l (off + 1) [.slice (some ⟨x.1, 0, none⟩) 0 x.2.1]) T, F, blk x.1 x.2.2 5]) := by
  have hoff : off + 1 < l.length := (List.getElem?_eq_some_iff.1 hl).1
  refine Ct.walk func156 rfl ntmps156 rfl (fun w0 hw0 => ?_)
  change J _ [(0, _), (1, _)] _ _ _
  refine J.k fun K1 hK1 => J.c1 [blk g l T, F] [] (.y 0 (.y 1 (.y 2 (.y 3 (.y 4 (.y 5 (.y 6 (.y 7 (.y 9 (.y 10 (.y 11 (.y 12 (.y 13 (.e 8 (.y 14 (.y 15 .nil)))))))))))))))) Tryz.wide (by decide +kernel) (by simp) ?_
  refine J.O ?_
  refine J.q rfl (qAD rfl rfl) rfl rfl <| J.q rfl (qAA (j := off + 1) rfl rfl qCy rfl qHO rfl) rfl rfl <| J.q rfl (qAC 0 rfl rfl rfl qNJ hl) rfl rfl <| J.q rfl (qPQ qBl rfl rfl) rfl rfl <| J.q rfl (qB8 (a := 2) (b := 0) rfl rfl rfl (by omega)) rfl rfl <| J.O ?_
  refine J.q rfl ((qAR rfl rfl rfl (by omega)).as (v' := I n) (by simp)) rfl rfl <| J.O ?_
  refine J.q rfl (qAD rfl rfl) rfl rfl <| J.q rfl (qAA (j := off + 1) rfl rfl qCy rfl qHO rfl) rfl rfl <| J.q rfl (qAC 0 rfl rfl rfl qNJ hl) rfl rfl <| J.q rfl (qAa qBl rfl rfl) rfl rfl <| J.b2 rfl (qRu rfl rfl mnz qBl (by omega)) rfl (by simp) ?_
  rintro ⟨g13, c13, l13⟩ h13
  try dsimp only at h13
  change J _ ((13, .slice (some ⟨g13, 0, none⟩) n c13) :: _) _ [blk g l T, F, blk g13 l13 5] _
  refine J.q rfl (qDI (h := 0) rfl rfl qBl z5_ rfl (by omega)) rfl rfl <| J.b9 ?_
  refine J.b5 <| J.A (J.L hK1 ?_)
  refine J.E 0 4 ?_
  refine J.g fun K2 hK2 => J.j 2 rfl <| J.f (qAD rfl rfl) rfl <| J.f (qAA (j := off + 1) rfl rfl qCy rfl qHO rfl) rfl <| J.f (qAC 0 rfl rfl rfl qNJ hl) rfl <| J.p (qOI rfl rfl rfl qBl el5) rfl fun g25 _ => ?_
  change J _ _ _ [_, _, _] _
  refine J.c hK2 <| J.E 0 4 ?_
  refine J.G <| J.j 2 rfl <| J.f (qAD rfl rfl) rfl <| J.f (qAA (j := off + 1) rfl rfl qCy rfl qHO rfl) rfl <| J.b1 (qAT (i := 0) (vs := [.slice (some ⟨g13, 0, none⟩) 0 c13]) rfl rfl rfl rfl rfl qHO rfl (by exact hoff)) rfl rfl fun _ _ => ?_
  change J _ _ _ [blk g (qAs l (off + 1) [.slice (some ⟨g13, 0, none⟩) 0 c13]) T, _, _] _
  exact J.a7 <| J.e7 hw0 (fun _ _ h => h) (qJc rfl) (qAj (g13, c13, l13) rfl h13 [0, 1, 2] rfl (by decide))
theorem qKI (F : Hp) (g T off : Nat) (l : List Value) (p : Option Addr) (hb : Bld g off l (fun _ => none) [] none 0 p) (hT : liesAt prog prog.depth T (l.length / prog.cellsOf T) off 186 1 = true) (n : Nat) (hn : n ≤ 70368744177664) :
    Ct prog 108 [.pointer (some ⟨g, off, none⟩), I n] [blk g l T, fun _ => none, F] (fun _ : List Value × Hp => .tuple #[]) (fun x => ∃ A c, Bld g off x.1 x.2 ([]) A c (some ⟨g, off, none⟩) ∧ Upd off l x.1) (fun x => [blk g x.1 T, x.2, F]) := by
  have hoff : off + 1 < l.length := (List.getElem?_eq_some_iff.1 hb.a1).1
  have hoff0 : off < l.length := by omega
  refine Ct.walk func108 rfl ntmps108 rfl (fun w0 hw0 => ?_)
  change J _ [(0, _), (1, _)] _ _ _
  refine J.g fun K1 hK1 => J.b rfl <| J.p (qAB rfl rfl qQ8 (Ct.useA [blk g l T] [(fun _ => none), F] (A' := fun _ : Unit => [blk g (qAs l off [.pointer (some ⟨g, off, none⟩)]) T]) (new := fun _ => []) (fun F' _ => qDB F' g T off l p hb.a0 hb.self hT))) rfl fun g5 _ => ?_
  change J _ _ _ [blk g (qAs l off [.pointer (some ⟨g, off, none⟩)]) T, (fun _ => none), F] _
  refine J.c hK1 <| J.E 0 1 ?_
  refine J.k fun K2 hK2 => J.g fun K3 hK3 => J.b rfl <| J.f (qAW rfl rfl rfl) rfl <| J.c hK3 <| J.H 0 1 7 ?_
  refine J.f3 rfl ((by simp)) ?_
  refine J.W hK2 <| J.E 0 1 ?_
  refine J.k fun K4 hK4 => J.c1 [blk g (qAs l off [.pointer (some ⟨g, off, none⟩)]) T, (fun _ => none), F] [] (.y 0 (.y 1 (.y 2 (.y 3 (.y 4 (.y 5 (.y 6 (.y 7 (.y 8 (.y 9 (.y 10 (.y 11 (.y 12 .nil))))))))))))) Tryz.wide (by decide +kernel) (by simp) ?_
  refine J.O ?_
  refine J.q rfl (qAD rfl rfl) rfl rfl <| J.q rfl (qAA (j := off + 1) rfl rfl qCy rfl qHO rfl) rfl rfl <| J.q rfl (qAC 0 rfl rfl rfl qNJ ((qBb hoff0 (by omega)).trans hb.a1)) rfl rfl <| J.q rfl (qPQ qBl rfl rfl) rfl rfl <| J.O ?_
  refine J.q rfl (qAD rfl rfl) rfl rfl <| J.q rfl (qAA (j := off + 1) rfl rfl qCy rfl qHO rfl) rfl rfl <| J.q rfl (qAC 0 rfl rfl rfl qNJ ((qBb hoff0 (by omega)).trans hb.a1)) rfl rfl <| J.q rfl (qAa qBl rfl rfl) rfl rfl <| J.q rfl (qAp (a := 0) (b := 0) rfl rfl rfl (by omega)) rfl rfl <| J.O ?_
  refine J.q rfl (qAW rfl rfl rfl) rfl rfl <| J.b5 <| J.A (J.L hK4 ?_)
  refine J.H 0 1 21 ?_
  refine J.a5 rfl (fun h21 => ?_) (fun h21 => ?_)
  ·
    refine J.G <| J.j 2 rfl <| J.p (qAB rfl rfl ent156 (Ct.useA [blk g (qAs l off [.pointer (some ⟨g, off, none⟩)]) T] [fun _ => none, F] (A' := fun x : Nat × Nat × List Value => [blk g (qAs (qAs l off [.pointer (some ⟨g, off, none⟩)]) (off + 1) [.slice (some ⟨x.1, 0, none⟩) 0 x.2.1]) T]) (new := fun x => [blk x.1 x.2.2 5]) (fun F' _ => qOx F' g T off (qAs l off [.pointer (some ⟨g, off, none⟩)]) ((qBb hoff0 (by omega)).trans hb.a1) n hn))) rfl ?_
    rintro ⟨g24, c24, l24⟩ h24
    try dsimp only at h24
    change J _ _ _ [blk g (qAs (qAs l off [.pointer (some ⟨g, off, none⟩)]) (off + 1) [.slice (some ⟨g24, 0, none⟩) 0 c24]) T, _, _, blk g24 l24 5] _
    refine J.a7 ?_
    have hbp := qHH (bs' := []) (A' := some ⟨g24, 0, none⟩) (c' := c24) (mr' := blk g24 l24 5) hb (qFI (xs := []) (rest := l24) (lo := 0) (hi := 0) rfl rfl (by simp) (by simpa using h24.2) (Nat.zero_le _) (.inl rfl)) (.inr (by omega))
    simp only [List.length_nil] at hbp
    exact J.e7 hw0 (fun _ _ h => h) (qJc rfl) (qAj (_, blk g24 l24 5) rfl ⟨some ⟨g24, 0, none⟩, c24, hbp⟩ [0, 3, 2] rfl (by decide))
  refine J.c7 ?_
  have hbp := qHH (bs' := []) (A' := none) (c' := 0) (mr' := fun _ => none) hb qBa.nil (.inl rfl)
  have e1 := qF4 ((qBb (v := .pointer (some ⟨g, off, none⟩)) hoff0 (by omega)).trans hb.a1)
  simp only [List.length_nil] at e1 hbp
  rw [e1] at hbp
  exact J.e7 hw0 (fun _ _ h => h) (qJc rfl) (qAj (_, fun _ => none) rfl ⟨none, 0, hbp⟩ [0, 1, 2] rfl (by decide))
def qB9 (sep : List UInt8) : List (List UInt8) → List UInt8
 | [] => []
 | a :: r => a ++ (r.map fun x => sep ++ x).flatten
theorem qH3 : ∀ ls, qB9 [] ls = ls.flatten
 | [] => rfl
 | a :: r => by simp [qB9]
def qC0 (ls : List (List UInt8)) : Nat := (ls.map List.length).sum
theorem qFE (ls : List (List UInt8)) (k : Nat) {s : List UInt8} (h : ls[k]? = some s) : qC0 (ls.take (k + 1)) = qC0 (ls.take k) + s.length := by
 obtain ⟨hk, rfl⟩ := List.getElem?_eq_some_iff.1 h
 unfold qC0
 rw [List.take_succ_eq_append_getElem hk, List.map_append, List.sum_append]; rfl
theorem qDt (ls : List (List UInt8)) (k : Nat) : qC0 (ls.take k) ≤ qC0 ls := by
 unfold qC0
 conv => rhs; rw [← List.take_append_drop k ls, List.map_append, List.sum_append]
 omega
theorem qDA (sep : List UInt8) : ∀ (ls : List (List UInt8)), (qB9 sep ls).length = qC0 ls + sep.length * (ls.length - 1)
 | [] => by simp [qB9, qC0]
 | a :: r => by
  have h : ∀ r : List (List UInt8), (r.map fun x => sep ++ x).flatten.length = (r.map List.length).sum + sep.length * r.length := by
   intro r
   induction r with
   | nil => rfl
   | cons x r ih =>
    simp only [List.map_cons, List.flatten_cons, List.length_append, List.sum_cons, List.length_cons, Nat.mul_add, ih]
    omega
  simp [qB9, qC0, h]; omega
theorem qGO (sep : List UInt8) (ls : List (List UInt8)) (k : Nat) {s : List UInt8} (h : ls[k + 1]? = some s) : qB9 sep (ls.take (k + 2)) = qB9 sep (ls.take (k + 1)) ++ sep ++ s := by
 cases ls with
 | nil => simp at h
 | cons a r =>
  simp only [List.getElem?_cons_succ] at h
  obtain ⟨hk, rfl⟩ := List.getElem?_eq_some_iff.1 h
  simp only [List.take_succ_cons, qB9]
  rw [List.take_succ_eq_append_getElem hk, List.map_append, List.flatten_append]
  simp only [List.map_cons, List.map_nil, List.flatten_cons, List.flatten_nil, List.append_nil, List.append_assoc]
theorem qGP (sep : List UInt8) (ls : List (List UInt8)) (k : Nat) : (qB9 sep (ls.take (k + 1))).length ≤ (qB9 sep ls).length := by
 rw [qDA, qDA]
 have h1 := qDt ls (k + 1)
 have h2 : (ls.take (k + 1)).length ≤ ls.length := by simp; omega
 have h3 : sep.length * ((ls.take (k + 1)).length - 1) ≤ sep.length * (ls.length - 1) := Nat.mul_le_mul_left _ (by omega)
 omega
theorem qI1 : liesAt prog prog.depth 186 (2 / prog.cellsOf 186) 0 186 1 = true := by kernel_rfl
theorem qQC (a b M : Int) (hb : 0 < b) (h : a * b + b ≤ M) : a + 1 ≤ M / b := by
 rw [Int.le_ediv_iff_mul_le hb, Int.add_mul]; omega
theorem qOf (F : Hp) (A : Option Addr) (n c : Nat) (sep : List UInt8) (hl : Sl F 1 A n c (qAI [])) :
    Ct prog 140 [.slice A n c, Str sep] [F] (fun _ : Unit => Str (qB9 sep [])) (fun _ => True) (fun _ => [F]) := by
  have hn : n = 0 := hl.1.symm
  subst hn
  refine Ct.walk func140 rfl ntmps140 rfl (fun w0 hw0 => ?_)
  change J _ [(0, _), (1, _)] _ _ _
  refine J.g fun K1 hK1 => J.b rfl <| J.c hK1 <| J.E 0 1 ?_
  refine J.k fun K2 hK2 => J.g fun K3 hK3 => J.b rfl <| J.f (qAa qAh rfl rfl) rfl <| J.c hK3 <| J.H 0 1 12 ?_
  refine J.a1 <| J.g fun K4 hK4 => J.f (qAV rfl rfl rfl) rfl <| J.b rfl <| J.c hK4 <| J.M 0 1 12 13 ?_
  refine J.c6 ?_
  refine J.g fun K5 hK5 => J.b rfl <| J.c hK5 <| J.u 4 ?_
  exact J.D <| J.b6 <| J.a3 <| J.V hw0 rfl () rfl trivial [0] rfl (by decide)
theorem qOe (F : Hp) (A : Option Addr) (n c : Nat) (s : List UInt8) (sep : List UInt8) (hl : Sl F 1 A n c (qAI [s])) :
    Ct prog 140 [.slice A n c, Str sep] [F] (fun _ : Unit => Str (qB9 sep [s])) (fun _ => True) (fun _ => [F]) := by
  have hn : n = 1 := hl.1.symm
  subst hn
  refine Ct.walk func140 rfl ntmps140 rfl (fun w0 hw0 => ?_)
  change J _ [(0, _), (1, _)] _ _ _
  refine J.g fun K1 hK1 => J.b rfl <| J.c hK1 <| J.E 0 1 ?_
  refine J.k fun K2 hK2 => J.g fun K3 hK3 => J.b rfl <| J.f (qAa qAh rfl rfl) rfl <| J.c hK3 <| J.H 0 1 12 ?_
  refine J.a1 <| J.g fun K4 hK4 => J.f (qAV rfl rfl rfl) rfl <| J.b rfl <| J.c hK4 <| J.M 0 1 12 13 ?_
  refine J.f3 rfl (rfl) ?_
  refine J.g fun K5 hK5 => J.f (qAV rfl rfl rfl) rfl <| J.b rfl <| J.c hK5 <| J.H 0 1 15 ?_
  refine J.g8 rfl (rfl) ?_
  refine J.g fun K6 hK6 => J.b rfl <| J.f (qAH (i := 0) rfl rfl rfl qAh z9_ hl (by decide)) rfl <| J.f (qAN rfl rfl b9_ (by simp) (hl.elem (qAZ (k := 0) rfl))) rfl <| J.b rfl <| J.c hK6 <| J.u 4 ?_
  exact J.D <| J.b6 <| J.a3 <| J.V hw0 rfl () (by simp [qB9]) trivial [0] rfl (by decide)
theorem qMs (F : Hp) (A : Option Addr) (n c : Nat) (ls : List (List UInt8)) (sep : List UInt8) (hl : Sl F 1 A n c (qAI ls)) (h2 : 2 ≤ n) (htot : (qB9 sep ls).length ≤ 35184372088832) (hn47 : n ≤ 70368744177664) :
    Ct prog 140 [.slice A n c, Str sep] [F] (fun _ : Unit => Str (qB9 sep ls)) (fun _ => True) (fun _ => [F]) := by
  have hlen : ls.length = n := by have := hl.1; simpa [qAI] using this
  have hjl := qDA sep ls
  rw [hlen] at hjl
  have hq : (sep.length : Int) * ((n : Int) - 1) = ((sep.length * (n - 1) : Nat) : Int) := by rw [Int.natCast_mul]; congr 1; omega
  have hB0 : ¬ 0 < (sep.length : Int) → sep.length * (n - 1) = 0 := fun h => by rw [show sep.length = 0 by omega, Nat.zero_mul]
  have hsm : sep.length ≤ 35184372088832 := by
    have : sep.length * 1 ≤ sep.length * (n - 1) := Nat.mul_le_mul_left _ (by omega)
    omega
  have hdiv : (sep.length : Int) + 1 ≤ 9223372036854775807 / ((n : Int) - 1) := qQC _ _ _ (by omega) (by rw [hq]; omega)
  have hnc := hl.2.1
  obtain ⟨B, hB⟩ : ∃ B, sep.length * (n - 1) = B := ⟨_, rfl⟩
  rw [hB] at hjl hq hB0
  generalize hD : (9223372036854775807 : Int) / ((n : Int) - 1) = D at hdiv
  have H2 : (0 : Int) ≤ 9223372036854775807 ∧ 0 < (n : Int) - 1 ∧ (9223372036854775807 : Int) ≤ 9223372036854775807 := by omega
  refine Ct.walk func140 rfl ntmps140 rfl (fun w0 hw0 => ?_)
  change J _ [(0, _), (1, _)] _ _ _
  refine J.g fun K1 hK1 => J.b rfl <| J.c hK1 <| J.E 0 1 ?_
  refine J.k fun K2 hK2 => J.g fun K3 hK3 => J.b rfl <| J.f (qAa qAh rfl rfl) rfl <| J.c hK3 <| J.H 0 1 12 ?_
  refine J.a1 <| J.g fun K4 hK4 => J.f (qAV rfl rfl rfl) rfl <| J.b rfl <| J.c hK4 <| J.M 0 1 12 13 ?_
  refine J.f3 rfl ((by simp; omega)) ?_
  refine J.g fun K5 hK5 => J.f (qAV rfl rfl rfl) rfl <| J.b rfl <| J.c hK5 <| J.H 0 1 15 ?_
  refine J.f3 rfl ((by simp; omega)) ?_
  refine J.c7 <| J.a9 <| J.A (J.L hK2 ?_)
  refine J.E 0 1 ?_
  refine J.g fun K6 hK6 => J.b rfl <| J.c hK6 <| J.H 0 1 5 ?_
  refine J.e4 (fun _ : Unit => [(0, .slice A n c), (1, Str sep), (5, I (B : Int))]) (fun _ => [F]) (fun _ => True) (fun K7 hK7 => ?_) ?_
  ·
    refine J.g fun K8 hK8 => J.b rfl <| J.f (qAk u9_ rfl rfl) rfl <| J.f (qAx rfl rfl rfl) rfl <| J.c hK8 <| J.M 0 1 5 22 ?_
    refine J.a5 rfl (fun h22 => ?_) (fun h22 => ?_)
    ·
      refine J.k fun K9 hK9 => J.g fun K10 hK10 => J.b rfl <| J.f (qAk u9_ rfl rfl) rfl <| J.b rfl <| J.f (qAa qAh rfl rfl) rfl <| J.f (qAp rfl rfl rfl (by omega)) rfl <| J.f ((qGC rfl rfl rfl H2).as (congrArg I hD)) rfl <| J.f (qBN rfl rfl rfl) rfl <| J.c hK10 <| J.M 0 1 5 29 ?_
      refine J.f3 rfl ((by simp; omega)) ?_
      refine J.W hK9 <| J.H 0 1 5 ?_
      exact J.G <| J.j 2 rfl <| J.f (qAk u9_ rfl rfl) rfl <| J.b rfl <| J.f (qAa qAh rfl rfl) rfl <| J.f (qAp rfl rfl rfl (by omega)) rfl <| J.f ((qB8 rfl rfl rfl (by rw [hq]; omega)).as (v' := I (B : Int)) (by rw [hq])) rfl <| J.f ((qAR (a := 0) rfl rfl rfl (by omega)).as (v' := I (B : Int)) (by simp)) rfl <| J.b rfl <| J.a7 <| J.A <| J.b0 () hK7 trivial ⟨rfl, rfl, rfl, trivial⟩ (fun _ h => h)
    exact J.c7 <| J.A <| J.b0 () hK7 trivial ⟨rfl, rfl, by rw [hB0 h22]; rfl, trivial⟩ (fun _ h => h)
  rintro _ _
  refine J.k fun K11 hK11 => J.g fun K12 hK12 => J.b rfl <| J.f (qAa qAh rfl rfl) rfl <| J.b rfl <| J.c hK12 <| J.b3 0 1 5 39 40 41 ?_
  refine J.a1 <| J.c0 (fun k : Nat => [(0, .slice A n c), (1, Str sep), (5, I ((B + qC0 (ls.take k) : Nat) : Int)), (39, .slice A n c), (40, I n), (41, I k)]) (fun _ => [F]) (fun k => k ≤ n) (fun k => n - k) 0 (Nat.zero_le _) ⟨rfl, rfl, rfl, rfl, rfl, rfl, trivial⟩ (fun _ h => h) ?_
  intro k hk I1 hI1
  refine J.g fun K13 hK13 => J.f (qAW rfl rfl rfl) rfl <| J.c hK13 <| J.c2 0 1 5 39 40 41 42 ?_
  refine J.k fun K14 hK14 => J.a5 rfl (fun h42 => ?_) (fun h42 => ?_)
  ·
    refine J.W hK14 <| J.b3 0 1 5 39 40 41 ?_
    refine J.k fun K15 hK15 => J.a1 <| J.k fun K16 hK16 => ?_
    have hkn : k < n := by omega
    obtain ⟨s, hs⟩ : ∃ s, ls[k]? = some s := ⟨_, List.getElem?_eq_getElem (by omega)⟩
    have hst := qFE ls k hs
    have hst2 := qDt ls (k + 1)
    refine J.G <| J.f (qAH (i := k) rfl rfl rfl qAh z9_ hl hkn) rfl <| J.f (qAN rfl rfl b9_ (by simp) (hl.elem (qAZ hs))) rfl <| J.b rfl <| J.c hK16 <| J.c2 0 1 5 7 39 40 41 ?_
    refine J.k fun K17 hK17 => J.g fun K18 hK18 => J.b rfl <| J.f (qAk u9_ rfl rfl) rfl <| J.b rfl <| J.f (qAp rfl rfl rfl (by omega)) rfl <| J.f (qAx rfl rfl rfl) rfl <| J.c hK18 <| J.d3 0 1 5 7 39 40 41 49 ?_
    refine J.f3 rfl ((by simp; omega)) ?_
    refine J.W hK17 <| J.c2 0 1 5 7 39 40 41 ?_
    refine J.G <| J.j 2 rfl <| J.f (qAk u9_ rfl rfl) rfl <| J.f (qAR rfl rfl rfl (by omega)) rfl <| J.b rfl <| J.a7 <| J.a9 <| J.A (J.L hK15 ?_)
    refine J.b3 0 1 5 39 40 41 ?_
    exact J.G <| J.f (qAR rfl rfl rfl (by omega)) rfl <| J.b rfl <| J.a7 <| J.A <| J.b0 (k + 1) (fun x (hx : x ≤ n ∧ n - x < n - k) => hI1 x hx.1 hx.2) ⟨by omega, by omega⟩ ⟨rfl, rfl, by rw [hst]; exact congrArg (fun z => some (I z)) (by omega), rfl, rfl, rfl, trivial⟩ (fun _ h => h)
  refine J.b7 <| J.a6 <| J.a6 <| J.b8 ?_
  refine J.A (J.L hK11 ?_)
  refine J.H 0 1 5 ?_
  refine J.g fun K19 hK19 => J.p (qAO rfl zeroValue186 rfl) rfl fun g8 _ => ?_
  change J _ _ _ [F, blk g8 _ 186] _
  refine J.d9 [1, 2, 0] [blk g8 [.pointer none, .slice none 0 0] 186, fun _ => none, F] rfl (by decide) <| J.c hK19 <| J.M 0 1 5 8 ?_
  refine J.k fun K20 hK20 => ?_
  have hst3 := qDt ls k
  refine J.G <| J.b rfl <| J.p (qAB rfl rfl ent108 (qKI F g8 186 0 [.pointer none, .slice none 0 0] none ⟨rfl, .inl rfl, rfl, qBa.nil, .inl rfl⟩ qI1 _ (by omega))) rfl ?_
  rintro ⟨l57, m57⟩ ⟨A57, c57, hb57, hu57⟩
  change J _ _ _ [blk g8 l57 186, m57, F] _
  dsimp only at hb57 hu57
  obtain ⟨s0, hs0⟩ : ∃ s0, ls[0]? = some s0 := ⟨_, List.getElem?_eq_getElem (by omega)⟩
  have hs0l : s0.length ≤ qC0 ls := by have h1 := qFE ls 0 hs0; have h2 := qDt ls 1; simp only [Nat.zero_add] at h1; omega
  refine J.c hK20 <| J.H 0 1 8 ?_
  refine J.g fun K21 hK21 => J.b rfl <| J.f (qAH (i := 0) rfl rfl rfl qAh z9_ hl (by omega)) rfl <| J.f (qAN rfl rfl b9_ (by simp) (hl.elem (qAZ hs0))) rfl <| J.p (qAB rfl rfl ent109 (qA7 F m57 g8 186 0 l57 [] A57 c57 _ hb57 (by rw [hu57.1]; exact qI1) s0 (by simp; omega))) rfl ?_
  rintro ⟨l61, m61⟩ ⟨A61, c61, hb61, hu61⟩
  change J _ _ _ [blk g8 l61 186, m61, _] _
  dsimp only at hb61 hu61
  have hb61 : Bld g8 0 l61 m61 (qB9 sep (ls.take 1)) A61 c61 (some ⟨g8, 0, none⟩) := by
    have e : qB9 sep (ls.take 1) = [] ++ s0 := by cases ls with
      | nil => simp at hs0
      | cons a r => simp at hs0; subst hs0; simp [qB9]
    rw [e]; exact hb61
  refine J.c hK21 <| J.H 0 1 8 ?_
  refine J.k fun K22 hK22 => J.g fun K23 hK23 => J.b rfl <| J.f (qCd (l := 1) (h := n) rfl rfl qAh z9_ rfl rfl (by omega)) rfl <| J.f (qAa qAh rfl rfl) rfl <| J.b rfl <| J.c hK23 <| J.a0 1 8 63 64 65 ?_
  refine J.a1 <| J.c0 (X := Nat × List Value × Hp × Option Addr × Nat) (fun x => [(1, Str sep), (8, Ptr g8), (63, _), (64, I (n - 1 : Nat)), (65, I x.1)]) (fun x => [blk g8 x.2.1 186, x.2.2.1, F]) (fun x => x.1 ≤ n - 1 ∧ x.2.1.length = 2 ∧ Bld g8 0 x.2.1 x.2.2.1 (qB9 sep (ls.take (x.1 + 1))) x.2.2.2.1 x.2.2.2.2 (some ⟨g8, 0, none⟩)) (fun x => n - 1 - x.1) (0, l61, m61, A61, c61) (⟨Nat.zero_le _, by rw [hu61.1, hu57.1]; rfl, hb61⟩) ⟨rfl, rfl, rfl, rfl, rfl, trivial⟩ (fun _ h => h) ?_
  rintro ⟨k, l, m, A1, c1⟩ ⟨hk, hll, hb⟩ I3 hI3
  dsimp only at hk hll hb ⊢
  have hl2 := hl.cut (lo := 1) (hi := n) (mx := c) (by omega) (Nat.le_refl _) hl.2.1
  refine J.g fun K24 hK24 => J.f (qAW rfl rfl rfl) rfl <| J.c hK24 <| J.b3 1 8 63 64 65 66 ?_
  refine J.k fun K25 hK25 => J.a5 rfl (fun h66 => ?_) (fun h66 => ?_)
  ·
    refine J.W hK25 <| J.a0 1 8 63 64 65 ?_
    refine J.k fun K26 hK26 => J.a1 <| J.k fun K27 hK27 => ?_
    have hkn : k + 1 < n := by omega
    obtain ⟨s, hs⟩ : ∃ s, ls[k + 1]? = some s := ⟨_, List.getElem?_eq_getElem (by omega)⟩
    have hs2 : ((((qAI ls).take n).drop 1))[k]? = some [Str s] := by rw [List.getElem?_drop, List.getElem?_take, Nat.add_comm 1 k, if_pos hkn]; exact qAZ hs
    have hj1 := qGP sep ls (k + 1)
    rw [qGO sep ls k hs] at hj1
    simp only [List.length_append] at hj1
    refine J.G <| J.f (qAH (i := k) rfl rfl rfl qAh z9_ hl2 (by omega)) rfl <| J.f (qAN rfl rfl b9_ (by simp) (hl2.elem hs2)) rfl <| J.b rfl <| J.c hK27 <| J.b3 1 8 10 63 64 65 ?_
    refine J.g fun K28 hK28 => J.b rfl <| J.p (qAB rfl rfl ent109 (qA7 F m g8 186 0 l _ A1 c1 _ hb (by rw [hll]; exact qI1) sep (by omega))) rfl ?_
    rintro ⟨l70, m70⟩ ⟨A70, c70, hb70, hu70⟩
    change J _ _ _ [blk g8 l70 186, m70, F] _
    dsimp only at hb70 hu70
    refine J.c hK28 <| J.b3 1 8 10 63 64 65 ?_
    refine J.G <| J.b rfl <| J.p (qAB rfl rfl ent109 (qA7 F m70 g8 186 0 l70 _ A70 c70 _ hb70 (by rw [hu70.1, hll]; exact qI1) s (by simp; omega))) rfl ?_
    rintro ⟨l72, m72⟩ ⟨A72, c72, hb72, hu72⟩
    change J _ _ _ [blk g8 l72 186, m72, _] _
    dsimp only at hb72 hu72
    rw [← qGO sep ls k hs] at hb72
    refine J.a7 <| J.a9 <| J.A (J.L hK26 ?_)
    refine J.a0 1 8 63 64 65 ?_
    refine J.G <| J.f (qAR rfl rfl rfl (by omega)) rfl <| J.b rfl <| J.a7 <| J.A <| J.b0 (k + 1, l72, m72, A72, c72) (fun x (hx : _ ∧ n - 1 - x.1 < n - 1 - k) => hI3 x hx.1 hx.2) ⟨⟨by dsimp only; omega, by rw [hu72.1, hu70.1]; exact hll, hb72⟩, by dsimp only; omega⟩ ⟨rfl, rfl, rfl, rfl, rfl, trivial⟩ (fun _ h => h)
  refine J.b7 <| J.a6 <| J.a6 <| J.b8 ?_
  refine J.A (J.L hK22 ?_)
  refine J.u 8 ?_
  refine J.k fun K29 hK29 => ?_
  have hend : qB9 sep (ls.take (k + 1)) = qB9 sep ls := by rw [List.take_of_length_le (by omega)]
  have hj1 := qGP sep ls k
  refine J.G <| J.p (qAB rfl rfl ent111 (qDM F m g8 186 0 l _ A1 c1 _ hb (by omega))) rfl ?_
  rintro m74 h74
  change J _ _ _ [blk g8 l 186, m74, F] _
  refine J.b rfl <| J.c hK29 <| J.u 4 ?_
  exact J.D <| J.V hw0 rfl () (by rw [hend]) trivial [2] rfl (by decide)
theorem qQ3 (F : Hp) (A : Option Addr) (n c : Nat) (ls : List (List UInt8)) (sep : List UInt8) (hl : Sl F 1 A n c (qAI ls)) (htot : (qB9 sep ls).length ≤ 35184372088832) (hn47 : n ≤ 70368744177664) :
    Ct prog 140 [.slice A n c, Str sep] [F] (fun _ : Unit => Str (qB9 sep ls)) (fun _ => True) (fun _ => [F]) := by
  have hlen : ls.length = n := by have := hl.1; simpa [qAI] using this
  match ls, hl, htot, hlen with
  | [], hl, _, _ => exact qOf F A n c sep hl
  | [s], hl, _, _ => exact qOe F A n c s sep hl
  | a :: b :: r, hl, htot, hlen => exact qMs F A n c _ sep hl (by simp at hlen; omega) htot hn47
theorem ent140 : qAE prog 140 := qAE.of func140 rfl (by kernel_rfl)
end Go.Proofs.YtfldiegfenndjaaGreatDoor
