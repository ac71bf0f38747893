/- A part of the proof. -/
import Derived.Test.YtfldiegfenndjaaGreatDoorTopCvG8
import Derived.Test.YtfldiegfenndjaaGreatDoorTopCvG19
import Derived.Test.YtfldiegfenndjaaGreatDoorTopCvG22
import Derived.Test.YtfldiegfenndjaaGreatDoorTopCvG28
import Derived.Test.YtfldiegfenndjaaGreatDoorTopCvG29
set_option linter.unusedSimpArgs false
set_option linter.unusedVariables false
namespace Go.Proofs.YtfldiegfenndjaaGreatDoor
open Go Go.Fw Go.Proofs.Tryz
set_option maxRecDepth 100000
set_option maxHeartbeats 1000000
theorem qPl (F : Hp) (hK : KF F) (x : Hd) (A : Option Addr) (c : Nat) (hg : x.good) (hsl : Sl F 1 A x.nodes.length c (qAJ x.nodes)) (hsm : ∀ s ∈ x.nodes, s.length ≤ 1048576) :
    Ct prog 105 [.agg #[N64 x.ep, Str x.par, I x.dep, I x.aud, .slice A x.nodes.length c]] [F] (fun _ : Unit => Str (qFm x.nodes x.dep)) (fun _ => True) (fun _ => [F]) := by
  refine Ct.walk func105 rfl ntmps105 rfl (fun w0 hw0 => ?_)
  change J _ [(0, _)] _ _ _
  refine J.g fun K1 hK1 => J.q (qAi rfl rfl (l := [N64 x.ep, Str x.par, I x.dep, I x.aud, .slice A x.nodes.length c]) rfl) rfl fun g1 _ => ?_
  change J _ _ _ [F, blk g1 [N64 x.ep, Str x.par, I x.dep, I x.aud, .slice A x.nodes.length c] 39] _
  refine J.b rfl <| J.c hK1 <| J.u 1 ?_
  refine J.g fun K2 hK2 => J.a7 4 qDy qEe rfl rfl rfl rfl rfl <| J.d2 1 qDv rfl rfl rfl rfl rfl <| J.a7 2 qDy z3_ rfl rfl rfl rfl rfl <| J.d2 1 b3_ rfl rfl rfl rfl rfl <| J.q (qAC rfl rfl ent151 (Ct.use0 (fun F' hF => qP4 F' (hK.mo hF) x.dep x.nodes A c (hsl.mono (hF F (by simp))) hsm))) rfl fun g10 _ => J.j 5 rfl <| J.c hK2 <| J.u 3 ?_
  refine J.g fun K3 hK3 => J.j 2 rfl <| J.c hK3 <| J.u 2 ?_
  exact J.D <| J.H hw0 rfl () rfl trivial [0] rfl (by decide)
structure VtD where
 ep : Nat
 b : Nat
 hd : List UInt8
 nm : Nat
 i : Nat
 chA : Option Addr
 chc : Nat
 ch : List (List UInt8)
 ptA : Option Addr
 ptc : Nat
 pt : List (List UInt8)
 an : List UInt8
 op : List UInt8
 rt : List UInt8
 ht : Nat
 bsA : Option Addr
 bsc : Nat
 bs : List (List UInt8)
 th : Bool
 pk : List UInt8
 pv : List UInt8
def VtD.cells (x : VtD) : List Value := [N64 (x.ep), I ((x.b : Nat) : Int), Str (x.hd), I ((x.nm : Nat) : Int), I ((x.i : Nat) : Int), .slice x.chA x.ch.length x.chc, .slice x.ptA x.pt.length x.ptc, Str (x.an), Str (x.op), Str (x.rt), I ((x.ht : Nat) : Int), .slice x.bsA x.bs.length x.bsc, .bool (x.th), Str (x.pk), Str (x.pv)]
def qAN : VtD := ⟨0, 0, [], 0, 0, none, 0, [], none, 0, [], [], [], [], 0, none, 0, [], false, [], []⟩
def qBE (l : List VtD) : List (List Value) := l.map VtD.cells
theorem qGg {l : List VtD} {k : Nat} (h : k < l.length) : (qBE l)[k]? = some (l.getD k qAN).cells := by
 unfold qBE
 rw [List.getElem?_map, qAl qAN h]; rfl
theorem qGh (a b : List VtD) : qBE (a ++ b) = qBE a ++ qBE b := by simp [qBE]
theorem qEQ (a : List VtD) : (qBE a).all (fun x => x.all Value.oneCell') = true := qR3 VtD.cells (fun _ => rfl) a
theorem qCd (l : List VtD) (k : Nat) (x : VtD) : (qBE l).set k x.cells = qBE (l.set k x) := by simp [qBE, List.map_set]
theorem notT {b : Bool} (h : (!b) = true) : b = false := by cases b; rfl; cases h
theorem qS2 {b : Bool} (h : (!b) = false) : b = true := by cases b; cases h; rfl
structure qCb (F : Hp) (v : VtD) : Prop where
 ch : Sl F 1 v.chA v.ch.length v.chc (qAJ v.ch)
 pt : Sl F 1 v.ptA v.pt.length v.ptc (qAJ v.pt)
 bs : Sl F 1 v.bsA v.bs.length v.bsc (qAJ v.bs)
 good : qN8 v.bs v.th v.pk v.pv (qAM v.nm) 0
 pvl : v.pv.length ≤ 1000000
 ch35 : v.ch.length = 35
 ch16 : ∀ s ∈ v.ch, s.length = 16
 ptl : v.pt.length = v.ht
 pt16 : ∀ s ∈ v.pt, s.length = 16
 h6 : v.ht ≤ 6
 hi : v.i < 2 ^ v.ht
 an : v.an.length ≤ 1000000
 op : v.op.length ≤ 1000000
 rt : v.rt.length ≤ 1000000
 pe : qBY v.op v.rt ((v.ht : Nat) : Int) = 0
 b16 : v.b < 16
 nm64 : v.nm < 64
 ep : v.ep ≤ 4294967295
 hd : v.hd.length = 16
theorem qCb.mono {F F' : Hp} {v : VtD} (h : qCb F v) (hl : Le F F') : qCb F' v := ⟨h.ch.mono hl, h.pt.mono hl, h.bs.mono hl, h.good, h.pvl, h.ch35, h.ch16, h.ptl, h.pt16, h.h6, h.hi, h.an, h.op, h.rt, h.pe, h.b16, h.nm64, h.ep, h.hd⟩
def qFD (ws : List WnD) (b nm : Nat) : Bool := decide (b < ws.length) && decide (0 ≤ Wd.find (ws.getD b qB0).l ((nm : Nat) : Int) 0)
def qTB (v : VtD) : List UInt8 := Sha.tagged 16 [v.an, qBM v.op v.rt ((v.ht : Nat) : Int)]
def qJY (v : VtD) : Bool := decide (Mk.climb (Wo.publicOf v.op v.i (Wo.ends v.op v.i (Wo.digs (Xm.digest v.op v.i (atM v.ep v.b v.nm v.hd))) v.ch 35)) v.i v.pt = v.rt)
def qI9 (x : Hd) (v : VtD) : Bool := qOD v.bs v.th v.pk v.pv (qFm x.nodes x.dep) (qAM v.nm) (qTB v) 0
def qKn (x y : Hd) (ws : List WnD) (v : VtD) : Nat := if y.dig = [] ∨ v.ep ≠ y.ep ∨ v.hd ≠ y.dig then 15 else if qFD ws v.b v.nm = false then 17 else if qI9 x v = false then 18 else if qJY v = false then 12 else 0
theorem qDx {x y : Hd} {ws : List WnD} {v : VtD} (h : y.dig = [] ∨ v.ep ≠ y.ep ∨ v.hd ≠ y.dig) : qKn x y ws v = 15 := if_pos h
theorem qS9 {x y : Hd} {ws : List WnD} {v : VtD} (h : ¬ (y.dig = [] ∨ v.ep ≠ y.ep ∨ v.hd ≠ y.dig)) (h2 : qFD ws v.b v.nm = false) : qKn x y ws v = 17 := by unfold qKn; rw [if_neg h, if_pos h2]
theorem qS8 {x y : Hd} {ws : List WnD} {v : VtD} (h : ¬ (y.dig = [] ∨ v.ep ≠ y.ep ∨ v.hd ≠ y.dig)) (h2 : qFD ws v.b v.nm = true) (h3 : qI9 x v = false) : qKn x y ws v = 18 := by unfold qKn; rw [if_neg h, h2, if_neg (by decide), if_pos h3]
theorem qTA {x y : Hd} {ws : List WnD} {v : VtD} (h : ¬ (y.dig = [] ∨ v.ep ≠ y.ep ∨ v.hd ≠ y.dig)) (h2 : qFD ws v.b v.nm = true) (h3 : qI9 x v = true) (h4 : qJY v = false) : qKn x y ws v = 12 := by unfold qKn; rw [if_neg h, h2, if_neg (by decide), h3, if_neg (by decide), if_pos h4]
theorem vck_0 {x y : Hd} {ws : List WnD} {v : VtD} (h : ¬ (y.dig = [] ∨ v.ep ≠ y.ep ∨ v.hd ≠ y.dig)) (h2 : qFD ws v.b v.nm = true) (h3 : qI9 x v = true) (h4 : qJY v = true) : qKn x y ws v = 0 := by unfold qKn; rw [if_neg h, h2, if_neg (by decide), h3, if_neg (by decide), h4, if_neg (by decide)]
theorem qP9 (F : Hp) (hK : KF F) (v : VtD) (hv : qCb F v) :
    Ct prog 25 [.agg #[N64 v.ep, I ((v.b : Nat) : Int), Str v.hd, I ((v.nm : Nat) : Int), I ((v.i : Nat) : Int), .slice v.chA v.ch.length v.chc, .slice v.ptA v.pt.length v.ptc], .agg #[Str v.op, Str v.rt, I ((v.ht : Nat) : Int)]] [F] (fun _ : Unit => .bool (qJY v)) (fun _ => True) (fun _ => [F]) := by
  have hch := hv.ch
  have hpt := hv.pt
  rw [hv.ch35] at hch
  rw [hv.ptl] at hpt
  have := qLY F hK v.ep v.b v.nm v.hd hv.ep hv.b16 hv.nm64 hv.hd v.op v.rt v.i v.chA v.chc v.ch hch hv.ch16 v.ptA v.ht v.ptc v.pt hpt hv.pt16 (by have := hv.op; omega) hv.h6 hv.hi
  rw [hv.ch35, hv.ptl]
  unfold qJY
  exact this
theorem qSS (F : Hp) (hK : KF F) (v : VtD) (hv : qCb F v) (x : Hd) :
    Ct prog 104 [.agg #[.slice v.bsA v.bs.length v.bsc, .bool v.th, Str v.pk, Str v.pv], Str (qFm x.nodes x.dep), Str (qAM v.nm), Str (qTB v), I ((0 : Nat) : Int)] [F] (fun _ : Unit => .bool (qI9 x v)) (fun _ => True) (fun _ => [F]) := by
  unfold qI9
  exact qPp F hK v.bsA v.bsc v.bs hv.bs v.th v.pk v.pv (qAM v.nm) 0 hv.good (qFm x.nodes x.dep) (qTB v) hv.pvl
theorem qOK (F : Hp) (v : VtD) (hv : qCb F v) (Aw : Option Addr) (nw cw : Nat) (ws : List WnD) (hws : Sl F 1 Aw nw cw (qKV ws)) (W : Nat → List Int) (sl : Nat) (hsl6 : sl ≤ 64) (hwk : qDt F W sl ws) : Ct prog 103 [.agg #[N64 v.ep, I ((v.b : Nat) : Int), Str (v.hd), I ((v.nm : Nat) : Int), I ((v.i : Nat) : Int), .slice v.chA v.ch.length v.chc, .slice v.ptA v.pt.length v.ptc, Str (v.an), Str (v.op), Str (v.rt), I ((v.ht : Nat) : Int), .slice v.bsA v.bs.length v.bsc, .bool (v.th), Str (v.pk), Str (v.pv)], .slice Aw nw cw] [F] (fun _ : Unit => .bool (qFD ws v.b v.nm)) (fun _ => True) (fun _ => [F]) := by
 have hwn : ws.length = nw := by have := hws.1; simpa [qKV] using this
 refine Ct.walk func103 rfl ntmps103 rfl (fun w0 hw0 => ?_)
 change J _ [(0, _), (1, _)] _ _ _
 refine J.g fun K1 hK1 => J.q (qAi (l := [N64 v.ep, I ((v.b : Nat) : Int), Str (v.hd), I ((v.nm : Nat) : Int), I ((v.i : Nat) : Int), .slice v.chA v.ch.length v.chc, .slice v.ptA v.pt.length v.ptc, Str (v.an), Str (v.op), Str (v.rt), I ((v.ht : Nat) : Int), .slice v.bsA v.bs.length v.bsc, .bool (v.th), Str (v.pk), Str (v.pv)]) rfl rfl rfl) rfl fun g2 _ => ?_
 change J _ _ _ [F, blk g2 [N64 v.ep, I ((v.b : Nat) : Int), Str (v.hd), I ((v.nm : Nat) : Int), I ((v.i : Nat) : Int), .slice v.chA v.ch.length v.chc, .slice v.ptA v.pt.length v.ptc, Str (v.an), Str (v.op), Str (v.rt), I ((v.ht : Nat) : Int), .slice v.bsA v.bs.length v.bsc, .bool (v.th), Str (v.pk), Str (v.pv)] 60] _
 refine J.b rfl <| J.c hK1 <| J.G 1 2 ?_
 refine J.p fun K2 hK2 => J.g fun K3 hK3 => J.a7 0 qEs qEd rfl rfl rfl rfl rfl <| J.a7 1 qEI z3_ rfl rfl rfl rfl rfl <| J.f (qAE 1 (v := I ((v.b : Nat) : Int)) rfl rfl rfl b3_ rfl) rfl <| J.f ((qAX rfl rfl rfl).no (by omega)) rfl <| J.b rfl <| J.E (qAA (j := 0) rfl rfl qEs rfl qEd rfl) rfl <| J.E (qAA (j := 1) rfl rfl qEI rfl z3_ rfl) rfl <| J.E (qAE 1 (v := I ((v.b : Nat) : Int)) rfl rfl rfl b3_ rfl) rfl <| J.b rfl <| J.E (qAh qRB rfl rfl) rfl <| J.E (qBR rfl rfl rfl) rfl <| J.b rfl <| J.c hK3 <| J.O 1 2 18 ?_
 refine J.a0 rfl (fun h18 => ?_) (fun h18 => ?_)
 ·
  refine J.g fun K4 hK4 => J.b rfl <| J.c hK4 <| J.u 4 ?_
  exact J.D <| J.Z <| J.H hw0 rfl () (by unfold qFD; rw [decide_eq_false (show ¬ v.b < ws.length by omega)]; rfl) trivial [0] rfl (by decide)
 refine J.a1 hK2 <| J.G 1 2 ?_
 refine J.p fun K5 hK5 => J.c0 [F, blk g2 [N64 v.ep, I ((v.b : Nat) : Int), Str (v.hd), I ((v.nm : Nat) : Int), I ((v.i : Nat) : Int), .slice v.chA v.ch.length v.chc, .slice v.ptA v.pt.length v.ptc, Str (v.an), Str (v.op), Str (v.rt), I ((v.ht : Nat) : Int), .slice v.bsA v.bs.length v.bsc, .bool (v.th), Str (v.pk), Str (v.pv)] 60] [] (.y 0 (.y 1 (.y 2 (.y 3 (.y 4 (.y 5 (.y 6 (.y 7 (.y 8 (.e 9 (.y 10 (.y 11 (.y 12 (.y 13 (.y 14 .nil))))))))))))))) Tryz.wide (by decide +kernel) (by simp) ?_
 refine J.V ?_
 refine J.k rfl (qAA (j := 0) rfl rfl qEs rfl qEd rfl) rfl rfl <| J.k rfl (qAA (j := 1) rfl rfl qEI rfl z3_ rfl) rfl rfl <| J.k rfl (qAE 1 (v := I ((v.b : Nat) : Int)) rfl rfl rfl b3_ rfl) rfl rfl <| J.k rfl (qAK (i := v.b) rfl rfl rfl qRB qLh hws (by omega)) rfl rfl <| J.k rfl (qAQ (v := .slice (ws.getD v.b qB0).lA (ws.getD v.b qB0).l.length (ws.getD v.b qB0).lc) rfl rfl isAgg40 (m := F) (by simp) (hws.part (qJU (by omega)) 0 1)) rfl rfl <| J.k rfl (qAA (j := 0) rfl rfl qEs rfl qEd rfl) rfl rfl <| J.k rfl (qAA (j := 3) rfl rfl qEI rfl z3_ rfl) rfl rfl <| J.k rfl (qAE 1 (v := I ((v.nm : Nat) : Int)) rfl rfl rfl b3_ rfl) rfl rfl <| J.a2 rfl (qAC rfl rfl ent148 (Ct.use0 (fun F' hF => qRQ F' (ws.getD v.b qB0).lA (ws.getD v.b qB0).l.length (ws.getD v.b qB0).lc (ws.getD v.b qB0).l ((hwk v.b (by omega)).2.2.mono (hF F (by simp))) ((v.nm : Nat) : Int) (by have := (hwk v.b (by omega)).2.1; omega)))) rfl (by simp) fun g29 _ => J.V ?_
 refine J.d4 (I (max (Wd.find (ws.getD v.b qB0).l ((v.nm : Nat) : Int) 0) 0)) ?_
 refine J.d4 (.bool (decide (0 ≤ Wd.find (ws.getD v.b qB0).l ((v.nm : Nat) : Int) 0))) ?_
 refine J.c1 ?_
 refine J.c1 ?_
 refine J.b3 <| J.A (J.L hK5 ?_)
 refine J.u 6 ?_
 refine J.g fun K6 hK6 => J.j 2 rfl <| J.c hK6 <| J.u 4 ?_
 exact J.D <| J.H hw0 rfl () (by unfold qFD; rw [decide_eq_true (show v.b < ws.length by omega)]; rfl) trivial [0] rfl (by decide)
theorem ent103 : qAF prog 103 := qAF.of func103 rfl (by kernel_rfl)
theorem ent104 : qAF prog 104 := qAF.of func104 rfl (by kernel_rfl)
theorem ent105 : qAF prog 105 := qAF.of func105 rfl (by kernel_rfl)
attribute [local irreducible] qJY qI9 qFD
theorem qLz (F : Hp) (hK : KF F) (v : VtD) (hv : qCb F v) (x : Hd) (A : Option Addr) (c : Nat) (hg : x.good) (hsl : Sl F 1 A x.nodes.length c (qAJ x.nodes)) (y : Hd) (B : Option Addr) (e : Nat) (hgy : y.good) (hsy : Sl F 1 B y.nodes.length e (qAJ y.nodes)) (hsm : ∀ s ∈ x.nodes, s.length ≤ 1048576) (Aw : Option Addr) (nw cw : Nat) (ws : List WnD) (hws : Sl F 1 Aw nw cw (qKV ws)) (W : Nat → List Int) (sl : Nat) (hsl6 : sl ≤ 64) (hwk : qDt F W sl ws) : Ct prog 50 [.agg #[N64 v.ep, I ((v.b : Nat) : Int), Str (v.hd), I ((v.nm : Nat) : Int), I ((v.i : Nat) : Int), .slice v.chA v.ch.length v.chc, .slice v.ptA v.pt.length v.ptc, Str (v.an), Str (v.op), Str (v.rt), I ((v.ht : Nat) : Int), .slice v.bsA v.bs.length v.bsc, .bool (v.th), Str (v.pk), Str (v.pv)], .agg #[N64 x.ep, Str (x.par), I (x.dep), I (x.aud), .slice A x.nodes.length c], .agg #[N64 y.ep, Str (y.par), I (y.dep), I (y.aud), .slice B y.nodes.length e], .slice Aw nw cw] [F] (fun _ : Unit => I ((qKn x y ws v : Nat) : Int)) (fun _ => True) (fun _ => [F]) := by
 have hc35 := hv.ch35
 have hptl := hv.ptl
 have hpl := qB6 v.nm
 refine Ct.walk func50 rfl ntmps50 rfl (fun w0 hw0 => ?_)
 change J _ [(0, _), (1, _), (2, _), (3, _)] _ _ _
 refine J.g fun K1 hK1 => J.q (qAi (l := [N64 v.ep, I ((v.b : Nat) : Int), Str (v.hd), I ((v.nm : Nat) : Int), I ((v.i : Nat) : Int), .slice v.chA v.ch.length v.chc, .slice v.ptA v.pt.length v.ptc, Str (v.an), Str (v.op), Str (v.rt), I ((v.ht : Nat) : Int), .slice v.bsA v.bs.length v.bsc, .bool (v.th), Str (v.pk), Str (v.pv)]) rfl rfl rfl) rfl fun g4 _ => ?_
 change J _ _ _ [F, blk g4 [N64 v.ep, I ((v.b : Nat) : Int), Str (v.hd), I ((v.nm : Nat) : Int), I ((v.i : Nat) : Int), .slice v.chA v.ch.length v.chc, .slice v.ptA v.pt.length v.ptc, Str (v.an), Str (v.op), Str (v.rt), I ((v.ht : Nat) : Int), .slice v.bsA v.bs.length v.bsc, .bool (v.th), Str (v.pk), Str (v.pv)] 60] _
 refine J.q (qAi (l := [N64 x.ep, Str (x.par), I (x.dep), I (x.aud), .slice A x.nodes.length c]) rfl rfl rfl) rfl fun g5 _ => ?_
 change J _ _ _ [_, _, blk g5 [N64 x.ep, Str (x.par), I (x.dep), I (x.aud), .slice A x.nodes.length c] 39] _
 refine J.q (qAi (l := [N64 y.ep, Str (y.par), I (y.dep), I (y.aud), .slice B y.nodes.length e]) rfl rfl rfl) rfl fun g6 _ => ?_
 change J _ _ _ [_, _, _, blk g6 [N64 y.ep, Str (y.par), I (y.dep), I (y.aud), .slice B y.nodes.length e] 39] _
 refine J.b rfl <| J.c hK1 <| J.T 3 4 5 6 ?_
 refine J.g fun K2 hK2 => J.c5 3 qDR qBf rfl rfl rfl rfl rfl <| J.q (qAC rfl rfl ent11 (Ct.use0 (fun F' hF => qBV F' (hK.mo hF) y B e hgy (hsy.mono (hF F (by simp)))))) rfl fun g11 _ => J.b rfl <| J.c hK2 <| J.a3 3 4 5 6 9 ?_
 refine J.p fun K3 hK3 => J.W <| J.g fun K4 hK4 => J.b rfl <| J.f (qBH rfl rfl rfl) rfl <| J.b rfl <| J.c2 (d := 15) rfl (fun h15 => ?_) (fun h15 => ?_)
 ·
  refine J.j 15 rfl <| J.c hK4 <| J.T 3 4 5 12 ?_
  refine J.c9 ?_
  refine J.g fun K5 hK5 => J.b rfl <| J.c hK5 <| J.u 8 ?_
  exact J.D <| J.a9 <| J.Z <| J.H hw0 rfl () (by first | (rw [qDx (.inl h15)]; rfl) | (rw [qDx (.inr (.inl (show v.ep ≠ y.ep by omega)))]; rfl) | (rw [qDx (.inr (.inr h12))]; rfl)) trivial [0] rfl (by decide)
 refine J.E (qAA (j := 0) rfl rfl qEs rfl qEd rfl) rfl <| J.E (qAA (j := 0) rfl rfl qEI rfl qGc rfl) rfl <| J.E (qAE 1 (v := N64 v.ep) rfl rfl rfl qLX rfl) rfl <| J.E (qAA (j := 0) rfl rfl qDy rfl qGc rfl) rfl <| J.E (qAE 3 (v := N64 y.ep) rfl rfl rfl qLX rfl) rfl <| J.E (qAz rfl rfl rfl) rfl <| J.j 2 rfl <| J.c2 (d := 23) rfl (fun h23 => ?_) (fun h23 => ?_)
 ·
  refine J.j 7 rfl <| J.c hK4 <| J.T 3 4 5 12 ?_
  refine J.c9 ?_
  refine J.g fun K6 hK6 => J.b rfl <| J.c hK6 <| J.u 8 ?_
  exact J.D <| J.a9 <| J.Z <| J.H hw0 rfl () (by first | (rw [qDx (.inl h15)]; rfl) | (rw [qDx (.inr (.inl (show v.ep ≠ y.ep by omega)))]; rfl) | (rw [qDx (.inr (.inr h12))]; rfl)) trivial [0] rfl (by decide)
 refine J.E (qAA (j := 0) rfl rfl qEs rfl qEd rfl) rfl <| J.E (qAA (j := 2) rfl rfl qEI rfl z9_ rfl) rfl <| J.E (qAE 1 (v := Str (v.hd)) rfl rfl rfl b9_ rfl) rfl <| J.b rfl <| J.E (qJr rfl rfl rfl) rfl <| J.j 2 rfl <| J.c hK4 <| J.T 3 4 5 12 ?_
 refine J.a0 rfl (fun h12 => ?_) (fun h12 => ?_)
 ·
  refine J.g fun K7 hK7 => J.b rfl <| J.c hK7 <| J.u 8 ?_
  exact J.D <| J.a9 <| J.Z <| J.H hw0 rfl () (by first | (rw [qDx (.inl h15)]; rfl) | (rw [qDx (.inr (.inl (show v.ep ≠ y.ep by omega)))]; rfl) | (rw [qDx (.inr (.inr h12))]; rfl)) trivial [0] rfl (by decide)
 refine J.p fun K8 hK8 => ?_
 have hn : ¬ (y.dig = [] ∨ v.ep ≠ y.ep ∨ v.hd ≠ y.dig) := fun h => by
  rcases h with h | h | h
  · exact h15 h
  · omega
  · exact h12 h
 refine J.M <| J.c5 1 isAgg60 qIg rfl rfl rfl rfl rfl <| J.b rfl <| J.q (qAC rfl rfl ent103 (Ct.use0 (fun F' hF => qOK F' v (hv.mono (hF F (by simp))) Aw nw cw ws (hws.mono (hF F (by simp))) W sl hsl6 (hwk.mono (hF F (by simp)))))) rfl fun g33 _ => J.f (qA3 rfl rfl) rfl <| J.b rfl <| J.c hK8 <| J.O 4 5 30 ?_
 refine J.d1 rfl (fun h30 => ?_) (fun h30 => ?_)
 ·
  refine J.g fun K9 hK9 => J.b rfl <| J.c hK9 <| J.u 8 ?_
  exact J.D <| J.a9 <| J.Z <| J.H hw0 rfl () (by rw [qS9 hn (notT h30)]; rfl) trivial [0] rfl (by decide)
 refine J.p fun K10 hK10 => J.c0 [blk g4 [N64 v.ep, I ((v.b : Nat) : Int), Str (v.hd), I ((v.nm : Nat) : Int), I ((v.i : Nat) : Int), .slice v.chA v.ch.length v.chc, .slice v.ptA v.pt.length v.ptc, Str (v.an), Str (v.op), Str (v.rt), I ((v.ht : Nat) : Int), .slice v.bsA v.bs.length v.bsc, .bool (v.th), Str (v.pk), Str (v.pv)] 60, blk g5 [N64 x.ep, Str (x.par), I (x.dep), I (x.aud), .slice A x.nodes.length c] 39] [] (.y 0 (.y 1 (.y 2 (.y 4 (.y 5 (.y 6 (.y 8 (.y 9 (.e 3 (.e 7 (.e 10 (.e 11 (.y 12 (.y 13 .nil)))))))))))))) Tryz.wide (by decide +kernel) (by simp) ?_
 refine J.k rfl (qAA (j := 11) rfl rfl qEs rfl qFr rfl) rfl rfl <| J.k rfl (qAd (vs := [.slice v.bsA v.bs.length v.bsc, .bool (v.th), Str (v.pk), Str (v.pv)]) rfl rfl qLV qFr (m := blk g4 [N64 v.ep, I ((v.b : Nat) : Int), Str (v.hd), I ((v.nm : Nat) : Int), I ((v.i : Nat) : Int), .slice v.chA v.ch.length v.chc, .slice v.ptA v.pt.length v.ptc, Str (v.an), Str (v.op), Str (v.rt), I ((v.ht : Nat) : Int), .slice v.bsA v.bs.length v.bsc, .bool (v.th), Str (v.pk), Str (v.pv)] 60) (by simp) (qAS.blk0.sub 11 4) rfl) rfl rfl <| J.k rfl (qAg 1 rfl rfl rfl qDR qBf rfl) rfl rfl <| J.k rfl (qAA (j := 0) rfl rfl qEs rfl qEd rfl) rfl rfl <| J.k rfl (qAA (j := 3) rfl rfl qEI rfl z3_ rfl) rfl rfl <| J.k rfl (qAE 0 (v := I ((v.nm : Nat) : Int)) rfl rfl rfl b3_ rfl) rfl rfl <| J.k rfl (qAA (j := 7) rfl rfl qEs rfl qEr rfl) rfl rfl <| J.k rfl (qAd (vs := [Str (v.an), Str (v.op), Str (v.rt), I ((v.ht : Nat) : Int)]) rfl rfl qLW qEr (m := blk g4 [N64 v.ep, I ((v.b : Nat) : Int), Str (v.hd), I ((v.nm : Nat) : Int), I ((v.i : Nat) : Int), .slice v.chA v.ch.length v.chc, .slice v.ptA v.pt.length v.ptc, Str (v.an), Str (v.op), Str (v.rt), I ((v.ht : Nat) : Int), .slice v.bsA v.bs.length v.bsc, .bool (v.th), Str (v.pk), Str (v.pv)] 60) (by simp) (qAS.blk0.sub 7 4) rfl) rfl rfl <| J.a2 rfl (qAC rfl rfl ent105 (Ct.use0 (fun F' hF => qPl F' (hK.mo hF) x A c hg (hsl.mono (hF F (by simp))) hsm))) rfl (by simp) fun g39 _ => J.a2 rfl (qAC rfl rfl ent48 (Ct.use0 (fun F' hF => qDL F' (hK.mo hF) v.nm (by have := hv.nm64; omega)))) rfl (by simp) fun g43 _ => J.a2 rfl (qAC rfl rfl ent74 (Ct.use0 (fun F' hF => qNw F' (hK.mo hF) v.an v.op v.rt ((v.ht : Nat) : Int) (by have := hv.an; omega) (by have := hv.op; omega) (by have := hv.rt; omega) hv.pe))) rfl (by simp) fun g46 _ => J.a2 rfl (qAC rfl rfl ent104 (Ct.use0 (fun F' hF => qSS F' (hK.mo hF) v (hv.mono (hF F (by simp))) x))) rfl (by simp) fun g47 _ => J.k rfl (qA3 rfl rfl) rfl rfl <| J.c1 ?_
 refine J.b3 <| J.A (J.L hK10 ?_)
 refine J.G 4 35 ?_
 refine J.d1 rfl (fun h35 => ?_) (fun h35 => ?_)
 ·
  refine J.g fun K11 hK11 => J.b rfl <| J.c hK11 <| J.u 8 ?_
  exact J.D <| J.a9 <| J.Z <| J.H hw0 rfl () (by rw [qS8 hn (qS2 h30) (notT h35)]; rfl) trivial [0] rfl (by decide)
 refine J.g fun K12 hK12 => J.a7 0 qEs qEd rfl rfl rfl rfl rfl <| J.f (qAd (vs := [N64 v.ep, I ((v.b : Nat) : Int), Str (v.hd), I ((v.nm : Nat) : Int), I ((v.i : Nat) : Int), .slice v.chA v.ch.length v.chc, .slice v.ptA v.pt.length v.ptc]) rfl rfl isAgg52 qEd (m := blk g4 [N64 v.ep, I ((v.b : Nat) : Int), Str (v.hd), I ((v.nm : Nat) : Int), I ((v.i : Nat) : Int), .slice v.chA v.ch.length v.chc, .slice v.ptA v.pt.length v.ptc, Str (v.an), Str (v.op), Str (v.rt), I ((v.ht : Nat) : Int), .slice v.bsA v.bs.length v.bsc, .bool (v.th), Str (v.pk), Str (v.pv)] 60) (by simp) (qAS.blk0.sub 0 7) rfl) rfl <| J.a7 7 qEs qEr rfl rfl rfl rfl rfl <| J.a7 8 qIe qF1 rfl rfl rfl rfl rfl <| J.f (qAd (vs := [Str (v.op), Str (v.rt), I ((v.ht : Nat) : Int)]) rfl rfl isAgg54 qF1 (m := blk g4 [N64 v.ep, I ((v.b : Nat) : Int), Str (v.hd), I ((v.nm : Nat) : Int), I ((v.i : Nat) : Int), .slice v.chA v.ch.length v.chc, .slice v.ptA v.pt.length v.ptc, Str (v.an), Str (v.op), Str (v.rt), I ((v.ht : Nat) : Int), .slice v.bsA v.bs.length v.bsc, .bool (v.th), Str (v.pk), Str (v.pv)] 60) (by simp) (qAS.blk0.sub 8 3) rfl) rfl <| J.q (qAC rfl rfl ent25 (Ct.use0 (fun F' hF => qP9 F' (hK.mo hF) v (hv.mono (hF F (by simp)))))) rfl fun g55 _ => J.f (qA3 rfl rfl) rfl <| J.b rfl <| J.c hK12 <| J.u 49 ?_
 refine J.d1 rfl (fun h49 => ?_) (fun h49 => ?_)
 ·
  refine J.g fun K13 hK13 => J.b rfl <| J.c hK13 <| J.u 8 ?_
  exact J.D <| J.a9 <| J.Z <| J.H hw0 rfl () (by rw [qTA hn (qS2 h30) (qS2 h35) (notT h49)]; rfl) trivial [0] rfl (by decide)
 refine J.b9 <| J.a5 <| J.A (J.L hK3 ?_)
 refine J.c7 [] trivial <| J.g fun K14 hK14 => J.b rfl <| J.c hK14 <| J.u 8 ?_
 exact J.D <| J.H hw0 rfl () (by rw [vck_0 hn (qS2 h30) (qS2 h35) (qS2 h49)]; rfl) trivial [0] rfl (by decide)
end Go.Proofs.YtfldiegfenndjaaGreatDoor
