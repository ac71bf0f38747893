/- A part of the proof. -/
import Derived.Test.YtfldiegfenndjaaGreatDoorTopCcG8
import Derived.Test.YtfldiegfenndjaaGreatDoorTopCcG21
import Derived.Test.YtfldiegfenndjaaGreatDoorTopCcG24
import Derived.Test.YtfldiegfenndjaaGreatDoorTopCcG30
import Derived.Test.YtfldiegfenndjaaGreatDoorTopCcG31
set_option linter.unusedSimpArgs false
set_option linter.unusedVariables false
namespace Go.Proofs.YtfldiegfenndjaaGreatDoor
open Go Go.Fw Go.Proofs.Tryz
set_option maxRecDepth 100000
set_option maxHeartbeats 1000000
theorem qQA (F : Hp) (hK : KF F) (x : Hd) (A : Option Addr) (c : Nat) (hg : x.good) (hsl : Sl F 1 A x.nodes.length c (qAL x.nodes)) (hsm : ∀ s ∈ x.nodes, s.length ≤ 1048576) :
    Ct prog 105 [.agg #[N64 x.ep, Str x.par, I x.dep, I x.aud, .slice A x.nodes.length c]] [F] (fun _ : Unit => Str (qFo x.nodes x.dep)) (fun _ => True) (fun _ => [F]) := by
  refine Ct.walk func105 rfl ntmps105 rfl (fun w0 hw0 => ?_)
  refine J.g fun K1 hK1 => J.u (qAl rfl rfl rfl) rfl fun g1 _ => J.b rfl <| J.c hK1 <| J.A 1 ?_
  refine J.g fun K2 hK2 => J.a8 4 qEb qEZ rfl rfl rfl rfl rfl <| J.c4 1 qDq rfl rfl rfl rfl rfl <| J.a8 2 qEb z3_ rfl rfl rfl rfl rfl <| J.c4 1 b3_ rfl rfl rfl rfl rfl <| J.u (qAB rfl rfl ent151 (Ct.use0 (fun F' hF => qQQ F' (hK.mo hF) x.dep x.nodes A c (hsl.mono (hF F (by simp))) hsm))) rfl fun g10 _ => J.p 5 rfl <| J.c hK2 <| J.A 3 ?_
  refine J.g fun K3 hK3 => J.p 2 rfl <| J.c hK3 <| J.A 2 ?_
  exact J.D <| J.L hw0 rfl () rfl trivial [0] rfl (by decide)
structure VtD where
 ep : Nat
 b : Nat
 hd : List UInt8
 nm : Nat
 i : Nat
 chA : Option Addr
 chc : Nat
 ch : List (List UInt8)
 ptA : Option Addr
 ptc : Nat
 pt : List (List UInt8)
 an : List UInt8
 op : List UInt8
 rt : List UInt8
 ht : Nat
 bsA : Option Addr
 bsc : Nat
 bs : List (List UInt8)
 th : Bool
 pk : List UInt8
 pv : List UInt8
def VtD.cells (x : VtD) : List Value := [N64 (x.ep), I ((x.b : Nat) : Int), Str (x.hd), I ((x.nm : Nat) : Int), I ((x.i : Nat) : Int), .slice x.chA x.ch.length x.chc, .slice x.ptA x.pt.length x.ptc, Str (x.an), Str (x.op), Str (x.rt), I ((x.ht : Nat) : Int), .slice x.bsA x.bs.length x.bsc, .bool (x.th), Str (x.pk), Str (x.pv)]
def qAP : VtD := ⟨0, 0, [], 0, 0, none, 0, [], none, 0, [], [], [], [], 0, none, 0, [], false, [], []⟩
def qDW (l : List VtD) : List (List Value) := l.map VtD.cells
theorem qOg {l : List VtD} {k : Nat} (h : k < l.length) : (qDW l)[k]? = some (l.getD k qAP).cells := by
 unfold qDW
 rw [List.getElem?_map, qAi qAP h]; rfl
theorem qOh (a b : List VtD) : qDW (a ++ b) = qDW a ++ qDW b := by simp [qDW]
theorem qSQ (a : List VtD) : (qDW a).all (fun x => x.all Value.oneCell') = true := qSR VtD.cells (fun _ => rfl) a
theorem notT {b : Bool} (h : (!b) = true) : b = false := by cases b; rfl; cases h
theorem qTR {b : Bool} (h : (!b) = false) : b = true := by cases b; cases h; rfl
structure qKY (F : Hp) (v : VtD) : Prop where
 ch : Sl F 1 v.chA v.ch.length v.chc (qAL v.ch)
 pt : Sl F 1 v.ptA v.pt.length v.ptc (qAL v.pt)
 bs : Sl F 1 v.bsA v.bs.length v.bsc (qAL v.bs)
 good : qOR v.bs v.th v.pk v.pv (qAM v.nm) 0
 pvl : v.pv.length ≤ 1000000
 ch35 : v.ch.length = 35
 ch16 : ∀ s ∈ v.ch, s.length = 16
 ptl : v.pt.length = v.ht
 pt16 : ∀ s ∈ v.pt, s.length = 16
 h6 : v.ht ≤ 6
 hi : v.i < 2 ^ v.ht
 an : v.an.length ≤ 1000000
 op : v.op.length ≤ 1000000
 rt : v.rt.length ≤ 1000000
 pe : qBd v.op v.rt ((v.ht : Nat) : Int) = 0
 b16 : v.b < 16
 nm64 : v.nm < 64
 ep : v.ep ≤ 4294967295
 hd : v.hd.length = 16
theorem qKY.mono {F F' : Hp} {v : VtD} (h : qKY F v) (hl : Le F F') : qKY F' v := ⟨h.ch.mono hl, h.pt.mono hl, h.bs.mono hl, h.good, h.pvl, h.ch35, h.ch16, h.ptl, h.pt16, h.h6, h.hi, h.an, h.op, h.rt, h.pe, h.b16, h.nm64, h.ep, h.hd⟩
def qFD (ws : List WnD) (b nm : Nat) : Bool := decide (b < ws.length) && decide (0 ≤ Wd.find (ws.getD b qCk).l ((nm : Nat) : Int) 0)
def valV (v : VtD) : List UInt8 := Sha.tagged 16 [v.an, qBe v.op v.rt ((v.ht : Nat) : Int)]
def qOS (v : VtD) : Bool := decide (Mk.climb (Wo.publicOf v.op v.i (Wo.ends v.op v.i (Wo.digs (Xm.digest v.op v.i (atM v.ep v.b v.nm v.hd))) v.ch 35)) v.i v.pt = v.rt)
def qNg (x : Hd) (v : VtD) : Bool := qRB v.bs v.th v.pk v.pv (qFo x.nodes x.dep) (qAM v.nm) (valV v) 0
def qKt (x y : Hd) (ws : List WnD) (v : VtD) : Nat := if y.dig = [] ∨ v.ep ≠ y.ep ∨ v.hd ≠ y.dig then 15 else if qFD ws v.b v.nm = false then 17 else if qNg x v = false then 18 else if qOS v = false then 12 else 0
theorem qDs {x y : Hd} {ws : List WnD} {v : VtD} (h : y.dig = [] ∨ v.ep ≠ y.ep ∨ v.hd ≠ y.dig) : qKt x y ws v = 15 := if_pos h
theorem qTW {x y : Hd} {ws : List WnD} {v : VtD} (h : ¬ (y.dig = [] ∨ v.ep ≠ y.ep ∨ v.hd ≠ y.dig)) (h2 : qFD ws v.b v.nm = false) : qKt x y ws v = 17 := by unfold qKt; rw [if_neg h, if_pos h2]
theorem qTV {x y : Hd} {ws : List WnD} {v : VtD} (h : ¬ (y.dig = [] ∨ v.ep ≠ y.ep ∨ v.hd ≠ y.dig)) (h2 : qFD ws v.b v.nm = true) (h3 : qNg x v = false) : qKt x y ws v = 18 := by unfold qKt; rw [if_neg h, h2, if_neg (by decide), if_pos h3]
theorem qTX {x y : Hd} {ws : List WnD} {v : VtD} (h : ¬ (y.dig = [] ∨ v.ep ≠ y.ep ∨ v.hd ≠ y.dig)) (h2 : qFD ws v.b v.nm = true) (h3 : qNg x v = true) (h4 : qOS v = false) : qKt x y ws v = 12 := by unfold qKt; rw [if_neg h, h2, if_neg (by decide), h3, if_neg (by decide), if_pos h4]
theorem vck_0 {x y : Hd} {ws : List WnD} {v : VtD} (h : ¬ (y.dig = [] ∨ v.ep ≠ y.ep ∨ v.hd ≠ y.dig)) (h2 : qFD ws v.b v.nm = true) (h3 : qNg x v = true) (h4 : qOS v = true) : qKt x y ws v = 0 := by unfold qKt; rw [if_neg h, h2, if_neg (by decide), h3, if_neg (by decide), h4, if_neg (by decide)]
theorem qQV (F : Hp) (hK : KF F) (v : VtD) (hv : qKY F v) :
    Ct prog 25 [.agg #[N64 v.ep, I ((v.b : Nat) : Int), Str v.hd, I ((v.nm : Nat) : Int), I ((v.i : Nat) : Int), .slice v.chA v.ch.length v.chc, .slice v.ptA v.pt.length v.ptc], .agg #[Str v.op, Str v.rt, I ((v.ht : Nat) : Int)]] [F] (fun _ : Unit => .bool (qOS v)) (fun _ => True) (fun _ => [F]) := by
  have hch := hv.ch
  have hpt := hv.pt
  rw [hv.ch35] at hch
  rw [hv.ptl] at hpt
  have := qLr F hK v.ep v.b v.nm v.hd hv.ep hv.b16 hv.nm64 hv.hd v.op v.rt v.i v.chA v.chc v.ch hch hv.ch16 v.ptA v.ht v.ptc v.pt hpt hv.pt16 (by have := hv.op; omega) hv.h6 hv.hi
  rw [hv.ch35, hv.ptl]
  unfold qOS
  exact this
theorem qSq (F : Hp) (hK : KF F) (v : VtD) (hv : qKY F v) (x : Hd) :
    Ct prog 104 [.agg #[.slice v.bsA v.bs.length v.bsc, .bool v.th, Str v.pk, Str v.pv], Str (qFo x.nodes x.dep), Str (qAM v.nm), Str (valV v), I ((0 : Nat) : Int)] [F] (fun _ : Unit => .bool (qNg x v)) (fun _ => True) (fun _ => [F]) := by
  unfold qNg
  exact qQD F hK v.bsA v.bsc v.bs hv.bs v.th v.pk v.pv (qAM v.nm) 0 hv.good (qFo x.nodes x.dep) (valV v) hv.pvl
theorem qOi (F : Hp) (v : VtD) (hv : qKY F v) (Aw : Option Addr) (nw cw : Nat) (ws : List WnD) (hws : Sl F 1 Aw nw cw (qLu ws)) (W : Nat → List Int) (sl : Nat) (hsl6 : sl ≤ 64) (hwk : qDp F W sl ws) : Ct prog 103 [.agg #[N64 v.ep, I ((v.b : Nat) : Int), Str (v.hd), I ((v.nm : Nat) : Int), I ((v.i : Nat) : Int), .slice v.chA v.ch.length v.chc, .slice v.ptA v.pt.length v.ptc, Str (v.an), Str (v.op), Str (v.rt), I ((v.ht : Nat) : Int), .slice v.bsA v.bs.length v.bsc, .bool (v.th), Str (v.pk), Str (v.pv)], .slice Aw nw cw] [F] (fun _ : Unit => .bool (qFD ws v.b v.nm)) (fun _ => True) (fun _ => [F]) := by
 have hwn : ws.length = nw := by have := hws.1; simpa [qLu] using this
 refine Ct.walk func103 rfl ntmps103 rfl (fun w0 hw0 => ?_)
 refine J.g fun K1 hK1 => J.u (qAl rfl rfl rfl) rfl fun g2 _ => J.b rfl <| J.c hK1 <| J.M 1 2 ?_
 refine J.k fun K2 hK2 => J.g fun K3 hK3 => J.a8 0 qHf qFv rfl rfl rfl rfl rfl <| J.a8 1 qE5 z3_ rfl rfl rfl rfl rfl <| J.c4 1 b3_ rfl rfl rfl rfl rfl <| J.f ((qAS rfl rfl rfl).no (by omega)) rfl <| J.b rfl <| J.O (qAA rfl rfl qHf rfl qFv rfl) rfl <| J.O (qAA rfl rfl qE5 rfl z3_ rfl) rfl <| J.O (qAF 1 rfl rfl rfl b3_ rfl) rfl <| J.b rfl <| J.O (qAZ qOT rfl rfl) rfl <| J.O (qBG rfl rfl rfl) rfl <| J.b rfl <| J.c hK3 <| J.V 1 2 18 ?_
 refine J.a0 rfl (fun h18 => ?_) (fun h18 => ?_)
 ·
  refine J.g fun K4 hK4 => J.b rfl <| J.c hK4 <| J.A 4 ?_
  exact J.D <| J.a5 <| J.L hw0 rfl () (by unfold qFD; rw [decide_eq_false (show ¬ v.b < ws.length by omega)]; rfl) trivial [0] rfl (by decide)
 refine J.a1 hK2 <| J.M 1 2 ?_
 refine J.k fun K5 hK5 => J.b5 [F, blk g2 [N64 v.ep, I ((v.b : Nat) : Int), Str (v.hd), I ((v.nm : Nat) : Int), I ((v.i : Nat) : Int), .slice v.chA v.ch.length v.chc, .slice v.ptA v.pt.length v.ptc, Str (v.an), Str (v.op), Str (v.rt), I ((v.ht : Nat) : Int), .slice v.bsA v.bs.length v.bsc, .bool (v.th), Str (v.pk), Str (v.pv)] 60] [] (.y 0 (.y 1 (.y 2 (.y 3 (.y 4 (.y 5 (.y 6 (.y 7 (.y 8 (.e 9 (.y 10 (.y 11 (.y 12 (.y 13 (.y 14 .nil))))))))))))))) Tryz.wide (by decide +kernel) (by simp) ?_
 refine J.G ?_
 refine J.j rfl (qAA rfl rfl qHf rfl qFv rfl) rfl rfl <| J.j rfl (qAA rfl rfl qE5 rfl z3_ rfl) rfl rfl <| J.j rfl (qAF 1 rfl rfl rfl b3_ rfl) rfl rfl <| J.j rfl (qAG rfl rfl rfl qOT qL2 hws (by omega)) rfl rfl <| J.j rfl (qAK rfl rfl isAgg40 (m := F) (by simp) (hws.part (qJT (by omega)) 0 1)) rfl rfl <| J.j rfl (qAA rfl rfl qHf rfl qFv rfl) rfl rfl <| J.j rfl (qAA rfl rfl qE5 rfl z3_ rfl) rfl rfl <| J.j rfl (qAF 1 rfl rfl rfl b3_ rfl) rfl rfl <| J.a7 rfl (qAB rfl rfl ent148 (Ct.use0 (fun F' hF => qRk F' (ws.getD v.b qCk).lA (ws.getD v.b qCk).l.length (ws.getD v.b qCk).lc (ws.getD v.b qCk).l ((hwk v.b (by omega)).2.2.mono (hF F (by simp))) ((v.nm : Nat) : Int) (by have := (hwk v.b (by omega)).2.1; omega)))) rfl (by simp) fun g29 _ => J.G ?_
 refine J.d4 (I (max (Wd.find (ws.getD v.b qCk).l ((v.nm : Nat) : Int) 0) 0)) ?_
 refine J.d4 (.bool (decide (0 ≤ Wd.find (ws.getD v.b qCk).l ((v.nm : Nat) : Int) 0))) ?_
 refine J.c0 ?_
 refine J.c0 ?_
 refine J.b4 <| J.q (J.H hK5 ?_)
 refine J.A 6 ?_
 refine J.g fun K6 hK6 => J.p 2 rfl <| J.c hK6 <| J.A 4 ?_
 exact J.D <| J.L hw0 rfl () (by unfold qFD; rw [decide_eq_true (show v.b < ws.length by omega)]; rfl) trivial [0] rfl (by decide)
theorem ent103 : qAC prog 103 := qAC.of func103 rfl (by kernel_rfl)
theorem ent104 : qAC prog 104 := qAC.of func104 rfl (by kernel_rfl)
theorem ent105 : qAC prog 105 := qAC.of func105 rfl (by kernel_rfl)
attribute [local irreducible] qOS qNg qFD
theorem qMI (F : Hp) (hK : KF F) (v : VtD) (hv : qKY F v) (x : Hd) (A : Option Addr) (c : Nat) (hg : x.good) (hsl : Sl F 1 A x.nodes.length c (qAL x.nodes)) (y : Hd) (B : Option Addr) (e : Nat) (hgy : y.good) (hsy : Sl F 1 B y.nodes.length e (qAL y.nodes)) (hsm : ∀ s ∈ x.nodes, s.length ≤ 1048576) (Aw : Option Addr) (nw cw : Nat) (ws : List WnD) (hws : Sl F 1 Aw nw cw (qLu ws)) (W : Nat → List Int) (sl : Nat) (hsl6 : sl ≤ 64) (hwk : qDp F W sl ws) : Ct prog 50 [.agg #[N64 v.ep, I ((v.b : Nat) : Int), Str (v.hd), I ((v.nm : Nat) : Int), I ((v.i : Nat) : Int), .slice v.chA v.ch.length v.chc, .slice v.ptA v.pt.length v.ptc, Str (v.an), Str (v.op), Str (v.rt), I ((v.ht : Nat) : Int), .slice v.bsA v.bs.length v.bsc, .bool (v.th), Str (v.pk), Str (v.pv)], .agg #[N64 x.ep, Str (x.par), I (x.dep), I (x.aud), .slice A x.nodes.length c], .agg #[N64 y.ep, Str (y.par), I (y.dep), I (y.aud), .slice B y.nodes.length e], .slice Aw nw cw] [F] (fun _ : Unit => I ((qKt x y ws v : Nat) : Int)) (fun _ => True) (fun _ => [F]) := by
 have hc35 := hv.ch35
 have hptl := hv.ptl
 have hpl := qCc v.nm
 refine Ct.walk func50 rfl ntmps50 rfl (fun w0 hw0 => ?_)
 refine J.g fun K1 hK1 => J.u (qAl rfl rfl rfl) rfl fun g4 _ => J.u (qAl rfl rfl rfl) rfl fun g5 _ => J.u (qAl rfl rfl rfl) rfl fun g6 _ => J.b rfl <| J.c hK1 <| J.W 3 4 5 6 ?_
 refine J.g fun K2 hK2 => J.c7 3 qEH qB6 rfl rfl rfl rfl rfl <| J.u (qAB rfl rfl ent11 (Ct.use0 (fun F' hF => qCA F' (hK.mo hF) y B e hgy (hsy.mono (hF F (by simp)))))) rfl fun g11 _ => J.b rfl <| J.c hK2 <| J.a3 3 4 5 6 9 ?_
 refine J.k fun K3 hK3 => J.T <| J.g fun K4 hK4 => J.b rfl <| J.f (qBM rfl rfl rfl) rfl <| J.b rfl <| J.c3 (d := 15) rfl (fun h15 => ?_) (fun h15 => ?_)
 ·
  refine J.p 15 rfl <| J.c hK4 <| J.W 3 4 5 12 ?_
  refine J.d1 ?_
  refine J.g fun K5 hK5 => J.b rfl <| J.c hK5 <| J.A 8 ?_
  exact J.D <| J.b3 <| J.a5 <| J.L hw0 rfl () (by first | (rw [qDs (.inl h15)]; rfl) | (rw [qDs (.inr (.inl (show v.ep ≠ y.ep by omega)))]; rfl) | (rw [qDs (.inr (.inr h12))]; rfl)) trivial [0] rfl (by decide)
 refine J.O (qAA rfl rfl qHf rfl qFv rfl) rfl <| J.O (qAA rfl rfl qE5 rfl qBQ rfl) rfl <| J.O (qAF 1 rfl rfl rfl qBq rfl) rfl <| J.O (qAA rfl rfl qEb rfl qBQ rfl) rfl <| J.O (qAF 3 rfl rfl rfl qBq rfl) rfl <| J.O (qAx rfl rfl rfl) rfl <| J.p 2 rfl <| J.c3 (d := 23) rfl (fun h23 => ?_) (fun h23 => ?_)
 ·
  refine J.p 7 rfl <| J.c hK4 <| J.W 3 4 5 12 ?_
  refine J.d1 ?_
  refine J.g fun K6 hK6 => J.b rfl <| J.c hK6 <| J.A 8 ?_
  exact J.D <| J.b3 <| J.a5 <| J.L hw0 rfl () (by first | (rw [qDs (.inl h15)]; rfl) | (rw [qDs (.inr (.inl (show v.ep ≠ y.ep by omega)))]; rfl) | (rw [qDs (.inr (.inr h12))]; rfl)) trivial [0] rfl (by decide)
 refine J.O (qAA rfl rfl qHf rfl qFv rfl) rfl <| J.O (qAA rfl rfl qE5 rfl z9_ rfl) rfl <| J.O (qAF 1 rfl rfl rfl b9_ rfl) rfl <| J.b rfl <| J.O (qJu rfl rfl rfl) rfl <| J.p 2 rfl <| J.c hK4 <| J.W 3 4 5 12 ?_
 refine J.a0 rfl (fun h12 => ?_) (fun h12 => ?_)
 ·
  refine J.g fun K7 hK7 => J.b rfl <| J.c hK7 <| J.A 8 ?_
  exact J.D <| J.b3 <| J.a5 <| J.L hw0 rfl () (by first | (rw [qDs (.inl h15)]; rfl) | (rw [qDs (.inr (.inl (show v.ep ≠ y.ep by omega)))]; rfl) | (rw [qDs (.inr (.inr h12))]; rfl)) trivial [0] rfl (by decide)
 refine J.k fun K8 hK8 => ?_
 have hn : ¬ (y.dig = [] ∨ v.ep ≠ y.ep ∨ v.hd ≠ y.dig) := fun h => by
  rcases h with h | h | h
  · exact h15 h
  · omega
  · exact h12 h
 refine J.E <| J.c7 1 isAgg60 qL1 rfl rfl rfl rfl rfl <| J.b rfl <| J.u (qAB rfl rfl ent103 (Ct.use0 (fun F' hF => qOi F' v (hv.mono (hF F (by simp))) Aw nw cw ws (hws.mono (hF F (by simp))) W sl hsl6 (hwk.mono (hF F (by simp)))))) rfl fun g33 _ => J.f (qA2 rfl rfl) rfl <| J.b rfl <| J.c hK8 <| J.V 4 5 30 ?_
 refine J.d0 rfl (fun h30 => ?_) (fun h30 => ?_)
 ·
  refine J.g fun K9 hK9 => J.b rfl <| J.c hK9 <| J.A 8 ?_
  exact J.D <| J.b3 <| J.a5 <| J.L hw0 rfl () (by rw [qTW hn (notT h30)]; rfl) trivial [0] rfl (by decide)
 refine J.k fun K10 hK10 => J.b5 [blk g4 [N64 v.ep, I ((v.b : Nat) : Int), Str (v.hd), I ((v.nm : Nat) : Int), I ((v.i : Nat) : Int), .slice v.chA v.ch.length v.chc, .slice v.ptA v.pt.length v.ptc, Str (v.an), Str (v.op), Str (v.rt), I ((v.ht : Nat) : Int), .slice v.bsA v.bs.length v.bsc, .bool (v.th), Str (v.pk), Str (v.pv)] 60, blk g5 [N64 x.ep, Str (x.par), I (x.dep), I (x.aud), .slice A x.nodes.length c] 39] [] (.y 0 (.y 1 (.y 2 (.y 4 (.y 5 (.y 6 (.y 8 (.y 9 (.e 3 (.e 7 (.e 10 (.e 11 (.y 12 (.y 13 .nil)))))))))))))) Tryz.wide (by decide +kernel) (by simp) ?_
 refine J.j rfl (qAA rfl rfl qHf rfl qGd rfl) rfl rfl <| J.j rfl (qAh rfl rfl qLp qGd (m := blk g4 [N64 v.ep, I ((v.b : Nat) : Int), Str (v.hd), I ((v.nm : Nat) : Int), I ((v.i : Nat) : Int), .slice v.chA v.ch.length v.chc, .slice v.ptA v.pt.length v.ptc, Str (v.an), Str (v.op), Str (v.rt), I ((v.ht : Nat) : Int), .slice v.bsA v.bs.length v.bsc, .bool (v.th), Str (v.pk), Str (v.pv)] 60) (by simp) (qAV.blk0.sub 11 4) rfl) rfl rfl <| J.j rfl (qAk 1 rfl rfl rfl qEH qB6 rfl) rfl rfl <| J.j rfl (qAA rfl rfl qHf rfl qFv rfl) rfl rfl <| J.j rfl (qAA rfl rfl qE5 rfl z3_ rfl) rfl rfl <| J.j rfl (qAF 0 rfl rfl rfl b3_ rfl) rfl rfl <| J.j rfl (qAA rfl rfl qHf rfl qE2 rfl) rfl rfl <| J.j rfl (qAh rfl rfl qLq qE2 (m := blk g4 [N64 v.ep, I ((v.b : Nat) : Int), Str (v.hd), I ((v.nm : Nat) : Int), I ((v.i : Nat) : Int), .slice v.chA v.ch.length v.chc, .slice v.ptA v.pt.length v.ptc, Str (v.an), Str (v.op), Str (v.rt), I ((v.ht : Nat) : Int), .slice v.bsA v.bs.length v.bsc, .bool (v.th), Str (v.pk), Str (v.pv)] 60) (by simp) (qAV.blk0.sub 7 4) rfl) rfl rfl <| J.a7 rfl (qAB rfl rfl ent105 (Ct.use0 (fun F' hF => qQA F' (hK.mo hF) x A c hg (hsl.mono (hF F (by simp))) hsm))) rfl (by simp) fun g39 _ => J.a7 rfl (qAB rfl rfl ent48 (Ct.use0 (fun F' hF => qDP F' (hK.mo hF) v.nm (by have := hv.nm64; omega)))) rfl (by simp) fun g43 _ => J.a7 rfl (qAB rfl rfl ent74 (Ct.use0 (fun F' hF => qOG F' (hK.mo hF) v.an v.op v.rt ((v.ht : Nat) : Int) (by have := hv.an; omega) (by have := hv.op; omega) (by have := hv.rt; omega) hv.pe))) rfl (by simp) fun g46 _ => J.a7 rfl (qAB rfl rfl ent104 (Ct.use0 (fun F' hF => qSq F' (hK.mo hF) v (hv.mono (hF F (by simp))) x))) rfl (by simp) fun g47 _ => J.j rfl (qA2 rfl rfl) rfl rfl <| J.c0 ?_
 refine J.b4 <| J.q (J.H hK10 ?_)
 refine J.M 4 35 ?_
 refine J.d0 rfl (fun h35 => ?_) (fun h35 => ?_)
 ·
  refine J.g fun K11 hK11 => J.b rfl <| J.c hK11 <| J.A 8 ?_
  exact J.D <| J.b3 <| J.a5 <| J.L hw0 rfl () (by rw [qTV hn (qTR h30) (notT h35)]; rfl) trivial [0] rfl (by decide)
 refine J.g fun K12 hK12 => J.a8 0 qHf qFv rfl rfl rfl rfl rfl <| J.f (qAh rfl rfl isAgg52 qFv (m := blk g4 [N64 v.ep, I ((v.b : Nat) : Int), Str (v.hd), I ((v.nm : Nat) : Int), I ((v.i : Nat) : Int), .slice v.chA v.ch.length v.chc, .slice v.ptA v.pt.length v.ptc, Str (v.an), Str (v.op), Str (v.rt), I ((v.ht : Nat) : Int), .slice v.bsA v.bs.length v.bsc, .bool (v.th), Str (v.pk), Str (v.pv)] 60) (by simp) (qAV.blk0.sub 0 7) rfl) rfl <| J.a8 7 qHf qE2 rfl rfl rfl rfl rfl <| J.a8 8 qIm qF5 rfl rfl rfl rfl rfl <| J.f (qAh rfl rfl isAgg54 qF5 (m := blk g4 [N64 v.ep, I ((v.b : Nat) : Int), Str (v.hd), I ((v.nm : Nat) : Int), I ((v.i : Nat) : Int), .slice v.chA v.ch.length v.chc, .slice v.ptA v.pt.length v.ptc, Str (v.an), Str (v.op), Str (v.rt), I ((v.ht : Nat) : Int), .slice v.bsA v.bs.length v.bsc, .bool (v.th), Str (v.pk), Str (v.pv)] 60) (by simp) (qAV.blk0.sub 8 3) rfl) rfl <| J.u (qAB rfl rfl ent25 (Ct.use0 (fun F' hF => qQV F' (hK.mo hF) v (hv.mono (hF F (by simp)))))) rfl fun g55 _ => J.f (qA2 rfl rfl) rfl <| J.b rfl <| J.c hK12 <| J.A 49 ?_
 refine J.d0 rfl (fun h49 => ?_) (fun h49 => ?_)
 ·
  refine J.g fun K13 hK13 => J.b rfl <| J.c hK13 <| J.A 8 ?_
  exact J.D <| J.b3 <| J.a5 <| J.L hw0 rfl () (by rw [qTX hn (qTR h30) (qTR h35) (notT h49)]; rfl) trivial [0] rfl (by decide)
 refine J.b7 <| J.a4 <| J.q (J.H hK3 ?_)
 refine J.c6 [] trivial <| J.g fun K14 hK14 => J.b rfl <| J.c hK14 <| J.A 8 ?_
 exact J.D <| J.L hw0 rfl () (by rw [vck_0 hn (qTR h30) (qTR h35) (qTR h49)]; rfl) trivial [0] rfl (by decide)
end Go.Proofs.YtfldiegfenndjaaGreatDoor
