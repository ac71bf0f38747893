/- A part of the proof. -/
import Derived.Test.YtcgcjaflllmlpaaGreatDoorTopCfG8
import Derived.Test.YtcgcjaflllmlpaaGreatDoorTopCfG29
import Derived.Test.YtcgcjaflllmlpaaGreatDoorTopCfG28
import Derived.Test.YtcgcjaflllmlpaaGreatDoorTopCfG25
import Derived.Test.YtcgcjaflllmlpaaGreatDoorTopCfG30
set_option linter.unusedSimpArgs false
set_option linter.unusedVariables false
namespace Go.Proofs.YtcgcjaflllmlpaaGreatDoor
open Go Go.Fw Go.Proofs.Tryz
set_option maxRecDepth 100000
set_option maxHeartbeats 1000000
structure VtD where
 ep:Nat
 b:Nat
 hd:List UInt8
 nm:Nat
 i:Nat
 chA:Option Addr
 chc:Nat
 ch:List (List UInt8)
 ptA:Option Addr
 ptc:Nat
 pt:List (List UInt8)
 an:List UInt8
 op:List UInt8
 rt:List UInt8
 ht:Nat
 bsA:Option Addr
 bsc:Nat
 bs:List (List UInt8)
 th:Bool
 pk:List UInt8
 pv:List UInt8
def VtD.cells(x:VtD):List Value:= [N64 (x.ep),I ((x.b:Nat):Int),Str (x.hd),I ((x.nm:Nat):Int),I ((x.i:Nat):Int),.slice x.chA x.ch.length x.chc,.slice x.ptA x.pt.length x.ptc,Str (x.an),Str (x.op),Str (x.rt),I ((x.ht:Nat):Int),.slice x.bsA x.bs.length x.bsc,.bool (x.th),Str (x.pk),Str (x.pv)]
def qAN:VtD:=⟨0,0,[],0,0,none,0,[],none,0,[],[],[],[],0,none,0,[],false,[],[]⟩
def qHB(l:List VtD):List (List Value):=l.map VtD.cells
theorem qIF{l:List VtD}{k:Nat}(h:k<l.length):(qHB l)[k]?=some (l.getD k qAN).cells:=by
 unfold qHB
 rw [jO,qAj qAN h];rfl
theorem qGD(a:List VtD)(x:VtD):qHB (a++ [x])=qHB a++ [x.cells]:=by simp [qHB]
theorem notT{b:Bool}(h:(!b)=true):b=false:=by cases b;rfl;cases h
theorem qXx{b:Bool}(h:(!b)=false):b=true:=by cases b;cases h;rfl
structure qSC (F:Hp) (v:VtD):Prop where
 ch:Sl F 1 v.chA v.ch.length v.chc (qAI v.ch)
 pt:Sl F 1 v.ptA v.pt.length v.ptc (qAI v.pt)
 bs:Sl F 1 v.bsA v.bs.length v.bsc (qAI v.bs)
 good:qK0 v.bs v.th v.pk v.pv (qAM v.nm) 0
 pvl:v.pv.length≤1000000
 ch35:v.ch.length=35
 ch16: ∀s∈v.ch,s.length=16
 ptl:v.pt.length=v.ht
 pt16: ∀s∈v.pt,s.length=16
 h6:v.ht≤6
 hi:v.i<2^v.ht
 an:v.an.length≤1000000
 op:v.op.length≤1000000
 rt:v.rt.length≤1000000
 pe:qBH v.op v.rt ((v.ht:Nat):Int)=0
 b16:v.b<16
 nm64:v.nm<64
 ep:v.ep≤4294967295
 hd:v.hd.length=16
theorem qSC.mono{F F':Hp}{v:VtD}(h:qSC F v)(hl:Le F F'):qSC F' v:=⟨h.ch.mono hl,h.pt.mono hl,h.bs.mono hl,h.good,h.pvl,h.ch35,h.ch16,h.ptl,h.pt16,h.h6,h.hi,h.an,h.op,h.rt,h.pe,h.b16,h.nm64,h.ep,h.hd⟩
def qGN(ws:List WnD)(b nm:Nat):Bool:=decide (b<ws.length)&&decide (0≤Wd.find (ws.getD b qDj).l ((nm:Nat):Int) 0)
def valV(v:VtD):List UInt8:=Sha.tagged 16 [v.an,qBL v.op v.rt ((v.ht:Nat):Int)]
def qSI(v:VtD):Bool:=decide (Mk.climb (Wo.publicOf v.op v.i (Wo.ends v.op v.i (Wo.digs (Xm.digest v.op v.i (atM v.ep v.b v.nm v.hd))) v.ch 35)) v.i v.pt=v.rt)
def qRE(x:Hd)(v:VtD):Bool:=qOj v.bs v.th v.pk v.pv (qCI x.nodes x.dep) (qAM v.nm) (valV v) 0
def qNt(x y:Hd)(ws:List WnD)(v:VtD):Nat:=if y.dig= []∨v.ep≠y.ep∨v.hd≠y.dig then 15 else if qGN ws v.b v.nm=false then 17 else if qRE x v=false then 18 else if qSI v=false then 12 else 0
theorem qEW{x y:Hd}{ws:List WnD}{v:VtD}(h:y.dig= []∨v.ep≠y.ep∨v.hd≠y.dig):qNt x y ws v=15:=if_pos h
theorem qX4{x y:Hd}{ws:List WnD}{v:VtD}(h: ¬(y.dig= []∨v.ep≠y.ep∨v.hd≠y.dig))(h2:qGN ws v.b v.nm=false):qNt x y ws v=17:=by unfold qNt;rw [if_neg h,if_pos h2]
theorem qX3{x y:Hd}{ws:List WnD}{v:VtD}(h: ¬(y.dig= []∨v.ep≠y.ep∨v.hd≠y.dig))(h2:qGN ws v.b v.nm=true)(h3:qRE x v=false):qNt x y ws v=18:=by unfold qNt;rw [if_neg h,h2,if_neg (by decide),if_pos h3]
theorem qX5{x y:Hd}{ws:List WnD}{v:VtD}(h: ¬(y.dig= []∨v.ep≠y.ep∨v.hd≠y.dig))(h2:qGN ws v.b v.nm=true)(h3:qRE x v=true)(h4:qSI v=false):qNt x y ws v=12:=by unfold qNt;rw [if_neg h,h2,if_neg (by decide),h3,if_neg (by decide),if_pos h4]
theorem vck_0{x y:Hd}{ws:List WnD}{v:VtD}(h: ¬(y.dig= []∨v.ep≠y.ep∨v.hd≠y.dig))(h2:qGN ws v.b v.nm=true)(h3:qRE x v=true)(h4:qSI v=true):qNt x y ws v=0:=by unfold qNt;rw [if_neg h,h2,if_neg (by decide),h3,if_neg (by decide),h4,if_neg (by decide)]
theorem qUa(F:Hp)(hK:KF F)(v:VtD)(hv:qSC F v):
    Cz prog 144 [.agg #[N64 v.ep,I ((v.b:Nat):Int),Str v.hd,I ((v.nm:Nat):Int),I ((v.i:Nat):Int),.slice v.chA v.ch.length v.chc,.slice v.ptA v.pt.length v.ptc],.agg #[Str v.op,Str v.rt,I ((v.ht:Nat):Int)]] F (.bool (qSI v)):=by
  have hch:=hv.ch
  have hpt:=hv.pt
  rw [hv.ch35] at hch
  rw [hv.ptl] at hpt
  have:=qOs F hK v.ep v.b v.nm v.hd hv.ep hv.b16 hv.nm64 hv.hd v.op v.rt v.i v.chA v.chc v.ch hch hv.ch16 v.ptA v.ht v.ptc v.pt hpt hv.pt16 (by have:=hv.op;omega) hv.h6 hv.hi
  rw [hv.ch35,hv.ptl]
  unfold qSI
  exact this
theorem qXE(F:Hp)(hK:KF F)(v:VtD)(hv:qSC F v)(x:Hd):
    Cz prog 44 [.agg #[.slice v.bsA v.bs.length v.bsc,.bool v.th,Str v.pk,Str v.pv],Str (qCI x.nodes x.dep),Str (qAM v.nm),Str (valV v),I ((0:Nat):Int)] F (.bool (qRE x v)):=by
  unfold qRE
  exact qNS F hK v.bsA v.bsc v.bs hv.bs v.th v.pk v.pv (qAM v.nm) 0 hv.good (qCI x.nodes x.dep) (valV v) hv.pvl
theorem qSZ(F:Hp)(v:VtD)(hv:qSC F v)(Aw:Option Addr)(nw cw:Nat)(ws:List WnD)(hws:Sl F 1 Aw nw cw (qOv ws))(W:Nat→List Int)(sl:Nat)(hsl6:sl≤64)(hwk:qES F W sl ws):Cz prog 143 [.agg #[N64 v.ep,I ((v.b:Nat):Int),Str (v.hd),I ((v.nm:Nat):Int),I ((v.i:Nat):Int),.slice v.chA v.ch.length v.chc,.slice v.ptA v.pt.length v.ptc,Str (v.an),Str (v.op),Str (v.rt),I ((v.ht:Nat):Int),.slice v.bsA v.bs.length v.bsc,.bool (v.th),Str (v.pk),Str (v.pv)],.slice Aw nw cw] F (.bool (qGN ws v.b v.nm)):=by
 have hwn:ws.length=nw:=by have:=hws.1;simpa [qOv] using this
 refine Ct.walk func143 rfl ntmps143 rfl (λw0 hw0=>?_)
 refine J.f λ_ j1=>J.p (qAd O O O) O λg2 _=>J.b O<|J.c j1<|J.k λ_ j2=>J.f λ_ j3=>J.T 0 qLF qHN O O O O O<|J.T 1 qFi z3_ O O O O O<|J.a5 1 b3_ O O O O O<|J.g ((qAT O O O).no (by omega)) O<|J.b O<|J.G (qAA O O qLF O qHN O) O<|J.G (qAA O O qFi O z3_ O) O<|J.G (qAE 1 O O O b3_ O) O<|J.b O<|J.G (qAU qIJ O O) O<|J.G (qBA O O O) O<|J.b O<|J.c j3<|J.W O (λh18=>?_) (λh18=>?_)
 ·
  exact J.f λ_ j4=>J.b O<|J.c j4<|J.A<|J.V<|J.E hw0 O () (by unfold qGN;rw [decide_eq_false (show¬v.b<ws.length by omega)];rfl) trivial [0] rfl (by decide)
 refine J.M j2<|J.k λ_ j5=>J.b0 [F,blk g2 [N64 v.ep,I ((v.b:Nat):Int),Str (v.hd),I ((v.nm:Nat):Int),I ((v.i:Nat):Int),.slice v.chA v.ch.length v.chc,.slice v.ptA v.pt.length v.ptc,Str (v.an),Str (v.op),Str (v.rt),I ((v.ht:Nat):Int),.slice v.bsA v.bs.length v.bsc,.bool (v.th),Str (v.pk),Str (v.pv)] 74] [] (.y 0 (.y 1 (.y 2 (.y 3 (.y 4 (.y 5 (.y 6 (.y 7 (.y 8 (.e 9 (.y 10 (.y 11 (.y 12 (.y 13 (.y 14 .nil))))))))))))))) Tryz.wide (by decide+kernel) (by simp) ?_
 refine J.L ?_
 refine J.j O (qAA O O qLF O qHN O) O O<|J.j O (qAA O O qFi O z3_ O) O O<|J.j O (qAE 1 O O O b3_ O) O O<|J.j O (qAH O O O qIJ qOu hws (by omega)) O O<|J.j O (qAJ O O isAgg38 (m:=F) (by simp) (hws.part (qIC (by omega)) 0 1)) rfl rfl<|J.j rfl (qAA rfl rfl qLF rfl qHN rfl) rfl rfl<|J.j rfl (qAA rfl rfl qFi rfl z3_ rfl) rfl rfl<|J.j rfl (qAE 1 rfl rfl rfl b3_ rfl) rfl rfl<|J.Z rfl (qAB rfl rfl ent188 (Ct.use0 (λF' hF=>qVx F' (ws.getD v.b qDj).lA (ws.getD v.b qDj).l.length (ws.getD v.b qDj).lc (ws.getD v.b qDj).l ((hwk v.b (by omega)).2.2.mono (Fa hF)) ((v.nm:Nat):Int) (by have:=(hwk v.b (by omega)).2.1;omega)))) rfl (by simp) λg29 _=>J.L ?_
 refine J.c3 (I (max (Wd.find (ws.getD v.b qDj).l ((v.nm:Nat):Int) 0) 0)) ?_
 refine J.c3 (.bool (decide (0≤Wd.find (ws.getD v.b qDj).l ((v.nm:Nat):Int) 0))) ?_
 refine J.b6 ?_
 refine J.b6 ?_
 refine J.a8<|J.u (J.D j5 ?_)
 exact J.f λ_ j6=>J.q 2 O<|J.c j6<|J.A<|J.E hw0 O () (by unfold qGN;rw [decide_eq_true (show v.b<ws.length by omega)];rfl) trivial [0] rfl (by decide)
theorem ent143:qAD prog 143:=qAD.of func143 rfl (by kernel_rfl)
theorem ent144:qAD prog 144:=qAD.of func144 rfl (by kernel_rfl)
attribute [local irreducible] qSI qRE qGN
theorem qPL(F:Hp)(hK:KF F)(v:VtD)(hv:qSC F v)(x:Hd)(A:Option Addr)(c:Nat)(hg:x.good)(hsl:Sl F 1 A x.nodes.length c (qAI x.nodes))(y:Hd)(B:Option Addr)(e:Nat)(hgy:y.good)(hsy:Sl F 1 B y.nodes.length e (qAI y.nodes))(hsm: ∀s∈x.nodes,s.length≤1048576)(Aw:Option Addr)(nw cw:Nat)(ws:List WnD)(hws:Sl F 1 Aw nw cw (qOv ws))(W:Nat→List Int)(sl:Nat)(hsl6:sl≤64)(hwk:qES F W sl ws):Cz prog 76 [.agg #[N64 v.ep,I ((v.b:Nat):Int),Str (v.hd),I ((v.nm:Nat):Int),I ((v.i:Nat):Int),.slice v.chA v.ch.length v.chc,.slice v.ptA v.pt.length v.ptc,Str (v.an),Str (v.op),Str (v.rt),I ((v.ht:Nat):Int),.slice v.bsA v.bs.length v.bsc,.bool (v.th),Str (v.pk),Str (v.pv)],.agg #[N64 x.ep,Str (x.par),I (x.dep),I (x.aud),.slice A x.nodes.length c],.agg #[N64 y.ep,Str (y.par),I (y.dep),I (y.aud),.slice B y.nodes.length e],.slice Aw nw cw] F (I ((qNt x y ws v:Nat):Int)):=by
 have hc35:=hv.ch35
 have hptl:=hv.ptl
 have hpl:=qBq v.nm
 refine Ct.walk func76 rfl ntmps76 rfl (λw0 hw0=>?_)
 refine J.f λ_ j1=>J.p (qAd O O O) O λg4 _=>J.p (qAd O O O) O λg5 _=>J.p (qAd O O O) O λg6 _=>J.b O<|J.c j1 ?_
 refine J.f λ_ j2=>J.b7 3 qDT qBz O O O O O<|J.p (qAB O O ent33 (Ct.use0 (λF' hF=>qCW F' (hK.mo hF) y B e hgy (hsy.mono (Fa hF))))) O λg11 _=>J.b O<|J.c j2 ?_
 refine J.k λ_ j3=>J.O<|J.f λ_ j4=>J.b O<|J.g (qBS O O O) O<|J.b O<|J.b9 (d:=15) O (λh15=>?_) (λh15=>?_)
 ·
  refine J.q 15 O<|J.c j4 ?_
  refine J.c4 ?_
  refine J.f λ_ j5=>J.b O<|J.c j5 ?_
  exact J.A<|J.a7<|J.V<|J.E hw0 O () (by first|(rw [qEW (.inl h15)];rfl)|(rw [qEW (.inr (.inl (show v.ep≠y.ep by omega)))];rfl)|(rw [qEW (.inr (.inr h12))];rfl)) trivial [0] rfl (by decide)
 refine J.G (qAA O O qLF O qHN O) O<|J.G (qAA O O qFi O qD9 O) O<|J.G (qAE 1 O O O qEz O) O<|J.G (qAA O O qDW O qD9 O) O<|J.G (qAE 3 O O O qEz O) O<|J.G (qAe O O O) O<|J.q 2 O<|J.b9 (d:=23) O (λh23=>?_) (λh23=>?_)
 ·
  refine J.q 7 O<|J.c j4 ?_
  refine J.c4 ?_
  refine J.f λ_ j6=>J.b O<|J.c j6 ?_
  exact J.A<|J.a7<|J.V<|J.E hw0 O () (by first|(rw [qEW (.inl h15)];rfl)|(rw [qEW (.inr (.inl (show v.ep≠y.ep by omega)))];rfl)|(rw [qEW (.inr (.inr h12))];rfl)) trivial [0] rfl (by decide)
 refine J.G (qAA O O qLF O qHN O) O<|J.G (qAA O O qFi O z9_ O) O<|J.G (qAE 1 O O O b9_ O) O<|J.b O<|J.G (qEC O O O) O<|J.q 2 O<|J.c j4 ?_
 refine J.W O (λh12=>?_) (λh12=>?_)
 ·
  refine J.f λ_ j7=>J.b O<|J.c j7 ?_
  exact J.A<|J.a7<|J.V<|J.E hw0 O () (by first|(rw [qEW (.inl h15)];rfl)|(rw [qEW (.inr (.inl (show v.ep≠y.ep by omega)))];rfl)|(rw [qEW (.inr (.inr h12))];rfl)) trivial [0] rfl (by decide)
 refine J.k λ_ j8=>?_
 have hn: ¬(y.dig= []∨v.ep≠y.ep∨v.hd≠y.dig):=λh=>by
  rcases h with h|h|h
  · exact h15 h
  · omega
  · exact h12 h
 refine J.H<|J.b7 1 isAgg74 qSR O O O O O<|J.b O<|J.p (qAB O O ent143 (Ct.use0 (λF' hF=>qSZ F' v (hv.mono (Fa hF)) Aw nw cw ws (hws.mono (Fa hF)) W sl hsl6 (hwk.mono (Fa hF))))) O λg33 _=>J.g (qAy O O) O<|J.b O<|J.c j8 ?_
 refine J.c6 O (λh30=>?_) (λh30=>?_)
 ·
  refine J.f λ_ j9=>J.b O<|J.c j9 ?_
  exact J.A<|J.a7<|J.V<|J.E hw0 O () (by rw [qX4 hn (notT h30)];rfl) trivial [0] rfl (by decide)
 refine J.k λ_ j10=>J.b0 [blk g4 [N64 v.ep,I ((v.b:Nat):Int),Str (v.hd),I ((v.nm:Nat):Int),I ((v.i:Nat):Int),.slice v.chA v.ch.length v.chc,.slice v.ptA v.pt.length v.ptc,Str (v.an),Str (v.op),Str (v.rt),I ((v.ht:Nat):Int),.slice v.bsA v.bs.length v.bsc,.bool (v.th),Str (v.pk),Str (v.pv)] 74,blk g5 [N64 x.ep,Str (x.par),I (x.dep),I (x.aud),.slice A x.nodes.length c] 34] [] (.y 0 (.y 1 (.y 2 (.y 4 (.y 5 (.y 6 (.y 8 (.y 9 (.e 3 (.e 7 (.e 10 (.e 11 (.y 12 (.y 13 .nil)))))))))))))) Tryz.wide (by decide+kernel) (by simp) ?_
 refine J.j O (qAA O O qLF O qCl O) O O<|J.j O (qAX O O qF1 qCl (m:=blk g4 [N64 v.ep,I ((v.b:Nat):Int),Str (v.hd),I ((v.nm:Nat):Int),I ((v.i:Nat):Int),.slice v.chA v.ch.length v.chc,.slice v.ptA v.pt.length v.ptc,Str (v.an),Str (v.op),Str (v.rt),I ((v.ht:Nat):Int),.slice v.bsA v.bs.length v.bsc,.bool (v.th),Str (v.pk),Str (v.pv)] 74) (by simp) (qAR.blk0.sub 11 4) rfl) rfl rfl<|J.j rfl (qAY 1 rfl rfl rfl qDT qBz rfl) rfl rfl<|J.j rfl (qAA rfl rfl qLF rfl qHN rfl) rfl rfl<|J.j rfl (qAA rfl rfl qFi rfl z3_ rfl) rfl rfl<|J.j rfl (qAE 0 rfl rfl rfl b3_ rfl) rfl rfl<|J.j rfl (qAA rfl rfl qLF rfl qDV rfl) rfl rfl<|J.j rfl (qAX rfl rfl qKq qDV (m:=blk g4 [N64 v.ep,I ((v.b:Nat):Int),Str (v.hd),I ((v.nm:Nat):Int),I ((v.i:Nat):Int),.slice v.chA v.ch.length v.chc,.slice v.ptA v.pt.length v.ptc,Str (v.an),Str (v.op),Str (v.rt),I ((v.ht:Nat):Int),.slice v.bsA v.bs.length v.bsc,.bool (v.th),Str (v.pk),Str (v.pv)] 74) (by simp) (qAR.blk0.sub 7 4) rfl) rfl rfl<|J.Z rfl (qAB rfl rfl ent41 (Ct.use0 (λF' hF=>qI2 F' (hK.mo hF) x A c hg (hsl.mono (Fa hF)) hsm))) rfl (by simp) λg39 _=>J.Z rfl (qAB rfl rfl ent86 (Ct.use0 (λF' hF=>qDx F' (hK.mo hF) v.nm (by have:=hv.nm64;omega)))) rfl (by simp) λg43 _=>J.Z rfl (qAB rfl rfl ent119 (Ct.use0 (λF' hF=>qR1 F' (hK.mo hF) v.an v.op v.rt ((v.ht:Nat):Int) (by have:=hv.an;omega) (by have:=hv.op;omega) (by have:=hv.rt;omega) hv.pe))) rfl (by simp) λg46 _=>J.Z rfl (qAB rfl rfl ent44 (Ct.use0 (λF' hF=>qXE F' (hK.mo hF) v (hv.mono (Fa hF)) x))) rfl (by simp) λg47 _=>J.j rfl (qAy rfl rfl) rfl rfl<|J.b6 ?_
 refine J.a8<|J.u (J.D j10 ?_)
 refine J.c6 O (λh35=>?_) (λh35=>?_)
 ·
  refine J.f λ_ j11=>J.b O<|J.c j11 ?_
  exact J.A<|J.a7<|J.V<|J.E hw0 O () (by rw [qX3 hn (qXx h30) (notT h35)];rfl) trivial [0] rfl (by decide)
 refine J.f λ_ j12=>J.T 0 qLF qHN O O O O O<|J.g (qAX O O isAgg70 qHN (m:=blk g4 [N64 v.ep,I ((v.b:Nat):Int),Str (v.hd),I ((v.nm:Nat):Int),I ((v.i:Nat):Int),.slice v.chA v.ch.length v.chc,.slice v.ptA v.pt.length v.ptc,Str (v.an),Str (v.op),Str (v.rt),I ((v.ht:Nat):Int),.slice v.bsA v.bs.length v.bsc,.bool (v.th),Str (v.pk),Str (v.pv)] 74) (by simp) (qAR.blk0.sub 0 7) rfl) rfl<|J.T 7 qLF qDV rfl rfl rfl rfl rfl<|J.T 8 qNv qET rfl rfl rfl rfl rfl<|J.g (qAX rfl rfl qNh qET (m:=blk g4 [N64 v.ep,I ((v.b:Nat):Int),Str (v.hd),I ((v.nm:Nat):Int),I ((v.i:Nat):Int),.slice v.chA v.ch.length v.chc,.slice v.ptA v.pt.length v.ptc,Str (v.an),Str (v.op),Str (v.rt),I ((v.ht:Nat):Int),.slice v.bsA v.bs.length v.bsc,.bool (v.th),Str (v.pk),Str (v.pv)] 74) (by simp) (qAR.blk0.sub 8 3) rfl) rfl<|J.p (qAB rfl rfl ent144 (Ct.use0 (λF' hF=>qUa F' (hK.mo hF) v (hv.mono (Fa hF))))) rfl λg55 _=>J.g (qAy rfl rfl) rfl<|J.b rfl<|J.c j12 ?_
 refine J.c6 O (λh49=>?_) (λh49=>?_)
 ·
  refine J.f λ_ j13=>J.b O<|J.c j13 ?_
  exact J.A<|J.a7<|J.V<|J.E hw0 O () (by rw [qX5 hn (qXx h30) (qXx h35) (notT h49)];rfl) trivial [0] rfl (by decide)
 refine J.b5<|J.a2<|J.u (J.D j3 ?_)
 refine J.f λ_ j14=>J.b O<|J.c j14 ?_
 exact J.A<|J.E hw0 O () (by rw [vck_0 hn (qXx h30) (qXx h35) (qXx h49)];rfl) trivial [0] rfl (by decide)
end Go.Proofs.YtcgcjaflllmlpaaGreatDoor
