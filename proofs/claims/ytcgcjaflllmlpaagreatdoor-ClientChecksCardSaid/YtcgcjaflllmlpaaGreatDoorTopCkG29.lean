/- A part of the proof. -/
import Derived.Test.YtcgcjaflllmlpaaGreatDoorTopCkG25
import Derived.Test.YtcgcjaflllmlpaaGreatDoorTopCkG28
set_option maxRecDepth 100000
set_option maxHeartbeats 1000000
set_option linter.unusedSimpArgs false
set_option linter.unusedVariables false
namespace Go.Proofs.YtcgcjaflllmlpaaGreatDoor
open Go Go.Fw Go.Proofs.Tryz
structure VtD where
 ep:Nat
 b:Nat
 hd:xA
 nm:Nat
 i:Nat
 chA:Option Addr
 chc:Nat
 ch:List xA
 ptA:Option Addr
 ptc:Nat
 pt:List xA
 an:xA
 op:xA
 rt:xA
 ht:Nat
 bsA:Option Addr
 bsc:Nat
 bs:List xA
 th:Bool
 pk:xA
 pv:xA
def VtD.cells(x:VtD):List Value:= [N64 (x.ep),I (x.b:Nat),Str (x.hd),I (x.nm:Nat),I (x.i:Nat),.slice x.chA x.ch.length x.chc,.slice x.ptA x.pt.length x.ptc,Str (x.an),Str (x.op),Str (x.rt),I (x.ht:Nat),.slice x.bsA x.bs.length x.bsc,.bool (x.th),Str (x.pk),Str (x.pv)]
def qAo:VtD:=⟨0,0,[],0,0,none,0,[],none,0,[],[],[],[],0,none,0,[],false,[],[]⟩
def qOT(l:List VtD):List (List Value):=l.map VtD.cells
theorem qTC{l:List VtD}{k:Nat}(h:k<l.length):(qOT l)[k]?=some (l.getD k qAo).cells:=by
 unfold qOT
 rw [jN,qAi qAo h];rfl
theorem qPq(a:List VtD)(x:VtD):qOT (a++ [x])=qOT a++ [x.cells]:=by simp [qOT]
theorem notT{b:Bool}(h:(!b)=true):b=false:=by cases b;rfl;cases h
theorem qYn{b:Bool}(h:(!b)=false):b=true:=by cases b;cases h;rfl
structure qSr (F:Hp) (v:VtD):Prop where
 ch:Sl F 1 v.chA v.ch.length v.chc (qAG v.ch)
 pt:Sl F 1 v.ptA v.pt.length v.ptc (qAG v.pt)
 bs:Sl F 1 v.bsA v.bs.length v.bsc (qAG v.bs)
 good:qHb v.bs v.th v.pk v.pv (qAL v.nm) 0
 pvl:v.pv.length≤1000000
 ch35:v.ch.length=35
 ch16: ∀s∈v.ch,s.length=16
 ptl:v.pt.length=v.ht
 pt16: ∀s∈v.pt,s.length=16
 h6:v.ht≤6
 hi:v.i<2^v.ht
 an:v.an.length≤1000000
 op:v.op.length≤1000000
 rt:v.rt.length≤1000000
 pe:qBJ v.op v.rt ((v.ht:Nat):Int)=0
 b16:v.b<16
 nm64:v.nm<64
 ep:v.ep≤4294967295
 hd:v.hd.length=16
theorem qSr.mono{F F':Hp}{v:VtD}(h:qSr F v)(hl:Le F F'):qSr F' v:=⟨h.ch.mono hl,h.pt.mono hl,h.bs.mono hl,h.good,h.pvl,h.ch35,h.ch16,h.ptl,h.pt16,h.h6,h.hi,h.an,h.op,h.rt,h.pe,h.b16,h.nm64,h.ep,h.hd⟩
def qGl(ws:List WnD)(b nm:Nat):Bool:=decide (b<ws.length)&&decide (0≤Wd.find (ws.getD b qDz).l ((nm:Nat):Int) 0)
def valV(v:VtD):xA:=Sha.tagged 16 [v.an,qBM v.op v.rt ((v.ht:Nat):Int)]
def qSw(v:VtD):Bool:=decide (Mk.climb (Wo.publicOf v.op v.i (Wo.ends v.op v.i (Wo.digs (Xm.digest v.op v.i (atM v.ep v.b v.nm v.hd))) v.ch 35)) v.i v.pt=v.rt)
def qRr(x:Hd)(v:VtD):Bool:=qNs v.bs v.th v.pk v.pv (qB0 x.nodes x.dep) (qAL v.nm) (valV v) 0
def qOU(x y:Hd)(ws:List WnD)(v:VtD):Nat:=if y.dig= []∨v.ep≠y.ep∨v.hd≠y.dig then 15 else if qGl ws v.b v.nm=false then 17 else if qRr x v=false then 18 else if qSw v=false then 12 else 0
theorem qEs{x y:Hd}{ws:List WnD}{v:VtD}(h:y.dig= []∨v.ep≠y.ep∨v.hd≠y.dig):qOU x y ws v=15:=if_pos h
theorem qYu{x y:Hd}{ws:List WnD}{v:VtD}(h: ¬(y.dig= []∨v.ep≠y.ep∨v.hd≠y.dig))(h2:qGl ws v.b v.nm=false):qOU x y ws v=17:=by unfold qOU;rw [if_neg h,if_pos h2]
theorem qYt{x y:Hd}{ws:List WnD}{v:VtD}(h: ¬(y.dig= []∨v.ep≠y.ep∨v.hd≠y.dig))(h2:qGl ws v.b v.nm=true)(h3:qRr x v=false):qOU x y ws v=18:=by unfold qOU;rw [if_neg h,h2,if_neg xC,if_pos h3]
theorem qYv{x y:Hd}{ws:List WnD}{v:VtD}(h: ¬(y.dig= []∨v.ep≠y.ep∨v.hd≠y.dig))(h2:qGl ws v.b v.nm=true)(h3:qRr x v=true)(h4:qSw v=false):qOU x y ws v=12:=by unfold qOU;rw [if_neg h,h2,if_neg xC,h3,if_neg xC,if_pos h4]
theorem vck_0{x y:Hd}{ws:List WnD}{v:VtD}(h: ¬(y.dig= []∨v.ep≠y.ep∨v.hd≠y.dig))(h2:qGl ws v.b v.nm=true)(h3:qRr x v=true)(h4:qSw v=true):qOU x y ws v=0:=by unfold qOU;rw [if_neg h,h2,if_neg xC,h3,if_neg xC,h4,if_neg xC]
theorem qVE(F:Hp)(hK:KF F)(v:VtD)(hv:qSr F v):
    Cz prog 144 [.agg #[N64 v.ep,I (v.b:Nat),Str v.hd,I (v.nm:Nat),I (v.i:Nat),.slice v.chA v.ch.length v.chc,.slice v.ptA v.pt.length v.ptc],.agg #[Str v.op,Str v.rt,I (v.ht:Nat)]] F (.bool (qSw v)):=by
  have hch:=hv.ch
  have hpt:=hv.pt
  rw [hv.ch35] at hch
  rw [hv.ptl] at hpt
  have:=qPT F hK v.ep v.b v.nm v.hd hv.ep hv.b16 hv.nm64 hv.hd v.op v.rt v.i v.chA v.chc v.ch hch hv.ch16 v.ptA v.ht v.ptc v.pt hpt hv.pt16 (by have:=hv.op;omega) hv.h6 hv.hi
  rw [hv.ch35,hv.ptl]
  unfold qSw
  exact this
theorem qX4(F:Hp)(hK:KF F)(v:VtD)(hv:qSr F v)(x:Hd):
    Cz prog 44 [.agg #[.slice v.bsA v.bs.length v.bsc,.bool v.th,Str v.pk,Str v.pv],Str (qB0 x.nodes x.dep),Str (qAL v.nm),Str (valV v),I (0:Nat)] F (.bool (qRr x v)):=by
  unfold qRr
  exact qNt F hK v.bsA v.bsc v.bs hv.bs v.th v.pk v.pv (qAL v.nm) 0 hv.good (qB0 x.nodes x.dep) (valV v) hv.pvl
theorem qTD(F:Hp)(v:VtD)(hv:qSr F v)(Aw:Option Addr)(nw cw:Nat)(ws:List WnD)(hws:Sl F 1 Aw nw cw (qPX ws))(W:Nat→List Int)(sl:Nat)(hsl6:sl≤64)(hwk:qEr F W sl ws):Cz prog 143 [.agg #[N64 v.ep,I (v.b:Nat),Str (v.hd),I (v.nm:Nat),I (v.i:Nat),.slice v.chA v.ch.length v.chc,.slice v.ptA v.pt.length v.ptc,Str (v.an),Str (v.op),Str (v.rt),I (v.ht:Nat),.slice v.bsA v.bs.length v.bsc,.bool (v.th),Str (v.pk),Str (v.pv)],.slice Aw nw cw] F (.bool (qGl ws v.b v.nm)):=by
 have hwn:ws.length=nw:=by have:=hws.1;simpa [qPX] using this
 refine Ct.walk func143 O ntmps143 O (λw0 hw0=>?_)
 refine J.g λ_ j1=>J.p (qAZ O O O) O λg2 _=>J.b O<|J.c j1<|J.q λ_ j2=>J.g λ_ j3=>J.M 0 qLe qHp O O O O O<|J.M 1 qF6 z3_ O O O O O<|J.a7 1 b3_ O O O O O<|J.f ((qAS O O O).no xB) O<|J.b O<|J.D (qAA O O qLe O qHp O) O<|J.D (qAA O O qF6 O z3_ O) O<|J.D (qAC 1 O O O b3_ O) O<|J.b O<|J.D (qAR qIl O O) O<|J.D (qBL O O O) O<|J.b O<|J.c j3<|J.a0 O (λh18=>?_) (λh18=>?_)
 ·
  exact J.g λ_ j4=>J.b O<|J.c j4<|J.A<|J.W<|J.E hw0 O () (by unfold qGl;rw [decide_eq_false (show¬v.b<ws.length by omega)];rfl) trivial [0] O xC
 refine J.T j2<|J.q λ_ j5=>J.b1 [F,blk g2 [N64 v.ep,I (v.b:Nat),Str (v.hd),I (v.nm:Nat),I (v.i:Nat),.slice v.chA v.ch.length v.chc,.slice v.ptA v.pt.length v.ptc,Str (v.an),Str (v.op),Str (v.rt),I (v.ht:Nat),.slice v.bsA v.bs.length v.bsc,.bool (v.th),Str (v.pk),Str (v.pv)] 74] [] (.y 0 (.y 1 (.y 2 (.y 3 (.y 4 (.y 5 (.y 6 (.y 7 (.y 8 (.e 9 (.y 10 (.y 11 (.y 12 (.y 13 (.y 14 .nil))))))))))))))) Tryz.wide xF xD ?_
 refine J.L ?_
 refine J.j O (qAA O O qLe O qHp O) O O<|J.j O (qAA O O qF6 O z3_ O) O O<|J.j O (qAC 1 O O O b3_ O) O O<|J.j O (qAF O O O qIl qPW hws xB) O O<|J.j O (qAI O O isAgg38 (m:=F) xD (hws.part (qIf xB) 0 1)) O O<|J.j O (qAA O O qLe O qHp O) O O<|J.j O (qAA O O qF6 O z3_ O) O O<|J.j O (qAC 1 O O O b3_ O) O O<|J.Z O (qAa O O (λF' hF=>qWo F' (ws.getD v.b qDz).lA (ws.getD v.b qDz).l.length (ws.getD v.b qDz).lc (ws.getD v.b qDz).l ((hwk v.b xB).2.2.mono (Fa hF)) ((v.nm:Nat):Int) (by have:=(hwk v.b xB).2.1;omega))) O xD λg29 _=>J.L ?_
 refine J.c2 (I (max (Wd.find (ws.getD v.b qDz).l ((v.nm:Nat):Int) 0) 0)) ?_
 refine J.c2 (.bool (decide (0≤Wd.find (ws.getD v.b qDz).l ((v.nm:Nat):Int) 0))) ?_
 refine J.b7 ?_
 refine J.b7 ?_
 refine J.a9<|J.u (J.G j5 ?_)
 exact J.g λ_ j6=>J.k 2 O<|J.c j6<|J.A<|J.E hw0 O () (by unfold qGl;rw [decide_eq_true (show v.b<ws.length by omega)];rfl) trivial [0] O xC
attribute [local irreducible] qSw qRr qGl
theorem qPx(F:Hp)(hK:KF F)(v:VtD)(hv:qSr F v)(x:Hd)(A:Option Addr)(c:Nat)(hg:x.good)(hsl:Sl F 1 A x.nodes.length c (qAG x.nodes))(y:Hd)(B:Option Addr)(e:Nat)(hgy:y.good)(hsy:Sl F 1 B y.nodes.length e (qAG y.nodes))(hsm: ∀s∈x.nodes,s.length≤1048576)(Aw:Option Addr)(nw cw:Nat)(ws:List WnD)(hws:Sl F 1 Aw nw cw (qPX ws))(W:Nat→List Int)(sl:Nat)(hsl6:sl≤64)(hwk:qEr F W sl ws):Cz prog 76 [.agg #[N64 v.ep,I (v.b:Nat),Str (v.hd),I (v.nm:Nat),I (v.i:Nat),.slice v.chA v.ch.length v.chc,.slice v.ptA v.pt.length v.ptc,Str (v.an),Str (v.op),Str (v.rt),I (v.ht:Nat),.slice v.bsA v.bs.length v.bsc,.bool (v.th),Str (v.pk),Str (v.pv)],.agg #[N64 x.ep,Str (x.par),I (x.dep),I (x.aud),.slice A x.nodes.length c],.agg #[N64 y.ep,Str (y.par),I (y.dep),I (y.aud),.slice B y.nodes.length e],.slice Aw nw cw] F (I (qOU x y ws v:Nat)):=by
 have hc35:=hv.ch35
 have hptl:=hv.ptl
 have hpl:=qBx v.nm
 refine Ct.walk func76 O ntmps76 O (λw0 hw0=>?_)
 refine J.g λ_ j1=>J.p (qAZ O O O) O λg4 _=>J.p (qAZ O O O) O λg5 _=>J.p (qAZ O O O) O λg6 _=>J.b O<|J.c j1 ?_
 refine J.g λ_ j2=>J.b8 3 qDF qBv O O O O O<|J.p (qAa O O (λF' hF=>qCl F' (hK.mo hF) y B e hgy (hsy.mono (Fa hF)))) O λg11 _=>J.b O<|J.c j2 ?_
 refine J.q λ_ j3=>J.V<|J.g λ_ j4=>J.b O<|J.f (qBA O O O) O<|J.b O<|J.b9 (d:=15) O (λh15=>?_) (λh15=>?_)
 ·
  refine J.k 15 O<|J.c j4 ?_
  refine J.c3 ?_
  refine J.g λ_ j5=>J.b O<|J.c j5 ?_
  exact J.A<|J.a8<|J.W<|J.E hw0 O () (by first|(rw [qEs (.inl h15)];rfl)|(rw [qEs (.inr (.inl (show v.ep≠y.ep by omega)))];rfl)|(rw [qEs (.inr (.inr h12))];rfl)) trivial [0] O xC
 refine J.D (qAA O O qLe O qHp O) O<|J.D (qAA O O qF6 O qEW O) O<|J.D (qAC 1 O O O qFM O) O<|J.D (qAA O O qDn O qEW O) O<|J.D (qAC 3 O O O qFM O) O<|J.D (qAe O O O) O<|J.k 2 O<|J.b9 (d:=23) O (λh23=>?_) (λh23=>?_)
 ·
  refine J.k 7 O<|J.c j4 ?_
  refine J.c3 ?_
  refine J.g λ_ j6=>J.b O<|J.c j6 ?_
  exact J.A<|J.a8<|J.W<|J.E hw0 O () (by first|(rw [qEs (.inl h15)];rfl)|(rw [qEs (.inr (.inl (show v.ep≠y.ep by omega)))];rfl)|(rw [qEs (.inr (.inr h12))];rfl)) trivial [0] O xC
 refine J.D (qAA O O qLe O qHp O) O<|J.D (qAA O O qF6 O z9_ O) O<|J.D (qAC 1 O O O b9_ O) O<|J.b O<|J.D (qDv O O O) O<|J.k 2 O<|J.c j4 ?_
 refine J.a0 O (λh12=>?_) (λh12=>?_)
 ·
  refine J.g λ_ j7=>J.b O<|J.c j7 ?_
  exact J.A<|J.a8<|J.W<|J.E hw0 O () (by first|(rw [qEs (.inl h15)];rfl)|(rw [qEs (.inr (.inl (show v.ep≠y.ep by omega)))];rfl)|(rw [qEs (.inr (.inr h12))];rfl)) trivial [0] O xC
 refine J.q λ_ j8=>?_
 have hn: ¬(y.dig= []∨v.ep≠y.ep∨v.hd≠y.dig):=λh=>by
  rcases h with h|h|h
  · exact h15 h
  · omega
  · exact h12 h
 refine J.H<|J.b8 1 isAgg74 sizeOf74 O O O O O<|J.b O<|J.p (qAa O O (λF' hF=>qTD F' v (hv.mono (Fa hF)) Aw nw cw ws (hws.mono (Fa hF)) W sl hsl6 (hwk.mono (Fa hF)))) O λg33 _=>J.f (qAt O O) O<|J.b O<|J.c j8 ?_
 refine J.c7 O (λh30=>?_) (λh30=>?_)
 ·
  refine J.g λ_ j9=>J.b O<|J.c j9 ?_
  exact J.A<|J.a8<|J.W<|J.E hw0 O () (by rw [qYu hn (notT h30)];rfl) trivial [0] O xC
 refine J.q λ_ j10=>J.b1 [blk g4 [N64 v.ep,I (v.b:Nat),Str (v.hd),I (v.nm:Nat),I (v.i:Nat),.slice v.chA v.ch.length v.chc,.slice v.ptA v.pt.length v.ptc,Str (v.an),Str (v.op),Str (v.rt),I (v.ht:Nat),.slice v.bsA v.bs.length v.bsc,.bool (v.th),Str (v.pk),Str (v.pv)] 74,blk g5 [N64 x.ep,Str (x.par),I (x.dep),I (x.aud),.slice A x.nodes.length c] 34] [] (.y 0 (.y 1 (.y 2 (.y 4 (.y 5 (.y 6 (.y 8 (.y 9 (.e 3 (.e 7 (.e 10 (.e 11 (.y 12 (.y 13 .nil)))))))))))))) Tryz.wide xF xD ?_
 refine J.j O (qAA O O qLe O qB9 O) O O<|J.j O (qAV O O qEb qB9 (m:=blk g4 [N64 v.ep,I (v.b:Nat),Str (v.hd),I (v.nm:Nat),I (v.i:Nat),.slice v.chA v.ch.length v.chc,.slice v.ptA v.pt.length v.ptc,Str (v.an),Str (v.op),Str (v.rt),I (v.ht:Nat),.slice v.bsA v.bs.length v.bsc,.bool (v.th),Str (v.pk),Str (v.pv)] 74) xD (qAM.blk0.sub 11 4) O) O O<|J.j O (qAW 1 O O O qDF qBv O) O O<|J.j O (qAA O O qLe O qHp O) O O<|J.j O (qAA O O qF6 O z3_ O) O O<|J.j O (qAC 0 O O O b3_ O) O O<|J.j O (qAA O O qLe O qDk O) O O<|J.j O (qAV O O qLE qDk (m:=blk g4 [N64 v.ep,I (v.b:Nat),Str (v.hd),I (v.nm:Nat),I (v.i:Nat),.slice v.chA v.ch.length v.chc,.slice v.ptA v.pt.length v.ptc,Str (v.an),Str (v.op),Str (v.rt),I (v.ht:Nat),.slice v.bsA v.bs.length v.bsc,.bool (v.th),Str (v.pk),Str (v.pv)] 74) xD (qAM.blk0.sub 7 4) O) O O<|J.Z O (qAa O O (λF' hF=>qGG F' (hK.mo hF) x A c hg (hsl.mono (Fa hF)) hsm)) O xD λg39 _=>J.Z O (qAa O O (λF' hF=>qEH F' (hK.mo hF) v.nm (by have:=hv.nm64;omega))) O xD λg43 _=>J.Z O (qAa O O (λF' hF=>qSg F' (hK.mo hF) v.an v.op v.rt ((v.ht:Nat):Int) (by have:=hv.an;omega) (by have:=hv.op;omega) (by have:=hv.rt;omega) hv.pe)) O xD λg46 _=>J.Z O (qAa O O (λF' hF=>qX4 F' (hK.mo hF) v (hv.mono (Fa hF)) x)) O xD λg47 _=>J.j O (qAt O O) O O<|J.b7 ?_
 refine J.a9<|J.u (J.G j10 ?_)
 refine J.c7 O (λh35=>?_) (λh35=>?_)
 ·
  refine J.g λ_ j11=>J.b O<|J.c j11 ?_
  exact J.A<|J.a8<|J.W<|J.E hw0 O () (by rw [qYt hn (qYn h30) (notT h35)];rfl) trivial [0] O xC
 refine J.g λ_ j12=>J.M 0 qLe qHp O O O O O<|J.f (qAV O O isAgg70 qHp (m:=blk g4 [N64 v.ep,I (v.b:Nat),Str (v.hd),I (v.nm:Nat),I (v.i:Nat),.slice v.chA v.ch.length v.chc,.slice v.ptA v.pt.length v.ptc,Str (v.an),Str (v.op),Str (v.rt),I (v.ht:Nat),.slice v.bsA v.bs.length v.bsc,.bool (v.th),Str (v.pk),Str (v.pv)] 74) xD (qAM.blk0.sub 0 7) O) O<|J.M 7 qLe qDk O O O O O<|J.M 8 qOW qEA O O O O O<|J.f (qAV O O qLS qEA (m:=blk g4 [N64 v.ep,I (v.b:Nat),Str (v.hd),I (v.nm:Nat),I (v.i:Nat),.slice v.chA v.ch.length v.chc,.slice v.ptA v.pt.length v.ptc,Str (v.an),Str (v.op),Str (v.rt),I (v.ht:Nat),.slice v.bsA v.bs.length v.bsc,.bool (v.th),Str (v.pk),Str (v.pv)] 74) xD (qAM.blk0.sub 8 3) O) O<|J.p (qAa O O (λF' hF=>qVE F' (hK.mo hF) v (hv.mono (Fa hF)))) O λg55 _=>J.f (qAt O O) O<|J.b O<|J.c j12 ?_
 refine J.c7 O (λh49=>?_) (λh49=>?_)
 ·
  refine J.g λ_ j13=>J.b O<|J.c j13 ?_
  exact J.A<|J.a8<|J.W<|J.E hw0 O () (by rw [qYv hn (qYn h30) (qYn h35) (notT h49)];rfl) trivial [0] O xC
 refine J.b5<|J.a3<|J.u (J.G j3 ?_)
 refine J.g λ_ j14=>J.b O<|J.c j14 ?_
 exact J.A<|J.E hw0 O () (by rw [vck_0 hn (qYn h30) (qYn h35) (qYn h49)];rfl) trivial [0] O xC
end Go.Proofs.YtcgcjaflllmlpaaGreatDoor