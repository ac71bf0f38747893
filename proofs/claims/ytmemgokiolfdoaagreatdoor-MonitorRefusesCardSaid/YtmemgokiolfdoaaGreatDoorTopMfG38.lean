/- A part of the proof. -/
import Derived.Test.YtmemgokiolfdoaaGreatDoorTopMfG37
import Derived.Test.YtmemgokiolfdoaaGreatDoorTopMfG27
set_option maxRecDepth 100000
set_option maxHeartbeats 1000000
set_option linter.unusedSimpArgs false
set_option linter.unusedVariables false
namespace Go.Proofs.YtmemgokiolfdoaaGreatDoor
open Go Go.Fw Go.Proofs.Tryz
structure VtD where
 ep:Nat
 b:Nat
 hd:xA
 nm:Nat
 i:Nat
 chA:Option Addr
 chc:Nat
 ch:List xA
 ptA:Option Addr
 ptc:Nat
 pt:List xA
 an:xA
 op:xA
 rt:xA
 ht:Nat
 bsA:Option Addr
 bsc:Nat
 bs:List xA
 th:Bool
 pk:xA
 pv:xA
def VtD.cells(x:VtD):List Value:= [N64 (x.ep),I (x.b:Nat),Str (x.hd),I (x.nm:Nat),I (x.i:Nat),.slice x.chA x.ch.length x.chc,.slice x.ptA x.pt.length x.ptc,Str (x.an),Str (x.op),Str (x.rt),I (x.ht:Nat),.slice x.bsA x.bs.length x.bsc,.bool (x.th),Str (x.pk),Str (x.pv)]
def qAt:VtD:=⟨0,0,[],0,0,none,0,[],none,0,[],[],[],[],0,none,0,[],false,[],[]⟩
def qYE(l:List VtD):List (List Value):=l.map VtD.cells
theorem qSp{l:List VtD}{k:Nat}(h:k<l.length):(qYE l)[k]?=some (l.getD k qAt).cells:=by
 unfold qYE
 rw [jO,qAk qAt h];rfl
theorem notT{b:Bool}(h:(!b)=true):b=false:=by cases b;rfl;cases h
theorem qYI{b:Bool}(h:(!b)=false):b=true:=by cases b;cases h;rfl
structure qSf (F:Hp) (v:VtD):Prop where
 ch:Sl F 1 v.chA v.ch.length v.chc (qAH v.ch)
 pt:Sl F 1 v.ptA v.pt.length v.ptc (qAH v.pt)
 bs:Sl F 1 v.bsA v.bs.length v.bsc (qAH v.bs)
 good:qLX v.bs v.th v.pk v.pv (qAO v.nm) 0
 pvl:v.pv.length≤1000000
 ch35:v.ch.length=35
 ch16: ∀s∈v.ch,s.length=16
 ptl:v.pt.length=v.ht
 pt16: ∀s∈v.pt,s.length=16
 h6:v.ht≤6
 hi:v.i<2^v.ht
 an:v.an.length≤1000000
 op:v.op.length≤1000000
 rt:v.rt.length≤1000000
 pe:qBL v.op v.rt ((v.ht:Nat):Int)=0
 b16:v.b<16
 nm64:v.nm<64
 ep:v.ep≤4294967295
 hd:v.hd.length=16
theorem qSf.mono{F F':Hp}{v:VtD}(h:qSf F v)(hl:Le F F'):qSf F' v:=⟨h.ch.mono hl,h.pt.mono hl,h.bs.mono hl,h.good,h.pvl,h.ch35,h.ch16,h.ptl,h.pt16,h.h6,h.hi,h.an,h.op,h.rt,h.pe,h.b16,h.nm64,h.ep,h.hd⟩
def qG6(ws:List WnD)(b nm:Nat):Bool:=decide (b<ws.length)&&decide (0≤Wd.find (ws.getD b qEX).l ((nm:Nat):Int) 0)
def valV(v:VtD):xA:=Sha.tagged 16 [v.an,qBM v.op v.rt ((v.ht:Nat):Int)]
def qSt(v:VtD):Bool:=decide (Mk.climb (Wo.publicOf v.op v.i (Wo.ends v.op v.i (Wo.digs (Xm.digest v.op v.i (atM v.ep v.b v.nm v.hd))) v.ch 35)) v.i v.pt=v.rt)
def qSb(x:Hd)(v:VtD):Bool:=qO5 v.bs v.th v.pk v.pv (qCM x.nodes x.dep) (qAO v.nm) (valV v) 0
def qOI(x y:Hd)(ws:List WnD)(v:VtD):Nat:=if y.dig= []∨v.ep≠y.ep∨v.hd≠y.dig then 15 else if qG6 ws v.b v.nm=false then 17 else if qSb x v=false then 18 else if qSt v=false then 12 else 0
theorem qE9{x y:Hd}{ws:List WnD}{v:VtD}(h:y.dig= []∨v.ep≠y.ep∨v.hd≠y.dig):qOI x y ws v=15:=if_pos h
theorem qYP{x y:Hd}{ws:List WnD}{v:VtD}(h: ¬(y.dig= []∨v.ep≠y.ep∨v.hd≠y.dig))(h2:qG6 ws v.b v.nm=false):qOI x y ws v=17:=by unfold qOI;rw [if_neg h,if_pos h2]
theorem qYO{x y:Hd}{ws:List WnD}{v:VtD}(h: ¬(y.dig= []∨v.ep≠y.ep∨v.hd≠y.dig))(h2:qG6 ws v.b v.nm=true)(h3:qSb x v=false):qOI x y ws v=18:=by unfold qOI;rw [if_neg h,h2,if_neg xC,if_pos h3]
theorem qYQ{x y:Hd}{ws:List WnD}{v:VtD}(h: ¬(y.dig= []∨v.ep≠y.ep∨v.hd≠y.dig))(h2:qG6 ws v.b v.nm=true)(h3:qSb x v=true)(h4:qSt v=false):qOI x y ws v=12:=by unfold qOI;rw [if_neg h,h2,if_neg xC,h3,if_neg xC,if_pos h4]
theorem vck_0{x y:Hd}{ws:List WnD}{v:VtD}(h: ¬(y.dig= []∨v.ep≠y.ep∨v.hd≠y.dig))(h2:qG6 ws v.b v.nm=true)(h3:qSb x v=true)(h4:qSt v=true):qOI x y ws v=0:=by unfold qOI;rw [if_neg h,h2,if_neg xC,h3,if_neg xC,h4,if_neg xC]
theorem qUu(F:Hp)(hK:qAG F ⟨3,0,none⟩ (Sha.K.map W32))(v:VtD)(hv:qSf F v):
    Cz prog 278 [.agg #[N64 v.ep,I (v.b:Nat),Str v.hd,I (v.nm:Nat),I (v.i:Nat),.slice v.chA v.ch.length v.chc,.slice v.ptA v.pt.length v.ptc],.agg #[Str v.op,Str v.rt,I (v.ht:Nat)]] F (.bool (qSt v)):=by
  have hch:=hv.ch
  have hpt:=hv.pt
  rw [hv.ch35] at hch
  rw [hv.ptl] at hpt
  have:=qPD F hK v.ep v.b v.nm v.hd hv.ep hv.b16 hv.nm64 hv.hd v.op v.rt v.i v.chA v.chc v.ch hch hv.ch16 v.ptA v.ht v.ptc v.pt hpt hv.pt16 (by have:=hv.op;omega) hv.h6 hv.hi
  rw [hv.ch35,hv.ptl]
  unfold qSt
  exact this
theorem qXY(F:Hp)(hK:qAG F ⟨3,0,none⟩ (Sha.K.map W32))(v:VtD)(hv:qSf F v)(x:Hd):
    Cz prog 39 [.agg #[.slice v.bsA v.bs.length v.bsc,.bool v.th,Str v.pk,Str v.pv],Str (qCM x.nodes x.dep),Str (qAO v.nm),Str (valV v),I (0:Nat)] F (.bool (qSb x v)):=by
  unfold qSb
  exact qNv F hK v.bsA v.bsc v.bs hv.bs v.th v.pk v.pv (qAO v.nm) 0 hv.good (qCM x.nodes x.dep) (valV v) hv.pvl
theorem qSr(F:Hp)(v:VtD)(hv:qSf F v)(Aw:Option Addr)(nw cw:Nat)(ws:List WnD)(hws:Sl F 1 Aw nw cw (qPG ws))(W:Nat→List Int)(sl:Nat)(hsl6:sl≤64)(hwk:qE6 F W sl ws):Cz prog 277 [.agg #[N64 v.ep,I (v.b:Nat),Str (v.hd),I (v.nm:Nat),I (v.i:Nat),.slice v.chA v.ch.length v.chc,.slice v.ptA v.pt.length v.ptc,Str (v.an),Str (v.op),Str (v.rt),I (v.ht:Nat),.slice v.bsA v.bs.length v.bsc,.bool (v.th),Str (v.pk),Str (v.pv)],.slice Aw nw cw] F (.bool (qG6 ws v.b v.nm)):=by
 have hwn:ws.length=nw:=by have:=hws.1;simpa [qPG] using this
 refine Ct.walk func277 O ntmps277 O (λw0 hw0=>?_)
 refine J.f λ_ j1=>J.k (qAd O O O) O λg2 _=>J.b O<|J.c j1<|J.q λ_ j2=>J.f λ_ j3=>J.V 0 qEr qDB O O O O O<|J.V 1 qCY z3_ O O O O O<|J.a6 1 b3_ O O O O O<|J.g ((qAS O O O).no xB) O<|J.b O<|J.H (qAA O O qEr O qDB O) O<|J.H (qAA O O qCY O z3_ O) O<|J.H (qAC 1 O O O b3_ O) O<|J.b O<|J.H (qAQ qOM O O) O<|J.H (qBI O O O) O<|J.b O<|J.c j3<|J.Z O (λh18=>?_) (λh18=>?_)
 ·
  exact J.f λ_ j4=>J.b O<|J.c j4<|J.A<|J.W<|J.E hw0 O () (by unfold qG6;rw [decide_eq_false (show¬v.b<ws.length by omega)];rfl) trivial [0] O xC
 refine J.M j2<|J.q λ_ j5=>J.b2 [F,blk g2 [N64 v.ep,I (v.b:Nat),Str (v.hd),I (v.nm:Nat),I (v.i:Nat),.slice v.chA v.ch.length v.chc,.slice v.ptA v.pt.length v.ptc,Str (v.an),Str (v.op),Str (v.rt),I (v.ht:Nat),.slice v.bsA v.bs.length v.bsc,.bool (v.th),Str (v.pk),Str (v.pv)] 206] [] (.y 0 (.y 1 (.y 2 (.y 3 (.y 4 (.y 5 (.y 6 (.y 7 (.y 8 (.e 9 (.y 10 (.y 11 (.y 12 (.y 13 (.y 14 .nil))))))))))))))) Tryz.wide xF xD ?_
 refine J.G ?_
 refine J.p O (qAA O O qEr O qDB O) O O<|J.p O (qAA O O qCY O z3_ O) O O<|J.p O (qAC 1 O O O b3_ O) O O<|J.p O (qAE O O O qOM sizeOf83 hws xB) O O<|J.p O (qAL O O isAgg83 (m:=F) xD (hws.part (qSn xB) 0 1)) O O<|J.p O (qAA O O qEr O qDB O) O O<|J.p O (qAA O O qCY O z3_ O) O O<|J.p O (qAC 1 O O O b3_ O) O O<|J.a1 O (qAY O O (λF' hF=>qWE F' (ws.getD v.b qEX).lA (ws.getD v.b qEX).l.length (ws.getD v.b qEX).lc (ws.getD v.b qEX).l ((hwk v.b xB).2.2.mono (Fa hF)) ((v.nm:Nat):Int) (by have:=(hwk v.b xB).2.1;omega))) O xD λg29 _=>J.G ?_
 refine J.c6 (I (max (Wd.find (ws.getD v.b qEX).l ((v.nm:Nat):Int) 0) 0)) ?_
 refine J.c6 (.bool (decide (0≤Wd.find (ws.getD v.b qEX).l ((v.nm:Nat):Int) 0))) ?_
 refine J.b7 ?_
 refine J.b7 ?_
 refine J.b1<|J.u (J.D j5 ?_)
 exact J.f λ_ j6=>J.j 2 O<|J.c j6<|J.A<|J.E hw0 O () (by unfold qG6;rw [decide_eq_true (show v.b<ws.length by omega)];rfl) trivial [0] O xC
attribute [local irreducible] qSt qSb qG6
theorem qPe(F:Hp)(hK:qAG F ⟨3,0,none⟩ (Sha.K.map W32))(v:VtD)(hv:qSf F v)(x:Hd)(A:Option Addr)(c:Nat)(hg:x.good)(hsl:Sl F 1 A x.nodes.length c (qAH x.nodes))(y:Hd)(B:Option Addr)(e:Nat)(hgy:y.good)(hsy:Sl F 1 B y.nodes.length e (qAH y.nodes))(hsm: ∀s∈x.nodes,s.length≤1048576)(Aw:Option Addr)(nw cw:Nat)(ws:List WnD)(hws:Sl F 1 Aw nw cw (qPG ws))(W:Nat→List Int)(sl:Nat)(hsl6:sl≤64)(hwk:qE6 F W sl ws):Cz prog 237 [.agg #[N64 v.ep,I (v.b:Nat),Str (v.hd),I (v.nm:Nat),I (v.i:Nat),.slice v.chA v.ch.length v.chc,.slice v.ptA v.pt.length v.ptc,Str (v.an),Str (v.op),Str (v.rt),I (v.ht:Nat),.slice v.bsA v.bs.length v.bsc,.bool (v.th),Str (v.pk),Str (v.pv)],.agg #[N64 x.ep,Str (x.par),I (x.dep),I (x.aud),.slice A x.nodes.length c],.agg #[N64 y.ep,Str (y.par),I (y.dep),I (y.aud),.slice B y.nodes.length e],.slice Aw nw cw] F (I (qOI x y ws v:Nat)):=by
 have hc35:=hv.ch35
 have hptl:=hv.ptl
 have hpl:=qBl v.nm
 refine Ct.walk func237 O ntmps237 O (λw0 hw0=>?_)
 refine J.f λ_ j1=>J.k (qAd O O O) O λg4 _=>J.k (qAd O O O) O λg5 _=>J.k (qAd O O O) O λg6 _=>J.b O<|J.c j1 ?_
 refine J.f λ_ j2=>J.b9 3 qGG qDM O O O O O<|J.k (qAY O O (λF' hF=>qCg F' (hK.mo hF) y B e hgy (hsy.mono (Fa hF)))) O λg11 _=>J.b O<|J.c j2 ?_
 refine J.q λ_ j3=>J.T<|J.f λ_ j4=>J.b O<|J.g (qBY O O O) O<|J.b O<|J.c0 (d:=15) O (λh15=>?_) (λh15=>?_)
 ·
  refine J.j 15 O<|J.c j4 ?_
  refine J.c2 ?_
  refine J.f λ_ j5=>J.b O<|J.c j5 ?_
  exact J.A<|J.a7<|J.W<|J.E hw0 O () (by first|(rw [qE9 (.inl h15)];rfl)|(rw [qE9 (.inr (.inl (show v.ep≠y.ep by omega)))];rfl)|(rw [qE9 (.inr (.inr h12))];rfl)) trivial [0] O xC
 refine J.H (qAA O O qEr O qDB O) O<|J.H (qAA O O qCY O qEk O) O<|J.H (qAC 1 O O O qFi O) O<|J.H (qAA O O qEH O qEk O) O<|J.H (qAC 3 O O O qFi O) O<|J.H (qAf O O O) O<|J.j 2 O<|J.c0 (d:=23) O (λh23=>?_) (λh23=>?_)
 ·
  refine J.j 7 O<|J.c j4 ?_
  refine J.c2 ?_
  refine J.f λ_ j6=>J.b O<|J.c j6 ?_
  exact J.A<|J.a7<|J.W<|J.E hw0 O () (by first|(rw [qE9 (.inl h15)];rfl)|(rw [qE9 (.inr (.inl (show v.ep≠y.ep by omega)))];rfl)|(rw [qE9 (.inr (.inr h12))];rfl)) trivial [0] O xC
 refine J.H (qAA O O qEr O qDB O) O<|J.H (qAA O O qCY O z9_ O) O<|J.H (qAC 1 O O O b9_ O) O<|J.b O<|J.H (qDi O O O) O<|J.j 2 O<|J.c j4 ?_
 refine J.Z O (λh12=>?_) (λh12=>?_)
 ·
  refine J.f λ_ j7=>J.b O<|J.c j7 ?_
  exact J.A<|J.a7<|J.W<|J.E hw0 O () (by first|(rw [qE9 (.inl h15)];rfl)|(rw [qE9 (.inr (.inl (show v.ep≠y.ep by omega)))];rfl)|(rw [qE9 (.inr (.inr h12))];rfl)) trivial [0] O xC
 refine J.q λ_ j8=>?_
 have hn: ¬(y.dig= []∨v.ep≠y.ep∨v.hd≠y.dig):=λh=>by
  rcases h with h|h|h
  · exact h15 h
  · omega
  · exact h12 h
 refine J.L<|J.b9 1 isAgg206 sizeOf206 O O O O O<|J.b O<|J.k (qAY O O (λF' hF=>qSr F' v (hv.mono (Fa hF)) Aw nw cw ws (hws.mono (Fa hF)) W sl hsl6 (hwk.mono (Fa hF)))) O λg33 _=>J.g (qAq O O) O<|J.b O<|J.c j8 ?_
 refine J.c8 O (λh30=>?_) (λh30=>?_)
 ·
  refine J.f λ_ j9=>J.b O<|J.c j9 ?_
  exact J.A<|J.a7<|J.W<|J.E hw0 O () (by rw [qYP hn (notT h30)];rfl) trivial [0] O xC
 refine J.q λ_ j10=>J.b2 [blk g4 [N64 v.ep,I (v.b:Nat),Str (v.hd),I (v.nm:Nat),I (v.i:Nat),.slice v.chA v.ch.length v.chc,.slice v.ptA v.pt.length v.ptc,Str (v.an),Str (v.op),Str (v.rt),I (v.ht:Nat),.slice v.bsA v.bs.length v.bsc,.bool (v.th),Str (v.pk),Str (v.pv)] 206,blk g5 [N64 x.ep,Str (x.par),I (x.dep),I (x.aud),.slice A x.nodes.length c] 52] [] (.y 0 (.y 1 (.y 2 (.y 4 (.y 5 (.y 6 (.y 8 (.y 9 (.e 3 (.e 7 (.e 10 (.e 11 (.y 12 (.y 13 .nil)))))))))))))) Tryz.wide xF xD ?_
 refine J.p O (qAA O O qEr O qC1 O) O O<|J.p O (qAT O O qGo qC1 (m:=blk g4 [N64 v.ep,I (v.b:Nat),Str (v.hd),I (v.nm:Nat),I (v.i:Nat),.slice v.chA v.ch.length v.chc,.slice v.ptA v.pt.length v.ptc,Str (v.an),Str (v.op),Str (v.rt),I (v.ht:Nat),.slice v.bsA v.bs.length v.bsc,.bool (v.th),Str (v.pk),Str (v.pv)] 206) xD (qAG.blk0.sub 11 4) O) O O<|J.p O (qAW 1 O O O qGG qDM O) O O<|J.p O (qAA O O qEr O qDB O) O O<|J.p O (qAA O O qCY O z3_ O) O O<|J.p O (qAC 0 O O O b3_ O) O O<|J.p O (qAA O O qEr O qDq O) O O<|J.p O (qAT O O qLO qDq (m:=blk g4 [N64 v.ep,I (v.b:Nat),Str (v.hd),I (v.nm:Nat),I (v.i:Nat),.slice v.chA v.ch.length v.chc,.slice v.ptA v.pt.length v.ptc,Str (v.an),Str (v.op),Str (v.rt),I (v.ht:Nat),.slice v.bsA v.bs.length v.bsc,.bool (v.th),Str (v.pk),Str (v.pv)] 206) xD (qAG.blk0.sub 7 4) O) O O<|J.a1 O (qAY O O (λF' hF=>qNt F' (hK.mo hF) x A c hg (hsl.mono (Fa hF)) hsm)) O xD λg39 _=>J.a1 O (qAY O O (λF' hF=>qEM F' (hK.mo hF) v.nm (by have:=hv.nm64;omega))) O xD λg43 _=>J.a1 O (qAY O O (λF' hF=>qSJ F' (hK.mo hF) v.an v.op v.rt ((v.ht:Nat):Int) (by have:=hv.an;omega) (by have:=hv.op;omega) (by have:=hv.rt;omega) hv.pe)) O xD λg46 _=>J.a1 O (qAY O O (λF' hF=>qXY F' (hK.mo hF) v (hv.mono (Fa hF)) x)) O xD λg47 _=>J.p O (qAq O O) O O<|J.b7 ?_
 refine J.b1<|J.u (J.D j10 ?_)
 refine J.c8 O (λh35=>?_) (λh35=>?_)
 ·
  refine J.f λ_ j11=>J.b O<|J.c j11 ?_
  exact J.A<|J.a7<|J.W<|J.E hw0 O () (by rw [qYO hn (qYI h30) (notT h35)];rfl) trivial [0] O xC
 refine J.f λ_ j12=>J.V 0 qEr qDB O O O O O<|J.g (qAT O O isAgg199 qDB (m:=blk g4 [N64 v.ep,I (v.b:Nat),Str (v.hd),I (v.nm:Nat),I (v.i:Nat),.slice v.chA v.ch.length v.chc,.slice v.ptA v.pt.length v.ptc,Str (v.an),Str (v.op),Str (v.rt),I (v.ht:Nat),.slice v.bsA v.bs.length v.bsc,.bool (v.th),Str (v.pk),Str (v.pv)] 206) xD (qAG.blk0.sub 0 7) O) O<|J.V 7 qEr qDq O O O O O<|J.V 8 qPH qEE O O O O O<|J.g (qAT O O qLP qEE (m:=blk g4 [N64 v.ep,I (v.b:Nat),Str (v.hd),I (v.nm:Nat),I (v.i:Nat),.slice v.chA v.ch.length v.chc,.slice v.ptA v.pt.length v.ptc,Str (v.an),Str (v.op),Str (v.rt),I (v.ht:Nat),.slice v.bsA v.bs.length v.bsc,.bool (v.th),Str (v.pk),Str (v.pv)] 206) xD (qAG.blk0.sub 8 3) O) O<|J.k (qAY O O (λF' hF=>qUu F' (hK.mo hF) v (hv.mono (Fa hF)))) O λg55 _=>J.g (qAq O O) O<|J.b O<|J.c j12 ?_
 refine J.c8 O (λh49=>?_) (λh49=>?_)
 ·
  refine J.f λ_ j13=>J.b O<|J.c j13 ?_
  exact J.A<|J.a7<|J.W<|J.E hw0 O () (by rw [qYQ hn (qYI h30) (qYI h35) (notT h49)];rfl) trivial [0] O xC
 refine J.b3<|J.a4<|J.u (J.D j3 ?_)
 refine J.f λ_ j14=>J.b O<|J.c j14 ?_
 exact J.A<|J.E hw0 O () (by rw [vck_0 hn (qYI h30) (qYI h35) (qYI h49)];rfl) trivial [0] O xC
end Go.Proofs.YtmemgokiolfdoaaGreatDoor