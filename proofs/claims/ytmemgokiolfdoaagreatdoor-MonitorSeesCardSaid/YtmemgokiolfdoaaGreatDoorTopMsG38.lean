/- A part of the proof. -/
import Derived.Test.YtmemgokiolfdoaaGreatDoorTopMsG37
import Derived.Test.YtmemgokiolfdoaaGreatDoorTopMsG27
set_option maxRecDepth 100000
set_option maxHeartbeats 1000000
set_option linter.unusedSimpArgs false
set_option linter.unusedVariables false
namespace Go.Proofs.YtmemgokiolfdoaaGreatDoor
open Go Go.Fw Go.Proofs.Tryz
structure VtD where
 ep:Nat
 b:Nat
 hd:xA
 nm:Nat
 i:Nat
 chA:Option Addr
 chc:Nat
 ch:List xA
 ptA:Option Addr
 ptc:Nat
 pt:List xA
 an:xA
 op:xA
 rt:xA
 ht:Nat
 bsA:Option Addr
 bsc:Nat
 bs:List xA
 th:Bool
 pk:xA
 pv:xA
def VtD.cells(x:VtD):List Value:= [N64 (x.ep),I (x.b:Nat),Str (x.hd),I (x.nm:Nat),I (x.i:Nat),.slice x.chA x.ch.length x.chc,.slice x.ptA x.pt.length x.ptc,Str (x.an),Str (x.op),Str (x.rt),I (x.ht:Nat),.slice x.bsA x.bs.length x.bsc,.bool (x.th),Str (x.pk),Str (x.pv)]
def qAr:VtD:=⟨0,0,[],0,0,none,0,[],none,0,[],[],[],[],0,none,0,[],false,[],[]⟩
def qYe(l:List VtD):List (List Value):=l.map VtD.cells
theorem qTC{l:List VtD}{k:Nat}(h:k<l.length):(qYe l)[k]?=some (l.getD k qAr).cells:=by
 unfold qYe
 rw [jN,qAi qAr h];rfl
theorem notT{b:Bool}(h:(!b)=true):b=false:=by cases b;rfl;cases h
theorem qYi{b:Bool}(h:(!b)=false):b=true:=by cases b;cases h;rfl
structure qS0 (F:Hp) (v:VtD):Prop where
 ch:Sl F 1 v.chA v.ch.length v.chc (qAH v.ch)
 pt:Sl F 1 v.ptA v.pt.length v.ptc (qAH v.pt)
 bs:Sl F 1 v.bsA v.bs.length v.bsc (qAH v.bs)
 good:qLg v.bs v.th v.pk v.pv (qAM v.nm) 0
 pvl:v.pv.length≤1000000
 ch35:v.ch.length=35
 ch16: ∀s∈v.ch,s.length=16
 ptl:v.pt.length=v.ht
 pt16: ∀s∈v.pt,s.length=16
 h6:v.ht≤6
 hi:v.i<2^v.ht
 an:v.an.length≤1000000
 op:v.op.length≤1000000
 rt:v.rt.length≤1000000
 pe:qBN v.op v.rt ((v.ht:Nat):Int)=0
 b16:v.b<16
 nm64:v.nm<64
 ep:v.ep≤4294967295
 hd:v.hd.length=16
theorem qS0.mono{F F':Hp}{v:VtD}(h:qS0 F v)(hl:Le F F'):qS0 F' v:=⟨h.ch.mono hl,h.pt.mono hl,h.bs.mono hl,h.good,h.pvl,h.ch35,h.ch16,h.ptl,h.pt16,h.h6,h.hi,h.an,h.op,h.rt,h.pe,h.b16,h.nm64,h.ep,h.hd⟩
def qGt(ws:List WnD)(b nm:Nat):Bool:=decide (b<ws.length)&&decide (0≤Wd.find (ws.getD b qEY).l ((nm:Nat):Int) 0)
def valV(v:VtD):xA:=Sha.tagged 16 [v.an,qBd v.op v.rt ((v.ht:Nat):Int)]
def qTG(v:VtD):Bool:=decide (Mk.climb (Wo.publicOf v.op v.i (Wo.ends v.op v.i (Wo.digs (Xm.digest v.op v.i (atM v.ep v.b v.nm v.hd))) v.ch 35)) v.i v.pt=v.rt)
def qSy(x:Hd)(v:VtD):Bool:=qPC v.bs v.th v.pk v.pv (qCW x.nodes x.dep) (qAM v.nm) (valV v) 0
def qOM(x y:Hd)(ws:List WnD)(v:VtD):Nat:=if y.dig= []∨v.ep≠y.ep∨v.hd≠y.dig then 15 else if qGt ws v.b v.nm=false then 17 else if qSy x v=false then 18 else if qTG v=false then 12 else 0
theorem qEx{x y:Hd}{ws:List WnD}{v:VtD}(h:y.dig= []∨v.ep≠y.ep∨v.hd≠y.dig):qOM x y ws v=15:=if_pos h
theorem qYr{x y:Hd}{ws:List WnD}{v:VtD}(h: ¬(y.dig= []∨v.ep≠y.ep∨v.hd≠y.dig))(h2:qGt ws v.b v.nm=false):qOM x y ws v=17:=by unfold qOM;rw [if_neg h,if_pos h2]
theorem qYq{x y:Hd}{ws:List WnD}{v:VtD}(h: ¬(y.dig= []∨v.ep≠y.ep∨v.hd≠y.dig))(h2:qGt ws v.b v.nm=true)(h3:qSy x v=false):qOM x y ws v=18:=by unfold qOM;rw [if_neg h,h2,if_neg xC,if_pos h3]
theorem qYs{x y:Hd}{ws:List WnD}{v:VtD}(h: ¬(y.dig= []∨v.ep≠y.ep∨v.hd≠y.dig))(h2:qGt ws v.b v.nm=true)(h3:qSy x v=true)(h4:qTG v=false):qOM x y ws v=12:=by unfold qOM;rw [if_neg h,h2,if_neg xC,h3,if_neg xC,if_pos h4]
theorem vck_0{x y:Hd}{ws:List WnD}{v:VtD}(h: ¬(y.dig= []∨v.ep≠y.ep∨v.hd≠y.dig))(h2:qGt ws v.b v.nm=true)(h3:qSy x v=true)(h4:qTG v=true):qOM x y ws v=0:=by unfold qOM;rw [if_neg h,h2,if_neg xC,h3,if_neg xC,h4,if_neg xC]
theorem qVP(F:Hp)(hK:qAG F ⟨3,0,none⟩ (Sha.K.map W32))(v:VtD)(hv:qS0 F v):
    Cz prog 278 [.agg #[N64 v.ep,I (v.b:Nat),Str v.hd,I (v.nm:Nat),I (v.i:Nat),.slice v.chA v.ch.length v.chc,.slice v.ptA v.pt.length v.ptc],.agg #[Str v.op,Str v.rt,I (v.ht:Nat)]] F (.bool (qTG v)):=by
  have hch:=hv.ch
  have hpt:=hv.pt
  rw [hv.ch35] at hch
  rw [hv.ptl] at hpt
  have:=qPN F hK v.ep v.b v.nm v.hd hv.ep hv.b16 hv.nm64 hv.hd v.op v.rt v.i v.chA v.chc v.ch hch hv.ch16 v.ptA v.ht v.ptc v.pt hpt hv.pt16 (by have:=hv.op;omega) hv.h6 hv.hi
  rw [hv.ch35,hv.ptl]
  unfold qTG
  exact this
theorem qXz(F:Hp)(hK:qAG F ⟨3,0,none⟩ (Sha.K.map W32))(v:VtD)(hv:qS0 F v)(x:Hd):
    Cz prog 39 [.agg #[.slice v.bsA v.bs.length v.bsc,.bool v.th,Str v.pk,Str v.pv],Str (qCW x.nodes x.dep),Str (qAM v.nm),Str (valV v),I (0:Nat)] F (.bool (qSy x v)):=by
  unfold qSy
  exact qNx F hK v.bsA v.bsc v.bs hv.bs v.th v.pk v.pv (qAM v.nm) 0 hv.good (qCW x.nodes x.dep) (valV v) hv.pvl
theorem qTE(F:Hp)(v:VtD)(hv:qS0 F v)(Aw:Option Addr)(nw cw:Nat)(ws:List WnD)(hws:Sl F 1 Aw nw cw (qPR ws))(W:Nat→List Int)(sl:Nat)(hsl6:sl≤64)(hwk:qEu F W sl ws):Cz prog 277 [.agg #[N64 v.ep,I (v.b:Nat),Str (v.hd),I (v.nm:Nat),I (v.i:Nat),.slice v.chA v.ch.length v.chc,.slice v.ptA v.pt.length v.ptc,Str (v.an),Str (v.op),Str (v.rt),I (v.ht:Nat),.slice v.bsA v.bs.length v.bsc,.bool (v.th),Str (v.pk),Str (v.pv)],.slice Aw nw cw] F (.bool (qGt ws v.b v.nm)):=by
 have hwn:ws.length=nw:=by have:=hws.1;simpa [qPR] using this
 refine Ct.walk func277 O ntmps277 O (λw0 hw0=>?_)
 refine J.f λ_ j1=>J.q (qAb O O O) O λg2 _=>J.b O<|J.c j1<|J.k λ_ j2=>J.f λ_ j3=>J.W 0 qEg qDD O O O O O<|J.W 1 qCe z3_ O O O O O<|J.a6 1 b3_ O O O O O<|J.g ((qAS O O O).no xB) O<|J.b O<|J.G (qAA O O qEg O qDD O) O<|J.G (qAA O O qCe O z3_ O) O<|J.G (qAD 1 O O O b3_ O) O<|J.b O<|J.G (qAO qOR O O) O<|J.G (qBI O O O) O<|J.b O<|J.c j3<|J.Z O (λh18=>?_) (λh18=>?_)
 ·
  exact J.f λ_ j4=>J.b O<|J.c j4<|J.A<|J.V<|J.E hw0 O () (by unfold qGt;rw [decide_eq_false (show¬v.b<ws.length by omega)];rfl) trivial [0] O xC
 refine J.M j2<|J.k λ_ j5=>J.b1 [F,blk g2 [N64 v.ep,I (v.b:Nat),Str (v.hd),I (v.nm:Nat),I (v.i:Nat),.slice v.chA v.ch.length v.chc,.slice v.ptA v.pt.length v.ptc,Str (v.an),Str (v.op),Str (v.rt),I (v.ht:Nat),.slice v.bsA v.bs.length v.bsc,.bool (v.th),Str (v.pk),Str (v.pv)] 206] [] (.y 0 (.y 1 (.y 2 (.y 3 (.y 4 (.y 5 (.y 6 (.y 7 (.y 8 (.e 9 (.y 10 (.y 11 (.y 12 (.y 13 (.y 14 .nil))))))))))))))) Tryz.wide xF xD ?_
 refine J.L ?_
 refine J.j O (qAA O O qEg O qDD O) O O<|J.j O (qAA O O qCe O z3_ O) O O<|J.j O (qAD 1 O O O b3_ O) O O<|J.j O (qAF O O O qOR sizeOf83 hws xB) O O<|J.j O (qAI O O isAgg83 (m:=F) xD (hws.part (qTA xB) 0 1)) O O<|J.j O (qAA O O qEg O qDD O) O O<|J.j O (qAA O O qCe O z3_ O) O O<|J.j O (qAD 1 O O O b3_ O) O O<|J.a1 O (qAZ O O (λF' hF=>qWg F' (ws.getD v.b qEY).lA (ws.getD v.b qEY).l.length (ws.getD v.b qEY).lc (ws.getD v.b qEY).l ((hwk v.b xB).2.2.mono (Fa hF)) ((v.nm:Nat):Int) (by have:=(hwk v.b xB).2.1;omega))) O xD λg29 _=>J.L ?_
 refine J.c7 (I (max (Wd.find (ws.getD v.b qEY).l ((v.nm:Nat):Int) 0) 0)) ?_
 refine J.c7 (.bool (decide (0≤Wd.find (ws.getD v.b qEY).l ((v.nm:Nat):Int) 0))) ?_
 refine J.b7 ?_
 refine J.b7 ?_
 refine J.b0<|J.u (J.D j5 ?_)
 exact J.f λ_ j6=>J.p 2 O<|J.c j6<|J.A<|J.E hw0 O () (by unfold qGt;rw [decide_eq_true (show v.b<ws.length by omega)];rfl) trivial [0] O xC
attribute [local irreducible] qTG qSy qGt
theorem qPq(F:Hp)(hK:qAG F ⟨3,0,none⟩ (Sha.K.map W32))(v:VtD)(hv:qS0 F v)(x:Hd)(A:Option Addr)(c:Nat)(hg:x.good)(hsl:Sl F 1 A x.nodes.length c (qAH x.nodes))(y:Hd)(B:Option Addr)(e:Nat)(hgy:y.good)(hsy:Sl F 1 B y.nodes.length e (qAH y.nodes))(hsm: ∀s∈x.nodes,s.length≤1048576)(Aw:Option Addr)(nw cw:Nat)(ws:List WnD)(hws:Sl F 1 Aw nw cw (qPR ws))(W:Nat→List Int)(sl:Nat)(hsl6:sl≤64)(hwk:qEu F W sl ws):Cz prog 237 [.agg #[N64 v.ep,I (v.b:Nat),Str (v.hd),I (v.nm:Nat),I (v.i:Nat),.slice v.chA v.ch.length v.chc,.slice v.ptA v.pt.length v.ptc,Str (v.an),Str (v.op),Str (v.rt),I (v.ht:Nat),.slice v.bsA v.bs.length v.bsc,.bool (v.th),Str (v.pk),Str (v.pv)],.agg #[N64 x.ep,Str (x.par),I (x.dep),I (x.aud),.slice A x.nodes.length c],.agg #[N64 y.ep,Str (y.par),I (y.dep),I (y.aud),.slice B y.nodes.length e],.slice Aw nw cw] F (I (qOM x y ws v:Nat)):=by
 have hc35:=hv.ch35
 have hptl:=hv.ptl
 have hpl:=qBm v.nm
 refine Ct.walk func237 O ntmps237 O (λw0 hw0=>?_)
 refine J.f λ_ j1=>J.q (qAb O O O) O λg4 _=>J.q (qAb O O O) O λg5 _=>J.q (qAb O O O) O λg6 _=>J.b O<|J.c j1 ?_
 refine J.f λ_ j2=>J.c0 3 qGA qDP O O O O O<|J.q (qAZ O O (λF' hF=>qCo F' (hK.mo hF) y B e hgy (hsy.mono (Fa hF)))) O λg11 _=>J.b O<|J.c j2 ?_
 refine J.k λ_ j3=>J.T<|J.f λ_ j4=>J.b O<|J.g (qBY O O O) O<|J.b O<|J.b9 (d:=15) O (λh15=>?_) (λh15=>?_)
 ·
  refine J.p 15 O<|J.c j4 ?_
  refine J.c3 ?_
  refine J.f λ_ j5=>J.b O<|J.c j5 ?_
  exact J.A<|J.a5<|J.V<|J.E hw0 O () (by first|(rw [qEx (.inl h15)];rfl)|(rw [qEx (.inr (.inl (show v.ep≠y.ep by omega)))];rfl)|(rw [qEx (.inr (.inr h12))];rfl)) trivial [0] O xC
 refine J.G (qAA O O qEg O qDD O) O<|J.G (qAA O O qCe O qDs O) O<|J.G (qAD 1 O O O qEv O) O<|J.G (qAA O O qEJ O qDs O) O<|J.G (qAD 3 O O O qEv O) O<|J.G (qAV O O O) O<|J.p 2 O<|J.b9 (d:=23) O (λh23=>?_) (λh23=>?_)
 ·
  refine J.p 7 O<|J.c j4 ?_
  refine J.c3 ?_
  refine J.f λ_ j6=>J.b O<|J.c j6 ?_
  exact J.A<|J.a5<|J.V<|J.E hw0 O () (by first|(rw [qEx (.inl h15)];rfl)|(rw [qEx (.inr (.inl (show v.ep≠y.ep by omega)))];rfl)|(rw [qEx (.inr (.inr h12))];rfl)) trivial [0] O xC
 refine J.G (qAA O O qEg O qDD O) O<|J.G (qAA O O qCe O z9_ O) O<|J.G (qAD 1 O O O b9_ O) O<|J.b O<|J.G (qDH O O O) O<|J.p 2 O<|J.c j4 ?_
 refine J.Z O (λh12=>?_) (λh12=>?_)
 ·
  refine J.f λ_ j7=>J.b O<|J.c j7 ?_
  exact J.A<|J.a5<|J.V<|J.E hw0 O () (by first|(rw [qEx (.inl h15)];rfl)|(rw [qEx (.inr (.inl (show v.ep≠y.ep by omega)))];rfl)|(rw [qEx (.inr (.inr h12))];rfl)) trivial [0] O xC
 refine J.k λ_ j8=>?_
 have hn: ¬(y.dig= []∨v.ep≠y.ep∨v.hd≠y.dig):=λh=>by
  rcases h with h|h|h
  · exact h15 h
  · omega
  · exact h12 h
 refine J.H<|J.c0 1 isAgg206 sizeOf206 O O O O O<|J.b O<|J.q (qAZ O O (λF' hF=>qTE F' v (hv.mono (Fa hF)) Aw nw cw ws (hws.mono (Fa hF)) W sl hsl6 (hwk.mono (Fa hF)))) O λg33 _=>J.g (qAs O O) O<|J.b O<|J.c j8 ?_
 refine J.c5 O (λh30=>?_) (λh30=>?_)
 ·
  refine J.f λ_ j9=>J.b O<|J.c j9 ?_
  exact J.A<|J.a5<|J.V<|J.E hw0 O () (by rw [qYr hn (notT h30)];rfl) trivial [0] O xC
 refine J.k λ_ j10=>J.b1 [blk g4 [N64 v.ep,I (v.b:Nat),Str (v.hd),I (v.nm:Nat),I (v.i:Nat),.slice v.chA v.ch.length v.chc,.slice v.ptA v.pt.length v.ptc,Str (v.an),Str (v.op),Str (v.rt),I (v.ht:Nat),.slice v.bsA v.bs.length v.bsc,.bool (v.th),Str (v.pk),Str (v.pv)] 206,blk g5 [N64 x.ep,Str (x.par),I (x.dep),I (x.aud),.slice A x.nodes.length c] 52] [] (.y 0 (.y 1 (.y 2 (.y 4 (.y 5 (.y 6 (.y 8 (.y 9 (.e 3 (.e 7 (.e 10 (.e 11 (.y 12 (.y 13 .nil)))))))))))))) Tryz.wide xF xD ?_
 refine J.j O (qAA O O qEg O qC6 O) O O<|J.j O (qAP O O qGa qC6 (m:=blk g4 [N64 v.ep,I (v.b:Nat),Str (v.hd),I (v.nm:Nat),I (v.i:Nat),.slice v.chA v.ch.length v.chc,.slice v.ptA v.pt.length v.ptc,Str (v.an),Str (v.op),Str (v.rt),I (v.ht:Nat),.slice v.bsA v.bs.length v.bsc,.bool (v.th),Str (v.pk),Str (v.pv)] 206) xD (qAG.blk0.sub 11 4) O) O O<|J.j O (qAU 1 O O O qGA qDP O) O O<|J.j O (qAA O O qEg O qDD O) O O<|J.j O (qAA O O qCe O z3_ O) O O<|J.j O (qAD 0 O O O b3_ O) O O<|J.j O (qAA O O qEg O qDq O) O O<|J.j O (qAP O O qLY qDq (m:=blk g4 [N64 v.ep,I (v.b:Nat),Str (v.hd),I (v.nm:Nat),I (v.i:Nat),.slice v.chA v.ch.length v.chc,.slice v.ptA v.pt.length v.ptc,Str (v.an),Str (v.op),Str (v.rt),I (v.ht:Nat),.slice v.bsA v.bs.length v.bsc,.bool (v.th),Str (v.pk),Str (v.pv)] 206) xD (qAG.blk0.sub 7 4) O) O O<|J.a1 O (qAZ O O (λF' hF=>qJa F' (hK.mo hF) x A c hg (hsl.mono (Fa hF)) hsm)) O xD λg39 _=>J.a1 O (qAZ O O (λF' hF=>qEO F' (hK.mo hF) v.nm (by have:=hv.nm64;omega))) O xD λg43 _=>J.a1 O (qAZ O O (λF' hF=>qSh F' (hK.mo hF) v.an v.op v.rt ((v.ht:Nat):Int) (by have:=hv.an;omega) (by have:=hv.op;omega) (by have:=hv.rt;omega) hv.pe)) O xD λg46 _=>J.a1 O (qAZ O O (λF' hF=>qXz F' (hK.mo hF) v (hv.mono (Fa hF)) x)) O xD λg47 _=>J.j O (qAs O O) O O<|J.b7 ?_
 refine J.b0<|J.u (J.D j10 ?_)
 refine J.c5 O (λh35=>?_) (λh35=>?_)
 ·
  refine J.f λ_ j11=>J.b O<|J.c j11 ?_
  exact J.A<|J.a5<|J.V<|J.E hw0 O () (by rw [qYq hn (qYi h30) (notT h35)];rfl) trivial [0] O xC
 refine J.f λ_ j12=>J.W 0 qEg qDD O O O O O<|J.g (qAP O O isAgg199 qDD (m:=blk g4 [N64 v.ep,I (v.b:Nat),Str (v.hd),I (v.nm:Nat),I (v.i:Nat),.slice v.chA v.ch.length v.chc,.slice v.ptA v.pt.length v.ptc,Str (v.an),Str (v.op),Str (v.rt),I (v.ht:Nat),.slice v.bsA v.bs.length v.bsc,.bool (v.th),Str (v.pk),Str (v.pv)] 206) xD (qAG.blk0.sub 0 7) O) O<|J.W 7 qEg qDq O O O O O<|J.W 8 qPT qCT O O O O O<|J.g (qAP O O qGb qCT (m:=blk g4 [N64 v.ep,I (v.b:Nat),Str (v.hd),I (v.nm:Nat),I (v.i:Nat),.slice v.chA v.ch.length v.chc,.slice v.ptA v.pt.length v.ptc,Str (v.an),Str (v.op),Str (v.rt),I (v.ht:Nat),.slice v.bsA v.bs.length v.bsc,.bool (v.th),Str (v.pk),Str (v.pv)] 206) xD (qAG.blk0.sub 8 3) O) O<|J.q (qAZ O O (λF' hF=>qVP F' (hK.mo hF) v (hv.mono (Fa hF)))) O λg55 _=>J.g (qAs O O) O<|J.b O<|J.c j12 ?_
 refine J.c5 O (λh49=>?_) (λh49=>?_)
 ·
  refine J.f λ_ j13=>J.b O<|J.c j13 ?_
  exact J.A<|J.a5<|J.V<|J.E hw0 O () (by rw [qYs hn (qYi h30) (qYi h35) (notT h49)];rfl) trivial [0] O xC
 refine J.b2<|J.a2<|J.u (J.D j3 ?_)
 refine J.f λ_ j14=>J.b O<|J.c j14 ?_
 exact J.A<|J.E hw0 O () (by rw [vck_0 hn (qYi h30) (qYi h35) (qYi h49)];rfl) trivial [0] O xC
end Go.Proofs.YtmemgokiolfdoaaGreatDoor