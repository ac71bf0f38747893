/- A part of the proof. -/
import Derived.Test.YtmemgokiolfdoaaGreatDoorTopMsG45
import Derived.Test.YtmemgokiolfdoaaGreatDoorTopMsG37
set_option maxRecDepth 100000
set_option maxHeartbeats 1000000
set_option linter.unusedSimpArgs false
set_option linter.unusedVariables false
namespace Go.Proofs.YtmemgokiolfdoaaGreatDoor
open Go Go.Fw Go.Proofs.Tryz
theorem el2:qCY prog 2 [.int .i64 0] 8:=qCY.of xI O
theorem qIZ(a:List Int)(x:Int):qB6 (a++ [x])=qB6 a++ [[I x]]:=by simp [qB6]
theorem qP1(l:List Int)(i:Nat)(h:i<l.length):l.take i++ [l.getD i 0]=l.take (i+1):=by
 rw [jK h,jB,jC h];rfl
def qGE(ns:List Int)(n:Nat):List Int:=if ns.length=n then ns else []
theorem qRD(g2 g3:Nat)(ms:List Hp):CtD prog 157 [Ptr g2,Ptr g3] .returning .returning ms ms:=
 CtD.rec func157 O ntmps157 (show 2≤4 by decide) (λ_ _=>rfl) O O O (.inr ⟨O,O,O⟩) (qKm (v:= .nilIface) O O underlying20 trivial) O O O O
  (λw0 hw0=>J.b2 λa w hk hs=>⟨O,hk.1.trans hw0,hs⟩)
theorem qFH(g2 g3:Nat)(x y:Value)(t:TypeId)(u:Value)(rest:List Hp):CtD prog 157 [Ptr g2,Ptr g3] (.panicking [{v:= .iface t u,recovered:=false}]) (.panicking [{v:= .iface t u,recovered:=true}])
    (blk g2 [x] 64::blk g3 [y] 25::rest) (blk g2 [.slice none 0 0] 64::blk g3 [I 6] 25::rest):=
  CtD.rec func157 O ntmps157 (show 2≤4 by decide) (λ_ _=>rfl) O O O (.inl ⟨[],O,O⟩) (qKm (v:= .iface t u) O O underlying20 trivial) O O O O
    (λw0 hw0=>J.H<|J.a7 (qAC (i:=0) (l:= [x]) (vs:= [.slice none 0 0]) O O O O O sizeOf64 O O) O O λ_ _=>
      J.a7 (qAC (i:=1) (l:= [y]) (vs:= [I 6]) O O O O O qLk O O) O O λ_ _=>J.a4 λa w hk hs=>⟨O,hk.1.trans hw0,hs⟩)
theorem tae: ∀w,(elemOf prog.rt.typeAssertionError).run prog w= .ok (match prog.underlying prog.rt.typeAssertionError with|some (.pointer e)=>e|_=>0) w:=λw=>by
 have h: ∃e,prog.underlying prog.rt.typeAssertionError=some (.pointer e):=⟨(match prog.underlying prog.rt.typeAssertionError with|some (.pointer e)=>e|_=>0),xI⟩
 obtain ⟨e,he⟩:=h
 rw [he]
 unfold elemOf
 rw [Sem.run_bind,run_underlying he];rfl
theorem qUw(F:Hp)(A:Option Addr)(n c:Nat)(l:List Value)(hs:Sl F 1 A n c (qB0 l))(hI: ∀v∈l,isI v)(hnb:n≤1000000)(ns:List Int)(hj:ns.length≤n)(hok: ∀i,i<ns.length→l.getD i .nilIface=iN (ns.getD i 0))(hbad:ns.length<n→ ∀u,l.getD ns.length .nilIface≠ .iface 2 u):
    Ct prog 88 [.iface 177 (.slice A n c)] [F] (λx:Option Addr×Nat×Hp=> .tuple #[.slice x.1 (qGE ns n).length x.2.1,I (if ns.length=n then 0 else 6)]) (λx=>Row x.2.2 2 1 x.1 (qGE ns n).length x.2.1 (qB6 (qGE ns n))) (λx=> [F,x.2.2]):=by
  have hln:l.length=n:=by have:=hs.1;simpa [qB0] using this
  refine Ct.walk func88 O ntmps88 O (λw0 hw0=>?_)
  refine J.f λ_ j1=>J.q (qAJ O zeroValue64 O) O λg2 _=>J.q (qAJ O zeroValue25 O) O λg3 _=>J.c j1<|J.f λ_ j2=>J.g (qBM O O) O<|J.g9 O O O O ?_
  refine J.c j2<|J.k λ_ j3=>J.f λ_ j4=>J.b O<|J.g (qKp O O qHq O) O<|J.g (qAO qHq O O) O<|J.b O<|J.c j4<|J.T<|J.b5 (X:=Nat×Option Addr×Nat×Hp) (λζ=> [(2,Ptr g2),(3,Ptr g3),(8,.slice A n c),(9,I (n:Nat)),(10,I (ζ.1:Nat))]) (λζ=> [F,blk g2 [.slice ζ.2.1 ζ.1 ζ.2.2.1] 64,blk g3 [I 0] 25,ζ.2.2.2]) (λζ=>ζ.1≤ns.length∧Row ζ.2.2.2 2 1 ζ.2.1 ζ.1 ζ.2.2.1 (qB6 (ns.take ζ.1))) (λζ=>n-ζ.1) (0,none,0,(λ_=>none)) (⟨jE _,qBZ.nil⟩) ⟨O,O,O,O,O,trivial⟩ (λ_ h=>h.empty.pick [0,1,2,3] xC) ?_
  rintro⟨i,A2,c2,m2⟩ ⟨hi,h2⟩ I0 hI0
  dsimp only at hi h2⊢
  refine J.f λ_ j5=>J.g (qAS O O O) O<|J.c j5<|J.k λ_ j6=>J.Z O (λh11=>?_) (λh11=>?_)
  ·
    refine J.M j6<|J.k λ_ j7=>J.T<|J.f λ_ j8=>J.g (qAF O O O qHq sizeOf66 hs xB) O<|J.g (qAI O O isAgg66 (m:=F) xD (hs.elem (qH6 xB))) O<|J.b O<|J.c j8 ?_
    rcases(zo i ns.length).symm with hge|hlt
    · have hib:i=ns.length:=by omega
      have hne: ¬ns.length=n:=xB
      have hbd: ∀u,l.getD i .nilIface≠ .iface 2 u:=by rw [hib];exact hbad xB
      have hiv:isI (l.getD i .nilIface):=hI _ (by rw [jB,jC (show i<l.length by omega)];exact jQ _)
      refine J.c6 [1,2,0,4] [blk g2 [.slice A2 i c2] 64,blk g3 [I 0] 25,F,(λ_=>none)] O xC<|J.i4 Tryz.wide ?_
      refine J.e9 [0,1] xF xD ?_
      intro q hq
      rcases(by simpa using hq:q=0∨q=1) with rfl|rfl
      · refine J.f8 O (qAD 0 O O O isAgg64 O) O O O ?_
        refine J.e9 [1] xF xD ?_
        intro q hq
        obtain rfl:q=1:=by simpa using hq
        refine J.f8 O (qA2 O O) O O O ?_
        refine J.e9 [2] xF xD ?_
        intro q hq
        obtain rfl:q=2:=by simpa using hq
        exact J.g2 O (qER O O u2_ O hiv hbd tae) O (λt u=>J.f0 hw0 ent (.inr ⟨_,O,O⟩) O (qFH g2 g3 _ _ t u _) (λ_ _ h=>h) (rv2 O (RV.blk1 0 O O isAgg64) (RV.blk1 1 O O qMs)) (qAg (none,0,λ_=>none) (by unfold qGE;rw [if_neg hne,if_neg hne];rfl) (by unfold qGE;rw [if_neg hne];exact qBZ.nil) [2,3] O xC))
      · refine J.f8 O (qA2 O O) O O O ?_
        refine J.e9 [0,2] xF xD ?_
        intro q hq
        rcases(by simpa using hq:q=0∨q=2) with rfl|rfl
        · refine J.f8 O (qAD 0 O O O isAgg64 O) O O O ?_
          refine J.e9 [2] xF xD ?_
          intro q hq
          obtain rfl:q=2:=by simpa using hq
          exact J.g2 O (qER O O u2_ O hiv hbd tae) O (λt u=>J.f0 hw0 ent (.inr ⟨_,O,O⟩) O (qFH g2 g3 _ _ t u _) (λ_ _ h=>h) (rv2 O (RV.blk1 0 O O isAgg64) (RV.blk1 1 O O qMs)) (qAg (none,0,λ_=>none) (by unfold qGE;rw [if_neg hne,if_neg hne];rfl) (by unfold qGE;rw [if_neg hne];exact qBZ.nil) [2,3] O xC))
        · exact J.g2 O (qER O O u2_ O hiv hbd tae) O (λt u=>J.f0 hw0 ent (.inr ⟨_,O,O⟩) O (qFH g2 g3 _ _ t u _) (λ_ _ h=>h) (rv2 O (RV.blk1 0 O O isAgg64) (RV.blk1 1 O O qMs)) (qAg (none,0,λ_=>none) (by unfold qGE;rw [if_neg hne,if_neg hne];rfl) (by unfold qGE;rw [if_neg hne];exact qBZ.nil) [2,3] O xC))
    refine J.b1 [F,blk g2 [.slice A2 i c2] 64,blk g3 [I 0] 25] [5] (.y 0 (.y 1 (.y 2 (.e 3 (.e 4 (.e 5 .nil)))))) Tryz.wide xF xD ?_
    refine J.j O (qAD 1 O O O isAgg64 O) O O<|J.L ?_
    refine J.j O (qKp O (show some (l.getD i .nilIface)=_ from congrArg some (hok i hlt)) u2_ O) O O<|J.a1 O (qAE (l:= [.tmp 16]) (xs:= [[I (ns.getD i 0)]]) O O O O qPS el2 O xC xC xD) O xD λg17 _=>?_
    change J _ _ _ [F,blk g2 [.slice A2 i c2] 64,blk g3 [I 0] 25,m2,blk g17 [I (ns.getD i 0)] 2] _
    refine J.a1 O (qAX (i:=3) (xs:=qB6 (ns.take i)) (m2:=blk g17 [I (ns.getD i 0)] 2) (ys:= [[I (ns.getD i 0)]]) O O O qPS qPS el2 O h2 xD ((qBO (q:=True) (qB6 [ns.getD i 0]) O (by simp [qB6]) O).sl) O xB xB) O xD ?_
    rintro⟨A18,c18,m18⟩ h18
    try dsimp only at h18
    change J _ ((18,.slice A18 (i+1) c18)::_) _ [_,_,_,m18,_] _
    rw [←qIZ] at h18
    refine J.c1 O (qAC (i:=1) (l:= [.slice A2 i c2]) (vs:= [.slice A18 (i+1) c18]) O O O O O sizeOf64 O O) O O O λ_ _=>J.b0<|J.a2<|J.u (J.D j7 ?_)
    exact J.H<|J.g ((qAR O O O xB).nat (i+1) xB) O<|J.b O<|J.a4<|J.u<|J.a8 (i+1,A18,c18,m18) (λη (hη:_∧n-η.1<n-i)=>hI0 η hη.1 hη.2) ⟨⟨by dsimp only;omega,by dsimp only;rw [←qP1 ns i hlt];exact h18⟩,by first|omega|(dsimp only;omega)⟩ ⟨O,O,O,O,O,trivial⟩ (λ_ h=>h.pick [0,1,2,3] xC)
  refine J.b3<|J.a0<|J.a0<|J.b4 ?_
  refine J.u (J.D j3 ?_)
  refine J.f λ_ j9=>J.a6 1 isAgg64 O O O O O<|J.a7 (qAC (i:=1) O O O O O sizeOf64 O O) O O λ_ _=>J.a7 (qAC (i:=2) O O O O O qLk O O) O O λ_ _=>?_
  change J _ _ _ [_,_,blk g3 [I (0:Nat)] 25,_] _
  refine J.c j9<|J.A ?_
  have hil:ns.length=n:=xB
  obtain rfl:i=ns.length:=by omega
  exact J.f0 hw0 ent (.inl ⟨O,O⟩) O (qRD g2 g3 _) (λ_ _ h=>h) (rv2 O (RV.blk1 1 O O isAgg64) (RV.blk1 2 O O qMs)) (qAg (A2,c2,m2) (by unfold qGE;rw [if_pos hil,if_pos hil];rfl) (by unfold qGE;rw [if_pos hil];rw [jV (jJ _)] at h2;exact h2) [0,3] O xC)
theorem qRr(F:Hp)(v:Value)(hv:isI v)(hn: ∀u,v≠ .iface 177 u):
    Ct prog 88 [v] [F] (λx:Option Addr×Nat×Hp=> .tuple #[.slice x.1 0 x.2.1,I 6]) (λx=>Row x.2.2 2 1 x.1 0 x.2.1 (qB6 [])) (λx=> [F,x.2.2]):=by
  refine Ct.walk func88 O ntmps88 O (λw0 hw0=>?_)
  refine J.f λ_ j1=>J.q (qAJ O zeroValue64 O) O λg2 _=>J.q (qAJ O zeroValue25 O) O λg3 _=>J.c j1<|J.f λ_ j2=>J.g (qBM O O) O<|J.g9 O O O O ?_
  exact J.c j2<|J.k λ_ j3=>J.f λ_ j4=>J.b O<|J.c6 [1,2,0,3] [blk g2 [.slice none 0 0] 64,blk g3 [I 0] 25,F,(λ_=>none)] O xC<|J.i3 (qER O O qHq O hv hn tae) O (λt u=>J.f0 hw0 ent (.inr ⟨_,O,O⟩) O (qFH g2 g3 _ _ t u _) (λ_ _ h=>h) (rv2 O (RV.blk1 0 O O isAgg64) (RV.blk1 1 O O qMs)) (qAg (none,0,λ_=>none) O qBZ.nil [2,3] O xC))
inductive NV (F:Hp):Value→Option (List Int)→Prop
  |yes (A:Option Addr) (n c:Nat) (l:List Value) (hs:Sl F 1 A n c (qB0 l)) (hI: ∀v∈l,isI v) (hnb:n≤1000000) (ns:List Int) (hj:ns.length≤n) (hok: ∀i,i<ns.length→l.getD i .nilIface=iN (ns.getD i 0))
      (hbad:ns.length<n→ ∀u,l.getD ns.length .nilIface≠ .iface 2 u):NV F (.iface 177 (.slice A n c)) (if ns.length=n then some ns else none)
  |no (v:Value) (hv:isI v) (hn: ∀u,v≠ .iface 177 u):NV F v none
theorem NV.mono{F F':Hp}{v:Value}{q:Option (List Int)}(h:NV F v q)(hl:Le F F'):NV F' v q:=by
 cases h with
 |yes A n c l hs hI hnb ns hj hok hbad=>exact .yes A n c l (hs.mono hl) hI hnb ns hj hok hbad
 |no v hv hn=>exact .no v hv hn
theorem qRq(F:Hp)(v:Value)(q:Option (List Int))(h:NV F v q):Ct prog 88 [v] [F] (λx:Option Addr×Nat×Hp=> .tuple #[.slice x.1 (q.getD []).length x.2.1,I (if q.isSome=true then 0 else 6)])
    (λx=>Row x.2.2 2 1 x.1 (q.getD []).length x.2.1 (qB6 (q.getD []))) (λx=> [F,x.2.2]):=by
  cases h with
  |yes A n c l hs hI hnb ns hj hok hbad=>
    have h:=qUw F A n c l hs hI hnb ns hj hok hbad
    unfold qGE at h
    by_cases hc:ns.length=n
    · rw [if_pos hc] at h⊢
      rw [if_pos hc] at h
      exact h
    · rw [if_neg hc] at h⊢
      rw [if_neg hc] at h
      exact h
  |no v hv hn=>exact qRr F v hv hn
theorem qNu{l:List Value}(h: ∀v∈l,isI v)(i:Nat):isI (l.getD i .nilIface):=by
 by_cases hi:i<l.length
 · rw [jB,jC hi];exact h _ (jQ _)
 · rw [jB,jd xB];trivial
def rdB(n:Nat)(ta tb:Bool)(q:Option (List Int)):Bool:=decide (n=3)&&ta&&tb&&q.isSome
def rdE(n:Nat)(ta tb:Bool)(q:Option (List Int))(k:Int):Int:=if rdB n ta tb q=true then(if k<0 then 10 else 0) else 6
def rdN(n:Nat)(ta tb:Bool)(q:Option (List Int))(k:Int):List Int:=if rdE n ta tb q k=0 then q.getD [] else []
theorem qUT(F:Hp)(A:Option Addr)(n c:Nat)(l:List Value)(hs:Sl F 1 A n c (qB0 l))(hI: ∀v∈l,isI v)(hnb:n≤1000000)(q:Option (List Int))(hq:NV F (l.getD 2 .nilIface) q)(s:xA)(ta:Bool)(ha:asV 9 (Str []) (l.getD 0 .nilIface)=(Str s,ta))(k:Int)(tb:Bool)(hb:asV 2 (I 0) (l.getD 1 .nilIface)=(I k,tb)):Ct prog 23 [.iface 177 (.slice A n c)] [F] (λx:Option Addr×Nat×Hp=> .tuple #[Str (if rdE n ta tb q k=0 then s else []),I (if rdE n ta tb q k=0 then k else 0),.slice x.1 (rdN n ta tb q k).length x.2.1,I (rdE n ta tb q k)]) (λx=>Row x.2.2 2 1 x.1 (rdN n ta tb q k).length x.2.1 (qB6 (rdN n ta tb q k))) (λx=> [F,x.2.2]):=by
 have hln:l.length=n:=by have:=hs.1;simpa [qB0] using this
 refine Ct.walk func23 O ntmps23 O (λw0 hw0=>?_)
 refine J.f λ_ j1=>J.p 4 O<|J.c j1<|J.f λ_ j2=>J.b O<|J.q (qAZ O O (λF' hF=>qXy F' A n c l (hs.mono (Fa hF)) hnb)) O λg22 _=>J.p 5 O<|J.c j2<|J.f λ_ j3=>J.b O<|J.q (qAZ O O (λF' hF=>qRu F' A n c l (hs.mono (Fa hF)) hnb 0 xC)) O λg27 _=>J.p 5 O<|J.c j3<|J.f λ_ j4=>J.b O<|J.q (qAZ O O (λF' hF=>qRu F' A n c l (hs.mono (Fa hF)) hnb 1 xC)) O λg32 _=>J.p 5 O<|J.c j4<|J.f λ_ j5=>J.b O<|J.q (qAZ O O (λF' hF=>qRu F' A n c l (hs.mono (Fa hF)) hnb 2 xC)) O λg37 _=>J.p 5 O<|J.c j5<|J.f λ_ j6=>J.b O<|J.q (qAZ O O (λF' hF=>(by have:=qPA F' (l.getD 0 .nilIface) (qNu hI 0);rw [ha] at this;exact this))) O λg42 _=>J.p 5 O<|J.c j6<|J.f λ_ j7=>J.b O<|J.q (qAZ O O (λF' hF=>(by have:=qRv F' (l.getD 1 .nilIface) (qNu hI 1);rw [hb] at this;exact this))) O λg47 _=>J.p 5 O<|J.c j7<|J.f λ_ j8=>J.b O<|J.q (qBb O O (λF' hF=>qRq F' (l.getD 2 .nilIface) q (hq.mono (Fa hF)))) O ?_
 rintro⟨A52,c52,m52⟩ h52
 try dsimp only at h52
 refine J.p 5 O<|J.c j8<|J.k λ_ j9=>J.T<|J.f λ_ j10=>J.b O<|J.g (qAV O O O) O<|J.b O<|J.b9 (d:=58) O (λh58=>?_) (λh58=>?_)
 ·
  refine J.p 12 O<|J.c j10<|J.c3 ?_
  refine J.f λ_ j11=>J.p 4 O<|J.c j11<|J.A<|J.a5<|J.V ?_
  have hR:rdB n ta tb q=false:=by unfold rdB;rw [decide_eq_false xB];rfl
  have hE:rdE n ta tb q k=6:=by unfold rdE;rw [hR];rfl
  exact J.c6 [0,2] [F,(λ_=>none)] O xC<|J.a9 hw0 (λ_ _ h=>h) (qTx O O O O O) (qAg (none,0,λ_=>none) (by unfold rdN;rw [hE];rfl) (by unfold rdN;rw [hE];exact qBZ.nil) [0,1] O xC)
 refine J.b O<|J.G (qAs O O) O<|J.p 2 O<|J.e4 (d:=62) O (λh62=>?_) (λh62=>?_)
 ·
  refine J.p 8 O<|J.c j10<|J.c3 ?_
  refine J.f λ_ j12=>J.p 4 O<|J.c j12<|J.A<|J.a5<|J.V ?_
  have hta:ta=false:=by simpa using h62
  have hR:rdB n ta tb q=false:=by unfold rdB;rw [hta];simp
  have hE:rdE n ta tb q k=6:=by unfold rdE;rw [hR];rfl
  exact J.c6 [0,2] [F,(λ_=>none)] O xC<|J.a9 hw0 (λ_ _ h=>h) (qTx O O O O O) (qAg (none,0,λ_=>none) (by unfold rdN;rw [hE];rfl) (by unfold rdN;rw [hE];exact qBZ.nil) [0,1] O xC)
 refine J.b O<|J.G (qAs O O) O<|J.p 2 O<|J.e4 (d:=66) O (λh66=>?_) (λh66=>?_)
 ·
  refine J.p 4 O<|J.c j10<|J.c3 ?_
  refine J.f λ_ j13=>J.p 4 O<|J.c j13<|J.A<|J.a5<|J.V ?_
  have htb:tb=false:=by simpa using h66
  have hR:rdB n ta tb q=false:=by unfold rdB;rw [htb];simp
  have hE:rdE n ta tb q k=6:=by unfold rdE;rw [hR];rfl
  exact J.c6 [0,2] [F,(λ_=>none)] O xC<|J.a9 hw0 (λ_ _ h=>h) (qTx O O O O O) (qAg (none,0,λ_=>none) (by unfold rdN;rw [hE];rfl) (by unfold rdN;rw [hE];exact qBZ.nil) [0,1] O xC)
 refine J.b O<|J.G (qAV O O O) O<|J.p 2 O<|J.c j10<|J.Z O (λh55=>?_) (λh55=>?_)
 ·
  refine J.f λ_ j14=>J.p 4 O<|J.c j14<|J.A<|J.a5<|J.V ?_
  have hq0:q.isSome=false:=by
   cases hz:q.isSome with
   |false=>rfl
   |true=>rw [hz] at h55;exact absurd O h55
  have hR:rdB n ta tb q=false:=by unfold rdB;rw [hq0];simp
  have hE:rdE n ta tb q k=6:=by unfold rdE;rw [hR];rfl
  exact J.c6 [0,2] [F,(λ_=>none)] O xC<|J.a9 hw0 (λ_ _ h=>h) (qTx O O O O O) (qAg (none,0,λ_=>none) (by unfold rdN;rw [hE];rfl) (by unfold rdN;rw [hE];exact qBZ.nil) [0,1] O xC)
 have hta:ta=true:=by simpa using h62
 have htb:tb=true:=by simpa using h66
 have hR2:q.isSome=true:=by
  cases hz:q.isSome with
  |true=>rfl
  |false=>rw [hz] at h55;exact absurd (show((if false=true then 0 else 6):Int)≠0 by decide) h55
 have hR:rdB n ta tb q=true:=by unfold rdB;rw [decide_eq_true xB,hta,htb,hR2];rfl
 refine J.f λ_ j15=>J.b O<|J.g (qAS O O O) O<|J.b O<|J.c j15<|J.Z O (λh70=>?_) (λh70=>?_)
 ·
  refine J.f λ_ j16=>J.p 4 O<|J.c j16<|J.A<|J.a5<|J.V ?_
  have hE:rdE n ta tb q k=10:=by unfold rdE;rw [hR,if_pos rfl,if_pos h70]
  exact J.c6 [0,2] [F,(λ_=>none)] O xC<|J.a9 hw0 (λ_ _ h=>h) (qTx O O O O O) (qAg (none,0,λ_=>none) (by unfold rdN;rw [hE];rfl) (by unfold rdN;rw [hE];exact qBZ.nil) [0,1] O xC)
 refine J.b2<|J.a2<|J.u (J.D j9 ?_)
 refine J.f λ_ j17=>J.p 7 O<|J.c j17<|J.A ?_
 have hE:rdE n ta tb q k=0:=by unfold rdE;rw [hR,if_pos rfl,if_neg h70]
 exact J.a9 hw0 (λ_ _ h=>h) (qTx O O O O O) (qAg (A52,c52,m52) (by unfold rdN;rw [hE];cases q with|none=>cases hR2|some ns=>rfl) (by unfold rdN;rw [hE];exact h52) [0,1] O xC)
end Go.Proofs.YtmemgokiolfdoaaGreatDoor