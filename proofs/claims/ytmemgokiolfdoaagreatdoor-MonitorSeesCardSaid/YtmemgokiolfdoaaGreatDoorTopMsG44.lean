/- Rules for walking a translated function, over heaps that are apart: for any program. -/
import Derived.Test.YtmemgokiolfdoaaGreatDoorTopMsG7
import Derived.RecoverIn
set_option linter.unusedSimpArgs false
set_option linter.unusedVariables false
namespace Go.Fw
open Go
section
variable{P:Program}{n:Nat}{env:Env}{w0:Wd}{rs ms:List Hp}{ops:Array Oper}{Q:Exit→Act→World→Prop}{K:Act→World→Prop}{o:Oper}{rest:List Oper}{d:Nat}
def asV(t:TypeId)(z v:Value):Value×Bool:=match v with
  | .iface t' u=>if t'=t then(u,true) else(z,false)
  |_=>(z,false)
def isI:Value→Prop
  | .iface _ _=>True
  | .nilIface=>True
  |_=>False
theorem qJI{t x v}(ho:o.op= .makeInterface t x)(hx:ev env x=some v)(hc:P.concrete t=true):YOp P env rs o (.iface t v):=λn a w hk hr=>by
  simp only [execOp,ho,hk.ev hx]
  rw [Sem.run_bind,run_makeInterface (P:=P) (w:=w) t v hc]
  rfl
def notI:TypeDesc→Bool
  | .interface _=>false
  |_=>true
theorem qKR{t xt:TypeId}{z v:Value}{td:TypeDesc}(hu:P.underlying t=some td)(hd:notI td=true)(hz: ∀w,(zeroValue t).run P w= .ok z w)(hv:isI v)(w:World):
    (Instr.typeAssert v xt t true).run P w= .ok (.tuple #[(asV t z v).1,.bool (asV t z v).2]) w:=by
  unfold Instr.typeAssert
  rw [Sem.run_bind,run_underlying hu,Result.andThen_ok]
  cases v with
  |iface t' u=>
    by_cases h:t'=t
    · cases td<;>first|(show Sem.run P (if t'=t then _ else _) w=_;rw [if_pos h];show _=Result.ok (Value.tuple #[(if t'=t then(u,true) else(z,false)).1,.bool (if t'=t then(u,true) else(z,false)).2]) w;rw [if_pos h];rfl)|cases hd
    · cases td<;>first|(show Sem.run P (if t'=t then _ else _) w=_;rw [if_neg h];show Sem.run P (do pure (Value.tuple #[←zeroValue t,.bool false])) w=Result.ok (Value.tuple #[(if t'=t then(u,true) else(z,false)).1,.bool (if t'=t then(u,true) else(z,false)).2]) w;rw [if_neg h,Sem.run_bind,hz];rfl)|cases hd
  |nilIface=>cases td<;>first|(show Sem.run P (do pure (Value.tuple #[←zeroValue t,.bool false])) w=_;rw [Sem.run_bind,hz];rfl)|cases hd
  |_=>exact hv.elim
theorem qDa{t xt x z v td}(ho:o.op= .typeAssert x xt t true)(hx:ev env x=some v)(hu:P.underlying t=some td)(hd:notI td=true)(hz: ∀w,(zeroValue t).run P w= .ok z w)(hv:isI v):
    YOp P env rs o (.tuple #[(asV t z v).1,.bool (asV t z v).2]):=λn a w hk hr=>by
  simp only [execOp,ho,hk.ev hx]
  rw [Sem.run_bind,qKR hu hd hz hv]
  rfl
theorem qKp{t xt x u td}(ho:o.op= .typeAssert x xt t false)(hx:ev env x=some (.iface t u))(hu:P.underlying t=some td)(hd:notI td=true):YOp P env rs o u:=λn a w hk hr=>by
  have:(Instr.typeAssert (.iface t u) xt t false).run P w= .ok u w:=by
    unfold Instr.typeAssert
    rw [Sem.run_bind,run_underlying hu,Result.andThen_ok]
    cases td<;>first|(show Sem.run P (if t=t then _ else _) w=_;rw [if_pos rfl];rfl)|cases hd
  simp only [execOp,ho,hk.ev hx]
  rw [Sem.run_bind,this]
  rfl
def POp(P:Program)(env:Env)(ms:List Hp)(o:Oper):Prop:= ∀n a (w0:Wd) w,Kn n env a→St w0 ms w→ ∃t u w',(execOp a.eval o).run P w= .halt (.panic (.iface t u)) w'∧St w0 ms w'
theorem St.drop{ex:List Hp}{w:World}(h:St w0 (ms++ex) w):St w0 ms w:=
  h.intro_of (qAa.2 (List.pairwise_append.1 (qAa.1 h.dj)).1) (λ_ hm=>h.mem (jh _ hm)) (λm hm=>h.kd m (jh _ hm))
theorem qWp{α:Type}{e t:TypeId}(he: ∀w,(elemOf P.rt.typeAssertionError).run P w= .ok e w)(s dy:Option TypeId)(m:String)(w:World):
    ∃u l,(runtimePanic (.typeAssertion s dy t m):Sem α).run P w= .halt (.panic (.iface P.rt.typeAssertionError u)) (w.alloc (.cells l e)):=by
  refine⟨.pointer (some ⟨w.heap.size,0,none⟩),#[(match s with|some t=>typeHandle P t|none=> .pointer none),(match dy with|some t=>typeHandle P t|none=> .pointer none),typeHandle P t,strVal m],?_⟩
  unfold runtimePanic
  rw [Sem.run_bind,qGu,Result.andThen_ok]
  show Sem.run P (do let r←newVar (←elemOf P.rt.typeAssertionError) _;goPanic (.iface P.rt.typeAssertionError (.pointer (some r)))) w=_
  rw [Sem.run_bind,he,Result.andThen_ok]
  rfl
theorem qER{t xt x v td e}(ho:o.op= .typeAssert x xt t false)(hx:ev env x=some v)(hu:P.underlying t=some td)(hd:notI td=true)(hv:isI v)(hn: ∀u,v≠ .iface t u)
    (he: ∀w,(elemOf P.rt.typeAssertionError).run P w= .ok e w):POp P env ms o:=λn a w0 w hk hs=>by
  have key: ∃s dy m,(Instr.typeAssert v xt t false).run P w=(runtimePanic (.typeAssertion s dy t m):Sem Value).run P w:=by
    unfold Instr.typeAssert
    rw [Sem.run_bind,run_underlying hu,Result.andThen_ok]
    cases v with
    |iface t' u=>
      have h: ¬t'=t:=λh=>hn u (by rw [h])
      cases td<;>first|exact⟨some xt,some t',"",by show Sem.run P (if t'=t then _ else _) w=_;rw [if_neg h];rfl⟩|cases hd
    |nilIface=>cases td<;>first|exact⟨some xt,none,"",O⟩|cases hd
    |_=>exact hv.elim
  obtain ⟨s,dy,m,hk1⟩:=key
  obtain ⟨u,l,h2⟩:=qWp (α:=Value) (t:=t) he s dy m w
  refine⟨P.rt.typeAssertionError,u,w.alloc (.cells l e),?_,St.drop (ex:= [blk w.heap.size l.toList e]) (by have:=hs.alloc (.cells l e);simpa [blk] using this)⟩
  simp only [execOp,ho,hk.ev hx]
  rw [Sem.run_bind,hk1,h2]
  rfl
theorem J.i3(h:POp P env ms o)(hg:o.guard=none)(k: ∀t u,J n env w0 ms (Q (.panic [{v:= .iface t u,recovered:=false}]))):J n env w0 ms (wpList P ops Q (o::rest)):=λa w hk hs=>by
  unfold wpList
  rw [if_pos ((Wan.none hg:Wan ops env o true) n a hk.2)]
  refine .inl ?_
  obtain ⟨t,u,w',hr,hs'⟩:=h n a w0 w hk.2 hs
  unfold Oper.wp
  rw [hr,Oper.upon_panic]
  exact k t u a w' hk hs'
theorem J.i4{id:Nat}{l:List Oper}(hm:P.follows .mixedOrders=true)(h:J n env w0 ms (wpAny P .any l.toArray Q l.length (Array.replicate l.length false))):J n env w0 ms ((Code.region id l.toArray true).wp P Q):=λa w hk hs=>
  wp_region_any hm (by have:=h a {w with drawn:=w.drawn+1} hk (hs.of_heap O O O O);simpa using this)
theorem J.e9{fuel:Nat}{listed:Array Bool}(rl:List Nat)(hr:Region.ready .any ops listed=rl)(hne:rl≠ [])(h: ∀i∈rl,J n env w0 ms (wpOp P ops Q i (wpAny P .any ops Q fuel (listed.setIfInBounds i true)))):
    J n env w0 ms (wpAny P .any ops Q (fuel+1) listed):=λa w hk hs=>⟨λe=>absurd (hr.symm.trans e) hne,λi hi=>h i (hr▸hi) a w hk hs⟩
theorem J.f8{i:Nat}{v:Value}(ho:ops[i]?=some o)(h:YOp P env ms o v)(hg:o.guard=none)(hd:o.dst=some d)(hn:Nat.blt d n=true)(k:J n ((d,v)::env) w0 ms K):J n env w0 ms (wpOp P ops Q i K):=λa w hk hs=>by
  unfold wpOp
  simp only [ho]
  rw [if_pos ((Wan.none hg:Wan ops env o true) n a hk.2)]
  refine .inl ?_
  unfold Oper.wp
  rw [h n a w hk.2 (λm hm=>hs.mem hm),Oper.upon_value,hd]
  exact k _ w (hk.put hn v) hs
theorem J.g2{i:Nat}(ho:ops[i]?=some o)(h:POp P env ms o)(hg:o.guard=none)(k: ∀t u,J n env w0 ms (Q (.panic [{v:= .iface t u,recovered:=false}]))):J n env w0 ms (wpOp P ops Q i K):=λa w hk hs=>by
  unfold wpOp
  simp only [ho]
  rw [if_pos ((Wan.none hg:Wan ops env o true) n a hk.2)]
  refine .inl ?_
  obtain ⟨t,u,w',hr,hs'⟩:=h n a w0 w hk.2 hs
  unfold Oper.wp
  rw [hr,Oper.upon_panic]
  exact k t u a w' hk hs'
theorem J.i5{dd:Deferred}(hr: ∀n a w,Kn n env a→(execOp a.eval o).run P w= .ok (.defer dd) w)(hg:o.guard=none)(hd:o.dst=none)(k:J n env {w0 with own:=dd::w0.own} ms (wpList P ops Q rest)):
    J n env w0 ms (wpList P ops Q (o::rest)):=λa w hk hs=>by
  unfold wpList
  rw [if_pos ((Wan.none hg:Wan ops env o true) n a hk.2)]
  refine .inl ?_
  unfold Oper.wp
  rw [hr n a w hk.2,Oper.upon_defer,hd]
  exact k _ w ⟨congrArg (dd:: ·) hk.1,hk.2⟩ ⟨hs.os,hs.out,hs.tape,hs.size,hs.dj,hs.le,hs.kd,hs.kl⟩
def CtD(P:Program)(f:FuncId)(vs:List Value)(u u':FrameMode)(ms ms':List Hp):Prop:=
  ∀w0 w,St w0 ms w→CallsDIn Fence.wide 0 P f vs.toArray u w λe v w'=>(∃x,e= .returned x)∧v=u'∧St w0 ms' w'
theorem qKm{t t' x v i}(ho:o.op= .binOp .neq t x (.const .nilIface) t')(hx:ev env x=some v)(ht:P.underlying t=some (.interface i))(hv:isI v):YOp P env rs o (.bool (match v with| .nilIface=>false|_=>true)):=λn a w hk hr=>by
  have hy:a.eval (.const .nilIface)= .nilIface:=rfl
  cases v with
  |iface ty u=>
    have h1:(Op.equal t (.iface ty u) .nilIface).run P w= .ok false w:=by
      unfold Op.equal
      show Sem.run P (Op.equalIn (_+1) t _ _) w=_
      unfold Op.equalIn
      rw [Sem.run_bind,run_underlying ht];rfl
    simp only [execOp,ho,hk.ev hx,hy]
    simp [binOp,eqGuard,h1]
  |nilIface=>
    have h1:(Op.equal t .nilIface .nilIface).run P w= .ok true w:=by
      unfold Op.equal
      show Sem.run P (Op.equalIn (_+1) t _ _) w=_
      unfold Op.equalIn
      rw [Sem.run_bind,run_underlying ht];rfl
    simp only [execOp,ho,hk.ev hx,hy]
    simp [binOp,eqGuard,h1]
  |_=>exact hv.elim
theorem CtD.rec{f:FuncId}{fn:Func}{id:Nat}{o1 o2:Oper}{d1 d2 m:Nat}{x y:Code}{vs:List Value}{u u':FrameMode}{v:Value}{b:Bool}{ms':List Hp}
    (hf:P.funcs[f]?=some fn) (hb:fn.body=some (.seq (.region id #[o1,o2] false) (.cond (.tmp d2) x y))) (hn:fn.ntmps=m) (hl:vs.length≤m)
    (h1: ∀ρ w,(execOp ρ o1).run P w= .ok .recover w) (g1:o1.guard=none) (e1:o1.dst=some d1) (n1:Nat.blt d1 m=true)
    (hu:(∃older,u= .panicking ({v,recovered:=false}::older)∧u'= .panicking ({v,recovered:=true}::older))∨(u= .returning∧u'= .returning∧v= .nilIface))
    (h2:YOp P ((d1,v)::qCX 0 vs) [] o2 (.bool b)) (g2:o2.guard=none) (e2:o2.dst=some d2) (n2:Nat.blt d2 m=true) (hres:fn.results= #[])
    (hx: ∀w0:Wd,w0.own= []→J m ((d2,.bool b)::(d1,v)::qCX 0 vs) w0 ms ((if b then x else y).wp P (λe a w=>e= .normal∧a.defers= []∧St w0 ms' w))):CtD P f vs u u' ms ms':=λw0 w hs=>by
  have hs1:St {w0 with own:= []} ms w:=⟨hs.os,hs.out,hs.tape,hs.size,hs.dj,hs.le,hs.kd,hs.kl⟩
  refine callsDIn_of_wpSIn hf hb trivial λc₀ cs hc=>?_
  have hkn:Kn m (qCX 0 vs) {tmps:=vs.toArray++Array.replicate (fn.ntmps-vs.toArray.size) undef,defers:= []}:=by
    refine⟨by simp [hn];omega,λt v ht=>?_⟩
    obtain ⟨_,h2⟩:=qCN vs 0 t v ht
    simp only [zr] at h2
    have hlt:=(List.getElem?_eq_some_iff.1 h2).1
    rw [zj (by simpa using hlt)]
    simpa using h2
  have hdf:({tmps:=vs.toArray++Array.replicate (fn.ntmps-vs.toArray.size) undef,defers:= []}:Act).defers= []:=rfl
  generalize ({tmps:=vs.toArray++Array.replicate (fn.ntmps-vs.toArray.size) undef,defers:= []}:Act)=a0 at hkn hdf⊢
  have hk1:Kn m ((d1,v)::qCX 0 vs) (a0.put o1.dst v):=by rw [e1];exact hkn.put n1 v
  have hk2:Kn m ((d2,.bool b)::(d1,v)::qCX 0 vs) ((a0.put o1.dst v).put o2.dst (.bool b)):=by rw [e2];exact hk1.put n2 _
  have hd2:((a0.put o1.dst v).put o2.dst (.bool b)).defers= []:=by rw [e1,e2];exact hdf
  have hrun2:=h2 m _ w hk1 (λm hm=>by cases hm)
  have key:(Code.cond (.tmp d2) x y).wpSIn Fence.wide 0 P (bodyPostS P fn c₀ cs (λe v w'=>(∃x,e= .returned x)∧v=u'∧St w0 ms' w')) ((a0.put o1.dst v).put o2.dst (.bool b)) ({c₀ with mode:=u'}::cs) w:=by
    refine wpSIn_cond (t:=b) (hk2.ev (show look ((d2,.bool b)::_) d2=_ by unfold look;rw [show Nat.beq d2 d2=true from Nat.beq_refl d2];rfl)) ?_
    refine wpSIn_of_wpIn O (wpIn_wide.2 (Code.wp_mono (λe a w q=>?_) (hx {w0 with own:= []} O _ w ⟨hd2,hk2⟩ hs1)))
    obtain ⟨rfl,hd,hs⟩:=q
    exact⟨hd,u',O,_,results_none hres _ _ _,⟨_,O⟩,O,hs.os,hs.out,hs.tape,hs.size,hs.dj,hs.le,hs.kd,hs.kl⟩
  refine wpSIn_seq (wpSIn_region ?_)
  show wpOpsSIn _ _ _ _ _ [0,1] _ _ _
  have w1:Region.wanted o1 (yielded #[o1,o2] a0.tmps)=true:=by simp [Region.wanted,g1]
  have w2: ∀a,Region.wanted o2 (yielded #[o1,o2] a)=true:=λa=>by simp [Region.wanted,g2]
  unfold wpOpsSIn
  show(_∧if _ then _ else _)
  refine⟨λ_ _=>trivial,?_⟩
  simp only [List.getElem_toArray,List.getElem_cons_zero]
  rw [if_pos w1]
  rw [h1]
  have hrec:recoverD (c₀::cs)=some (v,{c₀ with mode:=u'}::cs)∨(recoverD (c₀::cs)=none∧v= .nilIface∧{c₀ with mode:=u'}=c₀):=by
    rcases hu with ⟨older,h3,h4⟩|⟨h3,h4,h5⟩
    · left
      unfold recoverD
      dsimp only
      rw [hc,h3,h4]
    · right
      refine⟨?_,h5,?_⟩
      · unfold recoverD
        dsimp only
        rw [hc,h3]
      · rw [h4,←h3,←hc]
  have fin: ∀cs',cs'={c₀ with mode:=u'}::cs→wpOpsSIn Fence.wide 0 P #[o1,o2] (Exit.thenS ((Code.cond (.tmp d2) x y).wpSIn Fence.wide 0 P (bodyPostS P fn c₀ cs (λe v w'=>(∃x,e= .returned x)∧v=u'∧St w0 ms' w'))) (bodyPostS P fn c₀ cs (λe v w'=>(∃x,e= .returned x)∧v=u'∧St w0 ms' w'))) [1] (a0.put o1.dst v) cs' w:=by
    rintro cs' rfl
    unfold wpOpsSIn
    show(_∧if _ then _ else _)
    refine⟨λ_ _=>trivial,?_⟩
    simp only [List.getElem_toArray,List.getElem_cons_zero,List.getElem_cons_succ]
    rw [if_pos (w2 _),hrun2]
    unfold wpOpsSIn
    exact key
  rcases hrec with h|⟨h,h5,h6⟩
  · simp only [h];exact fin _ O
  · simp only [h];subst h5;exact fin _ (by rw [h6])
theorem J.i6{fn:Func}{R:Ending→World→Prop}{f:FuncId}{fv:Fn}{cap args:Array Value}{vs:List Value}{u u':FrameMode}{e:Exit}{ms':List Hp}(hw:w0.own= [{target:= .fn fv cap,args:=args}])
    (he:(e= .ret∧u= .returning)∨(∃ch,e= .panic ch∧u= .panicking ch)) (hi: ∀w,(invoke (.fn fv cap) args).run P w= .ok (.enter f vs.toArray) w) (hs':settle u'= .returning) (hc:CtD P f vs u u' ms ms')
    {v:Value} (hr: ∀a w,Kn n env a→St w0 ms' w→(results fn a.tmps).run P w= .ok v w) (h: ∀w,St w0 ms' w→R (.returned v) w):J n env w0 ms (bodyPostM Fence.wide 0 P fn R e):=λa w hk hs=>by
  have hd:a.defers= [{target:= .fn fv cap,args:=args}]:=hk.1.trans hw
  have key:LeavesInM Fence.wide 0 P fn a.tmps R a.defers u w:=by
    rw [hd]
    refine⟨by rcases he with ⟨_,h⟩|⟨_,_,h⟩<;>rw [h]<;>simp,.inr ⟨by simp [Fence.wide],fv,cap,f,vs.toArray,O,hi w,λ_ _=>trivial,?_⟩⟩
    refine(hc w0 w hs).mono λe2 u2 w2 q=>?_
    obtain ⟨⟨x,rfl⟩,rfl,hs2⟩:=q
    show LeavesInM _ _ _ _ _ _ [] (settle u2) w2
    rw [hs']
    exact⟨v,hr a w2 hk.2 hs2,h w2 hs2⟩
  rcases he with ⟨rfl,h2⟩|⟨ch,rfl,h2⟩
  · rw [h2] at key;exact key
  · rw [h2] at key;exact key
theorem J.g9{f:FuncId}{x:Operand}{cap:Array Value}{tys:Array TypeId}(ho:o.op= .defer {callee:= .value x,args:= #[],argTypes:=tys})(hx:ev env x=some (.func (.func f) #[] cap))(hg:o.guard=none)(hd:o.dst=none)
    (k:J n env {w0 with own:={target:= .fn (.func f) cap,args:= #[]}::w0.own} ms (wpList P ops Q rest)):J n env w0 ms (wpList P ops Q (o::rest)):=
  J.i5 (λn a w hk=>by
    have:=hk.ev hx
    simp [execOp,ho,resolve,this,Deferred.ofValue]) hg hd k
theorem J.f0{fn:Func}{R:Ending→World→Prop}{f:FuncId}{vs:List Value}{u u':FrameMode}{e:Exit}{ms':List Hp}{φ:Act→World→Prop}(hw:w0.own= [])(hf:qC5 P f)
    (he:(e= .ret∧u= .returning)∨(∃ch,e= .panic ch∧u= .panicking ch)) (hs':settle u'= .returning) (hc:CtD P f vs u u' ms ms') (hQ: ∀a w,bodyPostM Fence.wide 0 P fn R e a w→φ a w)
    {v:Value} (hr: ∀a w,Kn n env a→St w0 ms' w→(results fn a.tmps).run P w= .ok v w) (h: ∀w,St w0 ms' w→R (.returned v) w):J n env {w0 with own:={target:= .fn (.func f) vs.toArray,args:= #[]}::w0.own} ms φ:=λa w hk hs=>by
  have st: ∀{m w},St {w0 with own:={target:= .fn (.func f) vs.toArray,args:= #[]}::w0.own} m w→St w0 m w:=λh=>⟨h.os,h.out,h.tape,h.size,h.dj,h.le,h.kd,h.kl⟩
  exact hQ a w (J.i6 (w0:={w0 with own:={target:= .fn (.func f) vs.toArray,args:= #[]}::w0.own}) (by rw [hw]) he (λw=>by simpa [invoke] using hf vs.toArray w) hs' hc (λa w hk hs=>hr a w hk (st hs)) (λw hs=>h w (st hs)) a w hk hs)
end
end Go.Fw