/- Rules for walking a translated function, over heaps that are apart: for any program. -/
import Derived.Test.YtmemgokiolfdoaaGreatDoorTopSpG1
import Derived.RangeFuncLeaves
import Derived.RangeFuncRecord
set_option linter.unusedSimpArgs false
set_option linter.unusedVariables false
namespace Go.Fw
open Go
section
variable{P:Program}{env:Env}{rs ms:List Hp}{o:Oper}
def qAe(l:xA):List yU:=l.map λc=> [B8 c]
def qAG(l:List xA):List yU:=l.map λs=> [Str s]
theorem qBW{α β:Type}(f:α->β)(l:List α):(l.map λc=> [f c]).flatten=l.map f:=by
  induction l with
  |nil=>rfl
  |cons a l ih=>simp only [jY,jo,ih];rfl
theorem qIr{src dst e x l}(ho:o.op= .convert src dst x)(hx:ev env x=some (Str l))(hs:P.underlying src=some .string)(hd:P.underlying dst=some (.slice e))(he:P.underlying e=some (.int .u8)):
    EOp P env ms o (λx:Nat×Nat×Hp=> .slice (some ⟨x.1,0,none⟩) l.length x.2.1) (λx=>Row x.2.2 e 1 (some ⟨x.1,0,none⟩) l.length x.2.1 (qAe l)) (λx=>ms++ [x.2.2]):= .ofRun λn a w0 w hk hst=>by
  have hr:=run_bytes_of_string (P:=P) w src dst e ⟨l.toArray⟩ hs hd he
  rw [qDV] at hr
  have hge:=grownCap_ge w l.length 0 e
  have hrow:bytesRow ⟨l.toArray⟩ (grownCap w l.length 0 e)=((qAe l).flatten++List.replicate (grownCap w l.length 0 e-l.length) (Value.int .u8 0)).toArray:=by
    unfold qAe
    rw [qBW]
    simp [bytesRow,qDV]
  have hlen:((qAe l).flatten++List.replicate (grownCap w l.length 0 e-l.length) (Value.int .u8 0)).length=grownCap w l.length 0 e*1:=by
    unfold qAe
    rw [qBW];simp;omega
  rw [hrow] at hr
  refine⟨(w.heap.size,grownCap w l.length 0 e,qAd w.heap.size (.cells ((qAe l).flatten++List.replicate (grownCap w l.length 0 e-l.length) (Value.int .u8 0)).toArray e
    (((qAe l).flatten++List.replicate (grownCap w l.length 0 e-l.length) (Value.int .u8 0)).toArray.size,((qAe l).flatten++List.replicate (grownCap w l.length 0 e-l.length) (Value.int .u8 0)).toArray.size+1))),_,?_,?_,hst.newBlock _⟩
  . simp only [execOp,ho,hk.ev hx]
    rw [Sem.run_bind,hr]
    rfl
  . refine qHT O (by simp [qAe]) (by simp [qAe]) hlen hge (.inr (.inl ⟨yd,?_⟩))
    exact Nat.le_of_eq (hlen.symm.trans List.size_toArray.symm)
theorem qBO{src dst e x A c m}{l:xA}{n':Nat}(ho:o.op= .convert src dst x)(hx:ev env x=some (.slice A n' c))(hs:P.underlying src=some (.slice e))(he:P.underlying e=some (.int .u8))(hd:P.underlying dst=some .string)
    (hm:m∈rs) (hl:Sl m 1 A n' c (qAe l)):YOp P env rs o (Str l):=λn a w hk hr=>by
  have hn:l.length=n':=by have:=hl.1;simpa [qAe] using this
  subst hn
  have hsl:=hl.mono (hr m hm)
  have hrun:(convert src dst (.slice A l.length c)).run P w= .ok (Str l) w:=by
    by_cases h0:0<l.length
    . obtain ⟨ad,hA,hc⟩:=hsl.flat h0
      subst hA
      refine run_convert_bytes_back (P:=P) w src dst e ad c l hs he hd (λj hj=>?_)
      refine hc.cell ?_
      unfold qAe
      rw [qBW]
      simp [hj]
    . have:l= []:=jT xB
      subst this
      rw [jG,run_convert_bytes_string w src dst e A 0 c hs he hd]
      cases A<;>simp [Conv.bytesToString,loadCells,loadCellsFrom]<;>rfl
  simp only [execOp,ho,hk.ev hx]
  rw [Sem.run_bind,hrun]
  rfl
def Ct(P:Program)(f:FuncId)(vs:yU)(ms:List Hp){X:Type}(val:X->Value)(φ:X->Prop)(ms':X->List Hp):Prop:=
  ∀w0 w,St w0 ms w->Calls P f vs.toArray w λe w'=> ∃x,e= .returned (val x)/\φ x/\St w0 (ms' x) w'
def qDi(P:Program)(f:FuncId):Prop:= ∀args w,(callFunc f args).run P w= .ok (.enter f args) w
theorem qMP(w:World):(program).run P w= .ok P w:=rfl
theorem qDi.of{f:FuncId}{fn:Func}{c:Code}(hf:P.funcs[f]?=some fn)(hb:fn.body=some c)(hn:(fn.name== "runtime.NumGoroutine")=false):qDi P f:=λargs w=>by
  unfold callFunc
  rw [Sem.run_bind,qMP,Result.andThen_ok,hf]
  simp only [hn,hb]
  rfl
theorem qAJ{f xs vs tys}{X:Type}{val:X->Value}{φ:X->Prop}{ms':X->List Hp}(ho:o.op= .call {callee:= .value (.func f),args:=xs,argTypes:=tys})(hv:evs env xs.toList=some vs)(hf:qDi P f)(hc:Ct P f vs ms val φ ms'):
    EOp P env ms o val φ ms':=λn a w0 w next Q hk hs hn=>by
  have hev:=hk.evs hv
  unfold Oper.wp
  have hr:(execOp a.eval o).run P w= .ok (.enter f vs.toArray) w:=by
    have:xs.map a.eval=vs.toArray:=by rw [<-hev];apply Array.ext';simp
    have hf':=hf vs.toArray w
    simp [execOp,ho,resolve,Act.eval,Deferred.ofValue,invoke,this,hf']
  rw [hr,Oper.upon_enter]
  refine(hc w0 w hs).mono λe w' ⟨x,he,hx,hs'⟩=>?_
  subst he
  exact hn x w' hx hs'
theorem Ct.mono{f vs}{X Y:Type}{val:X->Value}{φ:X->Prop}{ms':X->List Hp}{val2:Y->Value}{φ2:Y->Prop}{ms2:Y->List Hp}(h:Ct P f vs ms val φ ms')
    (g:X->Y) (hv: ∀x,φ x->val x=val2 (g x)) (hφ: ∀x,φ x->φ2 (g x)) (hm: ∀x w0 w,φ x->St w0 (ms' x) w->St w0 (ms2 (g x)) w):Ct P f vs ms val2 φ2 ms2:=λw0 w hs=>
  (h w0 w hs).mono λe w' ⟨x,he,hx,hs'⟩=>⟨g x,by rw [he,hv x hx],hφ x hx,hm x w0 w' hx hs'⟩
theorem St.one{w0 w}(h:St w0 ms w):St w0 [U ms] w:=⟨h.os,h.out,h.tape,h.size,⟨λg=> .inr rfl,yd⟩,λg o ho=>h.le g o (by simp only [U] at ho;cases hg:U ms g with|none=>rw [hg] at ho;cases ho|some x=>rw [hg] at ho;exact ho),λm hm=>by
  simp only [ji] at hm
  subst hm
  exact h.kU,h.kl⟩
theorem Ct.use{f vs}{X:Type}{val:X->Value}{φ:X->Prop}{new:X->List Hp}(h: ∀F,(∀m∈ms,Le m F)->Ct P f vs [F] val φ (λx=>F::new x)):Ct P f vs ms val φ (λx=>ms++new x):=λw0 w hs=>by
  refine(h (U ms) (λm hm=>qG2 hs.dj hm) w0 w hs.one).mono λe w' ⟨x,he,hx,hs'⟩=>⟨x,he,hx,?_⟩
  refine hs'.intro_of ?_ ?_ ?_
  . rw [qAh,jg]
    refine⟨qAh.1 hs.dj,qAh.1 hs'.dj.2,λm hm m' hm' g=>?_⟩
    have:=(Dj.U_right.1 hs'.dj.1) m' hm' g
    rcases this with h1|h1
    . exact .inl (qJI.1 h1 m hm)
    . exact .inr h1
  . intro m hm
    rcases List.mem_append.1 hm with hm|hm
    . exact(qG2 hs.dj hm).trans (hs'.mem (.head _))
    . exact hs'.mem (.tail _ hm)
  . intro m hm
    rcases List.mem_append.1 hm with hm|hm
    . exact hs.kd m hm
    . exact hs'.kd m (.tail _ hm)
theorem Ct.use0{f vs}{X:Type}{val:X->Value}{φ:X->Prop}(h: ∀F,(∀m∈ms,Le m F)->Ct P f vs [F] val φ (λ_=> [F])):Ct P f vs ms val φ (λ_=>ms):=by
  have:=Ct.use (ms:=ms) (new:=λ_:X=> []) h
  simpa using this
theorem vR(i:Nat){m:Hp}{f vs}{X:Type}{val:X->Value}{φ:X->Prop}{m':X->Hp}{new:X->List Hp}(hi:ms[i]?=some m)
    (h: ∀F,(∀m'∈ms.eraseIdx i,Le m' F)->Ct P f vs [m,F] val φ (λx=>m' x::F::new x)):Ct P f vs ms val φ (λx=>ms.set i (m' x)++new x):=λw0 w hs=>by
  have hlt:i<ms.length:=(List.getElem?_eq_some_iff.1 hi).1
  have hmi:ms[i]=m:=(List.getElem?_eq_some_iff.1 hi).2
  have hde:Djs (ms.eraseIdx i):=qAh.2 ((qAh.1 hs.dj).sublist (List.eraseIdx_sublist _ _))
  have hdm:Dj m (U (ms.eraseIdx i)):=Dj.U_right.2 λx hx=>by
    obtain ⟨j,hj⟩:=List.mem_iff_getElem?.1 hx
    rw [List.getElem?_eraseIdx] at hj
    split at hj
    . exact qDE hs.dj hi hj xB
    . exact qDE hs.dj hi hj xB
  have hs2:St w0 [m,U (ms.eraseIdx i)] w:=hs.intro_of ⟨by simpa [U] using (Dj.U_right.2 (by simpa using hdm):Dj m (U [U (ms.eraseIdx i)])),⟨λg=> .inr O,yd⟩⟩ (by
    intro x hx
    simp only [j5,jr,or_false] at hx
    rcases hx with rfl|rfl
    . exact hs.mem (jR hi)
    . intro g o ho
      obtain ⟨m',hm',hg⟩:=qCa ho
      exact hs.mem (List.mem_of_mem_eraseIdx hm') g o hg) (by
    intro x hx
    simp only [j5,jr,or_false] at hx
    rcases hx with rfl|rfl
    . exact hs.kd _ (jR hi)
    . exact Dj.U_right.2 λy hy=>hs.kd y (List.mem_of_mem_eraseIdx hy))
  refine(h _ (λx hx=>qG2 hde hx) w0 w hs2).mono λe w' ⟨x,he,hx,hs'⟩=>⟨x,he,hx,?_⟩
  have d1:=hs'.dj.1
  have d2:=hs'.dj.2.1
  rw [Dj.U_right] at d1 d2
  have hF: ∀y∈ms.eraseIdx i,Le y (hp w'):=λy hy=>(qG2 hde hy).trans (hs'.mem (.tail _ (.head _)))
  have hdj': ∀{z:Hp},Dj z (U (ms.eraseIdx i))-> ∀y∈ms.eraseIdx i,Dj z y:=λh=>Dj.U_right.1 h
  have hin: ∀j,j<ms.length->j≠i-> ∀y,ms[j]?=some y->y∈ms.eraseIdx i:=λj hj hne y hy=>by
    rw [List.mem_iff_getElem?]
    by_cases hji:j<i
    . exact⟨j,by rw [List.getElem?_eraseIdx,yX hji];exact hy⟩
    . refine⟨j-1,?_⟩
      rw [List.getElem?_eraseIdx,yW xB,show j-1+1=j by omega];exact hy
  refine hs'.intro_of ?_ ?_ ?_
  . rw [qAh,jg]
    refine⟨?_,qAh.1 hs'.dj.2.2,?_⟩
    . rw [yL]
      intro a b ha hb hab
      simp only [j6] at ha hb
      simp only [List.getElem_set]
      by_cases ea:i=a
      . rw [yX ea,yW xB]
        exact hdj' (d1 _ (.head _)) _ (hin b hb xB _ (jD hb))
      . rw [yW ea]
        by_cases eb:i=b
        . rw [yX eb]
          exact(hdj' (d1 _ (.head _)) _ (hin a ha xB _ (jD ha))).symm
        . rw [yW eb]
          exact qDE hs.dj (jD ha) (jD hb) xB
    . intro y hy z hz g
      rcases List.mem_iff_getElem?.1 hy with ⟨j,hj⟩
      rw [zO] at hj
      split at hj
      . cases hj
        exact d1 z (.tail _ hz) g
      . rename_i hne
        have hj':j<ms.length:=(List.getElem?_eq_some_iff.1 hj).1
        have:=d2 z hz g
        rcases this with h1|h1
        . exact .inl (qJI.1 h1 y (hin j hj' (Ne.symm hne) y hj))
        . exact .inr h1
  . intro y hy
    rcases List.mem_append.1 hy with hy|hy
    . rcases List.mem_iff_getElem?.1 hy with ⟨j,hj⟩
      rw [zO] at hj
      split at hj
      . cases hj;exact hs'.mem (.head _)
      . rename_i hne
        have hj':j<ms.length:=(List.getElem?_eq_some_iff.1 hj).1
        exact hF y (hin j hj' (Ne.symm hne) y hj)
    . exact hs'.mem (.tail _ (.tail _ hy))
  . intro y hy
    rcases List.mem_append.1 hy with hy|hy
    . rcases List.mem_iff_getElem?.1 hy with ⟨j,hj⟩
      rw [zO] at hj
      split at hj
      . cases hj;exact hs'.kd _ (.head _)
      . rename_i hne
        exact hs.kd y (jR hj)
    . exact hs'.kd _ (.tail _ (.tail _ hy))
theorem vi(A B:List Hp){f vs}{X:Type}{val:X->Value}{φ:X->Prop}{A' new:X->List Hp}
    (h: ∀F,(∀m∈B,Le m F)->Ct P f vs (A++ [F]) val φ (λx=>A' x++F::new x)):Ct P f vs (A++B) val φ (λx=>A' x++B++new x):=λw0 w hs=>by
  have hp:=qAh.1 hs.dj
  rw [jg] at hp
  have hdB:Djs B:=qAh.2 hp.2.1
  have hs2:St w0 (A++ [U B]) w:=hs.intro_of (by
    rw [qAh,jg]
    refine⟨hp.1,by simp,λa ha b hb=>?_⟩
    simp only [ji] at hb
    subst hb
    exact Dj.U_right.2 (hp.2.2 a ha)) (λm hm=>by
    rcases List.mem_append.1 hm with hm|hm
    . exact hs.mem (jj _ hm)
    . simp only [ji] at hm
      subst hm
      intro g o ho
      obtain ⟨m',hm',hg⟩:=qCa ho
      exact hs.mem (jb _ hm') g o hg) (λm hm=>by
    rcases List.mem_append.1 hm with hm|hm
    . exact hs.kd _ (jj _ hm)
    . simp only [ji] at hm
      subst hm
      exact Dj.U_right.2 λy hy=>hs.kd y (jb _ hy))
  refine(h _ (λx hx=>qG2 hdB hx) w0 w hs2).mono λe w' ⟨x,he,hx,hs'⟩=>⟨x,he,hx,?_⟩
  have hq:=qAh.1 hs'.dj
  rw [jg,zB] at hq
  refine hs'.intro_of ?_ ?_ ?_
  . change Djs (A' x++B++new x)
    rw [qAh,jM,jg,jg]
    refine⟨hq.1,⟨hp.2.1,hq.2.1.2,λb hb z hz g=>?_⟩,λa ha z hz=>?_⟩
    . rcases hq.2.1.1 z hz g with h1|h1
      . exact .inl (qJI.1 h1 b hb)
      . exact .inr h1
    . rcases List.mem_append.1 hz with hz|hz
      . exact Dj.U_right.1 (hq.2.2 a ha _ (.head _)) z hz
      . exact hq.2.2 a ha z (.tail _ hz)
  . intro m hm
    rcases List.mem_append.1 hm with hm|hm
    . rcases List.mem_append.1 hm with hm|hm
      . exact hs'.mem (jj _ hm)
      . exact(qG2 hdB hm).trans (hs'.mem (jb _ (.head _)))
    . exact hs'.mem (jb _ (.tail _ hm))
  . intro m hm
    rcases List.mem_append.1 hm with hm|hm
    . rcases List.mem_append.1 hm with hm|hm
      . exact hs'.kd _ (jj _ hm)
      . exact hs.kd _ (jb _ hm)
    . exact hs'.kd _ (jb _ (.tail _ hm))
def qFC:Nat->yU->Env
  |_,[]=> []
  |k,v::r=>(k,v)::qFC (k+1) r
theorem qDS: ∀(vs:yU) (k t:Nat) (v:Value),look (qFC k vs) t=some v->k<=t/\vs[t-k]?=some v
  | [],k,t,v,h=>by simp [qFC,look] at h
  |u::r,k,t,v,h=>by
    unfold qFC look at h
    by_cases e:k=t
    . subst e
      simp at h
      subst h
      simp
    . rw [qOc e] at h
      have:=qDS r (k+1) t v (by simpa using h)
      refine⟨xB,?_⟩
      rw [show t-k=(t-(k+1))+1 by omega,List.getElem?_cons_succ]
      exact this.2
theorem y7{f fn c n vs}{X:Type}{val:X->Value}{φ:X->Prop}{ms':X->List Hp}(hf:P.funcs[f]?=some fn)(hb:fn.body=some c)(hn:fn.ntmps=n)(hl:Nat.ble vs.length n=true)
    (h: ∀w0:Wd,w0.own= []->J n (qFC 0 vs) w0 ms (c.wp P (bodyPostM Fence.wide 0 P fn λe w'=> ∃x,e= .returned (val x)/\φ x/\St w0 (ms' x) w'))):Ct P f vs ms val φ ms':=λw0 w hs=>by
  have hl':vs.length<=n:=by simpa [Nat.ble_eq] using hl
  have hs1:St {w0 with own:= []} ms w:=⟨hs.os,hs.out,hs.tape,hs.size,hs.dj,hs.le,hs.kd,hs.kl⟩
  refine(callsIn_wide (n:=0)).1 ((callsIn_of_wp_marks hf hb trivial (wpIn_wide.2 (h {w0 with own:= []} O _ w ⟨O,?_,λt v ht=>?_⟩ hs1))).mono ?_)
  . simp [hn];omega
  . obtain ⟨_,h2⟩:=qDS vs 0 t v ht
    simp only [zw] at h2
    have hlt:=(List.getElem?_eq_some_iff.1 h2).1
    simp only [hn]
    rw [yJ (by simpa using hlt)]
    simpa using h2
  . rintro e w' ⟨x,he,hx,hs'⟩
    exact⟨x,he,hx,hs'.os,hs'.out,hs'.tape,hs'.size,hs'.dj,hs'.le,hs'.kd,hs'.kl⟩
section
variable{n:Nat}{w0:Wd}{Q:Exit->Act->World->Prop}{fn:Func}
theorem vH(hw:w0.own= []){R:Ending->World->Prop}{φ:Act->World->Prop}(hQ: ∀a w,bodyPostM Fence.wide 0 P fn R .ret a w->φ a w){v:Value}(hr: ∀a w,Kn n env a->St w0 ms w->(results fn a.tmps).run P w= .ok v w)(h: ∀w,St w0 ms w->R (.returned v) w):J n env w0 ms φ:=
  λa w hk hs=>hQ a w (by
    have hd:a.defers= []:=hk.1.trans hw
    show LeavesInM _ _ _ _ _ _ a.defers _ _
    rw [hd]
    exact⟨v,hr a w hk.2 hs,h w hs⟩)
theorem qIM{t v}(h:fn.results= #[.tmp t])(hv:look env t=some v): ∀a w,Kn n env a->St w0 ms w->(results fn a.tmps).run P w= .ok v w:=λa w hk _=>by
  have:=hk.look hv
  rw [results_tmp h,zX,this];rfl
theorem qB5{t u v v'}(h:fn.results= #[.tmp t,.tmp u])(hv:look env t=some v)(hv':look env u=some v'): ∀a w,Kn n env a->St w0 ms w->(results fn a.tmps).run P w= .ok (.tuple #[v,v']) w:=λa w hk _=>by
  have h1:=hk.look hv
  have h2:=hk.look hv'
  rw [results_tmp2 h,zX,h1,zX,h2];rfl
theorem qIj(h:fn.results= #[]): ∀a w,Kn n env a->St w0 ms w->(results fn a.tmps).run P w= .ok (.tuple #[]) w:=λ_ _ _ _=>results_none h _ _ _
theorem qAf{X:Type}{val:X->Value}{φ:X->Prop}{ms':X->List Hp}{v:Value}(x:X)(hv:v=val x)(hx:φ x)(ix:yT)(hm:pick ms ix=ms' x)(hn:ix.Nodup):
    ∀w,St w0 ms w-> ∃x,Ending.returned v= .returned (val x)/\φ x/\St w0 (ms' x) w:=λ_ hs=>⟨x,by rw [hv],hx,hm▸hs.pick ix hn⟩
end
end
theorem Fa{l:List Hp}{F' m:Hp}(h: ∀a∈l,Le a F')(hm:m∈l:=by simp):Le m F':=h m hm
abbrev Cz(P:Program)(f:FuncId)(a:yU)(F:Hp)(v:Value):Prop:=Ct P f a [F] (λ_:Unit=>v) (λ_=>True) (λ_=> [F])
def enB(P:Program)(f:FuncId):Bool:=match P.funcs[f]? with
  |some fn=>fn.body.isSome&&!(fn.name== "runtime.NumGoroutine")
  |none=>false
theorem qDi.ofB{P:Program}{f:FuncId}(h:enB P f=true):qDi P f:=by
  unfold enB at h
  split at h
  . rename_i fn hf
    rw [jh] at h
    obtain ⟨c,hc⟩:=Option.isSome_iff_exists.1 h.1
    exact qDi.of hf hc (by simpa using h.2)
  . cases h
end Go.Fw
namespace Go.Fw
open Go
section
variable{P:Program}{env:Env}{rs ms:List Hp}{o:Oper}
theorem qEx{t u x y k a b}(ho:o.op= .call {callee:= .builtin .min,args:= #[x,y],argTypes:= #[t,u]})(hx:ev env x=some (.int k a))(hy:ev env y=some (.int k b)):YOp P env rs o (.int k (min a b)):=λn ac w hk _=>by
  simp [execOp,ho,hk.ev hx,hk.ev hy,resolve,invoke,builtin,Builtin.min_,Builtin.min2]
  by_cases h:b<a
  . rw [yX h,Int.min_eq_right xB]
  . rw [yW h,Int.min_eq_left xB]
theorem qNt{t u x y k a b}(ho:o.op= .call {callee:= .builtin .max,args:= #[x,y],argTypes:= #[t,u]})(hx:ev env x=some (.int k a))(hy:ev env y=some (.int k b)):YOp P env rs o (.int k (max a b)):=λn ac w hk _=>by
  simp [execOp,ho,hk.ev hx,hk.ev hy,resolve,invoke,builtin,Builtin.max_,Builtin.max2]
  by_cases h:a<b
  . rw [Int.max_eq_right xB];first|rw [yX h]|simp [h]|omega
  . rw [Int.max_eq_left xB];first|rw [yW h]|simp [h]|omega
theorem qGM{t e}(ht:P.underlying t=some (.pointer e))(p:yS)(w:World)(d:Nat):(Op.equalIn (d+1) t (.pointer p) (.pointer none)).run P w= .ok p.isNone w:=by
  cases p<;>simp [Op.equalIn,run_underlying ht]
theorem qBL{t e t' x y p}(ht:P.underlying t=some (.pointer e))(ho:o.op= .binOp .eql t x y t')(hx:ev env x=some (.pointer p))(hy:ev env y=some (.pointer none)):YOp P env rs o (.bool p.isNone):=λn ac w hk _=>by
  have:=qGM (P:=P) ht p w 9999
  have h2:(Op.equal t (.pointer p) (.pointer none)).run P w= .ok p.isNone w:=this
  simp only [execOp,ho,hk.ev hx,hk.ev hy,binOp]
  cases p<;>simp [eqGuard,h2]
theorem qWb{t e t' x y p}(ht:P.underlying t=some (.pointer e))(ho:o.op= .binOp .neq t x y t')(hx:ev env x=some (.pointer p))(hy:ev env y=some (.pointer none)):YOp P env rs o (.bool (!p.isNone)):=λn ac w hk _=>by
  have:=qGM (P:=P) ht p w 9999
  have h2:(Op.equal t (.pointer p) (.pointer none)).run P w= .ok p.isNone w:=this
  simp only [execOp,ho,hk.ev hx,hk.ev hy,binOp]
  cases p<;>simp [eqGuard,h2]
theorem qAD(i:Nat){t x g k l e v}(ho:o.op= .load t x)(hx:ev env x=some (.pointer (some ⟨g,k,none⟩)))(hi:rs[i]?=some (blk g l e))(hg: ∀w,(isAgg t).run P w= .ok false w)(hv:l[k]?=some v):YOp P env rs o v:=
  qAH ho hx hg (jR hi) (qAI.blk1 k hv)
theorem qAx(i:Nat){t x g l e s}(ho:o.op= .load t x)(hx:ev env x=some (.pointer (some ⟨g,0,none⟩)))(hi:rs[i]?=some (blk g l e))(hg: ∀w,(isAgg t).run P w= .ok true w)(hz: ∀w,(sizeOf t).run P w= .ok s w)(hl:l.length=s):YOp P env rs o (.agg l.toArray):=
  qAb ho hx hg hz (jR hi) qAI.blk0 hl
theorem vo{n:Nat}{w0:Wd}{fn:Func}(hw:w0.own= []){R:Ending->World->Prop}{φ:Act->World->Prop}(hQ: ∀a w,bodyPostM Fence.wide 0 P fn R .normal a w->φ a w){v:Value}(hr: ∀a w,Kn n env a->St w0 ms w->(results fn a.tmps).run P w= .ok v w)(h: ∀w,St w0 ms w->R (.returned v) w):J n env w0 ms φ:=
  vH hw hQ hr h
theorem qJl{t t' x y a yk}{m:Nat}(ho:o.op= .binOp .shl t x y t')(hx:ev env x=some (I a))(hy:ev env y=some (.int yk (m:Nat)))(hr:m<64/\ -9223372036854775808<=a*2^m/\a*2^m<=9223372036854775807):YOp P env rs o (I (a*2^m)):=λn ac w hk _=>by
  have e:=qCV hr.2
  have e2:min m IntKind.i64.bits=m:=by simp [IntKind.bits];omega
  have hm: ¬((m:Int)<0):=xB
  simp only [execOp,ho,hk.ev hx,hk.ev hy,binOp,Op.shift,yW hm,jd,e2,e]
  simp [eqGuard]
theorem qDW{t t' x y a yk}{m:Nat}(ho:o.op= .binOp .shr t x y t')(hx:ev env x=some (I a))(hy:ev env y=some (.int yk (m:Nat)))(hr:m<64/\0<=a):YOp P env rs o (I (a/2^m)):=λn ac w hk _=>by
  have e2:min m IntKind.i64.bits=m:=by simp [IntKind.bits];omega
  have hm: ¬((m:Int)<0):=xB
  have h0:(0:Int)<=2^m:=Int.le_of_lt (Int.pow_pos xB)
  simp only [execOp,ho,hk.ev hx,hk.ev hy,binOp,Op.shift,yW hm,jd,e2,yK _ h0]
  simp [eqGuard]
theorem qLB(w n:Nat):BitVec.ofInt w (n:Int)=BitVec.ofNat w n:=by
  apply BitVec.eq_of_toNat_eq;simp
def qD4(op:BinOp)(a b r:Nat):Prop:=match op with| .and=>r=a&&&b| .or=>r=a|||b| .xor=>r=a^^^b|_=>False
theorem qFN(k:IntKind){op:BinOp}{a b r:Nat}(ha:a<2^k.bits)(hb:b<2^k.bits)(w:World)
    (hop:qD4 op a b r):(Op.intBits op k a b).run P w= .ok (.int k (k.wrap (r:Int))) w:=by
  cases op<;>simp only [qD4] at hop<;>first|exact hop.elim|(subst hop;simp [Op.intBits,qLB,jX ha,jX hb])
theorem qMW{op:BinOp}{t t' x y}{a b r:Nat}(ho:o.op= .binOp op t x y t')(hx:ev env x=some (I a))(hy:ev env y=some (I b))(hr:a<9223372036854775808/\b<9223372036854775808)
    (hop:qD4 op a b r):YOp P env rs o (I r):=λn ac w hk _=>by
  have hr1:r<9223372036854775808:=by
    cases op<;>simp only [qD4] at hop<;>first|exact hop.elim|(subst hop;first|exact jx Nat.and_le_left hr.1|exact Nat.or_lt_two_pow (n:=63) hr.1 hr.2|exact Nat.xor_lt_two_pow (n:=63) hr.1 hr.2)
  have e:=qCV (n:=(r:Int)) ⟨xB,xB⟩
  have hrun:=qFN (P:=P) .i64 (op:=op) (a:=a) (b:=b) (r:=r) (by show a<2^64;omega) (by show b<2^64;omega) w hop
  rw [e] at hrun
  simp only [execOp,ho,hk.ev hx,hk.ev hy]
  cases op<;>simp only [qD4] at hop<;>first|exact hop.elim|(simp [eqGuard,binOp,hrun])
theorem qMX{t t' x y}{a b:Nat}(ho:o.op= .binOp .and t x y t')(hx:ev env x=some (I a))(hy:ev env y=some (I b))(hr:a<9223372036854775808/\b<9223372036854775808):YOp P env rs o (I (a&&&b:Nat)):=qMW ho hx hy hr O
theorem qRY{t t' x y}{a b:Nat}(ho:o.op= .binOp .or t x y t')(hx:ev env x=some (I a))(hy:ev env y=some (I b))(hr:a<9223372036854775808/\b<9223372036854775808):YOp P env rs o (I (a|||b:Nat)):=qMW ho hx hy hr O
theorem qYA{t t' x y}{a b:Nat}(ho:o.op= .binOp .xor t x y t')(hx:ev env x=some (I a))(hy:ev env y=some (I b))(hr:a<9223372036854775808/\b<9223372036854775808):YOp P env rs o (I (a^^^b:Nat)):=qMW ho hx hy hr O
theorem qKX(n:Nat):IntKind.u8.wrap (n:Int)=((n%256:Nat):Int):=by
  simp [IntKind.wrap,IntKind.bits,IntKind.signed]
theorem qRb{t t' x y}{a b:UInt8}(ho:o.op= .binOp .add t x y t')(hx:ev env x=some (B8 a))(hy:ev env y=some (B8 b)):YOp P env rs o (B8 (a+b)):=
  qHe ho hx hy (by show(_:Int)=_;rw [<-Int.natCast_add,qKX,UInt8.toNat_add])
theorem qRZ{op:BinOp}{t t' x y}{a b r:UInt8}(ho:o.op= .binOp op t x y t')(hx:ev env x=some (B8 a))(hy:ev env y=some (B8 b))
    (hop:qD4 op a.toNat b.toNat r.toNat):YOp P env rs o (B8 r):=λn ac w hk _=>by
  have hrun:=qFN (P:=P) .u8 (op:=op) (a:=a.toNat) (b:=b.toNat) (r:=r.toNat) a.toNat_lt b.toNat_lt w hop
  rw [qKX,jX r.toNat_lt] at hrun
  simp only [execOp,ho,hk.ev hx,hk.ev hy]
  cases op<;>simp only [qD4] at hop<;>first|exact hop.elim|(simp [eqGuard,binOp,hrun])
theorem qE6{t t' x y}{a b:UInt8}(ho:o.op= .binOp .and t x y t')(hx:ev env x=some (B8 a))(hy:ev env y=some (B8 b)):YOp P env rs o (B8 (a&&&b)):=qRZ ho hx hy (by simp [qD4])
theorem qRS{t t' x y}{a b:UInt8}(ho:o.op= .binOp .xor t x y t')(hx:ev env x=some (B8 a))(hy:ev env y=some (B8 b)):YOp P env rs o (B8 (a^^^b)):=qRZ ho hx hy (by simp [qD4])
theorem qYC{t t' x y yk}{a:UInt8}{m:Nat}(ho:o.op= .binOp .shl t x y t')(hx:ev env x=some (B8 a))(hy:ev env y=some (.int yk (m:Nat))):YOp P env rs o (B8 (UInt8.ofNat (a.toNat*2^min m 8))):=λn ac w hk _=>by
  have hm: ¬((m:Int)<0):=xB
  have e:IntKind.u8.wrap ((a.toNat:Int)*2^min m 8)=((UInt8.ofNat (a.toNat*2^min m 8)).toNat:Int):=by
    have:=qKX (a.toNat*2^min m 8)
    rw [jm,<-this]
    simp
  simp only [execOp,ho,hk.ev hx,hk.ev hy,binOp,Op.shift,yW hm,jd,IntKind.bits,e]
  simp [eqGuard]
theorem qRV{t t' x y yk}{a:UInt8}{m:Nat}(ho:o.op= .binOp .shr t x y t')(hx:ev env x=some (B8 a))(hy:ev env y=some (.int yk (m:Nat))):YOp P env rs o (B8 (UInt8.ofNat (a.toNat/2^min m 8))):=λn ac w hk _=>by
  have hm: ¬((m:Int)<0):=xB
  have h1:a.toNat/2^min m 8<256:=jx (jv _ _) a.toNat_lt
  have e:((a.toNat:Int).fdiv (2^min m 8))=((UInt8.ofNat (a.toNat/2^min m 8)).toNat:Int):=by
    rw [yK _ (Int.le_of_lt (Int.pow_pos xB)),jm,jX h1]
    simp
  simp only [execOp,ho,hk.ev hx,hk.ev hy,binOp,Op.shift,yW hm,jd,IntKind.bits,e]
  simp [eqGuard]
theorem qHI(n:Nat):IntKind.u32.wrap (n:Int)=((n%4294967296:Nat):Int):=by
  simp [IntKind.wrap,IntKind.bits,IntKind.signed]
theorem qCG{t t' x y}{a b:UInt32}(ho:o.op= .binOp .add t x y t')(hx:ev env x=some (W32 a))(hy:ev env y=some (W32 b)):YOp P env rs o (W32 (a+b)):=
  qHe ho hx hy (by show(_:Int)=_;rw [<-Int.natCast_add,qHI,yB])
theorem qJv{op:BinOp}{t t' x y}{a b r:UInt32}(ho:o.op= .binOp op t x y t')(hx:ev env x=some (W32 a))(hy:ev env y=some (W32 b))
    (hop:qD4 op a.toNat b.toNat r.toNat):YOp P env rs o (W32 r):=λn ac w hk _=>by
  have hrun:=qFN (P:=P) .u32 (op:=op) (a:=a.toNat) (b:=b.toNat) (r:=r.toNat) a.toNat_lt b.toNat_lt w hop
  rw [qHI,jX r.toNat_lt] at hrun
  simp only [execOp,ho,hk.ev hx,hk.ev hy]
  cases op<;>simp only [qD4] at hop<;>first|exact hop.elim|(simp [eqGuard,binOp,hrun])
theorem qFX{t t' x y}{a b:UInt32}(ho:o.op= .binOp .and t x y t')(hx:ev env x=some (W32 a))(hy:ev env y=some (W32 b)):YOp P env rs o (W32 (a&&&b)):=qJv ho hx hy (by simp [qD4])
theorem qJm{t t' x y}{a b:UInt32}(ho:o.op= .binOp .or t x y t')(hx:ev env x=some (W32 a))(hy:ev env y=some (W32 b)):YOp P env rs o (W32 (a|||b)):=qJv ho hx hy (by simp [qD4])
theorem qCF{t t' x y}{a b:UInt32}(ho:o.op= .binOp .xor t x y t')(hx:ev env x=some (W32 a))(hy:ev env y=some (W32 b)):YOp P env rs o (W32 (a^^^b)):=qJv ho hx hy (by simp [qD4])
theorem qUo{t x}{a:UInt32}(ho:o.op= .unOp .xor t x)(hx:ev env x=some (W32 a)):YOp P env rs o (W32 (~~~ a)):=λn ac w hk _=>by
  have hlt:=a.toNat_lt
  have e1:(~~~ a).toNat=4294967295^^^a.toNat:=by
    have h:=BitVec.allOnes_xor (x:=a.toBitVec)
    have h2:=yY BitVec.toNat h
    rw [BitVec.toNat_xor,BitVec.toNat_allOnes] at h2
    exact h2.symm
  have hrun:=qFN (P:=P) .u32 (op:= .xor) (a:=4294967295) (b:=a.toNat) (r:=(~~~ a).toNat) xC hlt w e1
  rw [qHI,jX (~~~ a).toNat_lt] at hrun
  have e3:(if IntKind.u32.signed=true then(-1:Int) else IntKind.u32.max)=((4294967295:Nat):Int):=xC
  simp only [execOp,ho,hk.ev hx,Op.unary,e3,Sem.run_bind,hrun]
  rfl
theorem qGx{t t' x y yk}{a:UInt32}{m:Nat}(ho:o.op= .binOp .shl t x y t')(hx:ev env x=some (W32 a))(hy:ev env y=some (.int yk (m:Nat))):YOp P env rs o (W32 (UInt32.ofNat (a.toNat*2^min m 32))):=λn ac w hk _=>by
  have hm: ¬((m:Int)<0):=xB
  have e:IntKind.u32.wrap ((a.toNat:Int)*2^min m 32)=((UInt32.ofNat (a.toNat*2^min m 32)).toNat:Int):=by
    have:=qHI (a.toNat*2^min m 32)
    rw [UInt32.toNat_ofNat',<-this]
    simp
  simp only [execOp,ho,hk.ev hx,hk.ev hy,binOp,Op.shift,yW hm,jd,IntKind.bits,e]
  simp [eqGuard]
theorem qJk{t t' x y yk}{a:UInt32}{m:Nat}(ho:o.op= .binOp .shr t x y t')(hx:ev env x=some (W32 a))(hy:ev env y=some (.int yk (m:Nat))):YOp P env rs o (W32 (UInt32.ofNat (a.toNat/2^min m 32))):=λn ac w hk _=>by
  have hm: ¬((m:Int)<0):=xB
  have h1:a.toNat/2^min m 32<4294967296:=jx (jv _ _) a.toNat_lt
  have e:((a.toNat:Int).fdiv (2^min m 32))=((UInt32.ofNat (a.toNat/2^min m 32)).toNat:Int):=by
    rw [yK _ (Int.le_of_lt (Int.pow_pos xB)),UInt32.toNat_ofNat',jX h1]
    simp
  simp only [execOp,ho,hk.ev hx,hk.ev hy,binOp,Op.shift,yW hm,jd,IntKind.bits,e]
  simp [eqGuard]
theorem qEF(n:Nat):IntKind.u64.wrap (n:Int)=((n%18446744073709551616:Nat):Int):=by
  simp [IntKind.wrap,IntKind.bits,IntKind.signed]
theorem qUp{t t' x y}{a b:UInt64}(ho:o.op= .binOp .add t x y t')(hx:ev env x=some (W64 a))(hy:ev env y=some (W64 b)):YOp P env rs o (W64 (a+b)):=
  qHe ho hx hy (by show(_:Int)=_;rw [<-Int.natCast_add,qEF,UInt64.toNat_add])
theorem qUh{t t' x y}{a b:UInt64}(ho:o.op= .binOp .sub t x y t')(hx:ev env x=some (W64 a))(hy:ev env y=some (W64 b)):YOp P env rs o (W64 (a-b)):=
  qHe ho hx hy (by
    show(_:Int)=_
    have ha:=a.toNat_lt;have hb:=b.toNat_lt
    rw [UInt64.toNat_sub]
    simp [IntKind.wrap,IntKind.bits,IntKind.signed]
    omega)
theorem qNs{t t' x y}{a b:UInt64}(ho:o.op= .binOp .mul t x y t')(hx:ev env x=some (W64 a))(hy:ev env y=some (W64 b)):YOp P env rs o (W64 (a*b)):=
  qHe ho hx hy (by show(_:Int)=_;rw [<-yQ,qEF,UInt64.toNat_mul])
theorem qJu{op:BinOp}{t t' x y}{a b r:UInt64}(ho:o.op= .binOp op t x y t')(hx:ev env x=some (W64 a))(hy:ev env y=some (W64 b))
    (hop:qD4 op a.toNat b.toNat r.toNat):YOp P env rs o (W64 r):=λn ac w hk _=>by
  have hrun:=qFN (P:=P) .u64 (op:=op) (a:=a.toNat) (b:=b.toNat) (r:=r.toNat) a.toNat_lt b.toNat_lt w hop
  rw [qEF,jX r.toNat_lt] at hrun
  simp only [execOp,ho,hk.ev hx,hk.ev hy]
  cases op<;>simp only [qD4] at hop<;>first|exact hop.elim|(simp [eqGuard,binOp,hrun])
theorem qNu{t t' x y}{a b:UInt64}(ho:o.op= .binOp .and t x y t')(hx:ev env x=some (W64 a))(hy:ev env y=some (W64 b)):YOp P env rs o (W64 (a&&&b)):=qJu ho hx hy (by simp [qD4])
theorem qYE{t t' x y}{a b:UInt64}(ho:o.op= .binOp .or t x y t')(hx:ev env x=some (W64 a))(hy:ev env y=some (W64 b)):YOp P env rs o (W64 (a|||b)):=qJu ho hx hy (by simp [qD4])
theorem qUg{t t' x y}{a b:UInt64}(ho:o.op= .binOp .xor t x y t')(hx:ev env x=some (W64 a))(hy:ev env y=some (W64 b)):YOp P env rs o (W64 (a^^^b)):=qJu ho hx hy (by simp [qD4])
theorem qUi{t t' x y yk}{a:UInt64}{m:Nat}(ho:o.op= .binOp .shl t x y t')(hx:ev env x=some (W64 a))(hy:ev env y=some (.int yk (m:Nat))):YOp P env rs o (W64 (UInt64.ofNat (a.toNat*2^min m 64))):=λn ac w hk _=>by
  have hm: ¬((m:Int)<0):=xB
  have e:IntKind.u64.wrap ((a.toNat:Int)*2^min m 64)=((UInt64.ofNat (a.toNat*2^min m 64)).toNat:Int):=by
    have:=qEF (a.toNat*2^min m 64)
    rw [z8,<-this]
    simp
  simp only [execOp,ho,hk.ev hx,hk.ev hy,binOp,Op.shift,yW hm,jd,IntKind.bits,e]
  simp [eqGuard]
theorem qGw{t t' x y yk}{a:UInt64}{m:Nat}(ho:o.op= .binOp .shr t x y t')(hx:ev env x=some (W64 a))(hy:ev env y=some (.int yk (m:Nat))):YOp P env rs o (W64 (UInt64.ofNat (a.toNat/2^min m 64))):=λn ac w hk _=>by
  have hm: ¬((m:Int)<0):=xB
  have h1:a.toNat/2^min m 64<18446744073709551616:=jx (jv _ _) a.toNat_lt
  have e:((a.toNat:Int).fdiv (2^min m 64))=((UInt64.ofNat (a.toNat/2^min m 64)).toNat:Int):=by
    rw [yK _ (Int.le_of_lt (Int.pow_pos xB)),z8,jX h1]
    simp
  simp only [execOp,ho,hk.ev hx,hk.ev hy,binOp,Op.shift,yW hm,jd,IntKind.bits,e]
  simp [eqGuard]
theorem qUj{t t' x y}{a b:UInt64}(ho:o.op= .binOp .rem t x y t')(hx:ev env x=some (W64 a))(hy:ev env y=some (W64 b))(hb:b≠0):YOp P env rs o (W64 (a%b)):=
  (qDM ho hx hy ⟨xB,by intro h;apply hb;apply UInt64.toNat_inj.1;simpa using h⟩).as xD
theorem qUk{t t' x y}{a b:UInt64}(ho:o.op= .binOp .quo t x y t')(hx:ev env x=some (W64 a))(hy:ev env y=some (W64 b))(hb:b≠0):YOp P env rs o (W64 (a/b)):=
  (qRX ho hx hy (by intro h;apply hb;apply UInt64.toNat_inj.1;simpa using h)).as (by
    have h1:a.toNat/b.toNat<18446744073709551616:=jx (jv _ _) a.toNat_lt
    rw [Int.tdiv_eq_ediv_of_nonneg xB,<-Int.natCast_ediv,qEF,jX h1]
    simp)
theorem qEy{s d x ks kd n r}(ho:o.op= .convert s d x)(hx:ev env x=some (.int ks n))(hs:P.underlying s=some (.int ks))(hd:P.underlying d=some (.int kd))(hr:kd.wrap n=r):YOp P env rs o (.int kd r):=λnn a w hk _=>by
  simp [execOp,ho,hk.ev hx,convert,run_underlying hs,run_underlying hd,Conv.intToInt,hr]
theorem qDQ{s d x}{c:UInt8}(ho:o.op= .convert s d x)(hx:ev env x=some (B8 c))(hs:P.underlying s=some (.int .u8))(hd:P.underlying d=some (.int .u32)):YOp P env rs o (W32 (c.toUInt32)):=qEy ho hx hs hd (by have:=c.toNat_lt;rw [qHI,jX xB];simp)
theorem qK8{s d x}{c:UInt8}(ho:o.op= .convert s d x)(hx:ev env x=some (B8 c))(hs:P.underlying s=some (.int .u8))(hd:P.underlying d=some (.int .u64)):YOp P env rs o (W64 (c.toUInt64)):=qEy ho hx hs hd (by have:=c.toNat_lt;rw [qEF,jX xB];simp)
theorem qBG{s d x}{c:UInt8}(ho:o.op= .convert s d x)(hx:ev env x=some (B8 c))(hs:P.underlying s=some (.int .u8))(hd:P.underlying d=some (.int .i64)):YOp P env rs o (I c.toNat):=qEy ho hx hs hd (qCV (by have:=c.toNat_lt;omega))
theorem qAu{s d x}{m:Nat}(ho:o.op= .convert s d x)(hx:ev env x=some (I m))(hs:P.underlying s=some (.int .i64))(hd:P.underlying d=some (.int .u8)):YOp P env rs o (B8 (UInt8.ofNat m)):=qEy ho hx hs hd (by rw [qKX];simp)
theorem qJt{s d x}{m:Int}(ho:o.op= .convert s d x)(hx:ev env x=some (I m))(hs:P.underlying s=some (.int .i64))(hd:P.underlying d=some (.int .u8)):YOp P env rs o (B8 (UInt8.ofNat (m%256).toNat)):=qEy ho hx hs hd (by simp [IntKind.wrap,IntKind.bits,IntKind.signed];omega)
theorem qJs{s d x}{c:UInt32}(ho:o.op= .convert s d x)(hx:ev env x=some (W32 c))(hs:P.underlying s=some (.int .u32))(hd:P.underlying d=some (.int .u64)):YOp P env rs o (W64 (c.toUInt64)):=qEy ho hx hs hd (by have:=c.toNat_lt;rw [qEF,jX xB];simp)
theorem qEQ{s d x}{c:UInt64}(ho:o.op= .convert s d x)(hx:ev env x=some (W64 c))(hs:P.underlying s=some (.int .u64))(hd:P.underlying d=some (.int .u8)):YOp P env rs o (B8 (c.toUInt8)):=qEy ho hx hs hd (by rw [qKX];simp)
theorem qJr{s d x}{c:UInt64}(ho:o.op= .convert s d x)(hx:ev env x=some (W64 c))(hs:P.underlying s=some (.int .u64))(hd:P.underlying d=some (.int .i64))(hr:c.toNat<9223372036854775808):YOp P env rs o (I c.toNat):=qEy ho hx hs hd (qCV xB)
theorem qBC{s d x}{m:Nat}(ho:o.op= .convert s d x)(hx:ev env x=some (I m))(hs:P.underlying s=some (.int .i64))(hd:P.underlying d=some (.int .u64))(_hr:m<18446744073709551616):YOp P env rs o (W64 (UInt64.ofNat m)):=qEy ho hx hs hd (by rw [qEF];simp)
theorem qCT{s d x}{m:Int}(ho:o.op= .convert s d x)(hx:ev env x=some (I m))(hs:P.underlying s=some (.int .i64))(hd:P.underlying d=some (.int .u64)):YOp P env rs o (W64 (UInt64.ofNat (m%18446744073709551616).toNat)):=qEy ho hx hs hd (by simp [IntKind.wrap,IntKind.bits,IntKind.signed];omega)
end
end Go.Fw