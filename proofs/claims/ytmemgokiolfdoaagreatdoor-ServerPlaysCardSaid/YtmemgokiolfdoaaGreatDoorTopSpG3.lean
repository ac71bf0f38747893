/- Rules for walking a translated function, over heaps that are apart: for any program. -/
import Derived.Test.YtmemgokiolfdoaaGreatDoorTopSpG2
import Derived.Lib.Builder
import Derived.Lib.UnsafeStr
import Derived.Lib.MakeNoZero
set_option linter.unusedSimpArgs false
set_option linter.unusedVariables false
namespace Go.Fw
open Go
section
variable{P:Program}{env:Env}{rs ms:List Hp}{o:Oper}
theorem qAY{t e x y k i sz g off n' c j}(ho:o.op= .indexAddr t x y)(hx:ev env x=some (.slice (some ⟨g,off,none⟩) n' c))(hy:ev env y=some (.int k ((i:Nat):Int)))(hu:P.underlying t=some (.slice e))
    (hz: ∀w,(sizeOf e).run P w= .ok sz w) (hi:i<n') (hj:off+i*sz=j):YOp P env rs o (.pointer (some ⟨g,j,none⟩)):=λn a w hk _=>by
  subst hj
  simp [execOp,ho,hk.ev hx,hk.ev hy,Instr.indexAt,asIntOf,run_underlying hu,hz,hi,Addr.add_lit]
theorem qEi{t e x q sz A n' c h}(ho:o.op= .slice t x none (some q) none)(hx:ev env x=some (.slice A n' c))(hu:P.underlying t=some (.slice e))(hz: ∀w,(sizeOf e).run P w= .ok sz w)
    (hhi:ev env q=some (I (h:Nat))) (hr:h<=c):YOp P env rs o (.slice A h c):=
  (qCi (lo:=none) (hi:=some q) (l:=0) (h:=h) ho hx hu hz rfl hhi ⟨jH _,hr⟩).as (by
    simp only [zw,yD]
    by_cases hc:c=0
    . rw [yX hc]
    . rw [yW hc];cases A<;>simp [qDD])
theorem qWc{t e x A n' c}(ht:P.underlying t=some (.slice e))(ho:o.op= .call {callee:= .builtin .cap,args:= #[x],argTypes:= #[t]})(hx:ev env x=some (.slice A n' c)):YOp P env rs o (I c):=λn a w hk _=>by
  simp [execOp,ho,hk.ev hx,resolve,invoke,builtin,Builtin.cap_,run_underlying ht,goInt]
theorem qJe{w:World}{g:Nat}{cs:Array Value}{e:TypeId}{fz:Nat×Nat}(h:w.heap[g]?=some (.cells cs e fz)):w.shape? g=some (e,cs.size):=by simp [World.shape?,h]
theorem qPG{tp te t' x y ad j}(hp:P.underlying tp=some (.pointer te))(hte:P.info? te=some j)(ho:o.op= .binOp .neq tp x y t')(hx:ev env x=some (.pointer (some ad)))(hy:ev env y=some (.pointer (some ad))):YOp P env rs o (.bool false):=λn a w hk _=>by
  simp only [execOp,ho,hk.ev hx,hk.ev hy]
  have:=Lib.run_neq_ptr_same (P:=P) w ad hp hte
  simp [eqGuard,this]
theorem qMV{src dst t x g off m cs e fz}{j:TypeInfo}(ho:o.op= .convert src dst x)(hx:ev env x=some (.pointer (some ⟨g,off,none⟩)))(hs:P.underlying src=some (.pointer t))(hd:P.underlying dst=some .unsafePointer)
    (ht:P.info? t=some j) (hj:j.size≠0) (hm:m∈rs) (hb:m g=some (.cells cs e fz)) (hoff:off<cs.size):YOp P env rs o (.pointer (some ⟨g,off,none⟩)):=λn a w hk hr=>by
  have hh:w.heap[g]?=some (.cells cs e fz):=hr m hm g _ hb
  have:=Lib.run_to_unsafe (P:=P) w ⟨g,off,none⟩ hs hd ht hj (qJe hh) hoff
  simp only [execOp,ho,hk.ev hx]
  rw [Sem.run_bind,this];rfl
theorem qJp{src dst u x g off m cs e fz}{j:TypeInfo}(ho:o.op= .convert src dst x)(hx:ev env x=some (.pointer (some ⟨g,off,none⟩)))(hs:P.underlying src=some .unsafePointer)(hd:P.underlying dst=some (.pointer u))
    (hu:P.info? u=some j) (hm:m∈rs) (hb:m g=some (.cells cs e fz)) (hl:liesAt P P.depth e (cs.size/P.cellsOf e) off u 1=true):YOp P env rs o (.pointer (some ⟨g,off,none⟩)):=λn a w hk hr=>by
  have hh:w.heap[g]?=some (.cells cs e fz):=hr m hm g _ hb
  have:=Lib.run_from_unsafe (P:=P) w ⟨g,off,none⟩ hs hd hu (qJe hh) hl
  simp only [execOp,ho,hk.ev hx]
  rw [Sem.run_bind,this];rfl
theorem qYD{f x v tys}(ho:o.op= .call {callee:= .value (.func f),args:= #[x],argTypes:=tys})(hx:ev env x=some v)(hf: ∀v w,(callFunc f #[v]).run P w= .ok (.value v) w):EOp P env ms o (λ_:Unit=>v) (λ_=>True) (λ_=>ms):= .ofRun λn a w0 w hk hs=>by
  refine⟨(),w,?_,yd,hs⟩
  have h2:resolve a.eval {callee:= .value (.func f),args:= #[x],argTypes:=tys} o.type=(pure {target:= .fn (.func f) #[],args:= #[v]}:Sem Deferred):=by
    have h3:=hk.ev hx
    unfold resolve
    simp only [List.map_toArray,jY,zg,h3]
    simp [Act.eval,Deferred.ofValue]
  simp only [execOp,ho,h2]
  rw [Sem.run_bind,Sem.run_pure,Result.andThen_ok]
  simp [invoke,hf]
theorem qK4{t x A n' c}(ho:o.op= .call {callee:= .builtin .unsafeSliceData,args:= #[x],argTypes:= #[t]})(hx:ev env x=some (.slice A n' c))(hc:A=none\/0<c):YOp P env rs o (.pointer A):=λn a w hk _=>by
  have h:(Builtin.unsafeSliceData_ #[t] o.type #[.slice A n' c]).run P w= .ok (.pointer A) w:=by
    cases A with
    |none=>exact Lib.run_unsafeSliceData_nil w _ _ _ _
    |some ad=>exact Lib.run_unsafeSliceData_row w _ _ _ _ _ (by rcases hc with h|h;cases h;omega)
  simp [execOp,ho,hk.ev hx,resolve,invoke,builtin,h]
theorem qSS{w:World}{g:Nat}{cs:Array Value}{e:TypeId}{lo hi k:Nat}(h:w.heap[g]?=some (.cells cs e (lo,hi)))(hk:k≠0):
    hp (w.freeze ⟨g,0,none⟩ k)=qFE (hp w) g (.cells cs e (if lo==hi then(0,0+k) else(min lo 0,max hi (0+k)))):=by
  funext j
  simp only [hp,World.freeze,yW hk,qFE,yF]
  by_cases ek:j=g
  . subst ek;simp [h]
  . rw [yW (Ne.symm ek),yW ek]
theorem qHZ{pt it e x y A c i m}{l:xA}{n':Nat}(ho:o.op= .call {callee:= .builtin .unsafeString,args:= #[x,y],argTypes:= #[pt,it]})(hx:ev env x=some (.pointer A))(hy:ev env y=some (I n'))
    (hpt:P.underlying pt=some (.pointer e)) (hc:P.cellsOf e=1) (hi:ms[i]?=some m) (hr:qBf False m e 1 A n' c (qAe l)) (h63:n'<=9223372036854775807):
    EOp P env ms o (λ_:Hp=>Str l) (λm'=>qBf False m' e 1 A n' c (qAe l)) (λm'=>ms.set i m'):= .ofRun λn a w0 w hk hs=>by
  have hn:l.length=n':=by have:=hr.1;simpa [qAe] using this
  subst hn
  by_cases h0:l= []
  . subst h0
    have h1:(Builtin.unsafeString_ #[pt,it] o.type #[.pointer A,.int .i64 0]).run P w=_:=Lib.run_unsafeString_none w pt it o.type A
    refine⟨m,w,?_,hr,?_⟩
    . simp [execOp,ho,hk.ev hx,hk.ev hy,resolve,invoke,builtin,h1]
      rfl
    . have hself:ms.set i m=ms:=by
        apply zm
        intro j
        rw [zO]
        split
        . rename_i e;subst e;rw [yX (List.getElem?_eq_some_iff.1 hi).1,hi]
        . rfl
      rw [hself];exact hs
  . have hl0:0<l.length:=List.length_pos_iff.2 h0
    obtain ⟨_,hz,hnc,hcase⟩:=hr
    rcases hcase with ⟨_,hc0,_⟩|⟨g,rest,lo,hi',hA,hm,hlen,hf⟩
    . omega
    . subst hA
      have hg:w.heap[g]?=some (.cells ((qAe l).flatten++rest).toArray e (lo,hi')):=hs.mem (jR hi) g _ (by rw [hm];exact qAk _ _)
      have hfl:(qAe l).flatten=l.map B8:=by unfold qAe;exact qBW _ _
      have hrun:=Lib.run_unsafeString_row (P:=P) w pt it o.type e hpt hc g _ (qJe hg) l h0 (by rw [zl,hlen];omega) h63 (λj x hj=>by
        rw [Addr.add_lit]
        simp only [World.cell?,hg,jl]
        have hjl:j<l.length:=(List.getElem?_eq_some_iff.1 hj).1
        simp only [Option.isSome_none,Bool.false_eq_true,if_false,zM]
        rw [hfl,jk (by simpa using hjl),jO,hj]
        rfl)
      have hset:=hs.set hi (g:=g) (by rw [hm];exact qAk _ _) (w':=w.freeze ⟨g,0,none⟩ l.length) (by unfold World.freeze;split<;>rfl) (by unfold World.freeze;split<;>rfl) (by unfold World.freeze;split<;>rfl) (by unfold World.freeze;split<;>simp) (qSS hg xB)
      rw [hm,qBq] at hset
      have hfz:(if(lo==hi')=true then((0:Nat),0+l.length) else(min lo 0,max hi' (0+l.length)))=(0,if lo=hi' then l.length else max hi' l.length):=by
        by_cases hlh:lo=hi'<;>simp [hlh]
      rw [hfz] at hset
      refine⟨_,_,?_,⟨by simp [qAe],hz,hnc,.inr ⟨g,rest,_,_,O,O,hlen,.inr (.inr ⟨id,?_⟩)⟩⟩,hset⟩
      . simp [execOp,ho,hk.ev hx,hk.ev hy,resolve,invoke,builtin,hrun]
      . split
        . omega
        . rcases hf with h|h|h
          . omega
          . exact h.1.elim
          . omega
theorem qPI{q:Prop}{t u e x y A n c xs z by' i m}{l:xA}(ho:o.op= .call {callee:= .builtin .append,args:= #[x,y],argTypes:= #[t,u]})(hx:ev env x=some (.slice A n c))(hy:ev env y=some (Str l))
    (hu:P.underlying t=some (.slice e)) (hu2:P.underlying u=some .string) (he:qCx P e [z] by') (hi:ms[i]?=some m) (hr:qBf q m e 1 A n c xs)
    (hb:(n+l.length)*by'<=140737488355328) (h63:n+l.length<=9223372036854775807):
    EOp P env ms o (λx:yS×Nat×Hp=> .slice x.1 (n+l.length) x.2.1) (λx=>qBf q x.2.2 e 1 x.1 (n+l.length) x.2.1 (xs++qAe l)/\(A=none\/0<c->x.1=none\/0<x.2.1)) (λx=>ms.set i x.2.2):= .ofRun λnn a w0 w hk hs=>by
  have hyz: ∀y∈qAe l,y.length=([z]:yU).length:=λy hy'=>by
    simp only [qAe,zh] at hy'
    obtain ⟨b,_,rfl⟩:=hy'
    rfl
  have hfl:(qAe l).flatten=l.map B8:=by unfold qAe;exact qBW _ _
  have hcells: ∀w',w'.heap=w.heap->(Builtin.firstCells ([z]:yU).length l.length (Str l)).run P w'= .ok (qAe l).flatten.toArray w':=λw' _=>by
    have h1:((ByteArray.mk l.toArray).extract 0 l.length)=ByteArray.mk l.toArray:=by
      ext1
      rw [ByteArray.data_extract]
      simp
    simp only [Builtin.firstCells,h1,hfl]
    simp [Sem.run_pure]
  obtain ⟨A',c',m',w',hrun,hrow,hst,_⟩:=qIh (P:=P) (t:=t) (u:=u) (ty:=o.type) hu he hu2 (.inr rfl) hs hi hr (x:=Str l) (k:=l.length) (ys:=qAe l) (λ_=>by simp [Builtin.lenOf,qDV]) hcells (by simp [qAe]) hyz (by simp [qAe,Value.oneCell']) hb h63
  refine⟨(A',c',m'),w',by simp [execOp,ho,hk.ev hx,hk.ev hy,resolve,invoke,builtin,hrun],⟨hrow,λhc=>?_⟩,hst⟩
  by_cases h0:0<n+l.length
  . exact .inr (j8 h0 hrow.2.2.1)
  . have hn0:n=0:=by omega
    have hl0:l.length=0:=xB
    have hl:l= []:=jT hl0
    subst hl hn0
    have:(Builtin.append_ #[t,u] o.type #[.slice A 0 c,Str []]).run P w= .ok (.slice A 0 c) w:=by
      obtain ⟨ii,zv,hii,hi1,_,_,_⟩:=he.row
      have hc0:=hcells w O
      simp only [jG] at hc0
      cases A<;>simp [Builtin.append_,run_underlying hu,run_underlying hu2,sizeOf,typeInfo,hii,Builtin.lenOf,qDV,Builtin.firstCells,storeCells]
    rw [jG,zc] at hrun
    rw [this] at hrun
    cases hrun
    exact hc
theorem qUn{t u e x y A c B c2 z by'}(ho:o.op= .call {callee:= .builtin .copy,args:= #[x,y],argTypes:= #[t,u]})(hx:ev env x=some (.slice A 0 c))(hy:ev env y=some (.slice B 0 c2))
    (hu:P.underlying t=some (.slice e)) (he:qCx P e z by'):EOp P env ms o (λ_:Unit=>I 0) (λ_=>True) (λ_=>ms):= .ofRun λn a w0 w hk hs=>by
  obtain ⟨ii,zv,hii,hi1,_,_,_⟩:=he.row
  refine⟨(),w,?_,yd,hs⟩
  cases A<;>cases B<;>simp [execOp,ho,hk.ev hx,hk.ev hy,resolve,invoke,builtin,Builtin.copy_,run_underlying hu,Builtin.lenOf,sizeOf,typeInfo,hii,Builtin.firstCells,loadCells,loadCellsFrom,storeCells,goInt]
theorem qZt{f x tys t e}{ps:Array TypeId}{n':Nat}(ho:o.op= .call {callee:= .value (.func f),args:= #[x],argTypes:=tys})(hx:ev env x=some (I n'))
    (hf: ∀v w,(callFunc f #[v]).run P w=(do let x<-Extern.BytealgMakeNoZero.makeNoZero ps #[t] #[v];pure (.value x):Sem Next).run P w) (hu:P.underlying t=some (.slice e)) (hn:n'<=281474976710656):
    EOp P env ms o (λx:Nat×Nat×yU=> .slice (some ⟨x.1,0,none⟩) n' x.2.1) (λx=>n'<=x.2.1/\x.2.2.length=x.2.1) (λx=>ms++ [blk x.1 x.2.2 e]):= .ofRun λn a w0 w hk hs=>by
  obtain ⟨cs,h2,hge,_⟩:=Lib.run_makeNoZero (P:=P) w ps t e hu n' hn
  have h3:(resolve a.eval {callee:= .value (.func f),args:= #[x],argTypes:=tys} o.type)=(pure {target:= .fn (.func f) #[],args:= #[I n']}:Sem Deferred):=by
    have h3:=hk.ev hx
    unfold resolve
    simp only [List.map_toArray,jY,zg,h3]
    simp [Act.eval,Deferred.ofValue]
  refine⟨(w.heap.size,cs.size,cs.toList),w.drew.drew.alloc (.cells cs e),?_,⟨hge,by simp⟩,hs.drewS.drewS.alloc _⟩
  simp only [execOp,ho,h3]
  rw [Sem.run_bind,Sem.run_pure,Result.andThen_ok]
  simp only [invoke,Array.append_empty]
  rw [hf,Sem.run_bind,h2]
  rfl
theorem St.empty{w0 w}(h:St w0 ms w):St w0 (ms++ [λ_=>none]) w:=by
  refine h.intro_of ?_ ?_ ?_
  . rw [qAh,jg]
    refine⟨qAh.1 h.dj,by simp,λa _ b hb g=>?_⟩
    simp only [ji] at hb
    subst hb
    exact .inr O
  . intro m hm
    rcases List.mem_append.1 hm with hm|hm
    . exact h.mem hm
    . simp only [ji] at hm
      subst hm
      intro g o ho
      cases ho
  . intro m hm
    rcases List.mem_append.1 hm with hm|hm
    . exact h.kd m hm
    . simp only [ji] at hm
      subst hm
      exact λg=> .inr O
theorem ve{n:Nat}{w0:Wd}{φ:Act->World->Prop}(ix:yT)(ms':List Hp)(hm:pick (ms++ [λ_=>none]) ix=ms')(hn:ix.Nodup)(h:J n env w0 ms' φ):J n env w0 ms φ:=
  λa w hk hs=>h a w hk (hm▸hs.empty.pick ix hn)
theorem vW{n:Nat}{w0:Wd}{φ:Act->World->Prop}(ix:yT)(ms':List Hp)(hm:pick ms ix=ms')(hn:ix.Nodup)(h:J n env w0 ms' φ):J n env w0 ms φ:=
  λa w hk hs=>h a w hk (hm▸hs.pick ix hn)
theorem Ct.from{f vs}{X:Type}{val:X->Value}{φ:X->Prop}{ms2:List Hp}{ms':X->List Hp}(ix:yT)(hm:pick ms ix=ms2)(hn:ix.Nodup)(h:Ct P f vs ms2 val φ ms'):Ct P f vs ms val φ ms':=λw0 w hs=>h w0 w (hm▸hs.pick ix hn)
theorem qAa{ls:List xA}{k:Nat}{s:xA}(h:ls[k]?=some s):(qAG ls)[k]?=some [Str s]:=by simp [qAG,h]
theorem qBw{l:xA}{k:Nat}{b:UInt8}(h:l[k]?=some b):(qAe l)[k]?=some [B8 b]:=by simp [qAe,h]
end
end Go.Fw
namespace Go.Fw
open Go
section
variable{P:Program}{env:Env}{rs ms:List Hp}{o:Oper}
def RV(P:Program)(env:Env)(ms:List Hp):ResultVar->Value->Prop
  | .tmp t,v=>look env t=some v
  | .cell a t,v=> ∃ad m vs,look env a=some (.pointer (some ad))/\m∈ms/\qAI m ad vs/\
      (((∀w,(isAgg t).run P w= .ok true w)/\(∀w,(sizeOf t).run P w= .ok vs.length w)/\v= .agg vs.toArray)\/((∀w,(isAgg t).run P w= .ok false w)/\vs= [v]))
theorem RV.blkA(i:Nat){a t g l e}(h:look env a=some (Ptr g))(hi:ms[i]?=some (blk g l e))(hg: ∀w,(isAgg t).run P w= .ok true w)(hz: ∀w,(sizeOf t).run P w= .ok l.length w):RV P env ms (.cell a t) (.agg l.toArray):=
  ⟨_,_,l,h,jR hi,qAI.blk0,.inl ⟨hg,hz,rfl⟩⟩
theorem RV.blk1(i:Nat){a t g v e}(h:look env a=some (Ptr g))(hi:ms[i]?=some (blk g [v] e))(hg: ∀w,(isAgg t).run P w= .ok false w):RV P env ms (.cell a t) v:=
  ⟨_,_,[v],h,jR hi,qAI.blk0,.inr ⟨hg,rfl⟩⟩
theorem RV.run{n a w0 w r v}(hk:Kn n env a)(hs:St w0 ms w)(h:RV P env ms r v):
    (match r with
    | .tmp t=>(pure (a.tmps.getD t undef):Sem Value)
    | .cell x t=>do loadVar t (<-asAddr (a.tmps.getD x undef))).run P w= .ok v w:=by
  cases r with
  |tmp t=>
    have:=hk.look h
    simp [zX,this]
  |cell x t=>
    obtain ⟨ad,m,vs,h1,hm,hc,h2⟩:=h
    have h3:=hk.look h1
    have h4:a.tmps.getD x undef= .pointer (some ad):=by rw [zX,h3];rfl
    have hcw:=hc.mono (hs.mem hm)
    rcases h2 with ⟨hg,hz,rfl⟩|⟨hg,rfl⟩
    . have:=run_loadCells_list (P:=P) w ad vs (λj u hj=>hcw.cell hj)
      simp only [h4]
      simp [asAddr,loadVar,hg,hz,this]
    . have:=hcw.cell (j:=0) O
      rw [qDD] at this
      simp only [h4]
      simp [asAddr,loadVar,hg,this]
theorem rv1{fn:Func}{n w0 r v}(h:fn.results= #[r])(h1:RV P env ms r v): ∀a w,Kn n env a->St w0 ms w->(results fn a.tmps).run P w= .ok v w:=λa w hk hs=>by
  have e:=RV.run hk hs h1
  unfold results
  rw [h]
  cases r<;>(simp at e;simp [e])
theorem rv2{fn:Func}{n w0 r r' v v'}(h:fn.results= #[r,r'])(h1:RV P env ms r v)(h2:RV P env ms r' v'): ∀a w,Kn n env a->St w0 ms w->(results fn a.tmps).run P w= .ok (.tuple #[v,v']) w:=λa w hk hs=>by
  have e:=RV.run hk hs h1
  have e':=RV.run hk hs h2
  have hA: ∀(f:Value->World->Result Value) (x:Tmp) (t:TypeId) (u:Value),(do loadVar t (<-asAddr (a.tmps.getD x undef)):Sem Value).run P w= .ok u w->
      ((Sem.run P (asAddr (a.tmps[x]?.getD undef)) w).andThen λb w'=>(Sem.run P (loadVar t b) w').andThen f)=f u w:=λf x t u hu=>by
    have h3:((Sem.run P (asAddr (a.tmps[x]?.getD undef)) w).andThen λb w'=>(Sem.run P (loadVar t b) w'))= .ok u w:=by simpa using hu
    cases hq:Sem.run P (asAddr (a.tmps[x]?.getD undef)) w with
    |ok b w'=>rw [hq] at h3;simp only [Result.andThen_ok] at h3⊢;rw [h3];rfl
    |halt x w'=>rw [hq] at h3;cases h3
  unfold results
  rw [h]
  cases r<;>cases r'<;>simp
  . simp at e e';simp [e,e']
  . simp at e;rw [hA _ _ _ _ e'];simp [e]
  . simp at e';rw [hA _ _ _ _ e];simp [e']
  . rw [hA _ _ _ _ e,hA _ _ _ _ e']
theorem qE5{t e N z by' zv}{l:List Operand}{vs:yU}{parts:Array (Nat×Operand)}(ho:o.op= .build t parts)(hp:parts=qHX l)(hv:evs env l=some vs)(hu:P.underlying t=some (.array N e))(he:qCx P e z by')
    (hzt: ∀w,(zeroValue t).run P w= .ok zv w) (hzc:zv.cells.size=N*z.length) (hn:vs.length=N) (hz: ∀v∈vs,v.cells.size=z.length) {r:yU} (hr:(vs.flatMap λv=>v.cells.toList)=r):
    YOp P env rs o (.agg r.toArray):=λn a w hk _=>by
  have hev:=hk.evs hv
  have e1:(parts.map λ(i,x)=>(i,a.eval x)).toList=(vs.zipIdx 0).map λx=>(x.2,x.1):=by
    rw [hp]
    simp only [qHX,List.map_toArray,ze]
    rw [<-hev]
    exact qGE a.eval l 0
  have hf:=Great.fill_whole he.pos vs zv.cells (λv hv'=>hz v hv') (by rw [hn,hzc])
  have hrun:(Instr.build t (parts.map λ(i,x)=>(i,a.eval x))).run P w= .ok (.agg r.toArray) w:=by
    simp only [Instr.build,Sem.run_bind,hzt,Result.andThen_ok,run_underlying hu,he.sizeOf,e1,hf,hr,Sem.run_pure]
  simp only [execOp,ho]
  rw [Sem.run_bind,hrun];rfl
theorem qAK{t zv}{fs:Array Field}{l:List (Nat×Operand)}{vs:yU}{parts:Array (Nat×Operand)}{places:List (Nat×Nat)}(ho:o.op= .build t parts)(hp:parts=l.toArray)(hv:evs env (l.map (·.2))=some vs)(hu:P.underlying t=some (.struct fs))
    (hzt: ∀w,(zeroValue t).run P w= .ok zv w) (hpl: ∀w,((fs.mapM λf=>do pure (f.offset,<-sizeOf f.type):Sem (Array (Nat×Nat)))).run P w= .ok places.toArray w) {r:yU}
    (hr:Instr.fill (places[·]?) zv.cells ((l.map (·.1)).zip vs)=some r.toArray):YOp P env rs o (.agg r.toArray):=λn a w hk _=>by
  have hev:=hk.evs hv
  have e1:(parts.map λ(i,x)=>(i,a.eval x)).toList=(l.map (·.1)).zip vs:=by
    rw [hp,<-hev]
    simp only [List.map_toArray,ze]
    clear hv hev hr hp ho
    induction l with
    |nil=>rfl
    |cons x l ih=>simp at ih⊢;exact ih
  have e2:(λi:Nat=>places.toArray[i]?)=(λi:Nat=>places[i]?):=by funext i;simp
  have hrun:(Instr.build t (parts.map λ(i,x)=>(i,a.eval x))).run P w= .ok (.agg r.toArray) w:=by
    simp only [Instr.build,Sem.run_bind,hzt,Result.andThen_ok,run_underlying hu,hpl,e1,e2,hr,Sem.run_pure]
  simp only [execOp,ho]
  rw [Sem.run_bind,hrun];rfl
theorem qAr{t e x y k i sz g off N j}(ho:o.op= .indexAddr t x y)(hx:ev env x=some (.pointer (some ⟨g,off,none⟩)))(hy:ev env y=some (.int k ((i:Nat):Int)))(hu:P.underlying t=some (.array N e))
    (hz: ∀w,(sizeOf e).run P w= .ok sz w) (hi:i<N) (hj:off+i*sz=j):YOp P env rs o (.pointer (some ⟨g,j,none⟩)):=by
  subst hj;exact qJn ho hx hy hu hz hi
theorem qUm(i:Nat){m t x ad v}(ho:o.op= .load t x)(hx:ev env x=some (.pointer (some ad)))(hg: ∀w,(isAgg t).run P w= .ok false w)(hi:rs[i]?=some m)(hc:qAI m ad [v]):YOp P env rs o v:=
  qAH ho hx hg (jR hi) hc
theorem qHd(i:Nat){m t x ad vs s}(ho:o.op= .load t x)(hx:ev env x=some (.pointer (some ad)))(hg: ∀w,(isAgg t).run P w= .ok true w)(hz: ∀w,(sizeOf t).run P w= .ok s w)(hi:rs[i]?=some m)(hc:qAI m ad vs)(hl:vs.length=s):YOp P env rs o (.agg vs.toArray):=
  qAb ho hx hg hz (jR hi) hc hl
theorem qAF{t x y g l e v i}(ho:o.op= .store t x y)(hx:ev env x=some (Ptr g))(hy:ev env y=some v)(hi:ms[i]?=some (blk g l e)){vs:yU}(hv:v.cells=vs.toArray)
    (hz: ∀w,(sizeOf t).run P w= .ok vs.length w) (h1:vs.all Value.oneCell'=true) (hk:vs.length=l.length):
    EOp P env ms o (λ_:Unit=>undef) (λ_=>True) (λ_=>ms.set i (blk g vs e)):=by
  have h:=qAU (k:=0) (ms:=ms) ho hx hy hi hv hz h1 xB
  have e1:qBS l 0 vs=vs:=by unfold qBS;simp [hk]
  rw [e1] at h
  exact h
theorem Wan.un{ops:Array Oper}{env:Env}{o o':Oper}{j d:Nat}{want:Bool}(h:o.guard=some (j,want))(hj:ops[j]?=some o')(hd:o'.dst=some d)(hl:look env d=some undef):Wan ops env o false:=λn a hk=>by
  have h2:=hk.look hl
  have:yielded ops a.tmps j=Option.none:=by simp [yielded,hj,hd,h2,undef]
  simp [Region.wanted,h,this]
theorem Sl.to{m:Hp}{sz A n c xs}(h:Sl m sz A n c xs){k:Nat}(hk:k<=n):Sl m sz A k c (xs.take k):=by
  refine⟨by rw [jF,h.1,jq hk],jf hk h.2.1,λi x hx=>?_⟩
  rw [zY] at hx
  split at hx
  . exact h.2.2 i x hx
  . cases hx
theorem qEd(l:List xA)(k:Nat):(qAG l).take k=qAG (l.take k):=by simp [qAG]
theorem qId(l:List xA)(k:Nat):(qAG l).drop k=qAG (l.drop k):=by simp [qAG]
theorem Sl.strsFrom{m:Hp}{A n c}{l:List xA}(h:Sl m 1 A n c (qAG l)){k:Nat}(hk:k<=n):Sl m 1 (if c=k then A else A.map (·.add (k*1))) (n-k) (c-k) (qAG (l.drop k)):=by
  have h2:=h.cut (lo:=k) (hi:=n) (mx:=c) hk (jL _) h.2.1
  have e:(qAG l).take n=qAG l:=jV (by rw [h.1];exact jL _)
  rw [e,qId] at h2
  exact h2
theorem Sl.strsTo{m:Hp}{A n c}{l:List xA}(h:Sl m 1 A n c (qAG l)){k:Nat}(hk:k<=n):Sl m 1 A k c (qAG (l.take k)):=by
  have h2:=h.to hk
  rw [qEd] at h2
  exact h2
end
end Go.Fw
namespace Go.Fw
open Go
theorem qFK{α:Type}(f:α->Value)(l:List α)(k:Nat)(x:α)(h:k<l.length):qBS (l.map f) k [f x]=(l.set k x).map f:=by
  unfold qBS
  rw [jI,List.set_eq_take_append_cons_drop,yX h,jN,jY,List.map_take,List.map_drop]
  simp
theorem qC6{α:Type}{f:α->Value}{l:List α}{j:Nat}(d:α)(h:j<l.length):(l.map f)[j]?=some (f (l.getD j d)):=by
  rw [jO,jD h,jB,jD h];rfl
theorem qAc{α:Type}{l:List α}{j:Nat}(d:α)(h:j<l.length):l[j]?=some (l.getD j d):=by
  rw [jB,jD h];rfl
theorem qNf{α:Type}(n:Nat)(v:α):(List.replicate n [v]).flatten=List.replicate n v:=by
  induction n with
  |zero=>rfl
  |succ n ih=>simp only [yP,jo,ih];rfl
theorem qQt{α:Type}(f:α->Value)(n:Nat)(x:α):(List.replicate n x).map f=List.replicate n (f x):=List.map_replicate
theorem qMq{xs:List yU}{sz:Nat}(h: ∀x∈xs,x.length=sz): ∀{k:Nat} {x y:yU},xs[k]?=some x-> ∀{off:Nat} {vs:yU},qBS x off vs=y->off+vs.length<=sz->
    qBS xs.flatten (k*sz+off) vs=(xs.set k y).flatten:=by
  induction xs with
  |nil=>intro k x y hx;simp at hx
  |cons a xs ih=>
    intro k x y hx off vs hy hl
    have ha:=h a (.head _)
    match k with
    |0=>
      simp at hx;subst hx
      simp only [yD,jl,jo,List.set_cons_zero]
      rw [<-hy]
      unfold qBS
      rw [List.take_append_of_le_length xB,List.drop_append_of_le_length xB,jM,jM,jM]
    |k+1=>
      have:=ih (λy hy=>h y (.tail _ hy)) (k:=k) (by simpa using hx) hy hl
      simp only [jo,List.set_cons_succ]
      rw [<-this]
      have e:(k+1)*sz+off=a.length+(k*sz+off):=by rw [ha,zj];omega
      unfold qBS
      rw [e,List.take_append,List.drop_append]
      simp only [Nat.add_sub_cancel_left]
      rw [jV (l:=a) xB,j4 (l:=a) xB,show a.length+(k*sz+off)+vs.length-a.length=k*sz+off+vs.length by omega]
      simp
theorem qKp{l vs:yU}{k:Nat}(h:k+vs.length<=l.length):(qBS l k vs).length=l.length:=by
  unfold qBS;simp;omega
theorem qKq{l r vs:yU}{k:Nat}(h:k+vs.length<=l.length):qBS (l++r) k vs=qBS l k vs++r:=by
  unfold qBS
  rw [List.take_append_of_le_length xB,List.drop_append_of_le_length xB]
  simp
theorem qDR(a:List xA):(qAG a).all (λx=>x.all Value.oneCell')=true:=by simp [qAG,Value.oneCell']
theorem qMY{α:Type}(f:α->yU)(h: ∀x,(f x).all Value.oneCell'=true)(a:List α):(a.map f).all (λx=>x.all Value.oneCell')=true:=by simp [h]
theorem qU6(a:Int)(k:Nat)(hk:k<=63):((BitVec.ofInt 64 a)&&&(BitVec.ofNat 64 (2^k-1))).toNat=(a%2^k).toNat:=by
  rw [BitVec.toNat_and,BitVec.toNat_ofInt,BitVec.toNat_ofNat,jX (j8 (Nat.sub_lt (jy k) xC) (jZ xC xB)),Nat.and_two_pow_sub_one_eq_mod]
  have h1:(0:Int)<=a%(2^64:Nat):=Int.emod_nonneg _ xC
  have h2:(((a%(2^64:Nat)).toNat%2^k:Nat):Int)=a%2^k:=by
    rw [Int.natCast_emod,Int.toNat_of_nonneg h1]
    have:((2^k:Nat):Int)∣((2^64:Nat):Int):=Int.natCast_dvd_natCast.2 (Nat.pow_dvd_pow 2 xB)
    rw [Int.emod_emod_of_dvd _ this];simp
  omega
theorem qUl{P:Program}{env:Env}{rs:List Hp}{o:Oper}{t t' x y}{a:Int}{m:Nat}(k:Nat)(ho:o.op= .binOp .and t x y t')(hx:ev env x=some (I a))(hy:ev env y=some (I m))(hm:m=2^k-1)(hk:k<=62):YOp P env rs o (I (a%2^k)):=λn ac w hk' _=>by
  have hp:(0:Int)<2^k:=Int.pow_pos xC
  have h1:0<=a%2^k:=Int.emod_nonneg _ xB
  have h2:a%2^k<2^k:=Int.emod_lt_of_pos _ hp
  have h3:((2^k:Nat):Int)<=4611686018427387904:=Int.ofNat_le.2 (jZ xC hk)
  have h4:(2:Int)^k=((2^k:Nat):Int):=xD
  have e:=qCV (n:=a%2^k) ⟨xB,xB⟩
  have e2:BitVec.ofInt 64 (m:Int)=BitVec.ofNat 64 (2^k-1):=by rw [qLB,hm]
  have e3:((BitVec.ofInt 64 a)&&&BitVec.ofInt 64 (m:Int)).toNat=(a%2^k).toNat:=by rw [e2];exact qU6 a k xB
  have hrun:(Op.intBits .and .i64 a m).run P w= .ok (I (a%2^k)) w:=by
    show(Result.ok (Value.int .i64 (IntKind.i64.wrap (((BitVec.ofInt 64 a)&&&BitVec.ofInt 64 (m:Int)).toNat:Int))) w:Result Value)=_
    rw [e3,Int.toNat_of_nonneg h1,e]
  simp only [execOp,ho,hk'.ev hx,hk'.ev hy]
  simp [eqGuard,binOp,hrun]
def qCj(l:yT):List yU:=l.map λx:Nat=> [I (x:Int)]
theorem qCH{l:yT}{k:Nat}(h:k<l.length):(qCj l)[k]?=some [I (l.getD k 0:Nat)]:=by
  unfold qCj;rw [jO,jD h,jB,jD h];rfl
theorem qLI(a b:yT):qCj (a++b)=qCj a++qCj b:=by simp [qCj]
theorem qNv(a:yT):(qCj a).all (λx=>x.all Value.oneCell')=true:=by simp [qCj,Value.oneCell']
theorem qAz{q:Prop}{g n:Nat}{l:yU}{e:TypeId}(xs:List yU)(h1:xs.length=n)(h2: ∀x∈xs,x.length=1)(h3:xs.flatten=l):qBf q (blk g l e) e 1 (some ⟨g,0,none⟩) n n xs:=by
  subst h3;exact qAj h1 h2
theorem slS{g n:Nat}{e:TypeId}(ls:List xA)(h:ls.length=n):Sl (blk g (ls.map λs=>Str s) e) 1 (some ⟨g,0,none⟩) n n (qAG ls):=
  (qAz (q:=True) (qAG ls) (by simp [qAG,h]) (by simp [qAG]) (by unfold qAG;exact qBW _ _)).sl
theorem slB{g n:Nat}{e:TypeId}(ls:xA)(h:ls.length=n):Sl (blk g (ls.map B8) e) 1 (some ⟨g,0,none⟩) n n (qAe ls):=
  (qAz (q:=True) (qAe ls) (by simp [qAe,h]) (by simp [qAe]) (by unfold qAe;exact qBW _ _)).sl
theorem slN{g n:Nat}{e:TypeId}(ls:yT)(h:ls.length=n):Sl (blk g (ls.map λx:Nat=>I (x:Int)) e) 1 (some ⟨g,0,none⟩) n n (qCj ls):=
  (qAz (q:=True) (qCj ls) (by simp [qCj,h]) (by simp [qCj]) (by unfold qCj;exact qBW _ _)).sl
section
variable{P:Program}{env:Env}{rs ms:List Hp}{o:Oper}
theorem qBr{t x y g j k off e sz n' c v i m}{xs:List yU}{a b:yU}(ho:o.op= .store t x y)(hx:ev env x=some (.pointer (some ⟨g,j,none⟩)))(hy:ev env y=some v)(hi:ms[i]?=some m)(hr:Row m e sz (some ⟨g,0,none⟩) n' c xs)
    {vs:yU} (hv:v.cells=vs.toArray) (hz: ∀w,(sizeOf t).run P w= .ok vs.length w) (h1:vs.all Value.oneCell'=true) (hj:j=k*sz+off) (ha:xs[k]?=some a) (hb:qBS a off vs=b) (hl:off+vs.length<=sz):
    EOp P env ms o (λ_:Hp=>undef) (λm'=>Row m' e sz (some ⟨g,0,none⟩) n' c (xs.set k b)) (λm'=>ms.set i m'):=λn ac w0 w next Q hkn hs hn=>by
  obtain ⟨h1',hsz,hnc,hcase⟩:=hr
  have hka:k<xs.length:=(List.getElem?_eq_some_iff.1 ha).1
  rcases hcase with ⟨hA,_⟩|⟨g',rest,lo,hi',hA,hm,hlen,hf⟩
  . cases hA
  . cases hA
    have hg:w.heap[g]?=some (.cells (xs.flatten++rest).toArray e (lo,hi')):=hs.mem (jR hi) g _ (by rw [hm];exact qAk _ _)
    have hfl:=qA7 hsz
    have hb1:k*sz+off+vs.length<=xs.flatten.length:=by
      rw [hfl]
      have:=zZ sz (show k+1<=xs.length by omega)
      rw [zj] at this;omega
    have hb2:xs.flatten.length<=c*sz:=by rw [hfl,h1'];exact zZ _ hnc
    have hst:=qBi P g j e lo hi' vs 0 (xs.flatten++rest).toArray w hg (by rw [zl,jA];omega) (by
      rcases hf with h|h|h
      . omega
      . have:=h.2;omega
      . exact absurd trivial h.1) (by simpa [List.all_eq_true] using h1)
    simp only [zc] at hst
    have e1:(xs.flatten++rest).toArray.toList.take j++vs++(xs.flatten++rest).toArray.toList.drop (j+vs.length)=(xs.set k b).flatten++rest:=by
      have e2:=qKq (l:=xs.flatten) (r:=rest) (k:=j) (vs:=vs) xB
      have e3:=qMq hsz ha hb hl
      rw [<-hj] at e3
      rw [<-e3,<-e2];rfl
    rw [e1] at hst
    have hbl:b.length=sz:=by
      rw [<-hb,qKp (by rw [hsz a (jR ha)];exact hl)];exact hsz a (jR ha)
    have hsz': ∀z∈xs.set k b,z.length=sz:=λz hz'=>by
      rcases yN hz' with h|h
      . exact hsz z h
      . rw [h];exact hbl
    unfold Oper.wp
    have hrun:(execOp ac.eval o).run P w= .ok .skip (w.setRow g ((xs.set k b).flatten++rest).toArray):=by
      simp [execOp,ho,hkn.ev hx,hkn.ev hy,Instr.storeAt,Instr.sureAddr,storeVar,hz,hv,hst]
    rw [hrun,Oper.upon_skip]
    refine hn (qAd g (.cells ((xs.set k b).flatten++rest).toArray e (lo,hi'))) _ ?_ ?_
    . refine⟨by simp [h1'],hsz',hnc,.inr ⟨g,rest,lo,hi',O,O,?_,hf⟩⟩
      rw [jA,qA7 hsz',j6,<-hfl,<-jA];exact hlen
    . have:=hs.set hi (g:=g) (o:= .cells (xs.flatten++rest).toArray e (lo,hi')) (by rw [hm];exact qAk _ _) (w':=w.setRow g ((xs.set k b).flatten++rest).toArray) (o':= .cells ((xs.set k b).flatten++rest).toArray e (lo,hi')) O O O (by simp [World.setRow]) (qFe hg _)
      rw [hm,qBq] at this
      exact this
theorem qBf.at{q m e sz A n c xs}(h:qBf q m e sz A n c xs)(hn:0<n): ∃g,A=some ⟨g,0,none⟩:=by
  obtain ⟨h1,h2,h3,h4⟩:=h
  rcases h4 with ⟨_,hc,_⟩|⟨g,rest,lo,hi,hA,_⟩
  . omega
  . exact⟨g,hA⟩
end
end Go.Fw
namespace Go.Fw
open Go
abbrev N64(n:Nat):Value:= .int .u64 (n:Int)
theorem N_W{n:Nat}(h:n<18446744073709551616):N64 n=W64 (UInt64.ofNat n):=by
  show Value.int .u64 _=Value.int .u64 _
  rw [z8,jX (by simpa using h)]
theorem qA3{n:Nat}(h:n<18446744073709551616):(UInt64.ofNat n).toNat=n:=by rw [z8];exact jX (by simpa using h)
section
variable{P:Program}{env:Env}{rs ms:List Hp}{o:Oper}{t t':TypeId}{x y:Operand}{a b:Nat}
theorem qBD(ho:o.op= .binOp .add t x y t')(hx:ev env x=some (N64 a))(hy:ev env y=some (N64 b))(hr:a+b<18446744073709551616):YOp P env rs o (N64 (a+b)):=by
  rw [N_W xB] at hx hy
  exact(qUp ho hx hy).as (by show Value.int .u64 _=Value.int .u64 _;rw [UInt64.toNat_add,qA3 xB,qA3 xB,jX xB])
theorem qRT(ho:o.op= .binOp .sub t x y t')(hx:ev env x=some (N64 a))(hy:ev env y=some (N64 b))(hr:b<=a/\a<18446744073709551616):YOp P env rs o (N64 (a-b)):=by
  rw [N_W xB] at hx hy
  exact(qUh ho hx hy).as (by show Value.int .u64 _=Value.int .u64 _;rw [UInt64.toNat_sub_of_le _ _ (by rw [UInt64.le_iff_toNat_le,qA3 xB,qA3 xB];exact hr.1),qA3 xB,qA3 xB])
theorem qCc(ho:o.op= .binOp .mul t x y t')(hx:ev env x=some (N64 a))(hy:ev env y=some (N64 b))(hr:a<18446744073709551616/\b<18446744073709551616/\a*b<18446744073709551616):YOp P env rs o (N64 (a*b)):=by
  rw [N_W xB] at hx hy
  exact(qNs ho hx hy).as (by show Value.int .u64 _=Value.int .u64 _;rw [UInt64.toNat_mul,qA3 xB,qA3 xB,jX hr.2.2])
theorem nz{b:Nat}(h:0<b/\b<18446744073709551616):UInt64.ofNat b≠0:=λe=>by
  have:=yY UInt64.toNat e
  rw [qA3 h.2] at this
  simp at this;omega
theorem qC2(ho:o.op= .binOp .quo t x y t')(hx:ev env x=some (N64 a))(hy:ev env y=some (N64 b))(hr:a<18446744073709551616/\0<b/\b<18446744073709551616):YOp P env rs o (N64 (a/b)):=by
  rw [N_W xB] at hx hy
  exact(qUk ho hx hy (nz hr.2)).as (by show Value.int .u64 _=Value.int .u64 _;rw [UInt64.toNat_div,qA3 xB,qA3 xB])
theorem qB8(ho:o.op= .binOp .rem t x y t')(hx:ev env x=some (N64 a))(hy:ev env y=some (N64 b))(hr:a<18446744073709551616/\0<b/\b<18446744073709551616):YOp P env rs o (N64 (a%b)):=by
  rw [N_W xB] at hx hy
  exact(qUj ho hx hy (nz hr.2)).as (by show Value.int .u64 _=Value.int .u64 _;rw [UInt64.toNat_mod,qA3 xB,qA3 xB])
theorem qX9(ho:o.op= .binOp .xor t x y t')(hx:ev env x=some (N64 a))(hy:ev env y=some (N64 b))(hr:a<18446744073709551616/\b<18446744073709551616):YOp P env rs o (N64 (a^^^b)):=by
  rw [N_W xB] at hx hy
  exact(qUg ho hx hy).as (by show Value.int .u64 _=Value.int .u64 _;rw [UInt64.toNat_xor,qA3 xB,qA3 xB])
theorem qJw(ho:o.op= .binOp .and t x y t')(hx:ev env x=some (N64 a))(hy:ev env y=some (N64 b))(hr:a<18446744073709551616/\b<18446744073709551616):YOp P env rs o (N64 (a&&&b)):=by
  rw [N_W xB] at hx hy
  exact(qNu ho hx hy).as (by show Value.int .u64 _=Value.int .u64 _;rw [UInt64.toNat_and,qA3 xB,qA3 xB])
theorem qK9{s d:TypeId}{c:UInt8}(ho:o.op= .convert s d x)(hx:ev env x=some (B8 c))(hs:P.underlying s=some (.int .u8))(hd:P.underlying d=some (.int .u64)):YOp P env rs o (N64 c.toNat):=
  (qK8 ho hx hs hd).as (by show Value.int .u64 _=Value.int .u64 _;rw [UInt8.toNat_toUInt64])
theorem qBj{s d:TypeId}{m:Nat}(ho:o.op= .convert s d x)(hx:ev env x=some (I m))(hs:P.underlying s=some (.int .i64))(hd:P.underlying d=some (.int .u64))(hr:m<18446744073709551616):YOp P env rs o (N64 m):=
  (qBC ho hx hs hd hr).as (N_W hr).symm
theorem qCu{s d:TypeId}(ho:o.op= .convert s d x)(hx:ev env x=some (N64 a))(hs:P.underlying s=some (.int .u64))(hd:P.underlying d=some (.int .u8))(hr:a<18446744073709551616):YOp P env rs o (B8 (UInt8.ofNat a)):=by
  rw [N_W hr] at hx
  exact(qEQ ho hx hs hd).as (by show Value.int .u8 _=Value.int .u8 _;rw [UInt64.toNat_toUInt8,qA3 hr,jm])
theorem qBv{s d:TypeId}(ho:o.op= .convert s d x)(hx:ev env x=some (N64 a))(hs:P.underlying s=some (.int .u64))(hd:P.underlying d=some (.int .i64))(hr:a<9223372036854775808):YOp P env rs o (I a):=by
  rw [N_W xB] at hx
  exact(qJr ho hx hs hd (by rw [qA3 xB];exact hr)).as (by rw [qA3 xB])
end
end Go.Fw