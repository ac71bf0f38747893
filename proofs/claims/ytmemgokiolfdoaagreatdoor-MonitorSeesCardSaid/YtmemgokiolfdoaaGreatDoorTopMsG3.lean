/- Rules for walking a translated function, over heaps that are apart: for any program. -/
import Derived.Test.YtmemgokiolfdoaaGreatDoorTopMsG2
import Derived.Lib.Builder
import Derived.Lib.UnsafeStr
import Derived.Lib.MakeNoZero
set_option linter.unusedSimpArgs false
set_option linter.unusedVariables false
namespace Go.Fw
open Go
section
variable{P:Program}{env:Env}{rs ms:List Hp}{o:Oper}
theorem qAh{t e x y k i sz g off n' c j}(ho:o.op= .indexAddr t x y)(hx:ev env x=some (.slice (some ⟨g,off,none⟩) n' c))(hy:ev env y=some (.int k ((i:Nat):Int)))(hu:P.underlying t=some (.slice e))
    (hz: ∀w,(sizeOf e).run P w= .ok sz w) (hi:i<n') (hj:off+i*sz=j):YOp P env rs o (.pointer (some ⟨g,j,none⟩)):=λn a w hk _=>by
  subst hj
  simp [execOp,ho,hk.ev hx,hk.ev hy,Instr.indexAt,asIntOf,run_underlying hu,hz,hi,Addr.add_lit]
theorem qCm{t e x q sz A n' c h}(ho:o.op= .slice t x none (some q) none)(hx:ev env x=some (.slice A n' c))(hu:P.underlying t=some (.slice e))(hz: ∀w,(sizeOf e).run P w= .ok sz w)
    (hhi:ev env q=some (I (h:Nat))) (hr:h≤c):YOp P env rs o (.slice A h c):=
  (qC0 (lo:=none) (hi:=some q) (l:=0) (h:=h) ho hx hu hz rfl hhi ⟨jE _,hr⟩).as (by
    simp only [zr,Nat.zero_mul]
    by_cases hc:c=0
    · rw [if_pos hc]
    · rw [if_neg hc];cases A<;>simp [qCx])
theorem qVr{t e x A n' c}(ht:P.underlying t=some (.slice e))(ho:o.op= .call {callee:= .builtin .cap,args:= #[x],argTypes:= #[t]})(hx:ev env x=some (.slice A n' c)):YOp P env rs o (I c):=λn a w hk _=>by
  simp [execOp,ho,hk.ev hx,resolve,invoke,builtin,Builtin.cap_,run_underlying ht,goInt]
theorem qI3{w:World}{g:Nat}{cs:Array Value}{e:TypeId}{fz:Nat×Nat}(h:w.heap[g]?=some (.cells cs e fz)):w.shape? g=some (e,cs.size):=by simp [World.shape?,h]
theorem qOu{tp te t' x y ad j}(hp:P.underlying tp=some (.pointer te))(hte:P.info? te=some j)(ho:o.op= .binOp .neq tp x y t')(hx:ev env x=some (.pointer (some ad)))(hy:ev env y=some (.pointer (some ad))):YOp P env rs o (.bool false):=λn a w hk _=>by
  simp only [execOp,ho,hk.ev hx,hk.ev hy]
  have:=Lib.run_neq_ptr_same (P:=P) w ad hp hte
  simp [eqGuard,this]
theorem qMD{src dst t x g off m cs e fz}{j:TypeInfo}(ho:o.op= .convert src dst x)(hx:ev env x=some (.pointer (some ⟨g,off,none⟩)))(hs:P.underlying src=some (.pointer t))(hd:P.underlying dst=some .unsafePointer)
    (ht:P.info? t=some j) (hj:j.size≠0) (hm:m∈rs) (hb:m g=some (.cells cs e fz)) (hoff:off<cs.size):YOp P env rs o (.pointer (some ⟨g,off,none⟩)):=λn a w hk hr=>by
  have hh:w.heap[g]?=some (.cells cs e fz):=hr m hm g _ hb
  have:=Lib.run_to_unsafe (P:=P) w ⟨g,off,none⟩ hs hd ht hj (qI3 hh) hoff
  simp only [execOp,ho,hk.ev hx]
  rw [Sem.run_bind,this];rfl
theorem qJL{src dst u x g off m cs e fz}{j:TypeInfo}(ho:o.op= .convert src dst x)(hx:ev env x=some (.pointer (some ⟨g,off,none⟩)))(hs:P.underlying src=some .unsafePointer)(hd:P.underlying dst=some (.pointer u))
    (hu:P.info? u=some j) (hm:m∈rs) (hb:m g=some (.cells cs e fz)) (hl:liesAt P P.depth e (cs.size/P.cellsOf e) off u 1=true):YOp P env rs o (.pointer (some ⟨g,off,none⟩)):=λn a w hk hr=>by
  have hh:w.heap[g]?=some (.cells cs e fz):=hr m hm g _ hb
  have:=Lib.run_from_unsafe (P:=P) w ⟨g,off,none⟩ hs hd hu (qI3 hh) hl
  simp only [execOp,ho,hk.ev hx]
  rw [Sem.run_bind,this];rfl
theorem qXS{f x v tys}(ho:o.op= .call {callee:= .value (.func f),args:= #[x],argTypes:=tys})(hx:ev env x=some v)(hf: ∀v w,(callFunc f #[v]).run P w= .ok (.value v) w):EOp P env ms o (λ_:Unit=>v) (λ_=>True) (λ_=>ms):= .ofRun λn a w0 w hk hs=>by
  refine⟨(),w,?_,trivial,hs⟩
  have h2:resolve a.eval {callee:= .value (.func f),args:= #[x],argTypes:=tys} o.type=(pure {target:= .fn (.func f) #[],args:= #[v]}:Sem Deferred):=by
    have h3:=hk.ev hx
    unfold resolve
    simp only [List.map_toArray,jb,zT,h3]
    simp [Act.eval,Deferred.ofValue]
  simp only [execOp,ho,h2]
  rw [Sem.run_bind,Sem.run_pure,Result.andThen_ok]
  simp [invoke,hf]
theorem qKj{t x A n' c}(ho:o.op= .call {callee:= .builtin .unsafeSliceData,args:= #[x],argTypes:= #[t]})(hx:ev env x=some (.slice A n' c))(hc:A=none∨0<c):YOp P env rs o (.pointer A):=λn a w hk _=>by
  have h:(Builtin.unsafeSliceData_ #[t] o.type #[.slice A n' c]).run P w= .ok (.pointer A) w:=by
    cases A with
    |none=>exact Lib.run_unsafeSliceData_nil w _ _ _ _
    |some ad=>exact Lib.run_unsafeSliceData_row w _ _ _ _ _ (by rcases hc with h|h;cases h;omega)
  simp [execOp,ho,hk.ev hx,resolve,invoke,builtin,h]
theorem qRw{w:World}{g:Nat}{cs:Array Value}{e:TypeId}{lo hi k:Nat}(h:w.heap[g]?=some (.cells cs e (lo,hi)))(hk:k≠0):
    hp (w.freeze ⟨g,0,none⟩ k)=qEi (hp w) g (.cells cs e (if lo==hi then(0,0+k) else(min lo 0,max hi (0+k)))):=by
  funext j
  simp only [hp,World.freeze,if_neg hk,qEi,yA]
  by_cases ek:j=g
  · subst ek;simp [h]
  · rw [if_neg (Ne.symm ek),if_neg ek]
theorem qG9{pt it e x y A c i m}{l:xA}{n':Nat}(ho:o.op= .call {callee:= .builtin .unsafeString,args:= #[x,y],argTypes:= #[pt,it]})(hx:ev env x=some (.pointer A))(hy:ev env y=some (I n'))
    (hpt:P.underlying pt=some (.pointer e)) (hc:P.cellsOf e=1) (hi:ms[i]?=some m) (hr:qBZ False m e 1 A n' c (qAf l)) (h63:n'≤9223372036854775807):
    EOp P env ms o (λ_:Hp=>Str l) (λm'=>qBZ False m' e 1 A n' c (qAf l)) (λm'=>ms.set i m'):= .ofRun λn a w0 w hk hs=>by
  have hn:l.length=n':=by have:=hr.1;simpa [qAf] using this
  subst hn
  by_cases h0:l= []
  · subst h0
    have h1:(Builtin.unsafeString_ #[pt,it] o.type #[.pointer A,.int .i64 0]).run P w=_:=Lib.run_unsafeString_none w pt it o.type A
    refine⟨m,w,?_,hr,?_⟩
    · simp [execOp,ho,hk.ev hx,hk.ev hy,resolve,invoke,builtin,h1]
      rfl
    · have hself:ms.set i m=ms:=by
        apply zV
        intro j
        rw [zC]
        split
        · rename_i e;subst e;rw [if_pos (List.getElem?_eq_some_iff.1 hi).1,hi]
        · rfl
      rw [hself];exact hs
  · have hl0:0<l.length:=List.length_pos_iff.2 h0
    obtain ⟨_,hz,hnc,hcase⟩:=hr
    rcases hcase with ⟨_,hc0,_⟩|⟨g,rest,lo,hi',hA,hm,hlen,hf⟩
    · omega
    · subst hA
      have hg:w.heap[g]?=some (.cells ((qAf l).flatten++rest).toArray e (lo,hi')):=hs.mem (jM hi) g _ (by rw [hm];exact qAd _ _)
      have hfl:(qAf l).flatten=l.map B8:=by unfold qAf;exact qBR _ _
      have hrun:=Lib.run_unsafeString_row (P:=P) w pt it o.type e hpt hc g _ (qI3 hg) l h0 (by rw [zf,hlen];omega) h63 (λj x hj=>by
        rw [Addr.add_lit]
        simp only [World.cell?,hg,jj]
        have hjl:j<l.length:=(List.getElem?_eq_some_iff.1 hj).1
        simp only [Option.isSome_none,Bool.false_eq_true,if_false,zF]
        rw [hfl,jc (by simpa using hjl),jN,hj]
        rfl)
      have hset:=hs.set hi (g:=g) (by rw [hm];exact qAd _ _) (w':=w.freeze ⟨g,0,none⟩ l.length) (by unfold World.freeze;split<;>rfl) (by unfold World.freeze;split<;>rfl) (by unfold World.freeze;split<;>rfl) (by unfold World.freeze;split<;>simp) (qRw hg xB)
      rw [hm,qBW] at hset
      have hfz:(if(lo==hi')=true then((0:Nat),0+l.length) else(min lo 0,max hi' (0+l.length)))=(0,if lo=hi' then l.length else max hi' l.length):=by
        by_cases hlh:lo=hi'<;>simp [hlh]
      rw [hfz] at hset
      refine⟨_,_,?_,⟨by simp [qAf],hz,hnc,.inr ⟨g,rest,_,_,O,O,hlen,.inr (.inr ⟨id,?_⟩)⟩⟩,hset⟩
      · simp [execOp,ho,hk.ev hx,hk.ev hy,resolve,invoke,builtin,hrun]
      · split
        · omega
        · rcases hf with h|h|h
          · omega
          · exact h.1.elim
          · omega
theorem qOw{q:Prop}{t u e x y A n c xs z by' i m}{l:xA}(ho:o.op= .call {callee:= .builtin .append,args:= #[x,y],argTypes:= #[t,u]})(hx:ev env x=some (.slice A n c))(hy:ev env y=some (Str l))
    (hu:P.underlying t=some (.slice e)) (hu2:P.underlying u=some .string) (he:qCY P e [z] by') (hi:ms[i]?=some m) (hr:qBZ q m e 1 A n c xs)
    (hb:(n+l.length)*by'≤140737488355328) (h63:n+l.length≤9223372036854775807):
    EOp P env ms o (λx:Option Addr×Nat×Hp=> .slice x.1 (n+l.length) x.2.1) (λx=>qBZ q x.2.2 e 1 x.1 (n+l.length) x.2.1 (xs++qAf l)∧(A=none∨0<c→x.1=none∨0<x.2.1)) (λx=>ms.set i x.2.2):= .ofRun λnn a w0 w hk hs=>by
  have hyz: ∀y∈qAf l,y.length=([z]:List Value).length:=λy hy'=>by
    simp only [qAf,zU] at hy'
    obtain ⟨b,_,rfl⟩:=hy'
    rfl
  have hfl:(qAf l).flatten=l.map B8:=by unfold qAf;exact qBR _ _
  have hcells: ∀w',w'.heap=w.heap→(Builtin.firstCells ([z]:List Value).length l.length (Str l)).run P w'= .ok (qAf l).flatten.toArray w':=λw' _=>by
    have h1:((ByteArray.mk l.toArray).extract 0 l.length)=ByteArray.mk l.toArray:=by
      ext1
      rw [ByteArray.data_extract]
      simp
    simp only [Builtin.firstCells,h1,hfl]
    simp [Sem.run_pure]
  obtain ⟨A',c',m',w',hrun,hrow,hst,_⟩:=qIF (P:=P) (t:=t) (u:=u) (ty:=o.type) hu he hu2 (.inr rfl) hs hi hr (x:=Str l) (k:=l.length) (ys:=qAf l) (λ_=>by simp [Builtin.lenOf,qC7]) hcells (by simp [qAf]) hyz (by simp [qAf,Value.oneCell']) hb h63
  refine⟨(A',c',m'),w',by simp [execOp,ho,hk.ev hx,hk.ev hy,resolve,invoke,builtin,hrun],⟨hrow,λhc=>?_⟩,hst⟩
  by_cases h0:0<n+l.length
  · exact .inr (zc h0 hrow.2.2.1)
  · have hn0:n=0:=by omega
    have hl0:l.length=0:=xB
    have hl:l= []:=jT hl0
    subst hl hn0
    have:(Builtin.append_ #[t,u] o.type #[.slice A 0 c,Str []]).run P w= .ok (.slice A 0 c) w:=by
      obtain ⟨ii,zv,hii,hi1,_,_,_⟩:=he.row
      have hc0:=hcells w O
      simp only [jG] at hc0
      cases A<;>simp [Builtin.append_,run_underlying hu,run_underlying hu2,sizeOf,typeInfo,hii,Builtin.lenOf,qC7,Builtin.firstCells,storeCells]
    rw [jG,zb] at hrun
    rw [this] at hrun
    cases hrun
    exact hc
theorem qUF{t u e x y A c B c2 z by'}(ho:o.op= .call {callee:= .builtin .copy,args:= #[x,y],argTypes:= #[t,u]})(hx:ev env x=some (.slice A 0 c))(hy:ev env y=some (.slice B 0 c2))
    (hu:P.underlying t=some (.slice e)) (he:qCY P e z by'):EOp P env ms o (λ_:Unit=>I 0) (λ_=>True) (λ_=>ms):= .ofRun λn a w0 w hk hs=>by
  obtain ⟨ii,zv,hii,hi1,_,_,_⟩:=he.row
  refine⟨(),w,?_,trivial,hs⟩
  cases A<;>cases B<;>simp [execOp,ho,hk.ev hx,hk.ev hy,resolve,invoke,builtin,Builtin.copy_,run_underlying hu,Builtin.lenOf,sizeOf,typeInfo,hii,Builtin.firstCells,loadCells,loadCellsFrom,storeCells,goInt]
theorem qZJ{f x tys t e}{ps:Array TypeId}{n':Nat}(ho:o.op= .call {callee:= .value (.func f),args:= #[x],argTypes:=tys})(hx:ev env x=some (I n'))
    (hf: ∀v w,(callFunc f #[v]).run P w=(do let x←Extern.BytealgMakeNoZero.makeNoZero ps #[t] #[v];pure (.value x):Sem Next).run P w) (hu:P.underlying t=some (.slice e)) (hn:n'≤281474976710656):
    EOp P env ms o (λx:Nat×Nat×List Value=> .slice (some ⟨x.1,0,none⟩) n' x.2.1) (λx=>n'≤x.2.1∧x.2.2.length=x.2.1) (λx=>ms++ [blk x.1 x.2.2 e]):= .ofRun λn a w0 w hk hs=>by
  obtain ⟨cs,h2,hge,_⟩:=Lib.run_makeNoZero (P:=P) w ps t e hu n' hn
  have h3:(resolve a.eval {callee:= .value (.func f),args:= #[x],argTypes:=tys} o.type)=(pure {target:= .fn (.func f) #[],args:= #[I n']}:Sem Deferred):=by
    have h3:=hk.ev hx
    unfold resolve
    simp only [List.map_toArray,jb,zT,h3]
    simp [Act.eval,Deferred.ofValue]
  refine⟨(w.heap.size,cs.size,cs.toList),w.drew.drew.alloc (.cells cs e),?_,⟨hge,by simp⟩,hs.drewS.drewS.alloc _⟩
  simp only [execOp,ho,h3]
  rw [Sem.run_bind,Sem.run_pure,Result.andThen_ok]
  simp only [invoke,Array.append_empty]
  rw [hf,Sem.run_bind,h2]
  rfl
theorem St.empty{w0 w}(h:St w0 ms w):St w0 (ms++ [λ_=>none]) w:=by
  refine h.intro_of ?_ ?_ ?_
  · rw [qAa,jU]
    refine⟨qAa.1 h.dj,by simp,λa _ b hb g=>?_⟩
    simp only [jS] at hb
    subst hb
    exact .inr O
  · intro m hm
    rcases List.mem_append.1 hm with hm|hm
    · exact h.mem hm
    · simp only [jS] at hm
      subst hm
      intro g o ho
      cases ho
  · intro m hm
    rcases List.mem_append.1 hm with hm|hm
    · exact h.kd m hm
    · simp only [jS] at hm
      subst hm
      exact λg=> .inr O
theorem J.c6{n:Nat}{w0:Wd}{φ:Act→World→Prop}(ix:List Nat)(ms':List Hp)(hm:pick (ms++ [λ_=>none]) ix=ms')(hn:ix.Nodup)(h:J n env w0 ms' φ):J n env w0 ms φ:=
  λa w hk hs=>h a w hk (hm▸hs.empty.pick ix hn)
theorem J.c2{n:Nat}{w0:Wd}{φ:Act→World→Prop}(ix:List Nat)(ms':List Hp)(hm:pick ms ix=ms')(hn:ix.Nodup)(h:J n env w0 ms' φ):J n env w0 ms φ:=
  λa w hk hs=>h a w hk (hm▸hs.pick ix hn)
theorem Ct.from{f vs}{X:Type}{val:X→Value}{φ:X→Prop}{ms2:List Hp}{ms':X→List Hp}(ix:List Nat)(hm:pick ms ix=ms2)(hn:ix.Nodup)(h:Ct P f vs ms2 val φ ms'):Ct P f vs ms val φ ms':=λw0 w hs=>h w0 w (hm▸hs.pick ix hn)
theorem qAc{ls:List xA}{k:Nat}{s:xA}(h:ls[k]?=some s):(qAH ls)[k]?=some [Str s]:=by simp [qAH,h]
theorem qBh{l:xA}{k:Nat}{b:UInt8}(h:l[k]?=some b):(qAf l)[k]?=some [B8 b]:=by simp [qAf,h]
theorem qRt{l:List Int}{k:Nat}{b:Int}(h:l[k]?=some b):(qB6 l)[k]?=some [I b]:=by simp [qB6,h]
end
end Go.Fw
namespace Go.Fw
open Go
section
variable{P:Program}{env:Env}{rs ms:List Hp}{o:Oper}
def RV(P:Program)(env:Env)(ms:List Hp):ResultVar→Value→Prop
  | .tmp t,v=>look env t=some v
  | .cell a t,v=> ∃ad m vs,look env a=some (.pointer (some ad))∧m∈ms∧qAG m ad vs∧
      (((∀w,(isAgg t).run P w= .ok true w)∧(∀w,(sizeOf t).run P w= .ok vs.length w)∧v= .agg vs.toArray)∨((∀w,(isAgg t).run P w= .ok false w)∧vs= [v]))
theorem RV.blkA(i:Nat){a t g l e}(h:look env a=some (Ptr g))(hi:ms[i]?=some (blk g l e))(hg: ∀w,(isAgg t).run P w= .ok true w)(hz: ∀w,(sizeOf t).run P w= .ok l.length w):RV P env ms (.cell a t) (.agg l.toArray):=
  ⟨_,_,l,h,jM hi,qAG.blk0,.inl ⟨hg,hz,rfl⟩⟩
theorem RV.blk1(i:Nat){a t g v e}(h:look env a=some (Ptr g))(hi:ms[i]?=some (blk g [v] e))(hg: ∀w,(isAgg t).run P w= .ok false w):RV P env ms (.cell a t) v:=
  ⟨_,_,[v],h,jM hi,qAG.blk0,.inr ⟨hg,rfl⟩⟩
theorem RV.run{n a w0 w r v}(hk:Kn n env a)(hs:St w0 ms w)(h:RV P env ms r v):
    (match r with
    | .tmp t=>(pure (a.tmps.getD t undef):Sem Value)
    | .cell x t=>do loadVar t (←asAddr (a.tmps.getD x undef))).run P w= .ok v w:=by
  cases r with
  |tmp t=>
    have:=hk.look h
    simp [zO,this]
  |cell x t=>
    obtain ⟨ad,m,vs,h1,hm,hc,h2⟩:=h
    have h3:=hk.look h1
    have h4:a.tmps.getD x undef= .pointer (some ad):=by rw [zO,h3];rfl
    have hcw:=hc.mono (hs.mem hm)
    rcases h2 with ⟨hg,hz,rfl⟩|⟨hg,rfl⟩
    · have:=run_loadCells_list (P:=P) w ad vs (λj u hj=>hcw.cell hj)
      simp only [h4]
      simp [asAddr,loadVar,hg,hz,this]
    · have:=hcw.cell (j:=0) O
      rw [qCx] at this
      simp only [h4]
      simp [asAddr,loadVar,hg,this]
theorem rv1{fn:Func}{n w0 r v}(h:fn.results= #[r])(h1:RV P env ms r v): ∀a w,Kn n env a→St w0 ms w→(results fn a.tmps).run P w= .ok v w:=λa w hk hs=>by
  have e:=RV.run hk hs h1
  unfold results
  rw [h]
  cases r<;>(simp at e;simp [e])
theorem rv2{fn:Func}{n w0 r r' v v'}(h:fn.results= #[r,r'])(h1:RV P env ms r v)(h2:RV P env ms r' v'): ∀a w,Kn n env a→St w0 ms w→(results fn a.tmps).run P w= .ok (.tuple #[v,v']) w:=λa w hk hs=>by
  have e:=RV.run hk hs h1
  have e':=RV.run hk hs h2
  have hA: ∀(f:Value→World→Result Value) (x:Tmp) (t:TypeId) (u:Value),(do loadVar t (←asAddr (a.tmps.getD x undef)):Sem Value).run P w= .ok u w→
      ((Sem.run P (asAddr (a.tmps[x]?.getD undef)) w).andThen λb w'=>(Sem.run P (loadVar t b) w').andThen f)=f u w:=λf x t u hu=>by
    have h3:((Sem.run P (asAddr (a.tmps[x]?.getD undef)) w).andThen λb w'=>(Sem.run P (loadVar t b) w'))= .ok u w:=by simpa using hu
    cases hq:Sem.run P (asAddr (a.tmps[x]?.getD undef)) w with
    |ok b w'=>rw [hq] at h3;simp only [Result.andThen_ok] at h3⊢;rw [h3];rfl
    |halt x w'=>rw [hq] at h3;cases h3
  unfold results
  rw [h]
  cases r<;>cases r'<;>simp
  · simp at e e';simp [e,e']
  · simp at e;rw [hA _ _ _ _ e'];simp [e]
  · simp at e';rw [hA _ _ _ _ e];simp [e']
  · rw [hA _ _ _ _ e,hA _ _ _ _ e']
theorem qEl{t e N z by' zv}{l:List Operand}{vs:List Value}{qEX:Array (Nat×Operand)}(ho:o.op= .build t qEX)(hp:qEX=qG2 l)(hv:evs env l=some vs)(hu:P.underlying t=some (.array N e))(he:qCY P e z by')
    (hzt: ∀w,(zeroValue t).run P w= .ok zv w) (hzc:zv.cells.size=N*z.length) (hn:vs.length=N) (hz: ∀v∈vs,v.cells.size=z.length) {r:List Value} (hr:(vs.flatMap λv=>v.cells.toList)=r):
    YOp P env rs o (.agg r.toArray):=λn a w hk _=>by
  have hev:=hk.evs hv
  have e1:(qEX.map λ(i,x)=>(i,a.eval x)).toList=(vs.zipIdx 0).map λx=>(x.2,x.1):=by
    rw [hp]
    simp only [qG2,List.map_toArray,List.map_map]
    rw [←hev]
    exact qFq a.eval l 0
  have hf:=Great.fill_whole he.pos vs zv.cells (λv hv'=>hz v hv') (by rw [hn,hzc])
  have hrun:(Instr.build t (qEX.map λ(i,x)=>(i,a.eval x))).run P w= .ok (.agg r.toArray) w:=by
    simp only [Instr.build,Sem.run_bind,hzt,Result.andThen_ok,run_underlying hu,he.sizeOf,e1,hf,hr,Sem.run_pure]
  simp only [execOp,ho]
  rw [Sem.run_bind,hrun];rfl
theorem qAL{t zv}{fs:Array Field}{l:List (Nat×Operand)}{vs:List Value}{qEX:Array (Nat×Operand)}{places:List (Nat×Nat)}(ho:o.op= .build t qEX)(hp:qEX=l.toArray)(hv:evs env (l.map (·.2))=some vs)(hu:P.underlying t=some (.struct fs))
    (hzt: ∀w,(zeroValue t).run P w= .ok zv w) (hpl: ∀w,((fs.mapM λf=>do pure (f.offset,←sizeOf f.type):Sem (Array (Nat×Nat)))).run P w= .ok places.toArray w) {r:List Value}
    (hr:Instr.fill (places[·]?) zv.cells ((l.map (·.1)).zip vs)=some r.toArray):YOp P env rs o (.agg r.toArray):=λn a w hk _=>by
  have hev:=hk.evs hv
  have e1:(qEX.map λ(i,x)=>(i,a.eval x)).toList=(l.map (·.1)).zip vs:=by
    rw [hp,←hev]
    simp only [List.map_toArray,List.map_map]
    clear hv hev hr hp ho
    induction l with
    |nil=>rfl
    |cons x l ih=>simp at ih⊢;exact ih
  have e2:(λi:Nat=>places.toArray[i]?)=(λi:Nat=>places[i]?):=by funext i;simp
  have hrun:(Instr.build t (qEX.map λ(i,x)=>(i,a.eval x))).run P w= .ok (.agg r.toArray) w:=by
    simp only [Instr.build,Sem.run_bind,hzt,Result.andThen_ok,run_underlying hu,hpl,e1,e2,hr,Sem.run_pure]
  simp only [execOp,ho]
  rw [Sem.run_bind,hrun];rfl
theorem qAp{t e x y k i sz g off N j}(ho:o.op= .indexAddr t x y)(hx:ev env x=some (.pointer (some ⟨g,off,none⟩)))(hy:ev env y=some (.int k ((i:Nat):Int)))(hu:P.underlying t=some (.array N e))
    (hz: ∀w,(sizeOf e).run P w= .ok sz w) (hi:i<N) (hj:off+i*sz=j):YOp P env rs o (.pointer (some ⟨g,j,none⟩)):=by
  subst hj;exact qJJ ho hx hy hu hz hi
theorem qUE(i:Nat){m t x ad v}(ho:o.op= .load t x)(hx:ev env x=some (.pointer (some ad)))(hg: ∀w,(isAgg t).run P w= .ok false w)(hi:rs[i]?=some m)(hc:qAG m ad [v]):YOp P env rs o v:=
  qAI ho hx hg (jM hi) hc
theorem qFC(i:Nat){m t x ad vs s}(ho:o.op= .load t x)(hx:ev env x=some (.pointer (some ad)))(hg: ∀w,(isAgg t).run P w= .ok true w)(hz: ∀w,(sizeOf t).run P w= .ok s w)(hi:rs[i]?=some m)(hc:qAG m ad vs)(hl:vs.length=s):YOp P env rs o (.agg vs.toArray):=
  qAP ho hx hg hz (jM hi) hc hl
theorem qAC{t x y g l e v i}(ho:o.op= .store t x y)(hx:ev env x=some (Ptr g))(hy:ev env y=some v)(hi:ms[i]?=some (blk g l e)){vs:List Value}(hv:v.cells=vs.toArray)
    (hz: ∀w,(sizeOf t).run P w= .ok vs.length w) (h1:vs.all Value.oneCell'=true) (hk:vs.length=l.length):
    EOp P env ms o (λ_:Unit=>undef) (λ_=>True) (λ_=>ms.set i (blk g vs e)):=by
  have h:=qAW (k:=0) (ms:=ms) ho hx hy hi hv hz h1 xB
  have e1:qBD l 0 vs=vs:=by unfold qBD;simp [hk]
  rw [e1] at h
  exact h
theorem Wan.un{ops:Array Oper}{env:Env}{o o':Oper}{j d:Nat}{want:Bool}(h:o.guard=some (j,want))(hj:ops[j]?=some o')(hd:o'.dst=some d)(hl:look env d=some undef):Wan ops env o false:=λn a hk=>by
  have h2:=hk.look hl
  have:yielded ops a.tmps j=Option.none:=by simp [yielded,hj,hd,h2,undef]
  simp [Region.wanted,h,this]
theorem Sl.to{m:Hp}{sz A n c xs}(h:Sl m sz A n c xs){k:Nat}(hk:k≤n):Sl m sz A k c (xs.take k):=by
  refine⟨by rw [jF,h.1,jp hk],jg hk h.2.1,λi x hx=>?_⟩
  rw [zI] at hx
  split at hx
  · exact h.2.2 i x hx
  · cases hx
theorem qEL(l:List xA)(k:Nat):(qAH l).take k=qAH (l.take k):=by simp [qAH]
theorem qH9(l:List xA)(k:Nat):(qAH l).drop k=qAH (l.drop k):=by simp [qAH]
theorem Sl.strsFrom{m:Hp}{A n c}{l:List xA}(h:Sl m 1 A n c (qAH l)){k:Nat}(hk:k≤n):Sl m 1 (if c=k then A else A.map (·.add (k*1))) (n-k) (c-k) (qAH (l.drop k)):=by
  have h2:=h.cut (lo:=k) (hi:=n) (mx:=c) hk (jJ _) h.2.1
  have e:(qAH l).take n=qAH l:=jV (by rw [h.1];exact jJ _)
  rw [e,qH9] at h2
  exact h2
theorem Sl.strsTo{m:Hp}{A n c}{l:List xA}(h:Sl m 1 A n c (qAH l)){k:Nat}(hk:k≤n):Sl m 1 A k c (qAH (l.take k)):=by
  have h2:=h.to hk
  rw [qEL] at h2
  exact h2
end
end Go.Fw
namespace Go.Fw
open Go
theorem qAi{α:Type}{l:List α}{j:Nat}(d:α)(h:j<l.length):l[j]?=some (l.getD j d):=by
  rw [jB,jC h];rfl
theorem qMd{xs:List (List Value)}{sz:Nat}(h: ∀x∈xs,x.length=sz): ∀{k:Nat} {x y:List Value},xs[k]?=some x→ ∀{off:Nat} {vs:List Value},qBD x off vs=y→off+vs.length≤sz→
    qBD xs.flatten (k*sz+off) vs=(xs.set k y).flatten:=by
  induction xs with
  |nil=>intro k x y hx;simp at hx
  |cons a xs ih=>
    intro k x y hx off vs hy hl
    have ha:=h a (.head _)
    match k with
    |0=>
      simp at hx;subst hx
      simp only [Nat.zero_mul,jj,ji,List.set_cons_zero]
      rw [←hy]
      unfold qBD
      rw [za xB,List.drop_append_of_le_length xB,jX,jX,jX]
    |k+1=>
      have:=ih (λy hy=>h y (.tail _ hy)) (k:=k) (by simpa using hx) hy hl
      simp only [ji,List.set_cons_succ]
      rw [←this]
      have e:(k+1)*sz+off=a.length+(k*sz+off):=by rw [ha,zn];omega
      unfold qBD
      rw [e,List.take_append,List.drop_append]
      simp only [Nat.add_sub_cancel_left]
      rw [jV (l:=a) xB,js (l:=a) xB,show a.length+(k*sz+off)+vs.length-a.length=k*sz+off+vs.length by omega]
      simp
theorem qKK{l vs:List Value}{k:Nat}(h:k+vs.length≤l.length):(qBD l k vs).length=l.length:=by
  unfold qBD;simp;omega
theorem qKL{l r vs:List Value}{k:Nat}(h:k+vs.length≤l.length):qBD (l++r) k vs=qBD l k vs++r:=by
  unfold qBD
  rw [za xB,List.drop_append_of_le_length xB]
  simp
theorem qC4(a:List xA):(qAH a).all (λx=>x.all Value.oneCell')=true:=by simp [qAH,Value.oneCell']
theorem qMK{α:Type}(f:α→List Value)(h: ∀x,(f x).all Value.oneCell'=true)(a:List α):(a.map f).all (λx=>x.all Value.oneCell')=true:=by simp [h]
theorem qUX(a:Int)(k:Nat)(hk:k≤63):((BitVec.ofInt 64 a)&&&(BitVec.ofNat 64 (2^k-1))).toNat=(a%2^k).toNat:=by
  rw [BitVec.toNat_and,BitVec.toNat_ofInt,BitVec.toNat_ofNat,je (zc (Nat.sub_lt (zA k) xC) (jn xC xB)),Nat.and_two_pow_sub_one_eq_mod]
  have h1:(0:Int)≤a%(2^64:Nat):=Int.emod_nonneg _ xC
  have h2:(((a%(2^64:Nat)).toNat%2^k:Nat):Int)=a%2^k:=by
    rw [Int.natCast_emod,Int.toNat_of_nonneg h1]
    have:((2^k:Nat):Int)∣((2^64:Nat):Int):=Int.natCast_dvd_natCast.2 (Nat.pow_dvd_pow 2 xB)
    rw [Int.emod_emod_of_dvd _ this];simp
  omega
theorem qNZ{P:Program}{env:Env}{rs:List Hp}{o:Oper}{t t' x y}{a:Int}{m:Nat}(k:Nat)(ho:o.op= .binOp .and t x y t')(hx:ev env x=some (I a))(hy:ev env y=some (I m))(hm:m=2^k-1)(hk:k≤62):YOp P env rs o (I (a%2^k)):=λn ac w hk' _=>by
  have hp:(0:Int)<2^k:=Int.pow_pos xC
  have h1:0≤a%2^k:=Int.emod_nonneg _ xB
  have h2:a%2^k<2^k:=Int.emod_lt_of_pos _ hp
  have h3:((2^k:Nat):Int)≤4611686018427387904:=Int.ofNat_le.2 (jn xC hk)
  have h4:(2:Int)^k=((2^k:Nat):Int):=xD
  have e:=qCJ (n:=a%2^k) ⟨xB,xB⟩
  have e2:BitVec.ofInt 64 (m:Int)=BitVec.ofNat 64 (2^k-1):=by rw [qKq,hm]
  have e3:((BitVec.ofInt 64 a)&&&BitVec.ofInt 64 (m:Int)).toNat=(a%2^k).toNat:=by rw [e2];exact qUX a k xB
  have hrun:(Op.intBits .and .i64 a m).run P w= .ok (I (a%2^k)) w:=by
    show(Result.ok (Value.int .i64 (IntKind.i64.wrap (((BitVec.ofInt 64 a)&&&BitVec.ofInt 64 (m:Int)).toNat:Int))) w:Result Value)=_
    rw [e3,Int.toNat_of_nonneg h1,e]
  simp only [execOp,ho,hk'.ev hx,hk'.ev hy]
  simp [eqGuard,binOp,hrun]
def qBp(l:List Nat):List (List Value):=l.map λx:Nat=> [I (x:Int)]
theorem qDL{l:List Nat}{k:Nat}(h:k<l.length):(qBp l)[k]?=some [I (l.getD k 0:Nat)]:=by
  unfold qBp;rw [jN,jC h,jB,jC h];rfl
theorem qKw(a b:List Nat):qBp (a++b)=qBp a++qBp b:=by simp [qBp]
theorem qNd(a:List Nat):(qBp a).all (λx=>x.all Value.oneCell')=true:=by simp [qBp,Value.oneCell']
theorem qBO{q:Prop}{g n:Nat}{l:List Value}{e:TypeId}(xs:List (List Value))(h1:xs.length=n)(h2: ∀x∈xs,x.length=1)(h3:xs.flatten=l):qBZ q (blk g l e) e 1 (some ⟨g,0,none⟩) n n xs:=by
  subst h3;exact qAm h1 h2
theorem slS{g n:Nat}{e:TypeId}(ls:List xA)(h:ls.length=n):Sl (blk g (ls.map λs=>Str s) e) 1 (some ⟨g,0,none⟩) n n (qAH ls):=
  (qBO (q:=True) (qAH ls) (by simp [qAH,h]) (by simp [qAH]) (by unfold qAH;exact qBR _ _)).sl
theorem slB{g n:Nat}{e:TypeId}(ls:xA)(h:ls.length=n):Sl (blk g (ls.map B8) e) 1 (some ⟨g,0,none⟩) n n (qAf ls):=
  (qBO (q:=True) (qAf ls) (by simp [qAf,h]) (by simp [qAf]) (by unfold qAf;exact qBR _ _)).sl
theorem slN{g n:Nat}{e:TypeId}(ls:List Nat)(h:ls.length=n):Sl (blk g (ls.map λx:Nat=>I (x:Int)) e) 1 (some ⟨g,0,none⟩) n n (qBp ls):=
  (qBO (q:=True) (qBp ls) (by simp [qBp,h]) (by simp [qBp]) (by unfold qBp;exact qBR _ _)).sl
section
variable{P:Program}{env:Env}{rs ms:List Hp}{o:Oper}
theorem qBL{t x y g j k off e sz n' c v i m}{xs:List (List Value)}{a b:List Value}(ho:o.op= .store t x y)(hx:ev env x=some (.pointer (some ⟨g,j,none⟩)))(hy:ev env y=some v)(hi:ms[i]?=some m)(hr:Row m e sz (some ⟨g,0,none⟩) n' c xs)
    {vs:List Value} (hv:v.cells=vs.toArray) (hz: ∀w,(sizeOf t).run P w= .ok vs.length w) (h1:vs.all Value.oneCell'=true) (hj:j=k*sz+off) (ha:xs[k]?=some a) (hb:qBD a off vs=b) (hl:off+vs.length≤sz):
    EOp P env ms o (λ_:Hp=>undef) (λm'=>Row m' e sz (some ⟨g,0,none⟩) n' c (xs.set k b)) (λm'=>ms.set i m'):=λn ac w0 w next Q hkn hs hn=>by
  obtain ⟨h1',hsz,hnc,hcase⟩:=hr
  have hka:k<xs.length:=(List.getElem?_eq_some_iff.1 ha).1
  rcases hcase with ⟨hA,_⟩|⟨g',rest,lo,hi',hA,hm,hlen,hf⟩
  · cases hA
  · cases hA
    have hg:w.heap[g]?=some (.cells (xs.flatten++rest).toArray e (lo,hi')):=hs.mem (jM hi) g _ (by rw [hm];exact qAd _ _)
    have hfl:=qA0 hsz
    have hb1:k*sz+off+vs.length≤xs.flatten.length:=by
      rw [hfl]
      have:=zR sz (show k+1≤xs.length by omega)
      rw [zn] at this;omega
    have hb2:xs.flatten.length≤c*sz:=by rw [hfl,h1'];exact zR _ hnc
    have hst:=qBc P g j e lo hi' vs 0 (xs.flatten++rest).toArray w hg (by rw [zf,jA];omega) (by
      rcases hf with h|h|h
      · omega
      · have:=h.2;omega
      · exact absurd trivial h.1) (by simpa [List.all_eq_true] using h1)
    simp only [zb] at hst
    have e1:(xs.flatten++rest).toArray.toList.take j++vs++(xs.flatten++rest).toArray.toList.drop (j+vs.length)=(xs.set k b).flatten++rest:=by
      have e2:=qKL (l:=xs.flatten) (r:=rest) (k:=j) (vs:=vs) xB
      have e3:=qMd hsz ha hb hl
      rw [←hj] at e3
      rw [←e3,←e2];rfl
    rw [e1] at hst
    have hbl:b.length=sz:=by
      rw [←hb,qKK (by rw [hsz a (jM ha)];exact hl)];exact hsz a (jM ha)
    have hsz': ∀z∈xs.set k b,z.length=sz:=λz hz'=>by
      rcases yG hz' with h|h
      · exact hsz z h
      · rw [h];exact hbl
    unfold Oper.wp
    have hrun:(execOp ac.eval o).run P w= .ok .skip (w.setRow g ((xs.set k b).flatten++rest).toArray):=by
      simp [execOp,ho,hkn.ev hx,hkn.ev hy,Instr.storeAt,Instr.sureAddr,storeVar,hz,hv,hst]
    rw [hrun,Oper.upon_skip]
    refine hn (qAN g (.cells ((xs.set k b).flatten++rest).toArray e (lo,hi'))) _ ?_ ?_
    · refine⟨by simp [h1'],hsz',hnc,.inr ⟨g,rest,lo,hi',O,O,?_,hf⟩⟩
      rw [jA,qA0 hsz',jk,←hfl,←jA];exact hlen
    · have:=hs.set hi (g:=g) (o:= .cells (xs.flatten++rest).toArray e (lo,hi')) (by rw [hm];exact qAd _ _) (w':=w.setRow g ((xs.set k b).flatten++rest).toArray) (o':= .cells ((xs.set k b).flatten++rest).toArray e (lo,hi')) O O O (by simp [World.setRow]) (qFM hg _)
      rw [hm,qBW] at this
      exact this
theorem qBZ.at{q m e sz A n c xs}(h:qBZ q m e sz A n c xs)(hn:0<n): ∃g,A=some ⟨g,0,none⟩:=by
  obtain ⟨h1,h2,h3,h4⟩:=h
  rcases h4 with ⟨_,hc,_⟩|⟨g,rest,lo,hi,hA,_⟩
  · omega
  · exact⟨g,hA⟩
end
end Go.Fw
namespace Go.Fw
open Go
abbrev N64(n:Nat):Value:= .int .u64 (n:Int)
theorem N_W{n:Nat}(h:n<18446744073709551616):N64 n=W64 (UInt64.ofNat n):=by
  show Value.int .u64 _=Value.int .u64 _
  rw [zh,je (by simpa using h)]
theorem qBE{n:Nat}(h:n<18446744073709551616):(UInt64.ofNat n).toNat=n:=by rw [zh];exact je (by simpa using h)
section
variable{P:Program}{env:Env}{rs ms:List Hp}{o:Oper}{t t':TypeId}{x y:Operand}{a b:Nat}
theorem qHD(ho:o.op= .binOp .add t x y t')(hx:ev env x=some (N64 a))(hy:ev env y=some (N64 b))(hr:a+b<18446744073709551616):YOp P env rs o (N64 (a+b)):=by
  rw [N_W xB] at hx hy
  exact(qNc ho hx hy).as (by show Value.int .u64 _=Value.int .u64 _;rw [UInt64.toNat_add,qBE xB,qBE xB,je xB])
theorem qQ2(ho:o.op= .binOp .sub t x y t')(hx:ev env x=some (N64 a))(hy:ev env y=some (N64 b))(hr:b≤a∧a<18446744073709551616):YOp P env rs o (N64 (a-b)):=by
  rw [N_W xB] at hx hy
  exact(qNU ho hx hy).as (by show Value.int .u64 _=Value.int .u64 _;rw [UInt64.toNat_sub_of_le _ _ (by rw [UInt64.le_iff_toNat_le,qBE xB,qBE xB];exact hr.1),qBE xB,qBE xB])
theorem qHB(ho:o.op= .binOp .mul t x y t')(hx:ev env x=some (N64 a))(hy:ev env y=some (N64 b))(hr:a<18446744073709551616∧b<18446744073709551616∧a*b<18446744073709551616):YOp P env rs o (N64 (a*b)):=by
  rw [N_W xB] at hx hy
  exact(qNY ho hx hy).as (by show Value.int .u64 _=Value.int .u64 _;rw [UInt64.toNat_mul,qBE xB,qBE xB,je hr.2.2])
theorem qMI(ho:o.op= .binOp .and t x y t')(hx:ev env x=some (N64 a))(hy:ev env y=some (N64 b))(hr:a<18446744073709551616∧b<18446744073709551616):YOp P env rs o (N64 (a&&&b)):=by
  rw [N_W xB] at hx hy
  exact(qNb ho hx hy).as (by show Value.int .u64 _=Value.int .u64 _;rw [UInt64.toNat_and,qBE xB,qBE xB])
theorem qQ6{s d:TypeId}{c:UInt8}(ho:o.op= .convert s d x)(hx:ev env x=some (B8 c))(hs:P.underlying s=some (.int .u8))(hd:P.underlying d=some (.int .u64)):YOp P env rs o (N64 c.toNat):=
  (qF5 ho hx hs hd).as (by show Value.int .u64 _=Value.int .u64 _;rw [UInt8.toNat_toUInt64])
theorem qDK{s d:TypeId}{m:Nat}(ho:o.op= .convert s d x)(hx:ev env x=some (I m))(hs:P.underlying s=some (.int .i64))(hd:P.underlying d=some (.int .u64))(hr:m<18446744073709551616):YOp P env rs o (N64 m):=
  (qAw ho hx hs hd hr).as (N_W hr).symm
theorem qDJ{s d:TypeId}(ho:o.op= .convert s d x)(hx:ev env x=some (N64 a))(hs:P.underlying s=some (.int .u64))(hd:P.underlying d=some (.int .i64))(hr:a<9223372036854775808):YOp P env rs o (I a):=by
  rw [N_W xB] at hx
  exact(qFF ho hx hs hd (by rw [qBE xB];exact hr)).as (by rw [qBE xB])
end
end Go.Fw