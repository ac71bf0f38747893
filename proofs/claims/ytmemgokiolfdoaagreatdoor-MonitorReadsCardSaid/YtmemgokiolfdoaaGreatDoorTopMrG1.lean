/- Rules for walking a translated function, over heaps that are apart: for any program. -/
import Derived.Test.YtmemgokiolfdoaaGreatDoorTopMrG0
set_option linter.unusedSimpArgs false
set_option linter.unusedVariables false
namespace Go.Fw
open Go
section
variable{P:Program}{env:Env}{rs ms:List Hp}{o:Oper}
theorem qAB{x ad}(ho:o.op= .nilCheck x)(hx:ev env x=some (.pointer (some ad))):YOp P env rs o (.pointer (some ad)):=λn a w hk _=>by
  simp [execOp,ho,hk.ev hx]
theorem qAA{s x f i k fs g off j}(ho:o.op= .fieldAddr s x i)(hx:ev env x=some (.pointer (some ⟨g,off,none⟩)))(hu:P.underlying s=some (.struct fs))(hf:fs[i]?=some f)
    (hz: ∀w,(sizeOf f.type).run P w= .ok (k+1) w) (hj:off+f.offset=j):YOp P env rs o (.pointer (some ⟨g,j,none⟩)):=λn a w hk _=>by
  subst hj
  simp [execOp,ho,hk.ev hx,Instr.fieldAt,run_underlying hu,hf,Instr.sureAddr,fieldPlace,hz,Addr.add_lit]
def qE6(A:Option Addr)(i sz:Nat):Addr:=(A.getD ⟨0,0,none⟩).add (i*sz)
theorem qAF{t e x y k i sz A n' c xs m}(ho:o.op= .indexAddr t x y)(hx:ev env x=some (.slice A n' c))(hy:ev env y=some (.int k ((i:Nat):Int)))(hu:P.underlying t=some (.slice e))
    (hz: ∀w,(sizeOf e).run P w= .ok sz w) (hs:Sl m sz A n' c xs) (hi:i<n'):YOp P env rs o (.pointer (some (qE6 A i sz))):=λn a w hk _=>by
  have hlt:i<xs.length:=by rw [hs.1];exact hi
  obtain ⟨_,ad,hA,_⟩:=hs.2.2 i xs[i] (jC hlt)
  subst hA
  simp [execOp,ho,hk.ev hx,hk.ev hy,Instr.indexAt,asIntOf,run_underlying hu,hz,hi,qE6]
theorem Sl.elem{m sz A n c xs}(h:Sl m sz A n c xs){i:Nat}{x:List Value}(hx:xs[i]?=some x):qAG m (qE6 A i sz) x:=by
  obtain ⟨_,ad,hA,hc⟩:=h.2.2 i x hx
  subst hA;exact hc
theorem qIg{t e x y k i sz g off N}(ho:o.op= .indexAddr t x y)(hx:ev env x=some (.pointer (some ⟨g,off,none⟩)))(hy:ev env y=some (.int k ((i:Nat):Int)))(hu:P.underlying t=some (.array N e))
    (hz: ∀w,(sizeOf e).run P w= .ok sz w) (hi:i<N):YOp P env rs o (.pointer (some ⟨g,off+i*sz,none⟩)):=λn a w hk _=>by
  simp [execOp,ho,hk.ev hx,hk.ev hy,Instr.indexAt,Instr.sureAddr,asIntOf,run_underlying hu,hz,hi,Addr.add_lit]
theorem qAI{t x ad v m}(ho:o.op= .load t x)(hx:ev env x=some (.pointer (some ad)))(hg: ∀w,(isAgg t).run P w= .ok false w)(hm:m∈rs)(hc:qAG m ad [v]):YOp P env rs o v:=λn a w hk hr=>by
  have:=(hc.mono (hr m hm)).cell (j:=0) O
  rw [qCc] at this
  simp [execOp,ho,hk.ev hx,Instr.loadAt,Instr.sureAddr,loadVar,hg,this]
theorem qAT{t x ad vs k m}(ho:o.op= .load t x)(hx:ev env x=some (.pointer (some ad)))(hg: ∀w,(isAgg t).run P w= .ok true w)(hz: ∀w,(sizeOf t).run P w= .ok k w)(hm:m∈rs)(hc:qAG m ad vs)(hl:vs.length=k):
    YOp P env rs o (.agg vs.toArray):=λn a w hk hr=>by
  have:=run_loadCells_list (P:=P) w ad vs (λj u hj=>(hc.mono (hr m hm)).cell hj)
  rw [hl] at this
  simp [execOp,ho,hk.ev hx,Instr.loadAt,Instr.sureAddr,loadVar,hg,hz,this]
theorem qCd{t e x lo hi sz A n' c l h}(ho:o.op= .slice t x lo hi none)(hx:ev env x=some (.slice A n' c))(hu:P.underlying t=some (.slice e))(hz: ∀w,(sizeOf e).run P w= .ok sz w)
    (hlo:match lo with|none=>l=0|some p=>ev env p=some (I (l:Nat))) (hhi:match hi with|none=>h=n'|some p=>ev env p=some (I (h:Nat))) (hr:l≤h∧h≤c):
    YOp P env rs o (.slice (if c=l then A else A.map (·.add (l*sz))) (h-l) (c-l)):=λn a w hk _=>by
  cases lo with
  |none=>
    simp only at hlo
    subst hlo
    cases hi with
    |none=>
      simp only at hhi
      subst hhi
      simp [execOp,ho,hk.ev hx,Instr.sliceAt,Instr.slice,run_underlying hu,Instr.sliceBounds,hz]
    |some q=>simp [execOp,ho,hk.ev hx,hk.ev hhi,Instr.sliceAt,Instr.slice,run_underlying hu,Instr.sliceBounds,Instr.sliceBound,asIntOf,hr,hz]
  |some p=>
    cases hi with
    |none=>
      simp only at hhi
      subst hhi
      simp [execOp,ho,hk.ev hx,hk.ev hlo,Instr.sliceAt,Instr.slice,run_underlying hu,Instr.sliceBounds,Instr.sliceBound,asIntOf,hr.1,hz]
    |some q=>simp [execOp,ho,hk.ev hx,hk.ev hlo,hk.ev hhi,Instr.sliceAt,Instr.slice,run_underlying hu,Instr.sliceBounds,Instr.sliceBound,asIntOf,hr,hz]
theorem qIh{t e x y k i sz v N}{cs:Array Value}(ho:o.op= .index t x y)(hx:ev env x=some (.agg cs))(hy:ev env y=some (.int k ((i:Nat):Int)))(hu:P.underlying t=some (.array N e))
    (hz: ∀w,(sizeOf e).run P w= .ok sz w) (hg: ∀w,(isAgg e).run P w= .ok false w) (hi:i<N) (hv:cs[i*sz]?=some v):YOp P env rs o v:=λn a w hk _=>by
  simp [execOp,ho,hk.ev hx,hk.ev hy,Instr.index,asIntOf,run_underlying hu,hz,hi,part,hg,hv]
theorem St.drewS{w0 w}(h:St w0 ms w):St w0 ms w.drew:=h.of_heap O O O O
theorem EOp.ofRun{X:Type}{val:X→Value}{φ:X→Prop}{ms':X→List Hp}
    (h: ∀n a (w0:Wd) w,Kn n env a→St w0 ms w→ ∃x w',(execOp a.eval o).run P w= .ok (.value (val x)) w'∧φ x∧St w0 (ms' x) w'):EOp P env ms o val φ ms':=
  λn a w0 w next Q hk hs hn=>by
    obtain ⟨x,w',hr,hx,hs'⟩:=h n a w0 w hk hs
    unfold Oper.wp
    rw [hr,Oper.upon_value]
    exact hn x w' hx hs'
theorem EOp.ofSkip{ms':List Hp}(h: ∀n a (w0:Wd) w,Kn n env a→St w0 ms w→ ∃w',(execOp a.eval o).run P w= .ok .skip w'∧St w0 ms' w'):EOp P env ms o (λ_:Unit=>undef) (λ_=>True) (λ_=>ms'):=
  λn a w0 w next Q hk hs hn=>by
    obtain ⟨w',hr,hs'⟩:=h n a w0 w hk hs
    unfold Oper.wp
    rw [hr,Oper.upon_skip]
    exact hn () w' trivial hs'
abbrev Ptr(g:Nat):Value:= .pointer (some ⟨g,0,none⟩)
theorem qAJ{t z}(ho:o.op= .alloc t)(hz: ∀w,(zeroValue t).run P w= .ok z w){l:List Value}(hl:z.cells=l.toArray):
    EOp P env ms o Ptr (λ_=>True) (λg=>ms++ [blk g l t]):= .ofRun λn a w0 w hk hs=>
  ⟨w.heap.size,w.alloc (.cells l.toArray t),by simp [execOp,ho,Instr.alloc,hz,newVar,newRow,newObj,hl];rfl,trivial,hs.alloc _⟩
theorem qAd{t x v}(ho:o.op= .box t x)(hx:ev env x=some v){l:List Value}(hl:v.cells=l.toArray):
    EOp P env ms o Ptr (λ_=>True) (λg=>ms++ [blk g l t]):= .ofRun λn a w0 w hk hs=>
  ⟨w.heap.size,w.alloc (.cells l.toArray t),by simp [execOp,ho,hk.ev hx,Instr.box,newVar,newRow,newObj,hl];rfl,trivial,hs.alloc _⟩
def qA7(l:List Value)(k:Nat)(vs:List Value):List Value:=l.take k++vs++l.drop (k+vs.length)
theorem qE2{w:World}{g:Nat}{cs:Array Value}{e:TypeId}{fz:Nat×Nat}(h:w.heap[g]?=some (.cells cs e fz))(cs':Array Value):
    hp (w.setRow g cs')=qEK (hp w) g (.cells cs' e fz):=by
  funext k
  simp only [hp,World.setRow,qEK,zy]
  by_cases ek:k=g
  · subst ek;simp [h]
  · rw [if_neg (Ne.symm ek),if_neg ek]
theorem qIM{α:Type}(l:List α)(p:Nat)(v:α)(h:p<l.length):(l.set p v).take (p+1)=l.take p++ [v]:=by
  rw [jI (by simpa using h),List.getElem_set_self,List.take_set_of_le (jK _)]
theorem qBP(P:Program)(g off:Nat)(t:TypeId)(lo hi:Nat): ∀(vs:List Value) (i:Nat) (cur:Array Value) (w:World),w.heap[g]?=some (.cells cur t (lo,hi))→off+i+vs.length≤cur.size→(hi≤lo∨off+i+vs.length≤lo∨hi≤off+i)→(∀v∈vs,v.oneCell'=true)→
    (storeCells ⟨g,off,none⟩ vs i).run P w= .ok () (w.setRow g (cur.toList.take (off+i)++vs++cur.toList.drop (off+i+vs.length)).toArray)
  | [],i,cur,w,hg,_,_,_=>by
    simp only [storeCells,jU,jG,zX,zW,Array.toArray_toList]
    rw [setRow_self w g cur t (lo,hi) hg]
    rfl
  |v::rest,i,cur,w,hg,hl,hf,h1=>by
    simp only [jD] at hl hf
    have hi':off+i<cur.size:=xB
    have hc:w.cell? (Addr.add ⟨g,off,none⟩ i)=some cur[off+i]:=by
      rw [Addr.add_lit];simp [World.cell?,hg,hi']
    have hnf:w.frozen? (Addr.add ⟨g,off,none⟩ i)=false:=by
      rw [Addr.add_lit];simp only [World.frozen?,hg]
      simp;omega
    have hv:=h1 v (.head _)
    have hset:w.setCell (Addr.add ⟨g,off,none⟩ i) v=w.setRow g (cur.setIfInBounds (off+i) v):=by
      rw [Addr.add_lit]
      simp only [World.setCell,World.setRow]
      congr 1
      apply Array.ext_getElem?
      intro k
      simp only [zy]
      split
      · rename_i e;subst e;rw [hg];rfl
      · rfl
    have hrun:(store (Addr.add ⟨g,off,none⟩ i) v).run P w= .ok () (w.setRow g (cur.setIfInBounds (off+i) v)):=by
      rw [←hset]
      cases v<;>simp [Value.oneCell'] at hv<;>simp [store,Sem.run,hc,hnf]
    have hg2:(w.setRow g (cur.setIfInBounds (off+i) v)).heap[g]?=some (.cells (cur.setIfInBounds (off+i) v) t (lo,hi)):=setRow_heap w g cur _ t _ hg
    have ih:=qBP P g off t lo hi rest (i+1) (cur.setIfInBounds (off+i) v) _ hg2 xJ xB (λu hu=>h1 u (.tail _ hu))
    simp only [storeCells,Sem.run_bind,hrun,Result.andThen_ok,ih]
    congr 1
    simp only [World.setRow]
    congr 1
    apply Array.ext_getElem?
    intro k
    simp only [zy]
    by_cases ek:g=k
    · subst ek
      rw [if_pos rfl,if_pos rfl,if_pos rfl,hg]
      simp only [zn,zG,Obj.cells.injEq,and_true]
      congr 1
      rw [Array.toList_setIfInBounds,show off+(i+1)=off+i+1 by omega,qIM _ _ _ (by simpa using hi'),List.drop_set_of_lt xB]
      simp [Nat.add_assoc,Nat.add_comm 1]
    · rw [if_neg ek,if_neg ek,if_neg ek]
theorem qAV{t x y g k l e v i}(ho:o.op= .store t x y)(hx:ev env x=some (.pointer (some ⟨g,k,none⟩)))(hy:ev env y=some v)(hi:ms[i]?=some (blk g l e)){vs:List Value}(hv:v.cells=vs.toArray)
    (hz: ∀w,(sizeOf t).run P w= .ok vs.length w) (h1:vs.all Value.oneCell'=true) (hk:k+vs.length≤l.length):
    EOp P env ms o (λ_:Unit=>undef) (λ_=>True) (λ_=>ms.set i (blk g (qA7 l k vs) e)):= .ofSkip λn a w0 w hkn hs=>by
  have hg:w.heap[g]?=some (.cells l.toArray e (0,0)):=hs.mem (jM hi) g _ (qAc _ _)
  have hst:=qBP P g k e 0 0 vs 0 l.toArray w hg (by simpa using hk) xD (by simpa [List.all_eq_true] using h1)
  simp only [zX] at hst
  refine⟨w.setRow g (qA7 l k vs).toArray,by simp [execOp,ho,hkn.ev hx,hkn.ev hy,Instr.storeAt,Instr.sureAddr,storeVar,hz,hv,hst,qA7],?_⟩
  have:=hs.set hi (qAc _ _) (w':=w.setRow g (qA7 l k vs).toArray) (o':= .cells (qA7 l k vs).toArray e (0,0)) O O O (by simp [World.setRow]) (qE2 hg _)
  rw [qBL] at this
  exact this
end
end Go.Fw