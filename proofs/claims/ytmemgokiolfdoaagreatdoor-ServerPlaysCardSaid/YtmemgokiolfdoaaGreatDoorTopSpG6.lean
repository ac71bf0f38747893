/- Rules for walking a translated function, over heaps that are apart: for any program. -/
import Derived.Test.YtmemgokiolfdoaaGreatDoorTopSpG5
import Derived.Laws.RangeString
set_option linter.unusedSimpArgs false
set_option linter.unusedVariables false
namespace Go.Fw
open Go
abbrev itr(g:Nat)(s:xA)(pos:Nat):Hp:=qAd g (.stringIter ⟨s.toArray⟩ pos)
def dec(s:xA)(pos:Nat):Nat×Nat:=Utf8.decode ⟨s.toArray⟩ pos
def qLE(s:xA)(pos:Nat):Nat:=if pos<s.length then pos+(dec s pos).2 else pos
def nxt(s:xA)(pos:Nat):Array Value:=if pos<s.length then #[.bool true,I pos,.int .i32 (dec s pos).1] else #[.bool false]
theorem qUw(s:xA)(pos:Nat):(nxt s pos)[0]?=some (.bool (decide (pos<s.length))):=by
  unfold nxt
  by_cases h:pos<s.length
  . rw [yX h,ya h];rfl
  . rw [yW h,yb h];rfl
theorem nxt_1{s:xA}{pos:Nat}(h:pos<s.length):(nxt s pos)[1]?=some (I pos):=by
  unfold nxt;rw [yX h];rfl
theorem qYL{s:xA}{pos:Nat}(h:pos<s.length):(nxt s pos)[2]?=some (.int .i32 (dec s pos).1):=by
  unfold nxt;rw [yX h];rfl
theorem qER{s:xA}{pos:Nat}(h:pos<s.length):qLE s pos=pos+(dec s pos).2:=yX h
theorem qUx{s:xA}{pos:Nat}(h: ¬pos<s.length):qLE s pos=pos:=yW h
section
variable{P:Program}{env:Env}{ms:List Hp}{o:Oper}
theorem qFU{t x s}(ho:o.op= .range t x)(hx:ev env x=some (Str s))(ht:P.underlying t=some .string):
    EOp P env ms o Ptr (λ_=>True) (λg=>ms++ [itr g s 0]):= .ofRun λn a w0 w hk hs=>
  ⟨w.heap.size,w.alloc (.stringIter ⟨s.toArray⟩ 0),by simp [execOp,ho,hk.ev hx,run_range_string w t _ ht];rfl,yd,hs.alloc _⟩
theorem qGy{x g s pos i}(ho:o.op= .next x true)(hx:ev env x=some (Ptr g))(hi:ms[i]?=some (itr g s pos)):
    EOp P env ms o (λ_:Unit=> .tuple (nxt s pos)) (λ_=>True) (λ_=>ms.set i (itr g s (qLE s pos))):= .ofRun λn a w0 w hk hs=>by
  have hg:w.heap[g]?=some (.stringIter ⟨s.toArray⟩ pos):=hs.mem (jR hi) g _ (qAk _ _)
  by_cases h:pos<s.length
  . refine⟨(),{w with heap:=w.heap.setIfInBounds g (.stringIter ⟨s.toArray⟩ (pos+(dec s pos).2))},?_,yd,?_⟩
    . have h':pos<(⟨s.toArray⟩:ByteArray).size:=by simpa [ByteArray.size] using h
      simp only [execOp,ho,hk.ev hx,Instr.next,getObj,setObj,Sem.run_bind,Sem.run,hg,Result.andThen,h',if_true]
      unfold nxt dec
      rw [yX h]
      rfl
    . have:=hs.set hi (qAk _ _) (w':={w with heap:=w.heap.setIfInBounds g (.stringIter ⟨s.toArray⟩ (pos+(dec s pos).2))}) (o':= .stringIter ⟨s.toArray⟩ (pos+(dec s pos).2)) O O O xD (by
        funext k
        simp only [hp,qFE]
        by_cases hk':k=g
        . subst hk'
          have:=(Array.getElem?_eq_some_iff.1 hg).1
          simp [zU,this]
        . rw [yW hk',zU,yW (λe=>hk' e.symm)])
      rw [qBq] at this
      rw [qER h];exact this
  . refine⟨(),w,?_,yd,?_⟩
    . have h': ¬pos<(⟨s.toArray⟩:ByteArray).size:=by simpa [ByteArray.size] using h
      simp only [execOp,ho,hk.ev hx,Instr.next,getObj,Sem.run_bind,Sem.run,hg,Result.andThen,h',if_false]
      unfold nxt
      rw [yW h]
      rfl
    . rw [qUx h]
      have e:ms.set i (itr g s pos)=ms:=by
        apply zm
        intro j
        rw [zO]
        split
        . subst_vars
          split
          . exact hi.symm
          . rename_i h1
            rw [je xB]
        . rfl
      rw [e];exact hs
theorem qNe{n:Nat}{w0:Wd}{fn:Func}{t1 t2 t3 t4:Tmp}{v1 v2 v3 v4:Value}(h:fn.results= #[.tmp t1,.tmp t2,.tmp t3,.tmp t4])(h1:look env t1=some v1)(h2:look env t2=some v2)(h3:look env t3=some v3)(h4:look env t4=some v4):
    ∀a w,Kn n env a->St w0 ms w->(results fn a.tmps).run P w= .ok (.tuple #[v1,v2,v3,v4]) w:=λa w hk hs=>by
  have e1:=RV.run (P:=P) (r:= .tmp t1) hk hs h1
  have e2:=RV.run (P:=P) (r:= .tmp t2) hk hs h2
  have e3:=RV.run (P:=P) (r:= .tmp t3) hk hs h3
  have e4:=RV.run (P:=P) (r:= .tmp t4) hk hs h4
  unfold results
  rw [h]
  simp at e1 e2 e3 e4
  simp [e1,e2,e3,e4]
end
end Go.Fw