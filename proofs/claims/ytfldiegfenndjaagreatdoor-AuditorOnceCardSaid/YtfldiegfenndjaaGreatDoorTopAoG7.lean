/- Rules for walking a translated function, over heaps that are apart: for any program. -/
import Derived.Test.YtfldiegfenndjaaGreatDoorTopAoG6
import Derived.Laws.RangeString
set_option linter.unusedSimpArgs false
set_option linter.unusedVariables false
namespace Go.Fw
open Go
section
variable{P:Program}{env:Env}{ms:List Hp}{o:Oper}
theorem qKf{n:Nat}{w0:Wd}{fn:Func}{t1 t2 t3 t4:Tmp}{v1 v2 v3 v4:Value}(h:fn.results= #[.tmp t1,.tmp t2,.tmp t3,.tmp t4])(h1:look env t1=some v1)(h2:look env t2=some v2)(h3:look env t3=some v3)(h4:look env t4=some v4):
    ∀a w,Kn n env a→St w0 ms w→(results fn a.tmps).run P w= .ok (.tuple #[v1,v2,v3,v4]) w:=λa w hk hs=>by
  have e1:=RV.run (P:=P) (r:= .tmp t1) hk hs h1
  have e2:=RV.run (P:=P) (r:= .tmp t2) hk hs h2
  have e3:=RV.run (P:=P) (r:= .tmp t3) hk hs h3
  have e4:=RV.run (P:=P) (r:= .tmp t4) hk hs h4
  unfold results
  rw [h]
  simp at e1 e2 e3 e4
  simp [e1,e2,e3,e4]
end
end Go.Fw
