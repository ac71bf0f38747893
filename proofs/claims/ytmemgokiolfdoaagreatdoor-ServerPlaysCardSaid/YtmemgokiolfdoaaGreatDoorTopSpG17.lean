/- Rules for walking a translated function, over heaps that are apart: for any program. -/
import Derived.Test.YtmemgokiolfdoaaGreatDoorTopSpG11
import Derived.WideKeyRuns
set_option linter.unusedSimpArgs false
set_option linter.unusedVariables false
namespace Go.Fw
open Go Go.RowKit Go.MapKept
section
variable{κ:Type}
def kvK(K:κ->Value)(l:List (κ×Value)):List (Value×Value):=l.map λp=>(K p.1,p.2)
def qWH(K:κ->Value)(m:Hp)(g:Nat)(l:List (κ×Value)):Prop:= ∃es clock,m g=some (.map es clock)/\Stamped es clock/\kvE es=kvK K l
def qWG(K:κ->Value)(m:Hp)(g:Nat)(l:List (κ×Value)):Prop:= ∃es clock,m=qAd g (.map es clock)/\Stamped es clock/\kvE es=kvK K l
theorem qWG.at{K:κ->Value}{m g l}(h:qWG K m g l):qWH K m g l:=by
  obtain ⟨es,c,rfl,h1,h2⟩:=h
  exact⟨es,c,qAk _ _,h1,h2⟩
theorem qWH.mono{K:κ->Value}{m m' g l}(h:qWH K m g l)(hl:Le m m'):qWH K m' g l:=
  let ⟨es,c,h0,h1,h2⟩:=h
  ⟨es,c,hl _ _ h0,h1,h2⟩
theorem qWG.nil(K:κ->Value)(g:Nat):qWG K (qAd g (.map #[] 0)) g []:=⟨#[],0,rfl,stamped_empty 0,rfl⟩
variable [DecidableEq κ]
variable{K:κ->Value}{P:Program}{env:Env}{rs ms:List Hp}{o:Oper}
end
section
variable{P:Program}{env:Env}{ms:List Hp}
theorem rv3{fn:Func}{n w0 r s u v v' v''}(h:fn.results= #[r,.tmp s,.tmp u])(h1:RV P env ms r v)(h2:RV P env ms (.tmp s) v')(h3:RV P env ms (.tmp u) v''): ∀a w,Kn n env a->St w0 ms w->(results fn a.tmps).run P w= .ok (.tuple #[v,v',v'']) w:=λa w hk hs=>by
  have e:=RV.run hk hs h1
  have e':=RV.run hk hs h2
  have e'':=RV.run hk hs h3
  have hA: ∀(f:Value->World->Result Value) (x:Tmp) (t:TypeId) (u:Value),(do loadVar t (<-asAddr (a.tmps.getD x undef)):Sem Value).run P w= .ok u w->
      ((Sem.run P (asAddr (a.tmps[x]?.getD undef)) w).andThen λb w'=>(Sem.run P (loadVar t b) w').andThen f)=f u w:=λf x t u hu=>by
    have h3:((Sem.run P (asAddr (a.tmps[x]?.getD undef)) w).andThen λb w'=>(Sem.run P (loadVar t b) w'))= .ok u w:=by simpa using hu
    cases hq:Sem.run P (asAddr (a.tmps[x]?.getD undef)) w with
    |ok b w'=>rw [hq] at h3;simp only [Result.andThen_ok] at h3⊢;rw [h3];rfl
    |halt x w'=>rw [hq] at h3;cases h3
  simp at e' e''
  unfold results
  rw [h]
  cases r<;>simp
  . simp at e;simp [e,e',e'']
  . rw [hA _ _ _ _ e];simp [e',e'']
end
end Go.Fw