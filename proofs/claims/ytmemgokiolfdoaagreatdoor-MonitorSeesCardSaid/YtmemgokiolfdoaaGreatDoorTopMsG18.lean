/- Rules for walking a translated function, over heaps that are apart: for any program. -/
import Derived.Test.YtmemgokiolfdoaaGreatDoorTopMsG11
import Derived.WideKeyRuns
set_option linter.unusedSimpArgs false
set_option linter.unusedVariables false
namespace Go.Fw
open Go Go.RowKit Go.MapKept
section
variable{κ:Type}
def kvK(K:κ→Value)(l:List (κ×Value)):List (Value×Value):=l.map λp=>(K p.1,p.2)
def qHi(K:κ→Value)(m:Hp)(g:Nat)(l:List (κ×Value)):Prop:= ∃es clock,m g=some (.map es clock)∧Stamped es clock∧kvE es=kvK K l
def qF0(K:κ→Value)(m:Hp)(g:Nat)(l:List (κ×Value)):Prop:= ∃es clock,m=qAN g (.map es clock)∧Stamped es clock∧kvE es=kvK K l
theorem qF0.at{K:κ→Value}{m g l}(h:qF0 K m g l):qHi K m g l:=by
  obtain ⟨es,c,rfl,h1,h2⟩:=h
  exact⟨es,c,qAd _ _,h1,h2⟩
theorem qHi.mono{K:κ→Value}{m m' g l}(h:qHi K m g l)(hl:Le m m'):qHi K m' g l:=
  let ⟨es,c,h0,h1,h2⟩:=h
  ⟨es,c,hl _ _ h0,h1,h2⟩
theorem qF0.nil(K:κ→Value)(g:Nat):qF0 K (qAN g (.map #[] 0)) g []:=⟨#[],0,rfl,stamped_empty 0,rfl⟩
variable [DecidableEq κ]
def qJc:List (κ×Value)→κ→Option Value
  | [],_=>none
  |p::r,k=>if p.1=k then some p.2 else qJc r k
structure qSu (K:κ→Value) (P:Program) (kt:TypeId):Prop where
  wide:(match P.underlying kt with|some (.array _ _)|some (.struct _)=>true|_=>false)=true
  ck: ∀(a:κ) (e:Bool) (w:World),(Instr.checkKey e 10000 kt (K a)).run P w= .ok () w
  eq: ∀(a b:κ) (w:World),(Op.equal kt (K a) (K b)).run P w= .ok (decide (a=b)) w
  inj: ∀a b:κ,K a=K b→a=b
theorem qDB{K:κ→Value}{P:Program}{kt:TypeId}(hk:qSu K P kt)(a:κ)(w:World): ∀(es:List MapEntry) (l:List (κ×Value)) (i:Nat),es.map (λe=>(e.key,e.val))=kvK K l→
    (qJc l a=none∧(Instr.findAsking kt (K a) es i).run P w= .ok none w)∨ ∃j v,qJc l a=some v∧(Instr.findAsking kt (K a) es i).run P w= .ok (some (j,v)) w
  | [],[],_,_=> .inl ⟨rfl,by simp [Instr.findAsking]⟩
  | [],_::_,_,h=>by cases h
  |_::_,[],_,h=>by cases h
  |e::es,p::l,i,h=>by
    simp only [kvK,jb,List.cons.injEq] at h
    obtain ⟨h1,h2⟩:=h
    injection h1 with hke hv
    by_cases hp:p.1=a
    · refine .inr ⟨i,p.2,by rw [qJc,if_pos hp],?_⟩
      simp only [Instr.findAsking,Sem.run_bind,hke,hk.eq,decide_eq_true hp.symm,Result.andThen_ok,if_true,Sem.run_pure,hv]
    · have hne: ¬a=p.1:=λe=>hp e.symm
      have hf:(Instr.findAsking kt (K a) (e::es) i).run P w=(Instr.findAsking kt (K a) es (i+1)).run P w:=by
        simp only [Instr.findAsking,Sem.run_bind,hke,hk.eq,decide_eq_false hne,Result.andThen_ok,Bool.false_eq_true,if_false]
      rw [hf]
      rcases qDB hk a w es l (i+1) h2 with ⟨g1,g2⟩|⟨j,v,g1,g2⟩
      · exact .inl ⟨by rw [qJc,if_neg hp];exact g1,g2⟩
      · exact .inr ⟨j,v,by rw [qJc,if_neg hp];exact g1,g2⟩
theorem qRz{l:List (κ×Value)}{a:κ}(h:qJc l a=none): ∀p∈l,p.1≠a:=by
  induction l with
  |nil=>intro p hp;cases hp
  |cons q r ih=>
    rw [qJc] at h
    split at h
    · cases h
    · rename_i hq
      intro p hp
      cases hp with
      |head=>exact hq
      |tail _ hp=>exact ih h p hp
variable{K:κ→Value}{P:Program}{env:Env}{rs ms:List Hp}{o:Oper}
theorem qHC{t x y g kt et}{l:List (κ×Value)}{s:κ}{z m}(hk:qSu K P kt)(ho:o.op= .lookup t x y false)(hx:ev env x=some (.map (some g)))(hy:ev env y=some (K s))(ht:P.underlying t=some (.map kt et))
    (hz: ∀w,(zeroValue et).run P w= .ok z w) (hm:m∈rs) (hmp:qHi K m g l):YOp P env rs o ((qJc l s).getD z):=λn a w hkn hr=>by
  obtain ⟨es,c,h0,hst,hkv⟩:=hmp.mono (hr m hm)
  have hg:w.heap[g]?=some (.map es c):=h0
  have hf:=λw=>run_findKey_eq (P:=P) w hk.wide (K s) es.toList
  rcases qDB hk s w es.toList l 0 hkv with ⟨g1,g2⟩|⟨j,v,g1,g2⟩
  · simp only [execOp,ho,hkn.ev hx,hkn.ev hy,Instr.lookup,run_underlying ht,Sem.run_bind,Result.andThen_ok,qBq hg,hk.ck,hf,g2,hz,g1,Sem.run_pure]
    rfl
  · simp only [execOp,ho,hkn.ev hx,hkn.ev hy,Instr.lookup,run_underlying ht,Sem.run_bind,Result.andThen_ok,qBq hg,hk.ck,hf,g2,hz,g1,Sem.run_pure]
    rfl
theorem qIM{t x y v g kt et}{l:List (κ×Value)}{s:κ}{u i m}(hk:qSu K P kt)(ho:o.op= .mapUpdate t x y v)(hx:ev env x=some (.map (some g)))(hy:ev env y=some (K s))(hv:ev env v=some u)(ht:P.underlying t=some (.map kt et))
    (hi:ms[i]?=some m) (hmp:qF0 K m g l) (hn0:qJc l s=none):EOp P env ms o (λ_:Hp=>undef) (λm'=>qF0 K m' g (l++ [(s,u)])) (λm'=>ms.set i m'):=λn a w0 w next Q hkn hs hn=>by
  obtain ⟨es,c,rfl,hst,hkv⟩:=hmp
  have hg:w.heap[g]?=some (.map es c):=hs.mem (jM hi) g _ (qAd _ _)
  have fin: ∀es' c',Stamped es' c'→kvE es'=kvK K (l++ [(s,u)])→(execOp a.eval o).run P w= .ok .skip {w with heap:=w.heap.setIfInBounds g (.map es' c')}→o.wp P a w next Q:=λes' c' h1 h2 hr=>by
    unfold Oper.wp
    rw [hr,Oper.upon_skip]
    refine hn (qAN g (.map es' c')) _ ⟨es',c',O,h1,h2⟩ ?_
    have:=hs.set hi (qAd _ _) (w':={w with heap:=w.heap.setIfInBounds g (.map es' c')}) (o':= .map es' c') O O O xD (by
      funext k
      simp only [hp,qEi]
      by_cases hk':k=g
      · subst hk'
        have:=(Array.getElem?_eq_some_iff.1 hg).1
        simp [jz,this]
      · rw [if_neg hk',jz,if_neg (λe=>hk' e.symm)])
    rw [qBW] at this
    exact this
  have hf:=run_findKey_eq (P:=P) w hk.wide (K s) es.toList
  rcases qDB hk s w es.toList l 0 hkv with ⟨_,g2⟩|⟨j,v',g1,_⟩
  · refine fin (es.push {key:=K s,val:=u,born:=c}) (c+1) (stamped_push hst λx hx' e=>?_) ?_ ?_
    · have h3:(x.key,x.val)∈kvK K l:=by rw [←hkv];exact List.mem_map.2 ⟨x,hx',O⟩
      obtain ⟨p,hp,hpe⟩:=List.mem_map.1 h3
      injection hpe with hpe _
      exact qRz hn0 p hp (hk.inj _ _ (hpe.trans e))
    · simp only [kvE,kvK,Array.toList_push,jO,jb,zT] at hkv⊢
      rw [hkv]
    · simp only [execOp,ho,hkn.ev hx,hkn.ev hy,hkn.ev hv,Instr.mapUpdate,run_underlying ht,Sem.run_bind,Result.andThen_ok,qBq hg,hk.ck,hf,g2,run_setObj_map _ hg]
      rfl
  · rw [hn0] at g1;cases g1
end
section
variable{P:Program}{env:Env}{ms:List Hp}
theorem rv3{fn:Func}{n w0 r s u v v' v''}(h:fn.results= #[r,.tmp s,.tmp u])(h1:RV P env ms r v)(h2:RV P env ms (.tmp s) v')(h3:RV P env ms (.tmp u) v''): ∀a w,Kn n env a→St w0 ms w→(results fn a.tmps).run P w= .ok (.tuple #[v,v',v'']) w:=λa w hk hs=>by
  have e:=RV.run hk hs h1
  have e':=RV.run hk hs h2
  have e'':=RV.run hk hs h3
  have hA: ∀(f:Value→World→Result Value) (x:Tmp) (t:TypeId) (u:Value),(do loadVar t (←asAddr (a.tmps.getD x undef)):Sem Value).run P w= .ok u w→
      ((Sem.run P (asAddr (a.tmps[x]?.getD undef)) w).andThen λb w'=>(Sem.run P (loadVar t b) w').andThen f)=f u w:=λf x t u hu=>by
    have h3:((Sem.run P (asAddr (a.tmps[x]?.getD undef)) w).andThen λb w'=>(Sem.run P (loadVar t b) w'))= .ok u w:=by simpa using hu
    cases hq:Sem.run P (asAddr (a.tmps[x]?.getD undef)) w with
    |ok b w'=>rw [hq] at h3;simp only [Result.andThen_ok] at h3⊢;rw [h3];rfl
    |halt x w'=>rw [hq] at h3;cases h3
  simp at e' e''
  unfold results
  rw [h]
  cases r<;>simp
  · simp at e;simp [e,e',e'']
  · rw [hA _ _ _ _ e];simp [e',e'']
end
end Go.Fw