/- Rules for walking a translated function, over heaps that are apart: for any program. -/
import Derived.Test.YtmemgokiolfdoaaGreatDoorTopMsG7
import Derived.MapKept
import Derived.Maps.RangeRun
set_option linter.unusedSimpArgs false
set_option linter.unusedVariables false
namespace Go.Fw
open Go Go.RowKit Go.MapKept
abbrev MP:=List (xA×Value)
def kvS(l:MP):List (Value×Value):=l.map λp=>(Str p.1,p.2)
def kvE(es:Array MapEntry):List (Value×Value):=es.toList.map λe=>(e.key,e.val)
def MapAt(m:Hp)(g:Nat)(l:MP):Prop:= ∃es clock,m g=some (.map es clock)∧Stamped es clock∧kvE es=kvS l
def MapS(m:Hp)(g:Nat)(l:MP):Prop:= ∃es clock,m=qAN g (.map es clock)∧Stamped es clock∧kvE es=kvS l
theorem MapS.at{m g l}(h:MapS m g l):MapAt m g l:=by
  obtain ⟨es,c,rfl,h1,h2⟩:=h
  exact⟨es,c,qAd _ _,h1,h2⟩
theorem MapAt.mono{m m' g l}(h:MapAt m g l)(hl:Le m m'):MapAt m' g l:=
  let ⟨es,c,h0,h1,h2⟩:=h
  ⟨es,c,hl _ _ h0,h1,h2⟩
theorem MapS.nil(g:Nat):MapS (qAN g (.map #[] 0)) g []:=⟨#[],0,rfl,stamped_empty 0,rfl⟩
def qK8:MP→xA→Option Value
  | [],_=>none
  |p::r,k=>if p.1=k then some p.2 else qK8 r k
def qNL:MP→xA→Value→MP
  | [],k,v=> [(k,v)]
  |p::r,k,v=>if p.1=k then(k,v)::r else p::qNL r k v
theorem qP5{a b:xA}:((⟨a.toArray⟩:ByteArray)==⟨b.toArray⟩)=decide (a=b):=by
  have e:((⟨a.toArray⟩:ByteArray)==⟨b.toArray⟩)=(a.toArray==b.toArray):=rfl
  rw [e]
  by_cases h:a=b
  · subst h;simp
  · rw [decide_eq_false h,beq_eq_false_iff_ne]
    exact λe=>h (List.toArray_inj e)
theorem qDd(k:xA): ∀(es:List MapEntry) (l:MP) (i:Nat),es.map (λe=>(e.key,e.val))=kvS l→
    (qK8 l k=none∧Instr.findNow .string (Str k) es i=some none∧qNL l k=λv=>l++ [(k,v)])∨
    ∃j v,qK8 l k=some v∧Instr.findNow .string (Str k) es i=some (some (i+j,v))∧j<es.length∧(es.map (·.key))[j]?=some (Str k)∧ ∀x,(es.modify j λe=>{e with key:=Str k,val:=x}).map (λe=>(e.key,e.val))=kvS (qNL l k x)
  | [],[],_,_=> .inl ⟨rfl,rfl,by funext v;rfl⟩
  | [],_::_,_,h=>by cases h
  |_::_,[],_,h=>by cases h
  |e::es,p::l,i,h=>by
    simp only [kvS,jb,List.cons.injEq] at h
    obtain ⟨h1,h2⟩:=h
    injection h1 with hk hv
    by_cases hp:p.1=k
    · refine .inr ⟨0,p.2,by rw [qK8,if_pos hp],?_,by simp,by simp [hk,hp],λx=>?_⟩
      · unfold Instr.findNow
        rw [hk]
        simp only [Instr.sameNow,qP5,decide_eq_true hp.symm,hv,zb]
      · rw [qNL,if_pos hp]
        simp only [List.modify_zero_cons,jb,kvS,h2]
    · have hne: ¬k=p.1:=λe=>hp e.symm
      have hf:Instr.findNow .string (Str k) (e::es) i=Instr.findNow .string (Str k) es (i+1):=by
        rw [Instr.findNow,hk]
        simp only [Instr.sameNow,qP5,decide_eq_false hne]
      rw [hf]
      rcases qDd k es l (i+1) h2 with ⟨g1,g2,g3⟩|⟨j,v,g1,g2,g3,g5,g4⟩
      · refine .inl ⟨by rw [qK8,if_neg hp];exact g1,g2,?_⟩
        funext v
        rw [qNL,if_neg hp,g3];rfl
      · refine .inr ⟨j+1,v,by rw [qK8,if_neg hp];exact g1,by rw [g2];congr 3;omega,by simp;omega,by simpa using g5,λx=>?_⟩
        have:=g4 x
        rw [qNL,if_neg hp]
        simp only [List.modify_succ_cons,jb,kvS] at this⊢
        rw [this,hk,hv]
section
variable{P:Program}{env:Env}{rs ms:List Hp}{o:Oper}
theorem qDI{t}(ho:o.op= .makeMap t none):EOp P env ms o (λg:Nat=> .map (some g)) (λ_=>True) (λg=>ms++ [qAN g (.map #[] 0)]):= .ofRun λn a w0 w hk hs=>
  ⟨w.heap.size,w.alloc (.map #[] 0),by simp only [execOp,ho,Option.map_none];rfl,trivial,hs.alloc _⟩
theorem qB5(s:xA):IsKey .string (Str s):=trivial
theorem qKO(s:xA)(w:World):(Instr.keyThatStays (Str s) (Str s)).run P w= .ok (Str s) w:=run_keyThatStays (qB5 s)
theorem qBq{w:World}{g:Nat}{es c}(h:w.heap[g]?=some (.map es c)):(getObj g).run P w= .ok (.map es c) w:=MapKept.run_getObj_map h
theorem qOv{t x y g kt et l s z m}(ho:o.op= .lookup t x y true)(hx:ev env x=some (.map (some g)))(hy:ev env y=some (Str s))(ht:P.underlying t=some (.map kt et))(hkt:P.underlying kt=some .string)
    (hz: ∀w,(zeroValue et).run P w= .ok z w) (hm:m∈rs) (hmp:MapAt m g l):YOp P env rs o (.tuple #[(qK8 l s).getD z,.bool (qK8 l s).isSome]):=λn a w hk hr=>by
  obtain ⟨es,c,h0,hst,hkv⟩:=hmp.mono (hr m hm)
  have hg:w.heap[g]?=some (.map es c):=h0
  rcases qDd s es.toList l 0 hkv with ⟨g1,g2,_⟩|⟨j,v,g1,g2,_,_⟩
  · simp only [execOp,ho,hk.ev hx,hk.ev hy,Instr.lookup,run_underlying ht,Sem.run_bind,Result.andThen_ok,qBq hg,run_checkKey hkt (qB5 s),run_findKey hkt g2,hz,g1,Sem.run_pure]
    rfl
  · simp only [execOp,ho,hk.ev hx,hk.ev hy,Instr.lookup,run_underlying ht,Sem.run_bind,Result.andThen_ok,qBq hg,run_checkKey hkt (qB5 s),run_findKey hkt g2,hz,g1,Sem.run_pure]
    rfl
theorem qCn{t x y g kt et l s z m}(ho:o.op= .lookup t x y false)(hx:ev env x=some (.map (some g)))(hy:ev env y=some (Str s))(ht:P.underlying t=some (.map kt et))(hkt:P.underlying kt=some .string)
    (hz: ∀w,(zeroValue et).run P w= .ok z w) (hm:m∈rs) (hmp:MapAt m g l):YOp P env rs o ((qK8 l s).getD z):=λn a w hk hr=>by
  obtain ⟨es,c,h0,hst,hkv⟩:=hmp.mono (hr m hm)
  have hg:w.heap[g]?=some (.map es c):=h0
  rcases qDd s es.toList l 0 hkv with ⟨g1,g2,_⟩|⟨j,v,g1,g2,_,_⟩
  · simp only [execOp,ho,hk.ev hx,hk.ev hy,Instr.lookup,run_underlying ht,Sem.run_bind,Result.andThen_ok,qBq hg,run_checkKey hkt (qB5 s),run_findKey hkt g2,hz,g1,Sem.run_pure]
    rfl
  · simp only [execOp,ho,hk.ev hx,hk.ev hy,Instr.lookup,run_underlying ht,Sem.run_bind,Result.andThen_ok,qBq hg,run_checkKey hkt (qB5 s),run_findKey hkt g2,hz,g1,Sem.run_pure]
    rfl
theorem qC2{t x y v g kt et l s u i m}(ho:o.op= .mapUpdate t x y v)(hx:ev env x=some (.map (some g)))(hy:ev env y=some (Str s))(hv:ev env v=some u)(ht:P.underlying t=some (.map kt et))(hkt:P.underlying kt=some .string)
    (hi:ms[i]?=some m) (hmp:MapS m g l):EOp P env ms o (λ_:Hp=>undef) (λm'=>MapS m' g (qNL l s u)) (λm'=>ms.set i m'):=λn a w0 w next Q hk hs hn=>by
  obtain ⟨es,c,rfl,hst,hkv⟩:=hmp
  have hg:w.heap[g]?=some (.map es c):=hs.mem (jM hi) g _ (qAd _ _)
  have fin: ∀es' c',Stamped es' c'→kvE es'=kvS (qNL l s u)→(execOp a.eval o).run P w= .ok .skip {w with heap:=w.heap.setIfInBounds g (.map es' c')}→o.wp P a w next Q:=λes' c' h1 h2 hr=>by
    unfold Oper.wp
    rw [hr,Oper.upon_skip]
    refine hn (qAN g (.map es' c')) _ ⟨es',c',O,h1,h2⟩ ?_
    have:=hs.set hi (qAd _ _) (w':={w with heap:=w.heap.setIfInBounds g (.map es' c')}) (o':= .map es' c') O O O xD (by
      funext k
      simp only [hp,qEi]
      by_cases hk':k=g
      · subst hk'
        have:=(Array.getElem?_eq_some_iff.1 hg).1
        simp [jz,this]
      · rw [if_neg hk',jz,if_neg (λe=>hk' e.symm)])
    rw [qBW] at this
    exact this
  have hks: ∀x∈es.toList,IsKey .string x.key:=λx hx'=>by
    have h3:(x.key,x.val)∈kvS l:=by rw [←hkv];exact List.mem_map.2 ⟨x,hx',O⟩
    obtain ⟨p,_,hp⟩:=List.mem_map.1 h3
    injection hp with hp _
    rw [←hp];exact qB5 _
  rcases qDd s es.toList l 0 hkv with ⟨g1,g2,g3⟩|⟨j,v',g1,g2,g4,g6,g5⟩
  · refine fin (es.push {key:=Str s,val:=u,born:=c}) (c+1) (stamped_push hst λx hx' e=>?_) ?_ ?_
    · rcases findNow_spec (qB5 s) es.toList 0 hks with ⟨_,h2⟩|⟨j,e',h1,_,_⟩
      · exact h2 x hx' e
      · rw [g2] at h1;cases h1
    · rw [g3]
      have:=hkv
      simp only [kvE,kvS,Array.toList_push,jO,jb,zT] at this⊢
      rw [this]
    · simp only [execOp,ho,hk.ev hx,hk.ev hy,hk.ev hv,Instr.mapUpdate,run_underlying ht,Sem.run_bind,Result.andThen_ok,qBq hg,run_checkKey hkt (qB5 s),run_findKey hkt g2,run_setObj_map _ hg]
      rfl
  · rw [jj] at g2
    have hj:j<es.size:=by simpa using g4
    have hkj:es[j].key=Str s:=by
      have:=g6
      rw [jN] at this
      rw [show es.toList[j]?=some es[j] by simp [hj]] at this
      simpa using this
    refine fin (es.modify j λe=>{e with key:=Str s,val:=u}) c ?_ ?_ ?_
    · obtain ⟨h1,h2,h3⟩:=hst
      have eb:(es.modify j λe=>{e with key:=Str s,val:=u}).toList.map (·.born)=es.toList.map (·.born):=by
        rw [Array.toList_modify]
        apply zV
        intro i'
        rw [jN,jN,List.getElem?_modify]
        cases es.toList[i']? with
        |none=>rfl
        |some e=>simp only [zq];congr 1;split<;>rfl
      have ek:(es.modify j λe=>{e with key:=Str s,val:=u}).toList.map (·.key)=es.toList.map (·.key):=by
        rw [Array.toList_modify]
        apply zV
        intro i'
        rw [jN,jN,List.getElem?_modify]
        by_cases hji:j=i'
        · subst hji
          rw [show es.toList[j]?=some es[j] by simp [hj]]
          simp [hkj]
        · cases es.toList[i']? with
          |none=>rfl
          |some e=>show Option.map _ (some (if j=i' then _ else e))=_;rw [if_neg hji]
      refine⟨λx hx'=>?_,by rw [eb];exact h2,by rw [ek];exact h3⟩
      have:x.born∈(es.modify j λe=>{e with key:=Str s,val:=u}).toList.map (·.born):=List.mem_map.2 ⟨x,hx',O⟩
      rw [eb] at this
      obtain ⟨y,hy',hye⟩:=List.mem_map.1 this
      rw [←hye];exact h1 y hy'
    · rw [←g5 u]
      simp only [kvE,Array.toList_modify]
    · have hgk:((es[j]?).map (·.key)).getD (Str s)=Str s:=by simp [hj,hkj]
      simp only [execOp,ho,hk.ev hx,hk.ev hy,hk.ev hv,Instr.mapUpdate,run_underlying ht,Sem.run_bind,Result.andThen_ok,qBq hg,run_checkKey hkt (qB5 s),run_findKey hkt g2,hgk,qKO,run_setObj_map _ hg]
      rfl
def ItM(m:Hp)(gi g:Nat)(es:Array MapEntry)(c:Nat)(left:MP):Prop:= ∃seen,m=qAN gi (.mapIter (some g) c seen c)∧kvE (leftOf es seen)=kvS left
theorem qRi{L:MP}{A B:List (Value×Value)}{k v:Value}(h:kvS L=A++(k,v)::B): ∃a p b,L=a++p::b∧kvS a=A∧kvS b=B∧k=Str p.1∧v=p.2:=by
  unfold kvS at h
  obtain ⟨a,b,rfl,ha,hb⟩:=List.map_eq_append_iff.1 h
  obtain ⟨p,b',rfl,hp,hb'⟩:=List.map_eq_cons_iff.1 hb
  injection hp with h1 h2
  exact⟨a,p,b',O,ha,hb',h1.symm,h2.symm⟩
theorem qRZ{es:Array MapEntry}{seen:Array Nat}{e:MapEntry}(hn:(es.toList.map (·.born)).Nodup)(he:e∈(leftOf es seen).toList):
    ∃A B,(leftOf es seen).toList=A++e::B∧(leftOf es (seen.push e.born)).toList=A++B:=by
  obtain ⟨A,B,hAB⟩:=List.append_of_mem he
  refine⟨A,B,hAB,?_⟩
  have h1:(leftOf es (seen.push e.born)).toList=(leftOf es seen).toList.filter (λx=>!(x.born==e.born)):=by
    unfold leftOf
    rw [Array.toList_filter,Array.toList_filter,zl]
    congr 1
    funext x
    rw [Array.contains_push]
    cases h1:seen.contains x.born<;>cases h2:(x.born==e.born)<;>simp
  have hsub:((leftOf es seen).toList.map (·.born)).Nodup:=by
    unfold leftOf
    rw [Array.toList_filter]
    exact hn.sublist (List.filter_sublist.map _)
  rw [h1,hAB]
  rw [hAB,jO,jb,List.nodup_append] at hsub
  obtain ⟨_,h3,h4⟩:=hsub
  rw [List.nodup_cons] at h3
  rw [jo,jl]
  simp only [beq_self_eq_true,Bool.not_true,Bool.false_eq_true,if_false]
  congr 1
  · rw [List.filter_eq_self]
    intro x hx
    have:=h4 x.born (List.mem_map.2 ⟨x,hx,O⟩) e.born (.head _)
    simpa using this
  · rw [List.filter_eq_self]
    intro x hx
    have:x.born≠e.born:=λq=>h3.1 (q▸List.mem_map.2 ⟨x,hx,O⟩)
    simpa using this
theorem qKl{t x kt et g es c l m}(ho:o.op= .range t x)(hx:ev env x=some (.map (some g)))(ht:P.underlying t=some (.map kt et))(hm:m∈ms)(hg:m g=some (.map es c))(hkv:kvE es=kvS l):
    EOp P env ms o (λx:Nat×Hp=>Ptr x.1) (λx=>ItM x.2 x.1 g es c l) (λx=>ms++ [x.2]):= .ofRun λn a w0 w hk hs=>by
  refine⟨(w.heap.size,qAN w.heap.size (.mapIter (some g) c #[] c)),w.alloc (.mapIter (some g) c #[] c),?_,⟨#[],O,?_⟩,hs.alloc _⟩
  · simp only [execOp,ho,hk.ev hx,run_range_map w t kt et g es c ht (hs.mem hm g _ hg)]
    rw [Sem.run_bind,run_range_map w t kt et g es c ht (hs.mem hm g _ hg)]
    rfl
  · rw [←hkv]
    unfold leftOf
    rw [Array.filter_eq_self.2 (λx _=>xD)]
def ItL(m:Hp)(gi g:Nat)(es:Array MapEntry)(c:Nat)(left:MP)(p:xA×Value):Prop:= ∃(seen:Array Nat) (e:MapEntry),m=qAN gi (.mapIter (some g) c (seen.push e.born) c)∧kvE (leftOf es (seen.push e.born))=kvS left∧e∈es.toList∧e.key=Str p.1∧e.val=p.2
theorem ItL.it{m gi g es c left p}(h:ItL m gi g es c left p):ItM m gi g es c left:=by
  obtain ⟨seen,e,h1,h2,_⟩:=h
  exact⟨_,h1,h2⟩
theorem qKo{x gi g es c left p mi m}(ho:o.op= .entry x)(hx:ev env x=some (Ptr gi))(hm:m∈rs)(hg:m g=some (.map es c))(hst:Stamped es c)(hmi:mi∈rs)(hit:ItL mi gi g es c left p):YOp P env rs o (.tuple #[Str p.1,p.2]):=λn a w hk hr=>by
  obtain ⟨seen,e,rfl,_,he,h1,h2⟩:=hit
  have hgi:w.heap[gi]?=some (.mapIter (some g) c (seen.push e.born) c):=hr _ hmi gi _ (qAd _ _)
  have hgm:w.heap[g]?=some (.map es c):=hr _ hm g _ hg
  simp only [execOp,ho,hk.ev hx]
  rw [Sem.run_bind,run_entry_at w gi g c seen es c e hgi hgm he hst.2.1,h1,h2]
  rfl
def nxtM(p:Option (xA×Value)):Value:=match p with|none=> .tuple #[.bool false]|some p=> .tuple #[.bool true,Str p.1,p.2]
theorem qNX{x gi g es c left i m mi}(ho:o.op= .next x false)(hx:ev env x=some (Ptr gi))(hm:m∈ms)(hg:m g=some (.map es c))(hst:Stamped es c)(hi:ms[i]?=some mi)(hit:ItM mi gi g es c left):
    EOp P env ms o (λx:Option (xA×Value)×Hp=>nxtM x.1) (λx=>(x.1=none∧left= []∧ItM x.2 gi g es c [])∨ ∃p a b,x.1=some p∧left=a++p::b∧ItL x.2 gi g es c (a++b) p) (λx=>ms.set i x.2):= .ofRun λn a w0 w hk hs=>by
  obtain ⟨seen,rfl,hkv⟩:=hit
  have hgi:w.heap[gi]?=some (.mapIter (some g) c seen c):=hs.mem (jM hi) gi _ (qAd _ _)
  have hgm:w.heap[g]?=some (.map es c):=hs.mem hm g _ hg
  rcases run_next_at (P:=P) w o.type gi g c c seen es c hgi hgm hst.1 (jJ _) with ⟨h0,hr⟩|⟨e,he,w1,hw1,hr⟩
  · refine⟨(none,qAN gi (.mapIter (some g) c seen c)),w,?_,.inl ⟨O,?_,seen,O,?_⟩,?_⟩
    · simp only [execOp,ho,hk.ev hx]
      rw [Sem.run_bind,hr];rfl
    · have h1:=congrArg List.length hkv
      simp only [kvE,kvS,jP,Array.length_toList] at h1
      exact List.length_eq_zero_iff.1 xB
    · have:leftOf es seen= #[]:=Array.eq_empty_of_size_eq_zero h0
      rw [this];rfl
    · have e:ms.set i (qAN gi (.mapIter (some g) c seen c))=ms:=by
        apply zV
        intro j
        rw [zC]
        split
        · subst_vars
          split
          · exact hi.symm
          · rw [jd xB]
        · rfl
      show St w0 (ms.set i (qAN gi (.mapIter (some g) c seen c))) w
      rw [e];exact hs
  · obtain ⟨A,B,h1,h2⟩:=qRZ hst.2.1 he
    have h3:kvS left=(A.map λe=>(e.key,e.val))++(e.key,e.val)::(B.map λe=>(e.key,e.val)):=by
      rw [←hkv];unfold kvE;rw [h1];simp
    obtain ⟨a',p,b',rfl,ha,hb,hk1,hv1⟩:=qRi h3
    refine⟨(some p,qAN gi (.mapIter (some g) c (seen.push e.born) c)),ChangeMaps.setBlock w1 gi (.mapIter (some g) c (seen.push e.born) c),?_,.inr ⟨p,a',b',O,O,seen,e,O,?_,(mem_left he).1,hk1,hv1⟩,?_⟩
    · simp only [execOp,ho,hk.ev hx]
      rw [Sem.run_bind,hr,hk1,hv1];rfl
    · unfold kvE
      rw [h2,jO]
      unfold kvS at ha hb⊢
      rw [jO,ha,hb]
    · have hs1:St w0 ms w1:=by
        rcases hw1 with rfl|rfl
        · exact hs
        · exact hs.drewS
      have hgi1:w1.heap[gi]?=some (.mapIter (some g) c seen c):=hs1.mem (jM hi) gi _ (qAd _ _)
      have:=hs1.set hi (qAd _ _) (w':=ChangeMaps.setBlock w1 gi (.mapIter (some g) c (seen.push e.born) c)) (o':= .mapIter (some g) c (seen.push e.born) c) O O O (by simp [ChangeMaps.setBlock]) (by
        funext k
        simp only [hp,qEi,ChangeMaps.setBlock]
        by_cases hk':k=gi
        · subst hk'
          have:=(Array.getElem?_eq_some_iff.1 hgi1).1
          simp [jz,this]
        · rw [if_neg hk',jz,if_neg (λe=>hk' e.symm)])
      rw [qBW] at this
      exact this
end
def qLf(P:Program)(f:FuncId)(caps:List Value)(Fr:Hp){Y:Type}(Nx:Y→List Value→Y→Prop)(fin:Y→Prop)(y0:Y):Prop:=
  ∀{X:Type} (M:X→Hp) (I:Y→X→Prop) (S:X→Prop) (l:Nat) (x0:X) (w0:Wd),I y0 x0→
    (∀y vs y',Nx y vs y'→ ∀x,I y x→qHh P l Fr M w0.kp vs x (I y') S)→
    ∀w,St w0 [Fr,M x0] w→Calls P f (.func (.yield l) #[] #[]::caps).toArray w λe w'=> ∃x,(∃v,e= .returned v)∧((∃y,fin y∧I y x)∨S x)∧St w0 [Fr,M x] w'
section
variable{P:Program}{n:Nat}{env:Env}{w0:Wd}{ms:List Hp}{ops:Array Oper}{Q:Exit→Act→World→Prop}{K:Act→World→Prop}{l:Nat}
theorem qLf.walk{f fn c}{caps:List Value}{Fr:Hp}{Y:Type}{Nx:Y→List Value→Y→Prop}{fin:Y→Prop}{y0:Y}(hf:P.funcs[f]?=some fn)(hb:fn.body=some c)(hn:fn.ntmps=n)(hl:Nat.ble (caps.length+1) n=true)
    (h: ∀{X:Type} (M:X→Hp) (I:Y→X→Prop) (S:X→Prop) (l:Nat) (x0:X) (w0:Wd),w0.own= []→I y0 x0→
      (∀y vs y',Nx y vs y'→ ∀x,I y x→qHh P l Fr M w0.kp vs x (I y') S)→
      J n (qCX 0 (.func (.yield l) #[] #[]::caps)) w0 [Fr,M x0] (c.wp P (bodyPostM Fence.wide 0 P fn λe w'=> ∃x,(∃v,e= .returned v)∧((∃y,fin y∧I y x)∨S x)∧St w0 [Fr,M x] w'))):qLf P f caps Fr Nx fin y0:=by
  intro X M I S l x0 w0 hx0 hy w hs
  have hs1:St {w0 with own:= []} [Fr,M x0] w:=⟨hs.os,hs.out,hs.tape,hs.size,hs.dj,hs.le,hs.kd,hs.kl⟩
  have hl':(Value.func (.yield l) #[] #[]::caps).length≤n:=by simpa [Nat.ble_eq] using hl
  refine(callsIn_wide (n:=0)).1 ((callsIn_of_wp_marks hf hb trivial (wpIn_wide.2 (h M I S l x0 {w0 with own:= []} O hx0 hy _ w ⟨O,?_,λt v ht=>?_⟩ hs1))).mono ?_)
  · simp only [hn,Array.size_append,Array.size_replicate,zf];omega
  · obtain ⟨_,h2⟩:=qCN _ 0 t v ht
    simp only [zr] at h2
    have hlt:=(List.getElem?_eq_some_iff.1 h2).1
    simp only [hn]
    rw [zj (by simpa using hlt)]
    simpa using h2
  · rintro e w' ⟨x,he,hx,hs'⟩
    exact⟨x,he,hx,hs'.os,hs'.out,hs'.tape,hs'.size,hs'.dj,hs'.le,hs'.kd,hs'.kl⟩
theorem J.i2{X Y:Type}{g:Operand}{ps:List Tmp}{assign body:Code}{gf:FuncId}{lb:Array Value}{Nx:Y→List Value→Y→Prop}{fin:Y→Prop}{y0:Y}
    (own:X→List Hp) (B:List Hp) (I:Y→X→Prop) (S:Code→X→Prop) (x0:X)
    (hg:ev env g=some (.func (.func gf) #[] lb)) (ent:qC5 P gf) (hseq: ∀Fr,(∀m∈B,Le m Fr)→qLf P gf lb.toList Fr Nx fin y0)
    (hps: ∀y vs y',Nx y vs y'→vs.length=ps.length) (hpn:ps.all (Nat.blt · n)=true) (h0:I y0 x0)
    (hbody: ∀y vs y' x (l:Nat) (w1 w2:Wd),Nx y vs y'→I y x→ ∀(K:Act→World→Prop) (Post:Exit→Act→World→Prop),
       (∀env2 ms2,J n env2 w2 ms2 (body.wpIn (RF l) 0 P Post)→J n env2 w1 ms2 K)→
       (∀env2 x',I y' x'→J n env2 w2 (own x'++B) (Post .normal))→
       (∀env2 x',S .ret x'→J n env2 w2 (own x'++B) (Post .ret))→
       (∀env2 x' id,S (.exit id) x'→J n env2 w2 (own x'++B) (Post (.exit id)))→
       J n (qT8 ps vs env) w1 (own x++B) (assign.wpIn (RF l) 0 P (Exit.then K (λ_ _ _=>False))))
    (hdone: ∀w1 x y,Ext w1 w0→fin y→I y x→J n env w1 (own x++B) (Q .normal))
    (hstop: ∀w1 x c,Ext w1 w0→S c x→J n env w1 (own x++B) (c.wp P Q)):
    J n env w0 (own x0++B) ((Code.rangeFunc g ps.toArray assign body).wp P Q):=λa w hk hs=>by
  refine(wpIn_wide (n:=0)).1 (wpIn_rangeFunc ?_)
  intro fn _
  obtain ⟨rec,hrec⟩: ∃rec:LoopState→Option Code→Loop,rec=λst pe=>{state:=st,pending:=pe,fn,tmps:=a.tmps,params:=ps.toArray,assign,body,defers:=w.heap.size}:=⟨_,rfl⟩
  obtain ⟨W1,hW1⟩: ∃W1,(w.alloc (.deferred (some []))).alloc (.loop (rec .ready none))=W1:=⟨_,rfl⟩
  obtain ⟨D,hD⟩: ∃D,D=w.heap.size:=⟨_,rfl⟩
  have hkD:w0.kp D=none:=by
    cases hkp:w0.kp D with
    |none=>rfl
    |some o=>have:=qFs (hs.kl D o hkp);omega
  have hB:Djs B:=by
    have:=qAa.1 hs.dj
    rw [jU] at this
    exact qAa.2 this.2.1
  let wi:Wd:=⟨w0.w,U [w0.kp,qAN D (.deferred (some []))],[]⟩
  have hkL:wi.kp (D+1)=none:=by
    show U [w0.kp,qAN D (.deferred (some []))] (D+1)=none
    cases hkp:w0.kp (D+1) with
    |none=>simp only [U,hkp,qAN];rw [if_neg xB]
    |some o=>have:=qFs (hs.kl (D+1) o hkp);omega
  have hst:St wi ((qAN (D+1) (.loop (rec .ready none))::own x0)++B) W1:=by
    have h1:=hs.alloc (.deferred (some []))
    have h2:=h1.alloc (.loop (rec .ready none))
    rw [hW1,World.size_alloc,←hD] at h2
    have h3:St w0 (((qAN (D+1) (.loop (rec .ready none))::own x0)++B)++ [qAN D (.deferred (some []))]) W1:=h2.perm (by
      rw [show∀(s d:Hp) (A B:List Hp),((s::A)++B)++ [d]=s::(A++B++ [d]) from λs d A B=>rfl]
      exact(ju _ _).symm)
    exact h3.hide.own
  have hdj0:Djs (qAN (D+1) (.loop (rec .ready none))::own x0):=by
    have:=qAa.1 hst.dj
    rw [jU] at this
    exact qAa.2 this.1
  have hcall:=hseq (U B) (λm hm=>qFr hB hm) (λy:X×LoopState×Option Code=>U (qAN (D+1) (.loop (rec y.2.1 y.2.2))::own y.1))
    (λi y=>I i y.1∧y.2=(.ready,none)∧Djs (qAN (D+1) (.loop (rec y.2.1 y.2.2))::own y.1))
    (λy=> ∃c,S c y.1∧y.2=(.done,some c)∧Djs (qAN (D+1) (.loop (rec y.2.1 y.2.2))::own y.1)) (D+1) (x0,.ready,none) wi ⟨h0,rfl,hdj0⟩ ?_ W1 hst.group
  · refine⟨D+1,[qKy D],W1,{target:= .fn (.func gf) lb,args:= #[.func (.yield (D+1)) #[] #[]]},W1,gf,#[.func (.yield (D+1)) #[] #[]]++lb,W1,?_,?_,λ_ _=>trivial,?_,λh=>by simp [Fence.wide] at h,?_⟩
    · rw [←hW1,hrec,hD];exact run_enterLoop_outer _ _ _ _ _
    · have hgv:=hk.ev hg
      simp only [resolve,hgv]
      simp [Deferred.ofValue,Act.eval,Sem.run_pure]
    · show(invoke (.fn (.func gf) lb) #[.func (.yield (D+1)) #[] #[]]).run P W1=_
      simp only [invoke]
      exact ent _ _
    · rw [show(#[.func (.yield (D+1)) #[] #[]]++lb:Array Value)=(.func (.yield (D+1)) #[] #[]::lb.toList).toArray by apply Array.ext';simp]
      refine((callsIn_wide (n:=0-1)).2 hcall).mono ?_
      rintro e w' ⟨⟨x,st,pe⟩,⟨v,rfl⟩,hor,hs'⟩
      have hend: ∀(st':LoopState) (pe':Option Code),st'≠ .busy→Djs (qAN (D+1) (.loop (rec st' pe'))::own x)→St wi [U B,U (qAN (D+1) (.loop (rec st' pe'))::own x)] w'→
          ∃w4,(Instr.endLoop (D+1)).run P w'= .ok pe' w4∧St ⟨w0.w,U [w0.kp,qAN D (.deferred (some []))],qKy D::w0.own⟩ (own x++B) w4:=by
        intro st' pe' hne hdj hss
        have h1:=hss.ungroup hdj hB
        have h2:St wi ((own x++B)++ [qAN (D+1) (.loop (rec st' pe'))]) w':=h1.perm (ju _ _)
        have h3:=h2.hide
        have hl:=h3.kl (D+1) (.loop (rec st' pe')) (qBA hkL)
        have hpe:(rec st' pe').pending=pe':=by rw [hrec]
        refine⟨w'.putObj (D+1) (.loop {rec st' pe' with state:= .exhausted}),(run_endLoop (r:=rec st' pe') hl (by rw [hrec];exact hne)).trans (congrArg (λz=>Result.ok z _) hpe),?_⟩
        have h4:=h3.rekey (ow':=qKy D::w0.own) hkL (.loop {rec st' pe' with state:= .exhausted})
        exact h4.weak (w0:=⟨w0.w,U [w0.kp,qAN D (.deferred (some []))],qKy D::w0.own⟩) O (λg o ho=>by
          show U [wi.kp,_] g=some o
          simp only [U]
          rw [show wi.kp g=some o from ho])
      have hx:Ext ⟨w0.w,U [w0.kp,qAN D (.deferred (some []))],qKy D::w0.own⟩ w0:=
        ⟨rfl,[D],rfl,by simp,λx hx=>by simp only [jS] at hx;subst hx;exact hkD,λx hx=>by simp only [jS] at hx;subst hx;exact qBA hkD,λg o ho=>by simp only [U,ho]⟩
      have hkn:KnD (Wd.ds ⟨w0.w,U [w0.kp,qAN D (.deferred (some []))],qKy D::w0.own⟩) n env {a with defers:= [qKy D]++a.defers}:=⟨by rw [hk.1];rfl,hk.2.1,hk.2.2⟩
      rcases hor with ⟨y,hfy,hI,hst',hdj⟩|⟨c,hS,hst',hdj⟩
      · cases hst'
        obtain ⟨w4,hr4,hs4⟩:=hend .ready none xD hdj hs'
        exact⟨none,w4,hr4,hdone _ x y hx hfy hI _ w4 hkn hs4⟩
      · cases hst'
        obtain ⟨w4,hr4,hs4⟩:=hend .done (some c) xD hdj hs'
        exact⟨some c,w4,hr4,wpIn_wide.2 (hstop _ x c hx hS _ w4 hkn hs4)⟩
  ·
    rintro y vs y' hi ⟨x,st,pe⟩ ⟨hI,hst',hdj⟩
    cases hst'
    intro w0' hkp W hsW
    have hs1:=hsW.ungroup hdj hB
    have hs2:St w0' ((own x++B)++ [qAN (D+1) (.loop (rec .ready none))]) W:=hs1.perm (ju _ _)
    have hkL':w0'.kp (D+1)=none:=by
      rcases hs2.kd _ (jW _ (.head _)) (D+1) with h1|h1
      · exact h1
      · rw [qAd] at h1;cases h1
    have hs3:=hs2.hide.own (ow':=([]:List Deferred))
    have hl:=hs3.kl (D+1) (.loop (rec .ready none)) (qBA hkL')
    have hy:=run_yield (P:=P) (args:=vs.toArray) hl (by rw [hrec];simpa using hps y vs y' hi)
    rw [hrec] at hy
    refine⟨fn,_,assign,body,hy,?_⟩
    have hfin: ∀(jump:Option Code) (x':X) (w:World),St ⟨w0'.w,U [w0'.kp,qAN (D+1) (.loop (rec .busy none))],[]⟩ (own x'++B) w→
        ∃w',(Instr.endRound (D+1) jump).run P w= .ok (.bool jump.isNone) w'∧Djs (qAN (D+1) (.loop (rec (if jump.isNone then .ready else .done) jump))::own x')∧
          St w0' [U B,U (qAN (D+1) (.loop (rec (if jump.isNone then .ready else .done) jump))::own x')] w':=by
      intro jump x' w hsw
      have hl2:=hsw.kl (D+1) (.loop (rec .busy none)) (qBA hkL')
      refine⟨_,run_endRound jump hl2,?_⟩
      have h4:=hsw.rekey (ow':=([]:List Deferred)) hkL' (.loop {rec .busy none with state:=if jump.isNone then .ready else .done,pending:=jump})
      rw [show({rec .busy none with state:=if jump.isNone then .ready else .done,pending:=jump}:Loop)=rec (if jump.isNone then .ready else .done) jump by rw [hrec]] at h4⊢
      have h5:St w0' ((own x'++B)++ [qAN (D+1) (.loop (rec (if jump.isNone then .ready else .done) jump))]) (w.putObj (D+1) (.loop (rec (if jump.isNone then .ready else .done) jump))):=by
        have hd2:Djs (own x'++B):=h4.dj
        refine⟨h4.os,h4.out,h4.tape,h4.size,?_,?_,?_,?_⟩
        · rw [qAa,jU]
          refine⟨qAa.1 hd2,by simp,λa ha b hb=>?_⟩
          simp only [jS] at hb
          subst hb
          intro g
          by_cases e:g=D+1
          · subst e
            rcases h4.kd a ha (D+1) with h1|h1
            · rw [show(⟨w0'.w,U [w0'.kp,qAN (D+1) (.loop (rec (if jump.isNone then .ready else .done) jump))],[]⟩:Wd).kp (D+1)=some _ from qBA hkL'] at h1;cases h1
            · exact .inl h1
          · right;simp only [qAN];rw [if_neg e]
        · intro g o ho
          obtain ⟨m,hm,hg⟩:=qCR ho
          rcases List.mem_append.1 hm with hm|hm
          · exact h4.mem hm g o hg
          · simp only [jS] at hm
            subst hm
            by_cases e:g=D+1
            · subst e;exact h4.kl _ o ((qBA hkL').trans ((qAd _ _).symm.trans hg))
            · simp only [qAN] at hg;rw [if_neg e] at hg;cases hg
        · intro m hm g
          rcases List.mem_append.1 hm with hm|hm
          · rcases h4.kd m hm g with h1|h1
            · left
              cases hq:w0'.kp g with
              |none=>rfl
              |some o=>
                have:U [w0'.kp,qAN (D+1) (.loop (rec (if jump.isNone then .ready else .done) jump))] g=some o:=by simp only [U,hq]
                rw [show(⟨w0'.w,U [w0'.kp,qAN (D+1) (.loop (rec (if jump.isNone then .ready else .done) jump))],[]⟩:Wd).kp g=some o from this] at h1;cases h1
            · exact .inr h1
          · simp only [jS] at hm
            subst hm
            by_cases e:g=D+1
            · subst e;exact .inl hkL'
            · right;simp only [qAN];rw [if_neg e]
        · exact λg o ho=>h4.kl g o (by show U [w0'.kp,_] g=some o;simp only [U,ho])
      have h6:St w0' ((qAN (D+1) (.loop (rec (if jump.isNone then .ready else .done) jump))::own x')++B) (w.putObj (D+1) (.loop (rec (if jump.isNone then .ready else .done) jump))):=h5.perm (ju _ _).symm
      have hdj6:=qAa.1 h6.dj
      rw [jU] at hdj6
      exact⟨qAa.2 hdj6.1,h6.group⟩
    have key: ∀R:Ending→World→Prop,(∀x' w',I y' x'→Djs (qAN (D+1) (.loop (rec .ready none))::own x')→St w0' [U B,U (qAN (D+1) (.loop (rec .ready none))::own x')] w'→R (.returned (.bool true)) w')→
        (∀c x' w',S c x'→Djs (qAN (D+1) (.loop (rec .done (some c)))::own x')→St w0' [U B,U (qAN (D+1) (.loop (rec .done (some c)))::own x')] w'→R (.returned (.bool false)) w')→
        RoundIn Fence.wide 0 P (D+1) fn ((ps.zip vs).foldl (λt (p,v)=>t.setIfInBounds p v) a.tmps) assign body W R:=by
      intro R hR1 hR2
      refine roundIn_of_wpIn trivial ?_
      refine hbody y vs y' x (D+1) ⟨w0'.w,U [w0'.kp,qAN (D+1) (.loop (rec .ready none))],[]⟩ ⟨w0'.w,U [w0'.kp,qAN (D+1) (.loop (rec .busy none))],[]⟩ hi hI _ (roundPost P (D+1) R) ?_ ?_ ?_ ?_ _ W ?_ hs3
      · intro env2 ms2 hj a1 w1 hk1 hs4
        have hl4:=hs4.kl (D+1) (.loop (rec .ready none)) (qBA hkL')
        refine⟨w1.putObj (D+1) (.loop {rec .ready none with state:= .busy}),run_beginRound hl4 (by rw [hrec]),?_⟩
        have h4:=hs4.rekey (ow':=([]:List Deferred)) hkL' (.loop {rec .ready none with state:= .busy})
        rw [show({rec .ready none with state:= .busy}:Loop)=rec .busy none by rw [hrec]] at h4⊢
        exact hj a1 _ hk1 h4
      · intro env2 x' hI' a1 w1 hk1 hs4
        obtain ⟨w',hr',hdj',hs'⟩:=hfin none x' w1 hs4
        exact⟨_,w',hr',hR1 x' w' hI' hdj' hs'⟩
      · intro env2 x' hS' a1 w1 hk1 hs4
        obtain ⟨w',hr',hdj',hs'⟩:=hfin (some .ret) x' w1 hs4
        exact⟨_,w',hr',hR2 _ x' w' hS' hdj' hs'⟩
      · intro env2 x' id hS' a1 w1 hk1 hs4
        obtain ⟨w',hr',hdj',hs'⟩:=hfin (some (.exit id)) x' w1 hs4
        exact⟨_,w',hr',hR2 _ x' w' hS' hdj' hs'⟩
      · exact⟨O,Kn.ps (n:=n) (ps:=ps) (vs:=vs) (env:=env) (t:=a.tmps) (ds:= []) hpn ⟨hk.2.1,hk.2.2⟩⟩
    have hk2:=key (λe w'=> ∃(x':X×LoopState×Option Code) (b:Bool),e= .returned (.bool b)∧(b=true→I y' x'.1∧x'.2=(.ready,none)∧Djs (qAN (D+1) (.loop (rec x'.2.1 x'.2.2))::own x'.1))∧(b=false→ ∃c,S c x'.1∧x'.2=(.done,some c)∧Djs (qAN (D+1) (.loop (rec x'.2.1 x'.2.2))::own x'.1))∧St w0' [U B,U (qAN (D+1) (.loop (rec x'.2.1 x'.2.2))::own x'.1)] w')
      (λx' w' hI' hdj' hs'=>⟨(x',.ready,none),true,rfl,λ_=>⟨hI',rfl,hdj'⟩,(λh=>nomatch h),hs'⟩) (λc x' w' hS' hdj' hs'=>⟨(x',.done,some c),false,rfl,(λh=>nomatch h),λ_=>⟨c,hS',rfl,hdj'⟩,hs'⟩)
    simpa using hk2
end
end Go.Fw