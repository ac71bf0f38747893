/- Rules for walking a translated function, over heaps that are apart: for any program. -/
import Derived.Test.YtmemgokiolfdoaaGreatDoorTopSpG7
import Derived.MapKept
import Derived.Maps.RangeRun
set_option linter.unusedSimpArgs false
set_option linter.unusedVariables false
namespace Go.Fw
open Go Go.RowKit Go.MapKept
abbrev MP:=List (xA×Value)
def kvS(l:MP):List (Value×Value):=l.map λp=>(Str p.1,p.2)
def kvE(es:Array MapEntry):List (Value×Value):=es.toList.map λe=>(e.key,e.val)
def MapAt(m:Hp)(g:Nat)(l:MP):Prop:= ∃es clock,m g=some (.map es clock)/\Stamped es clock/\kvE es=kvS l
def MapS(m:Hp)(g:Nat)(l:MP):Prop:= ∃es clock,m=qAd g (.map es clock)/\Stamped es clock/\kvE es=kvS l
theorem MapS.at{m g l}(h:MapS m g l):MapAt m g l:=by
  obtain ⟨es,c,rfl,h1,h2⟩:=h
  exact⟨es,c,qAk _ _,h1,h2⟩
theorem MapAt.mono{m m' g l}(h:MapAt m g l)(hl:Le m m'):MapAt m' g l:=
  let ⟨es,c,h0,h1,h2⟩:=h
  ⟨es,c,hl _ _ h0,h1,h2⟩
theorem MapS.nil(g:Nat):MapS (qAd g (.map #[] 0)) g []:=⟨#[],0,rfl,stamped_empty 0,rfl⟩
def qLT:MP->xA->Option Value
  | [],_=>none
  |p::r,k=>if p.1=k then some p.2 else qLT r k
def qNk:MP->xA->Value->MP
  | [],k,v=> [(k,v)]
  |p::r,k,v=>if p.1=k then(k,v)::r else p::qNk r k v
theorem qQV{a b:xA}:((⟨a.toArray⟩:ByteArray)==⟨b.toArray⟩)=decide (a=b):=by
  have e:((⟨a.toArray⟩:ByteArray)==⟨b.toArray⟩)=(a.toArray==b.toArray):=rfl
  rw [e]
  by_cases h:a=b
  . subst h;simp
  . rw [yb h,beq_eq_false_iff_ne]
    exact λe=>h (List.toArray_inj e)
theorem qD0(k:xA): ∀(es:List MapEntry) (l:MP) (i:Nat),es.map (λe=>(e.key,e.val))=kvS l->
    (qLT l k=none/\Instr.findNow .string (Str k) es i=some none/\qNk l k=λv=>l++ [(k,v)])\/
    ∃j v,qLT l k=some v/\Instr.findNow .string (Str k) es i=some (some (i+j,v))/\j<es.length/\(es.map (·.key))[j]?=some (Str k)/\ ∀x,(es.modify j λe=>{e with key:=Str k,val:=x}).map (λe=>(e.key,e.val))=kvS (qNk l k x)
  | [],[],_,_=> .inl ⟨rfl,rfl,by funext v;rfl⟩
  | [],_::_,_,h=>by cases h
  |_::_,[],_,h=>by cases h
  |e::es,p::l,i,h=>by
    simp only [kvS,jY,List.cons.injEq] at h
    obtain ⟨h1,h2⟩:=h
    injection h1 with hk hv
    by_cases hp:p.1=k
    . refine .inr ⟨0,p.2,by rw [qLT,yX hp],?_,by simp,by simp [hk,hp],λx=>?_⟩
      . unfold Instr.findNow
        rw [hk]
        simp only [Instr.sameNow,qQV,ya hp.symm,hv,zc]
      . rw [qNk,yX hp]
        simp only [List.modify_zero_cons,jY,kvS,h2]
    . have hne: ¬k=p.1:=λe=>hp e.symm
      have hf:Instr.findNow .string (Str k) (e::es) i=Instr.findNow .string (Str k) es (i+1):=by
        rw [Instr.findNow,hk]
        simp only [Instr.sameNow,qQV,yb hne]
      rw [hf]
      rcases qD0 k es l (i+1) h2 with ⟨g1,g2,g3⟩|⟨j,v,g1,g2,g3,g5,g4⟩
      . refine .inl ⟨by rw [qLT,yW hp];exact g1,g2,?_⟩
        funext v
        rw [qNk,yW hp,g3];rfl
      . refine .inr ⟨j+1,v,by rw [qLT,yW hp];exact g1,by rw [g2];congr 3;omega,by simp;omega,by simpa using g5,λx=>?_⟩
        have:=g4 x
        rw [qNk,yW hp]
        simp only [List.modify_succ_cons,jY,kvS] at this⊢
        rw [this,hk,hv]
section
variable{P:Program}{env:Env}{rs ms:List Hp}{o:Oper}
theorem qGC{t}(ho:o.op= .makeMap t none):EOp P env ms o (λg:Nat=> .map (some g)) (λ_=>True) (λg=>ms++ [qAd g (.map #[] 0)]):= .ofRun λn a w0 w hk hs=>
  ⟨w.heap.size,w.alloc (.map #[] 0),by simp only [execOp,ho,Option.map_none];rfl,yd,hs.alloc _⟩
theorem qCI(s:xA):IsKey .string (Str s):=trivial
theorem qKt(s:xA)(w:World):(Instr.keyThatStays (Str s) (Str s)).run P w= .ok (Str s) w:=run_keyThatStays (qCI s)
theorem qCw{w:World}{g:Nat}{es c}(h:w.heap[g]?=some (.map es c)):(getObj g).run P w= .ok (.map es c) w:=MapKept.run_getObj_map h
theorem qPH{t x y g kt et l s z m}(ho:o.op= .lookup t x y true)(hx:ev env x=some (.map (some g)))(hy:ev env y=some (Str s))(ht:P.underlying t=some (.map kt et))(hkt:P.underlying kt=some .string)
    (hz: ∀w,(zeroValue et).run P w= .ok z w) (hm:m∈rs) (hmp:MapAt m g l):YOp P env rs o (.tuple #[(qLT l s).getD z,.bool (qLT l s).isSome]):=λn a w hk hr=>by
  obtain ⟨es,c,h0,hst,hkv⟩:=hmp.mono (hr m hm)
  have hg:w.heap[g]?=some (.map es c):=h0
  rcases qD0 s es.toList l 0 hkv with ⟨g1,g2,_⟩|⟨j,v,g1,g2,_,_⟩
  . simp only [execOp,ho,hk.ev hx,hk.ev hy,Instr.lookup,run_underlying ht,Sem.run_bind,Result.andThen_ok,qCw hg,run_checkKey hkt (qCI s),run_findKey hkt g2,hz,g1,Sem.run_pure]
    rfl
  . simp only [execOp,ho,hk.ev hx,hk.ev hy,Instr.lookup,run_underlying ht,Sem.run_bind,Result.andThen_ok,qCw hg,run_checkKey hkt (qCI s),run_findKey hkt g2,hz,g1,Sem.run_pure]
    rfl
theorem qCt{t x y g kt et l s z m}(ho:o.op= .lookup t x y false)(hx:ev env x=some (.map (some g)))(hy:ev env y=some (Str s))(ht:P.underlying t=some (.map kt et))(hkt:P.underlying kt=some .string)
    (hz: ∀w,(zeroValue et).run P w= .ok z w) (hm:m∈rs) (hmp:MapAt m g l):YOp P env rs o ((qLT l s).getD z):=λn a w hk hr=>by
  obtain ⟨es,c,h0,hst,hkv⟩:=hmp.mono (hr m hm)
  have hg:w.heap[g]?=some (.map es c):=h0
  rcases qD0 s es.toList l 0 hkv with ⟨g1,g2,_⟩|⟨j,v,g1,g2,_,_⟩
  . simp only [execOp,ho,hk.ev hx,hk.ev hy,Instr.lookup,run_underlying ht,Sem.run_bind,Result.andThen_ok,qCw hg,run_checkKey hkt (qCI s),run_findKey hkt g2,hz,g1,Sem.run_pure]
    rfl
  . simp only [execOp,ho,hk.ev hx,hk.ev hy,Instr.lookup,run_underlying ht,Sem.run_bind,Result.andThen_ok,qCw hg,run_checkKey hkt (qCI s),run_findKey hkt g2,hz,g1,Sem.run_pure]
    rfl
theorem qDP{t x y v g kt et l s u i m}(ho:o.op= .mapUpdate t x y v)(hx:ev env x=some (.map (some g)))(hy:ev env y=some (Str s))(hv:ev env v=some u)(ht:P.underlying t=some (.map kt et))(hkt:P.underlying kt=some .string)
    (hi:ms[i]?=some m) (hmp:MapS m g l):EOp P env ms o (λ_:Hp=>undef) (λm'=>MapS m' g (qNk l s u)) (λm'=>ms.set i m'):=λn a w0 w next Q hk hs hn=>by
  obtain ⟨es,c,rfl,hst,hkv⟩:=hmp
  have hg:w.heap[g]?=some (.map es c):=hs.mem (jR hi) g _ (qAk _ _)
  have fin: ∀es' c',Stamped es' c'->kvE es'=kvS (qNk l s u)->(execOp a.eval o).run P w= .ok .skip {w with heap:=w.heap.setIfInBounds g (.map es' c')}->o.wp P a w next Q:=λes' c' h1 h2 hr=>by
    unfold Oper.wp
    rw [hr,Oper.upon_skip]
    refine hn (qAd g (.map es' c')) _ ⟨es',c',O,h1,h2⟩ ?_
    have:=hs.set hi (qAk _ _) (w':={w with heap:=w.heap.setIfInBounds g (.map es' c')}) (o':= .map es' c') O O O xD (by
      funext k
      simp only [hp,qFE]
      by_cases hk':k=g
      . subst hk'
        have:=(Array.getElem?_eq_some_iff.1 hg).1
        simp [zU,this]
      . rw [yW hk',zU,yW (λe=>hk' e.symm)])
    rw [qBq] at this
    exact this
  have hks: ∀x∈es.toList,IsKey .string x.key:=λx hx'=>by
    have h3:(x.key,x.val)∈kvS l:=by rw [<-hkv];exact List.mem_map.2 ⟨x,hx',O⟩
    obtain ⟨p,_,hp⟩:=List.mem_map.1 h3
    injection hp with hp _
    rw [<-hp];exact qCI _
  rcases qD0 s es.toList l 0 hkv with ⟨g1,g2,g3⟩|⟨j,v',g1,g2,g4,g6,g5⟩
  . refine fin (es.push {key:=Str s,val:=u,born:=c}) (c+1) (stamped_push hst λx hx' e=>?_) ?_ ?_
    . rcases findNow_spec (qCI s) es.toList 0 hks with ⟨_,h2⟩|⟨j,e',h1,_,_⟩
      . exact h2 x hx' e
      . rw [g2] at h1;cases h1
    . rw [g3]
      have:=hkv
      simp only [kvE,kvS,Array.toList_push,jN,jY,zg] at this⊢
      rw [this]
    . simp only [execOp,ho,hk.ev hx,hk.ev hy,hk.ev hv,Instr.mapUpdate,run_underlying ht,Sem.run_bind,Result.andThen_ok,qCw hg,run_checkKey hkt (qCI s),run_findKey hkt g2,run_setObj_map _ hg]
      rfl
  . rw [jl] at g2
    have hj:j<es.size:=by simpa using g4
    have hkj:es[j].key=Str s:=by
      have:=g6
      rw [jO] at this
      rw [show es.toList[j]?=some es[j] by simp [hj]] at this
      simpa using this
    refine fin (es.modify j λe=>{e with key:=Str s,val:=u}) c ?_ ?_ ?_
    . obtain ⟨h1,h2,h3⟩:=hst
      have eb:(es.modify j λe=>{e with key:=Str s,val:=u}).toList.map (·.born)=es.toList.map (·.born):=by
        rw [Array.toList_modify]
        apply zm
        intro i'
        rw [jO,jO,List.getElem?_modify]
        cases es.toList[i']? with
        |none=>rfl
        |some e=>simp only [zu];congr 1;split<;>rfl
      have ek:(es.modify j λe=>{e with key:=Str s,val:=u}).toList.map (·.key)=es.toList.map (·.key):=by
        rw [Array.toList_modify]
        apply zm
        intro i'
        rw [jO,jO,List.getElem?_modify]
        by_cases hji:j=i'
        . subst hji
          rw [show es.toList[j]?=some es[j] by simp [hj]]
          simp [hkj]
        . cases es.toList[i']? with
          |none=>rfl
          |some e=>show Option.map _ (some (if j=i' then _ else e))=_;rw [yW hji]
      refine⟨λx hx'=>?_,by rw [eb];exact h2,by rw [ek];exact h3⟩
      have:x.born∈(es.modify j λe=>{e with key:=Str s,val:=u}).toList.map (·.born):=List.mem_map.2 ⟨x,hx',O⟩
      rw [eb] at this
      obtain ⟨y,hy',hye⟩:=List.mem_map.1 this
      rw [<-hye];exact h1 y hy'
    . rw [<-g5 u]
      simp only [kvE,Array.toList_modify]
    . have hgk:((es[j]?).map (·.key)).getD (Str s)=Str s:=by simp [hj,hkj]
      simp only [execOp,ho,hk.ev hx,hk.ev hy,hk.ev hv,Instr.mapUpdate,run_underlying ht,Sem.run_bind,Result.andThen_ok,qCw hg,run_checkKey hkt (qCI s),run_findKey hkt g2,hgk,qKt,run_setObj_map _ hg]
      rfl
def ItM(m:Hp)(gi g:Nat)(es:Array MapEntry)(c:Nat)(left:MP):Prop:= ∃seen,m=qAd gi (.mapIter (some g) c seen c)/\kvE (leftOf es seen)=kvS left
theorem qSG{L:MP}{A B:List (Value×Value)}{k v:Value}(h:kvS L=A++(k,v)::B): ∃a p b,L=a++p::b/\kvS a=A/\kvS b=B/\k=Str p.1/\v=p.2:=by
  unfold kvS at h
  obtain ⟨a,b,rfl,ha,hb⟩:=List.map_eq_append_iff.1 h
  obtain ⟨p,b',rfl,hp,hb'⟩:=List.map_eq_cons_iff.1 hb
  injection hp with h1 h2
  exact⟨a,p,b',O,ha,hb',h1.symm,h2.symm⟩
theorem qR5{es:Array MapEntry}{seen:Array Nat}{e:MapEntry}(hn:(es.toList.map (·.born)).Nodup)(he:e∈(leftOf es seen).toList):
    ∃A B,(leftOf es seen).toList=A++e::B/\(leftOf es (seen.push e.born)).toList=A++B:=by
  obtain ⟨A,B,hAB⟩:=List.append_of_mem he
  refine⟨A,B,hAB,?_⟩
  have h1:(leftOf es (seen.push e.born)).toList=(leftOf es seen).toList.filter (λx=>!(x.born==e.born)):=by
    unfold leftOf
    rw [Array.toList_filter,Array.toList_filter,zt]
    congr 1
    funext x
    rw [Array.contains_push]
    cases h1:seen.contains x.born<;>cases h2:(x.born==e.born)<;>simp
  have hsub:((leftOf es seen).toList.map (·.born)).Nodup:=by
    unfold leftOf
    rw [Array.toList_filter]
    exact hn.sublist (List.filter_sublist.map _)
  rw [h1,hAB]
  rw [hAB,jN,jY,List.nodup_append] at hsub
  obtain ⟨_,h3,h4⟩:=hsub
  rw [List.nodup_cons] at h3
  rw [zG,jp]
  simp only [beq_self_eq_true,Bool.not_true,Bool.false_eq_true,if_false]
  congr 1
  . rw [List.filter_eq_self]
    intro x hx
    have:=h4 x.born (List.mem_map.2 ⟨x,hx,O⟩) e.born (.head _)
    simpa using this
  . rw [List.filter_eq_self]
    intro x hx
    have:x.born≠e.born:=λq=>h3.1 (q▸List.mem_map.2 ⟨x,hx,O⟩)
    simpa using this
theorem qK5{t x kt et g es c l m}(ho:o.op= .range t x)(hx:ev env x=some (.map (some g)))(ht:P.underlying t=some (.map kt et))(hm:m∈ms)(hg:m g=some (.map es c))(hkv:kvE es=kvS l):
    EOp P env ms o (λx:Nat×Hp=>Ptr x.1) (λx=>ItM x.2 x.1 g es c l) (λx=>ms++ [x.2]):= .ofRun λn a w0 w hk hs=>by
  refine⟨(w.heap.size,qAd w.heap.size (.mapIter (some g) c #[] c)),w.alloc (.mapIter (some g) c #[] c),?_,⟨#[],O,?_⟩,hs.alloc _⟩
  . simp only [execOp,ho,hk.ev hx,run_range_map w t kt et g es c ht (hs.mem hm g _ hg)]
    rw [Sem.run_bind,run_range_map w t kt et g es c ht (hs.mem hm g _ hg)]
    rfl
  . rw [<-hkv]
    unfold leftOf
    rw [Array.filter_eq_self.2 (λx _=>xD)]
def ItL(m:Hp)(gi g:Nat)(es:Array MapEntry)(c:Nat)(left:MP)(p:xA×Value):Prop:= ∃(seen:Array Nat) (e:MapEntry),m=qAd gi (.mapIter (some g) c (seen.push e.born) c)/\kvE (leftOf es (seen.push e.born))=kvS left/\e∈es.toList/\e.key=Str p.1/\e.val=p.2
theorem ItL.it{m gi g es c left p}(h:ItL m gi g es c left p):ItM m gi g es c left:=by
  obtain ⟨seen,e,h1,h2,_⟩:=h
  exact⟨_,h1,h2⟩
theorem qK7{x gi g es c left p mi m}(ho:o.op= .entry x)(hx:ev env x=some (Ptr gi))(hm:m∈rs)(hg:m g=some (.map es c))(hst:Stamped es c)(hmi:mi∈rs)(hit:ItL mi gi g es c left p):YOp P env rs o (.tuple #[Str p.1,p.2]):=λn a w hk hr=>by
  obtain ⟨seen,e,rfl,_,he,h1,h2⟩:=hit
  have hgi:w.heap[gi]?=some (.mapIter (some g) c (seen.push e.born) c):=hr _ hmi gi _ (qAk _ _)
  have hgm:w.heap[g]?=some (.map es c):=hr _ hm g _ hg
  simp only [execOp,ho,hk.ev hx]
  rw [Sem.run_bind,run_entry_at w gi g c seen es c e hgi hgm he hst.2.1,h1,h2]
  rfl
def nxtM(p:Option (xA×Value)):Value:=match p with|none=> .tuple #[.bool false]|some p=> .tuple #[.bool true,Str p.1,p.2]
theorem qNr{x gi g es c left i m mi}(ho:o.op= .next x false)(hx:ev env x=some (Ptr gi))(hm:m∈ms)(hg:m g=some (.map es c))(hst:Stamped es c)(hi:ms[i]?=some mi)(hit:ItM mi gi g es c left):
    EOp P env ms o (λx:Option (xA×Value)×Hp=>nxtM x.1) (λx=>(x.1=none/\left= []/\ItM x.2 gi g es c [])\/ ∃p a b,x.1=some p/\left=a++p::b/\ItL x.2 gi g es c (a++b) p) (λx=>ms.set i x.2):= .ofRun λn a w0 w hk hs=>by
  obtain ⟨seen,rfl,hkv⟩:=hit
  have hgi:w.heap[gi]?=some (.mapIter (some g) c seen c):=hs.mem (jR hi) gi _ (qAk _ _)
  have hgm:w.heap[g]?=some (.map es c):=hs.mem hm g _ hg
  rcases run_next_at (P:=P) w o.type gi g c c seen es c hgi hgm hst.1 (jL _) with ⟨h0,hr⟩|⟨e,he,w1,hw1,hr⟩
  . refine⟨(none,qAd gi (.mapIter (some g) c seen c)),w,?_,.inl ⟨O,?_,seen,O,?_⟩,?_⟩
    . simp only [execOp,ho,hk.ev hx]
      rw [Sem.run_bind,hr];rfl
    . have h1:=yY List.length hkv
      simp only [kvE,kvS,jJ,Array.length_toList] at h1
      exact List.length_eq_zero_iff.1 xB
    . have:leftOf es seen= #[]:=Array.eq_empty_of_size_eq_zero h0
      rw [this];rfl
    . have e:ms.set i (qAd gi (.mapIter (some g) c seen c))=ms:=by
        apply zm
        intro j
        rw [zO]
        split
        . subst_vars
          split
          . exact hi.symm
          . rw [je xB]
        . rfl
      show St w0 (ms.set i (qAd gi (.mapIter (some g) c seen c))) w
      rw [e];exact hs
  . obtain ⟨A,B,h1,h2⟩:=qR5 hst.2.1 he
    have h3:kvS left=(A.map λe=>(e.key,e.val))++(e.key,e.val)::(B.map λe=>(e.key,e.val)):=by
      rw [<-hkv];unfold kvE;rw [h1];simp
    obtain ⟨a',p,b',rfl,ha,hb,hk1,hv1⟩:=qSG h3
    refine⟨(some p,qAd gi (.mapIter (some g) c (seen.push e.born) c)),ChangeMaps.setBlock w1 gi (.mapIter (some g) c (seen.push e.born) c),?_,.inr ⟨p,a',b',O,O,seen,e,O,?_,(mem_left he).1,hk1,hv1⟩,?_⟩
    . simp only [execOp,ho,hk.ev hx]
      rw [Sem.run_bind,hr,hk1,hv1];rfl
    . unfold kvE
      rw [h2,jN]
      unfold kvS at ha hb⊢
      rw [jN,ha,hb]
    . have hs1:St w0 ms w1:=by
        rcases hw1 with rfl|rfl
        . exact hs
        . exact hs.drewS
      have hgi1:w1.heap[gi]?=some (.mapIter (some g) c seen c):=hs1.mem (jR hi) gi _ (qAk _ _)
      have:=hs1.set hi (qAk _ _) (w':=ChangeMaps.setBlock w1 gi (.mapIter (some g) c (seen.push e.born) c)) (o':= .mapIter (some g) c (seen.push e.born) c) O O O (by simp [ChangeMaps.setBlock]) (by
        funext k
        simp only [hp,qFE,ChangeMaps.setBlock]
        by_cases hk':k=gi
        . subst hk'
          have:=(Array.getElem?_eq_some_iff.1 hgi1).1
          simp [zU,this]
        . rw [yW hk',zU,yW (λe=>hk' e.symm)])
      rw [qBq] at this
      exact this
end
section
variable{P:Program}{n:Nat}{env:Env}{w0:Wd}{ms:List Hp}{ops:Array Oper}{Q:Exit->Act->World->Prop}{K:Act->World->Prop}{l:Nat}
theorem qJK.walk{f fn c}{caps:yU}{Fr:Hp}{Y:Type}{Nx:Y->yU->Y->Prop}{fin:Y->Prop}{y0:Y}(hf:P.funcs[f]?=some fn)(hb:fn.body=some c)(hn:fn.ntmps=n)(hl:Nat.ble (caps.length+1) n=true)
    (h: ∀{X:Type} (M:X->Hp) (I:Y->X->Prop) (S:X->Prop) (l:Nat) (x0:X) (w0:Wd),w0.own= []->I y0 x0->
      (∀y vs y',Nx y vs y'-> ∀x,I y x->qIC P l Fr M w0.kp vs x (I y') S)->
      J n (qFC 0 (.func (.yield l) #[] #[]::caps)) w0 [Fr,M x0] (c.wp P (bodyPostM Fence.wide 0 P fn λe w'=> ∃x,(∃v,e= .returned v)/\((∃y,fin y/\I y x)\/S x)/\St w0 [Fr,M x] w'))):qJK P f caps Fr Nx fin y0:=by
  intro X M I S l x0 w0 hx0 hy w hs
  have hs1:St {w0 with own:= []} [Fr,M x0] w:=⟨hs.os,hs.out,hs.tape,hs.size,hs.dj,hs.le,hs.kd,hs.kl⟩
  have hl':(Value.func (.yield l) #[] #[]::caps).length<=n:=by simpa [Nat.ble_eq] using hl
  refine(callsIn_wide (n:=0)).1 ((callsIn_of_wp_marks hf hb trivial (wpIn_wide.2 (h M I S l x0 {w0 with own:= []} O hx0 hy _ w ⟨O,?_,λt v ht=>?_⟩ hs1))).mono ?_)
  . simp only [hn,Array.size_append,Array.size_replicate,zl];omega
  . obtain ⟨_,h2⟩:=qDS _ 0 t v ht
    simp only [zw] at h2
    have hlt:=(List.getElem?_eq_some_iff.1 h2).1
    simp only [hn]
    rw [yJ (by simpa using hlt)]
    simpa using h2
  . rintro e w' ⟨x,he,hx,hs'⟩
    exact⟨x,he,hx,hs'.os,hs'.out,hs'.tape,hs'.size,hs'.dj,hs'.le,hs'.kd,hs'.kl⟩
end
end Go.Fw