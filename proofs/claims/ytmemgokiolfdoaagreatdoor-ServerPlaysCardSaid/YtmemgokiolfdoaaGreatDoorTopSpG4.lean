/- Rules for walking a translated function, over heaps that are apart: for any program. -/
import Derived.Test.YtmemgokiolfdoaaGreatDoorTopSpG3
import Derived.Laws.StructEq
set_option linter.unusedSimpArgs false
set_option linter.unusedVariables false
namespace Go.Fw
open Go
theorem qBf.shrink{m e sz A n c xs}(h:Row m e sz A n c xs){k:Nat}(hk:k<=n):Row m e sz A k c (xs.take k):=by
  obtain ⟨h1,h2,h3,h4⟩:=h
  refine⟨by rw [jF];omega,λx hx=>h2 x (zx hx),xB,?_⟩
  rcases h4 with h4|⟨g,rest,lo,hi,hA,hm,hl,hf⟩
  . exact .inl h4
  . have e1:(xs.take k).flatten++((xs.drop k).flatten++rest)=xs.flatten++rest:=by
      rw [<-jM,<-zA,zN]
    refine .inr ⟨g,(xs.drop k).flatten++rest,lo,hi,hA,by rw [e1];exact hm,by rw [e1];exact hl,?_⟩
    rcases hf with h|h|h
    . exact .inl h
    . exact .inr (.inl h)
    . exact absurd trivial h.1
theorem Sl.at{m:Hp}{sz A n c xs}(h:Sl m sz A n c xs)(hn:0<n): ∃g o,A=some ⟨g,o,none⟩:=by
  have h0:0<xs.length:=by rw [h.1];exact hn
  obtain ⟨_,ad,hA,hc⟩:=h.2.2 0 xs[0] (jD h0)
  simp only [yD,qDD] at hc
  obtain ⟨b,o,s⟩:=ad
  have:s=none:=hc.1
  subst this
  exact⟨b,o,hA⟩
theorem qH1(g o i sz:Nat):qEW (some ⟨g,o,none⟩) i sz=⟨g,o+i*sz,none⟩:=by
  unfold qEW
  simp only [Option.getD_some]
  rw [Addr.add_lit]
theorem Sl.cells{m:Hp}{sz g o n c xs}(h:Sl m sz (some ⟨g,o,none⟩) n c xs){i:Nat}{x:yU}(hx:xs[i]?=some x):qAI m ⟨g,o+i*sz,none⟩ x:=by
  have:=h.elem hx
  rw [qH1] at this
  exact this
theorem qAI.at{m:Hp}{g off:Nat}{vs:yU}{i:Nat}{v:Value}(h:qAI m ⟨g,off,none⟩ vs)(hi:vs[i]?=some v):qAI m ⟨g,off+i,none⟩ [v]:=by
  have:=h.sub i 1
  rw [Addr.add_lit] at this
  obtain ⟨hk,rfl⟩:=List.getElem?_eq_some_iff.1 hi
  rw [j9 hk] at this
  exact this
theorem Sl.cell{m:Hp}{sz g o n c xs}(h:Sl m sz (some ⟨g,o,none⟩) n c xs){i k:Nat}{x:yU}{v:Value}(hx:xs[i]?=some x)(hv:x[k]?=some v):qAI m ⟨g,o+i*sz+k,none⟩ [v]:=(h.cells hx).at hv
section
variable{P:Program}{env:Env}{rs ms:List Hp}{o:Oper}
theorem qFW{t e x g l h sz n' c i m z by' B c2}{xs:List yU}(ho:o.op= .call {callee:= .builtin .clear,args:= #[x],argTypes:= #[t]})(hx:ev env x=some (.slice B (h-l) c2))(hB:B=if c=l then some ⟨g,0,none⟩ else some ⟨g,l*sz,none⟩)(hu:P.underlying t=some (.slice e))(he:qCx P e z by')(hsz:z.length=sz)(hz1:z.all Value.oneCell'=true)
    (hi:ms[i]?=some m) (hr:Row m e sz (some ⟨g,0,none⟩) n' c xs) (hn:n'=l) (hl:l<=h) (hc:h<=c):
    EOp P env ms o (λ_:Hp=> .tuple #[]) (λm'=>Row m' e sz (some ⟨g,0,none⟩) n' c xs) (λm'=>ms.set i m'):=λn ac w0 w next Q hkn hs hnx=>by
  subst hn
  have hself:ms.set i m=ms:=by
    apply zm
    intro j
    rw [zO]
    split
    . rename_i e;subst e;rw [yX (List.getElem?_eq_some_iff.1 hi).1,hi]
    . rfl
  by_cases h0:h=n'
  . subst h0
    rw [zK] at hx
    unfold Oper.wp
    have hrun:(execOp ac.eval o).run P w= .ok (.value (.tuple #[])) w:=by
      cases B<;>simp [execOp,ho,hkn.ev hx,resolve,invoke,builtin,Builtin.clear_,run_underlying hu]
    rw [hrun,Oper.upon_value]
    exact hnx m w hr (by show St w0 (ms.set i m) w;rw [hself];exact hs)
  . have hcl: ¬c=n':=by omega
    rw [yW hcl] at hB
    subst hB
    obtain ⟨ii,zv,hii,hi1,hi2,hi3,hi4⟩:=he.row
    obtain ⟨h1',hszs,hnc,hcase⟩:=hr
    rcases hcase with ⟨hA,_⟩|⟨g',rest,lo,hi',hA,hm,hlen,hf⟩
    . cases hA
    . cases hA
      have hg:w.heap[g]?=some (.cells (xs.flatten++rest).toArray e (lo,hi')):=hs.mem (jR hi) g _ (by rw [hm];exact qAk _ _)
      have hfl:=qA7 hszs
      rw [h1'] at hfl
      have hrl:rest.length=(c-n')*sz:=by rw [jA,hfl] at hlen;rw [Nat.sub_mul];omega
      have hzl:(List.replicate (h-n') z).flatten.length=(h-n')*sz:=by
        rw [qA7 (sz:=sz) (λx hx=>by rw [zT hx,hsz]),jQ]
      have hle:(h-n')*sz<=(c-n')*sz:=zZ _ xB
      have hzc:Builtin.zeroCells zv.cells (h-n')=(List.replicate (h-n') z).flatten.toArray:=by
        rw [<-qET he.pos,hi4];simp [Builtin.zeroCells,madeCells]
      have hcn:(c-n')*sz=c*sz-n'*sz:=Nat.sub_mul _ _ _
      have hnc2:n'*sz<=c*sz:=zZ _ hnc
      have hst:=qBi P g (n'*sz) e lo hi' (List.replicate (h-n') z).flatten 0 (xs.flatten++rest).toArray w hg (by rw [zl,jA,hfl,hzl,hrl];omega) (by
        rcases hf with h|h|h
        . omega
        . have:=h.2;omega
        . exact absurd trivial h.1) (λv hv=>by
          obtain ⟨x,hx,hv⟩:=List.mem_flatten.1 hv
          rw [zT hx] at hv
          exact List.all_eq_true.1 hz1 v hv)
      simp only [zc] at hst
      have e1:(xs.flatten++rest).toArray.toList.take (n'*sz)++(List.replicate (h-n') z).flatten++(xs.flatten++rest).toArray.toList.drop (n'*sz+(List.replicate (h-n') z).flatten.length)=xs.flatten++((List.replicate (h-n') z).flatten++rest.drop ((h-n')*sz)):=by
        rw [List.toList_toArray,<-hfl,List.take_left,hzl,List.drop_append,jM]
        congr 2
        rw [j4 xB,j7]
        congr 1
        omega
      rw [e1] at hst
      unfold Oper.wp
      have hrun:(execOp ac.eval o).run P w= .ok (.value (.tuple #[])) (w.setRow g (xs.flatten++((List.replicate (h-n') z).flatten++rest.drop ((h-n')*sz))).toArray):=by
        obtain ⟨k,hk⟩: ∃k,h-n'=k+1:=⟨h-n'-1,xB⟩
        rw [hk] at hx hst hzc⊢
        simp [execOp,ho,hkn.ev hx,resolve,invoke,builtin,Builtin.clear_,run_underlying hu,zeroValue,typeInfo,hii,hi3,hzc,hst]
      rw [hrun,Oper.upon_value]
      refine hnx (qAd g (.cells (xs.flatten++((List.replicate (h-n') z).flatten++rest.drop ((h-n')*sz))).toArray e (lo,hi'))) _ ?_ ?_
      . refine⟨h1',hszs,hnc,.inr ⟨g,_,lo,hi',O,O,?_,hf⟩⟩
        rw [jA,jA,hfl,hzl,jE,hrl];omega
      . have:=hs.set hi (g:=g) (o:= .cells (xs.flatten++rest).toArray e (lo,hi')) (by rw [hm];exact qAk _ _) (w':=w.setRow g (xs.flatten++((List.replicate (h-n') z).flatten++rest.drop ((h-n')*sz))).toArray) (o':= .cells (xs.flatten++((List.replicate (h-n') z).flatten++rest.drop ((h-n')*sz))).toArray e (lo,hi')) O O O (by simp [World.setRow]) (qFe hg _)
        rw [hm,qBq] at this
        exact this
theorem qZu{t t' x y}{xs ys:Array Value}{b:Bool}(ho:o.op= .binOp .eql t x y t')(hx:ev env x=some (.agg xs))(hy:ev env y=some (.agg ys))(hm:P.eqGuardType P.depth t=false)(h: ∀w,(Op.equalIn 10000 t (.agg xs) (.agg ys)).run P w= .ok b w):YOp P env rs o (.bool b):=λn a w hk _=>by
  simp only [execOp,ho,hk.ev hx,hk.ev hy]
  have hg:=run_eqGuard_agg (P:=P) w .eql t x y xs ys hm
  have hb:=run_eql_struct (P:=P) w t xs ys
  rw [h] at hb
  simp only [Result.andThen_ok] at hb
  rw [Sem.run_bind,Sem.run_bind,hg,Result.andThen_ok,hb]
  rfl
theorem qBt{f xs vs}(ho:o.op= .makeFunc (.func f) #[] xs)(hv:evs env xs.toList=some vs):YOp P env rs o (.func (.func f) #[] vs.toArray):=λn a w hk _=>by
  have hev:=hk.evs hv
  have:xs.map a.eval=vs.toArray:=by rw [<-hev];apply Array.ext';simp
  simp [execOp,ho,Instr.makeFunc,this]
theorem qDv{f y xs vs tys caps}{X:Type}{val:X->Value}{φ:X->Prop}{ms':X->List Hp}(ho:o.op= .call {callee:= .value y,args:=xs,argTypes:=tys})(hy:ev env y=some (.func (.func f) #[] caps))(hv:evs env xs.toList=some vs)(hf:qDi P f)(hc:Ct P f (vs++caps.toList) ms val φ ms'):
    EOp P env ms o val φ ms':=λn a w0 w next Q hk hs hn=>by
  have hev:=hk.evs hv
  unfold Oper.wp
  have hr:(execOp a.eval o).run P w= .ok (.enter f (vs++caps.toList).toArray) w:=by
    have h1:xs.map a.eval=vs.toArray:=by rw [<-hev];apply Array.ext';simp
    have h2:vs.toArray++caps=(vs++caps.toList).toArray:=by apply Array.ext';simp
    have hf':=hf (vs++caps.toList).toArray w
    have h3:=hk.ev hy
    simp only [execOp,ho,resolve,h3,Deferred.ofValue,h1]
    rw [Sem.run_bind,Sem.run_pure,Result.andThen_ok]
    simp only [invoke,Array.empty_append,h2]
    exact hf'
  rw [hr,Oper.upon_enter]
  refine(hc w0 w hs).mono λe w' ⟨x,he,hx,hs'⟩=>?_
  subst he
  exact hn x w' hx hs'
end
theorem U2{a b:Hp}{g:Nat}{o:Obj}(h:U [a,b] g=some o):a g=some o\/b g=some o:=by
  obtain ⟨m,hm,hg⟩:=qCa h
  simp only [j5,jr,or_false] at hm
  rcases hm with rfl|rfl
  . exact .inl hg
  . exact .inr hg
theorem qIv(a b:Hp):Le a (U [a,b]):=λg o h=>by simp only [U,h]
theorem qHn{a b:Hp}(hd:Dj a b):Le b (U [a,b]):=λg o h=>by
  rcases hd g with h1|h1
  . simp only [U,h1,h]
  . rw [h] at h1;cases h1
theorem qaX{a b m:Hp}(h1:Dj a m)(h2:Dj b m):Dj (U [a,b]) m:=λg=>by
  rcases h1 g with h|h
  . rcases h2 g with h'|h'
    . left;simp only [U,h,h']
    . exact .inr h'
  . exact .inr h
theorem qLi{a b m:Hp}(h:Dj (U [a,b]) m):Dj a m:=λg=>by
  rcases h g with h1|h1
  . left
    cases ha:a g with
    |none=>rfl
    |some o=>simp only [U,ha] at h1;cases h1
  . exact .inr h1
theorem qLh{a b m:Hp}(hd:Dj a b)(h:Dj (U [a,b]) m):Dj b m:=λg=>by
  rcases h g with h1|h1
  . left
    cases hb:b g with
    |none=>rfl
    |some o=>rw [qHn hd g o hb] at h1;cases h1
  . exact .inr h1
theorem St.splitU{w0:Wd}{w:World}{a b:Hp}{r:List Hp}(hd:Dj a b)(h:St w0 (U [a,b]::r) w):St w0 (a::b::r) w:=by
  have hp:=qAh.1 h.dj
  rw [zB] at hp
  refine h.intro_of (qAh.2 ?_) ?_ ?_
  . rw [zB,zB]
    refine⟨λm hm=>?_,λm hm=>qLh hd (hp.1 m hm),hp.2⟩
    rcases List.mem_cons.1 hm with rfl|hm
    . exact hd
    . exact qLi (hp.1 m hm)
  . intro m hm
    rcases List.mem_cons.1 hm with rfl|hm
    . exact(qIv m b).trans (h.mem (.head _))
    . rcases List.mem_cons.1 hm with rfl|hm
      . exact(qHn hd).trans (h.mem (.head _))
      . exact h.mem (.tail _ hm)
  . intro m hm
    rcases List.mem_cons.1 hm with rfl|hm
    . exact(qLi (h.kd _ (.head _)).symm).symm
    . rcases List.mem_cons.1 hm with rfl|hm
      . exact(qLh hd (h.kd _ (.head _)).symm).symm
      . exact h.kd _ (.tail _ hm)
theorem St.joinU{w0:Wd}{w:World}{a b:Hp}{r:List Hp}(h:St w0 (a::b::r) w):St w0 (U [a,b]::r) w:=by
  have hp:=qAh.1 h.dj
  rw [zB,zB] at hp
  refine h.intro_of (qAh.2 ?_) ?_ ?_
  . rw [zB]
    exact⟨λm hm=>qaX (hp.1 m (.tail _ hm)) (hp.2.1 m hm),hp.2.2⟩
  . intro m hm
    rcases List.mem_cons.1 hm with rfl|hm
    . intro g o ho
      rcases U2 ho with h1|h1
      . exact h.mem (.head _) g o h1
      . exact h.mem (.tail _ (.head _)) g o h1
    . exact h.mem (.tail _ (.tail _ hm))
  . intro m hm
    rcases List.mem_cons.1 hm with rfl|hm
    . exact(qaX (h.kd _ (.head _)).symm (h.kd _ (.tail _ (.head _))).symm).symm
    . exact h.kd _ (.tail _ (.tail _ hm))
theorem St.dj2{w0:Wd}{w:World}{a b:Hp}{r:List Hp}(h:St w0 (a::b::r) w):Dj a b:=by
  have hp:=qAh.1 h.dj
  rw [zB] at hp
  exact hp.1 b (.head _)
theorem wF{n:Nat}{env:Env}{w0:Wd}{φ:Act->World->Prop}{a b:Hp}{r:List Hp}(hd:Dj a b)(h:J n env w0 (a::b::r) φ):J n env w0 (U [a,b]::r) φ:=λac w hk hs=>h ac w hk (hs.splitU hd)
theorem vk{n:Nat}{env:Env}{w0:Wd}{φ:Act->World->Prop}{a b:Hp}{r:List Hp}(h:Dj a b->J n env w0 (U [a,b]::r) φ):J n env w0 (a::b::r) φ:=λac w hk hs=>h hs.dj2 ac w hk hs.joinU
theorem qCf{ms:List Hp}{X:Type}{val:X->Value}{φ:X->Prop}{ms':X->List Hp}{v:Value}{w0:Wd}{a b:Hp}{r:List Hp}(x:X)(hv:v=val x)(hx:Dj a b->φ x)(ix:yT)(hm:pick ms ix=a::b::r)(hms:ms' x=U [a,b]::r)(hn:ix.Nodup):
    ∀w,St w0 ms w-> ∃x,Ending.returned v= .returned (val x)/\φ x/\St w0 (ms' x) w:=λw hs=>by
  have h:=hm▸hs.pick ix hn
  exact⟨x,by rw [hv],hx h.dj2,by rw [hms];exact h.joinU⟩
end Go.Fw