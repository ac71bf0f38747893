/- Rules for walking a translated function, over heaps that are apart: for any program. -/
import Derived.Test.YtcgcjaflllmlpaaGreatDoorTopCfG0
set_option linter.unusedSimpArgs false
set_option linter.unusedVariables false
namespace Go.Fw
open Go
def qAP(g:Nat)(o:Obj):Hp:=λk=>if k=g then some o else none
def qEH(m:Hp)(g:Nat)(o:Obj):Hp:=λk=>if k=g then some o else m k
abbrev blk(g:Nat)(l:List Value)(e:TypeId):Hp:=qAP g (.cells l.toArray e (0,0))
theorem qAb(g:Nat)(o:Obj):qAP g o g=some o:=by simp [qAP]
theorem qBQ(g:Nat)(o o':Obj):qEH (qAP g o) g o'=qAP g o':=by
  funext k;simp only [qEH,qAP];split<;>rfl
def qAR(m:Hp)(ad:Addr)(vs:List Value):Prop:=
  ad.spot=none∧ ∃cs e fz,m ad.block=some (.cells cs e fz)∧ ∀j u,vs[j]?=some u→cs[ad.off+j]?=some u
theorem qAR.mono{m m':Hp}{ad vs}(h:qAR m ad vs)(hl:Le m m'):qAR m' ad vs:=
  let ⟨h1,cs,e,fz,h2,h3⟩:=h
  ⟨h1,cs,e,fz,hl _ _ h2,h3⟩
theorem add_eq{ad:Addr}(h:ad.spot=none)(n:Nat):ad.add n=⟨ad.block,ad.off+n,none⟩:=by
  obtain ⟨b,o,s⟩:=ad
  simp at h;subst h
  exact Addr.add_lit b o n
theorem qAR.cell{w:World}{ad vs}(h:qAR (hp w) ad vs){j u}(hj:vs[j]?=some u):w.cell? (ad.add j)=some u:=by
  obtain ⟨h1,cs,e,fz,h2,h3⟩:=h
  rw [add_eq h1]
  simp only [hp] at h2
  simp [World.cell?,h2,h3 j u hj]
theorem qC4(ad:Addr):ad.add 0=ad:=by simp [Addr.add]
theorem qXm(ad:Addr)(i j:Nat):(ad.add i).add j=ad.add (i+j):=by
  unfold Addr.add
  by_cases hi:i=0<;>by_cases hj:j=0<;>simp [hi,hj,Nat.add_assoc]
theorem qAR.sub{m:Hp}{ad vs}(h:qAR m ad vs)(k n:Nat):qAR m (ad.add k) ((vs.drop k).take n):=by
  obtain ⟨h1,cs,e,fz,h2,h3⟩:=h
  rw [add_eq h1]
  refine⟨rfl,cs,e,fz,h2,λj u hj=>?_⟩
  rw [zF] at hj
  split at hj
  · rw [jt] at hj
    have:=h3 (k+j) u hj
    simpa [Nat.add_assoc] using this
  · cases hj
theorem qAR.blk{g l e}(k:Nat){vs:List Value}(h: ∀j u,vs[j]?=some u→l[k+j]?=some u):qAR (blk g l e) ⟨g,k,none⟩ vs:=
  ⟨rfl,_,_,_,qAb _ _,λj u hj=>by simpa using h j u hj⟩
theorem qAR.blk1{g l e v}(k:Nat)(h:l[k]?=some v):qAR (Fw.blk g l e) ⟨g,k,none⟩ [v]:=
  qAR.blk k λj u hj=>by
    match j with
    |0=>simp at hj;subst hj;simpa using h
    |j+1=>simp at hj
theorem qAR.blk0{g l e}:qAR (Fw.blk g l e) ⟨g,0,none⟩ l:=qAR.blk 0 λj u hj=>by simpa using hj
def Sl(m:Hp)(sz:Nat)(A:Option Addr)(n c:Nat)(xs:List (List Value)):Prop:=
  xs.length=n∧n≤c∧ ∀i x,xs[i]?=some x→x.length=sz∧ ∃ad,A=some ad∧qAR m (ad.add (i*sz)) x
theorem Sl.mono{m m':Hp}{sz A n c xs}(h:Sl m sz A n c xs)(hl:Le m m'):Sl m' sz A n c xs:=
  ⟨h.1,h.2.1,λi x hx=>let ⟨h1,ad,h2,h3⟩:=h.2.2 i x hx;⟨h1,ad,h2,h3.mono hl⟩⟩
theorem Sl.nil{m:Hp}{sz A c}:Sl m sz A 0 c []:=⟨rfl,jG _,λi x hx=>by simp at hx⟩
theorem Sl.cut{m:Hp}{sz A n c xs}(h:Sl m sz A n c xs){lo hi mx:Nat}(h1:lo≤hi)(h2:hi≤n)(h3:hi≤mx):
    Sl m sz (if mx=lo then A else A.map (·.add (lo*sz))) (hi-lo) (mx-lo) ((xs.take hi).drop lo):=by
  refine⟨by rw [jI,jF,h.1,jn h2],by omega,λi x hx=>?_⟩
  rw [jt,zF] at hx
  split at hx
  · rename_i hlt
    obtain ⟨e1,ad,e2,e3⟩:=h.2.2 _ _ hx
    refine⟨e1,ad.add (lo*sz),?_,?_⟩
    · rw [if_neg (by omega),e2];rfl
    · rw [qXm,←zk];exact e3
  · cases hx
theorem Sl.flat{m:Hp}{sz A n c xs}(h:Sl m sz A n c xs)(hn:0<n): ∃ad,A=some ad∧qAR m ad xs.flatten:=by
  have h0:0<xs.length:=by rw [h.1];exact hn
  obtain ⟨_,ad,hA,hc0⟩:=h.2.2 0 xs[0] (jC h0)
  simp only [yG,qC4] at hc0
  obtain ⟨hs,cs,e,fz,hb,_⟩:=hc0
  refine⟨ad,hA,hs,cs,e,fz,hb,?_⟩
  have key: ∀(l:List (List Value)) (k:Nat),(∀i x,l[i]?=some x→xs[k+i]?=some x)→ ∀j u,l.flatten[j]?=some u→cs[ad.off+k*sz+j]?=some u:=by
    intro l
    induction l with
    |nil=>intro k _ j u hj;simp at hj
    |cons x l ih=>
      intro k hl j u hj
      have hx:=hl 0 x rfl
      obtain ⟨ex,ad',e2,h3⟩:=h.2.2 _ _ hx
      rw [hA] at e2
      cases e2
      simp only [ja] at hj
      rw [add_eq hs] at h3
      obtain ⟨_,cs',e',fz',hb',hc'⟩:=h3
      simp only at hb' hc'
      rw [hb] at hb'
      cases hb'
      by_cases hlt:j<x.length
      · rw [jh hlt] at hj
        have:=hc' j u hj
        simpa using this
      · rw [ji (by omega)] at hj
        have:=ih (k+1) (λi y hy=>by have:=hl (i+1) y (by simpa using hy);rw [←this];congr 1;omega) (j-x.length) u hj
        rw [←this]
        congr 1
        rw [ex,zk]
        omega
  intro j u hj
  have:=key xs 0 (λi x hx=>by simpa using hx) j u hj
  simpa using this
def qBb(q:Prop)(m:Hp)(e:TypeId)(sz:Nat)(A:Option Addr)(n c:Nat)(xs:List (List Value)):Prop:=
  xs.length=n∧(∀x∈xs,x.length=sz)∧n≤c∧
  ((A=none∧c=0∧m=λ_=>none)∨
   ∃g rest lo hi,A=some ⟨g,0,none⟩∧m=qAP g (.cells (xs.flatten++rest).toArray e (lo,hi))∧(xs.flatten++rest).length=c*sz∧(hi=lo∨(q∧c*sz≤lo)∨((q→False)∧hi≤n*sz)))
abbrev Row(m:Hp)(e:TypeId)(sz:Nat)(A:Option Addr)(n c:Nat)(xs:List (List Value)):Prop:=qBb True m e sz A n c xs
theorem qBb.len{q m e sz A n c xs}(h:qBb q m e sz A n c xs):xs.length=n:=h.1
theorem qBb.nil{q e sz}:qBb q (λ_=>none) e sz none 0 0 []:=⟨rfl,by simp,jK _,.inl ⟨rfl,rfl,rfl⟩⟩
theorem qAz{xs:List (List Value)}{sz:Nat}(h: ∀x∈xs,x.length=sz):xs.flatten.length=xs.length*sz:=by
  induction xs with
  |nil=>simp
  |cons x xs ih=>
    simp only [ja,jA,jD]
    rw [ih (λy hy=>h y (.tail _ hy)),h x (.head _),zk]
    omega
theorem qGt{xs:List (List Value)}{sz:Nat}(h: ∀x∈xs,x.length=sz): ∀{i:Nat} {x:List Value},xs[i]?=some x→ ∀{j:Nat} {u:Value},x[j]?=some u→xs.flatten[i*sz+j]?=some u:=by
  induction xs with
  |nil=>intro i x hx;simp at hx
  |cons y xs ih=>
    intro i x hx j u hj
    have hy:=h y (.head _)
    match i with
    |0=>
      simp at hx;subst hx
      have:j<y.length:=(List.getElem?_eq_some_iff.1 hj).1
      simp only [ja,yG,jj]
      rw [jh this];exact hj
    |i+1=>
      simp at hx
      simp only [ja]
      have e:(i+1)*sz+j=y.length+(i*sz+j):=by rw [hy,zk];omega
      rw [e,ji (by omega)]
      have:=ih (λy hy=>h y (.tail _ hy)) hx hj
      simpa using this
theorem qBb.sl{q m e sz A n c xs}(h:qBb q m e sz A n c xs):Sl m sz A n c xs:=by
  obtain ⟨h1,h2,h3,h4⟩:=h
  refine⟨h1,h3,λi x hx=>⟨h2 x (jL hx),?_⟩⟩
  rcases h4 with ⟨_,hc,_⟩|⟨g,rest,lo,hi,hA,hm,hl,_⟩
  · have:i<xs.length:=(List.getElem?_eq_some_iff.1 hx).1
    omega
  · refine⟨⟨g,0,none⟩,hA,?_⟩
    rw [Addr.add_lit]
    refine⟨rfl,_,_,_,by rw [hm];exact qAb _ _,λj u hj=>?_⟩
    have hf:=qGt h2 hx hj
    have hlt:=(List.getElem?_eq_some_iff.1 hf).1
    simp only [jj,zI]
    rw [jh hlt];exact hf
theorem qNR(w:World)(o:Obj):hp (w.alloc o)=qEH (hp w) w.heap.size o:=by
  funext k
  simp only [hp,World.alloc,qEH,Array.getElem?_push]
theorem qFE{w:World}{g:Nat}{o:Obj}(h:hp w g=some o):g<w.heap.size:=(Array.getElem?_eq_some_iff.1 h).1
theorem St.app{w0 ms w w' new}(h:St w0 ms w)(h1:w'.os=w.os)(h2:w'.output=w.output)(h3:w'.tape=w.tape)(h4:w.heap.size≤w'.heap.size)
    (hle:Le (hp w) (hp w')) (hd:Djs new) (hn: ∀m∈new,Le m (hp w')∧ ∀g,g<w.heap.size→m g=none):St w0 (ms++new) w':=by
  refine⟨h1.trans h.os,h2.trans h.out,h3.trans h.tape,jb h.size h4,?_,?_,?_,?_⟩
  · rw [qAZ,jS]
    refine⟨qAZ.1 h.dj,qAZ.1 hd,λm hm m' hm' g=>?_⟩
    cases hg:m g with
    |none=>exact .inl rfl
    |some o=>exact .inr ((hn m' hm').2 g (qFE (h.mem hm g o hg)))
  · intro g o ho
    obtain ⟨m,hm,hg⟩:=qCO ho
    rcases List.mem_append.1 hm with hm|hm
    · exact hle _ _ (h.mem hm g o hg)
    · exact(hn m hm).1 g o hg
  · intro m hm g
    rcases List.mem_append.1 hm with hm|hm
    · exact h.kd m hm g
    · cases hg:w0.kp g with
      |none=>exact .inl rfl
      |some o=>exact .inr ((hn m hm).2 g (qFE (h.kl g o hg)))
  · exact h.kl.trans hle
theorem St.alloc{w0 ms w}(h:St w0 ms w)(o:Obj):St w0 (ms++ [qAP w.heap.size o]) (w.alloc o):=by
  refine h.app rfl rfl rfl (by rw [World.size_alloc];omega) ?_ ?_ ?_
  · rw [qNR]
    intro g o' ho
    have:=qFE ho
    simp only [qEH]
    rw [if_neg (by omega)];exact ho
  · simp [Djs,Dj,U]
  · intro m hm
    simp only [jR] at hm
    subst hm
    refine⟨?_,λg hg=>by simp only [qAP];rw [if_neg (by omega)]⟩
    rw [qNR]
    intro g o' ho
    simp only [qAP] at ho
    simp only [qEH]
    split at ho
    · rename_i e;rw [if_pos e];exact ho
    · cases ho
theorem St.set{w0 ms w i m g o o' w'}(h:St w0 ms w)(hi:ms[i]?=some m)(hg:m g=some o)(h1:w'.os=w.os)(h2:w'.output=w.output)(h3:w'.tape=w.tape)(h4:w'.heap.size=w.heap.size)
    (hw:hp w'=qEH (hp w) g o'):St w0 (ms.set i (qEH m g o')) w':=by
  have hlt:i<ms.length:=(List.getElem?_eq_some_iff.1 hi).1
  have hdom: ∀k,qEH m g o' k=none→m k=none:=λk hk=>by
    simp only [qEH] at hk
    split at hk
    · cases hk
    · exact hk
  have hoth: ∀j m',ms[j]?=some m'→j≠i→m' g=none:=λj m' hj hne=>by
    rcases qDM h.dj hj hi hne g with h'|h'
    · exact h'
    · rw [hg] at h';cases h'
  refine⟨h1.trans h.os,h2.trans h.out,h3.trans h.tape,by rw [h4];exact h.size,?_,?_,?_,?_⟩
  · rw [qAZ,yC]
    intro a b ha hb hab k
    simp only [jm] at ha hb
    simp only [List.getElem_set]
    have hjd:=qDM h.dj (jC ha) (jC hb) (Nat.ne_of_lt hab) k
    by_cases ea:i=a
    · subst ea
      rw [if_pos rfl,if_neg (by omega)]
      by_cases ek:k=g
      · rw [ek];exact .inr (hoth b _ (jC (by omega)) (by omega))
      · rcases hjd with hjd|hjd
        · left;simp only [qEH];rw [if_neg ek]
          have:ms[i]=m:=by have:=hi;rw [jC ha] at this;exact zY this
          rw [←this];exact hjd
        · exact .inr hjd
    · rw [if_neg ea]
      by_cases eb:i=b
      · subst eb
        rw [if_pos rfl]
        by_cases ek:k=g
        · rw [ek];exact .inl (hoth a _ (jC (by omega)) (by omega))
        · rcases hjd with hjd|hjd
          · exact .inl hjd
          · right;simp only [qEH];rw [if_neg ek]
            have:ms[i]=m:=by have:=hi;rw [jC hb] at this;exact zY this
            rw [←this];exact hjd
      · rw [if_neg eb];exact hjd
  · intro k x hx
    obtain ⟨m',hm',hk⟩:=qCO hx
    rw [hw]
    simp only [qEH]
    obtain ⟨j,hj⟩:=List.mem_iff_getElem?.1 hm'
    rw [zD] at hj
    by_cases ej:i=j
    · subst ej
      rw [if_pos rfl,if_pos hlt] at hj
      cases hj
      simp only [qEH] at hk
      split at hk
      · rename_i e;rw [if_pos e];exact hk
      · rename_i e
        rw [if_neg e];exact h.mem (jL hi) k x hk
    · rw [if_neg ej] at hj
      have hk':=hoth j m' hj (Ne.symm ej)
      have ek:k≠g:=λe=>by subst e;rw [hk'] at hk;cases hk
      rw [if_neg ek];exact h.mem (jL hj) k x hk
  · have hkg:w0.kp g=none:=by
      rcases h.kd m (jL hi) g with h'|h'
      · exact h'
      · rw [hg] at h';cases h'
    intro y hy k
    obtain ⟨j,hj⟩:=List.mem_iff_getElem?.1 hy
    rw [zD] at hj
    by_cases ej:i=j
    · subst ej
      rw [if_pos rfl,if_pos hlt] at hj
      cases hj
      by_cases ek:k=g
      · rw [ek];exact .inl hkg
      · rcases h.kd m (jL hi) k with h'|h'
        · exact .inl h'
        · right;simp only [qEH];rw [if_neg ek];exact h'
    · rw [if_neg ej] at hj
      exact h.kd y (jL hj) k
  · have hkg:w0.kp g=none:=by
      rcases h.kd m (jL hi) g with h'|h'
      · exact h'
      · rw [hg] at h';cases h'
    intro k x hx
    rw [hw]
    simp only [qEH]
    rw [if_neg (λe=>by subst e;rw [hkg] at hx;cases hx)]
    exact h.kl k x hx
section
variable{P:Program}{env:Env}{rs ms:List Hp}{o:Oper}
theorem qAC{x ad}(ho:o.op= .nilCheck x)(hx:ev env x=some (.pointer (some ad))):YOp P env rs o (.pointer (some ad)):=λn a w hk _=>by
  simp [execOp,ho,hk.ev hx]
theorem qAA{s x f i k fs g off j}(ho:o.op= .fieldAddr s x i)(hx:ev env x=some (.pointer (some ⟨g,off,none⟩)))(hu:P.underlying s=some (.struct fs))(hf:fs[i]?=some f)
    (hz: ∀w,(sizeOf f.type).run P w= .ok (k+1) w) (hj:off+f.offset=j):YOp P env rs o (.pointer (some ⟨g,j,none⟩)):=λn a w hk _=>by
  subst hj
  simp [execOp,ho,hk.ev hx,Instr.fieldAt,run_underlying hu,hf,Instr.sureAddr,fieldPlace,hz,Addr.add_lit]
def qEt(A:Option Addr)(i sz:Nat):Addr:=(A.getD ⟨0,0,none⟩).add (i*sz)
theorem qAH{t e x y k i sz A n' c xs m}(ho:o.op= .indexAddr t x y)(hx:ev env x=some (.slice A n' c))(hy:ev env y=some (.int k ((i:Nat):Int)))(hu:P.underlying t=some (.slice e))
    (hz: ∀w,(sizeOf e).run P w= .ok sz w) (hs:Sl m sz A n' c xs) (hi:i<n'):YOp P env rs o (.pointer (some (qEt A i sz))):=λn a w hk _=>by
  have hlt:i<xs.length:=by rw [hs.1];exact hi
  obtain ⟨_,ad,hA,_⟩:=hs.2.2 i xs[i] (jC hlt)
  subst hA
  simp [execOp,ho,hk.ev hx,hk.ev hy,Instr.indexAt,asIntOf,run_underlying hu,hz,hi,qEt]
theorem Sl.elem{m sz A n c xs}(h:Sl m sz A n c xs){i:Nat}{x:List Value}(hx:xs[i]?=some x):qAR m (qEt A i sz) x:=by
  obtain ⟨_,ad,hA,hc⟩:=h.2.2 i x hx
  subst hA;exact hc
theorem qIk{t e x y k i sz g off N}(ho:o.op= .indexAddr t x y)(hx:ev env x=some (.pointer (some ⟨g,off,none⟩)))(hy:ev env y=some (.int k ((i:Nat):Int)))(hu:P.underlying t=some (.array N e))
    (hz: ∀w,(sizeOf e).run P w= .ok sz w) (hi:i<N):YOp P env rs o (.pointer (some ⟨g,off+i*sz,none⟩)):=λn a w hk _=>by
  simp [execOp,ho,hk.ev hx,hk.ev hy,Instr.indexAt,Instr.sureAddr,asIntOf,run_underlying hu,hz,hi,Addr.add_lit]
theorem qAJ{t x ad v m}(ho:o.op= .load t x)(hx:ev env x=some (.pointer (some ad)))(hg: ∀w,(isAgg t).run P w= .ok false w)(hm:m∈rs)(hc:qAR m ad [v]):YOp P env rs o v:=λn a w hk hr=>by
  have:=(hc.mono (hr m hm)).cell (j:=0) rfl
  rw [qC4] at this
  simp [execOp,ho,hk.ev hx,Instr.loadAt,Instr.sureAddr,loadVar,hg,this]
theorem qAX{t x ad vs k m}(ho:o.op= .load t x)(hx:ev env x=some (.pointer (some ad)))(hg: ∀w,(isAgg t).run P w= .ok true w)(hz: ∀w,(sizeOf t).run P w= .ok k w)(hm:m∈rs)(hc:qAR m ad vs)(hl:vs.length=k):
    YOp P env rs o (.agg vs.toArray):=λn a w hk hr=>by
  have:=run_loadCells_list (P:=P) w ad vs (λj u hj=>(hc.mono (hr m hm)).cell hj)
  rw [hl] at this
  simp [execOp,ho,hk.ev hx,Instr.loadAt,Instr.sureAddr,loadVar,hg,hz,this]
theorem qDE{t e x lo hi sz A n' c l h}(ho:o.op= .slice t x lo hi none)(hx:ev env x=some (.slice A n' c))(hu:P.underlying t=some (.slice e))(hz: ∀w,(sizeOf e).run P w= .ok sz w)
    (hlo:match lo with|none=>l=0|some p=>ev env p=some (I ((l:Nat):Int))) (hhi:match hi with|none=>h=n'|some p=>ev env p=some (I ((h:Nat):Int))) (hr:l≤h∧h≤c):
    YOp P env rs o (.slice (if c=l then A else A.map (·.add (l*sz))) (h-l) (c-l)):=λn a w hk _=>by
  cases lo with
  |none=>
    simp only at hlo
    subst hlo
    cases hi with
    |none=>
      simp only at hhi
      subst hhi
      simp [execOp,ho,hk.ev hx,Instr.sliceAt,Instr.slice,run_underlying hu,Instr.sliceBounds,hz]
    |some q=>simp [execOp,ho,hk.ev hx,hk.ev hhi,Instr.sliceAt,Instr.slice,run_underlying hu,Instr.sliceBounds,Instr.sliceBound,asIntOf,hr,hz]
  |some p=>
    cases hi with
    |none=>
      simp only at hhi
      subst hhi
      simp [execOp,ho,hk.ev hx,hk.ev hlo,Instr.sliceAt,Instr.slice,run_underlying hu,Instr.sliceBounds,Instr.sliceBound,asIntOf,hr.1,hz]
    |some q=>simp [execOp,ho,hk.ev hx,hk.ev hlo,hk.ev hhi,Instr.sliceAt,Instr.slice,run_underlying hu,Instr.sliceBounds,Instr.sliceBound,asIntOf,hr,hz]
theorem qIl{t e x y k i sz v N}{cs:Array Value}(ho:o.op= .index t x y)(hx:ev env x=some (.agg cs))(hy:ev env y=some (.int k ((i:Nat):Int)))(hu:P.underlying t=some (.array N e))
    (hz: ∀w,(sizeOf e).run P w= .ok sz w) (hg: ∀w,(isAgg e).run P w= .ok false w) (hi:i<N) (hv:cs[i*sz]?=some v):YOp P env rs o v:=λn a w hk _=>by
  simp [execOp,ho,hk.ev hx,hk.ev hy,Instr.index,asIntOf,run_underlying hu,hz,hi,part,hg,hv]
theorem St.drewS{w0 w}(h:St w0 ms w):St w0 ms w.drew:=h.of_heap rfl rfl rfl rfl
theorem EOp.ofRun{X:Type}{val:X→Value}{φ:X→Prop}{ms':X→List Hp}
    (h: ∀n a (w0:Wd) w,Kn n env a→St w0 ms w→ ∃x w',(execOp a.eval o).run P w= .ok (.value (val x)) w'∧φ x∧St w0 (ms' x) w'):EOp P env ms o val φ ms':=
  λn a w0 w next Q hk hs hn=>by
    obtain ⟨x,w',hr,hx,hs'⟩:=h n a w0 w hk hs
    unfold Oper.wp
    rw [hr,Oper.upon_value]
    exact hn x w' hx hs'
theorem EOp.ofSkip{ms':List Hp}(h: ∀n a (w0:Wd) w,Kn n env a→St w0 ms w→ ∃w',(execOp a.eval o).run P w= .ok .skip w'∧St w0 ms' w'):EOp P env ms o (λ_:Unit=>undef) (λ_=>True) (λ_=>ms'):=
  λn a w0 w next Q hk hs hn=>by
    obtain ⟨w',hr,hs'⟩:=h n a w0 w hk hs
    unfold Oper.wp
    rw [hr,Oper.upon_skip]
    exact hn () w' trivial hs'
abbrev Ptr(g:Nat):Value:= .pointer (some ⟨g,0,none⟩)
theorem qAL{t z}(ho:o.op= .alloc t)(hz: ∀w,(zeroValue t).run P w= .ok z w){l:List Value}(hl:z.cells=l.toArray):
    EOp P env ms o Ptr (λ_=>True) (λg=>ms++ [blk g l t]):= .ofRun λn a w0 w hk hs=>
  ⟨w.heap.size,w.alloc (.cells l.toArray t),by simp [execOp,ho,Instr.alloc,hz,newVar,newRow,newObj,hl];rfl,trivial,hs.alloc _⟩
theorem qAd{t x v}(ho:o.op= .box t x)(hx:ev env x=some v){l:List Value}(hl:v.cells=l.toArray):
    EOp P env ms o Ptr (λ_=>True) (λg=>ms++ [blk g l t]):= .ofRun λn a w0 w hk hs=>
  ⟨w.heap.size,w.alloc (.cells l.toArray t),by simp [execOp,ho,hk.ev hx,Instr.box,newVar,newRow,newObj,hl];rfl,trivial,hs.alloc _⟩
def qBC(l:List Value)(k:Nat)(vs:List Value):List Value:=l.take k++vs++l.drop (k+vs.length)
theorem qEq{w:World}{g:Nat}{cs:Array Value}{e:TypeId}{fz:Nat×Nat}(h:w.heap[g]?=some (.cells cs e fz))(cs':Array Value):
    hp (w.setRow g cs')=qEH (hp w) g (.cells cs' e fz):=by
  funext k
  simp only [hp,World.setRow,qEH,z6]
  by_cases ek:k=g
  · subst ek;simp [h]
  · rw [if_neg (Ne.symm ek),if_neg ek]
theorem qIL{α:Type}(l:List α)(p:Nat)(v:α)(h:p<l.length):(l.set p v).take (p+1)=l.take p++ [v]:=by
  rw [jP (by simpa using h),List.getElem_set_self,List.take_set_of_le (jK _)]
theorem qBU(P:Program)(g off:Nat)(t:TypeId)(lo hi:Nat): ∀(vs:List Value) (i:Nat) (cur:Array Value) (w:World),w.heap[g]?=some (.cells cur t (lo,hi))→off+i+vs.length≤cur.size→(hi≤lo∨off+i+vs.length≤lo∨hi≤off+i)→(∀v∈vs,v.oneCell'=true)→
    (storeCells ⟨g,off,none⟩ vs i).run P w= .ok () (w.setRow g (cur.toList.take (off+i)++vs++cur.toList.drop (off+i+vs.length)).toArray)
  | [],i,cur,w,hg,_,_,_=>by
    simp only [storeCells,jQ,jE,za,zZ,Array.toArray_toList]
    rw [setRow_self w g cur t (lo,hi) hg]
    rfl
  |v::rest,i,cur,w,hg,hl,hf,h1=>by
    simp only [jD] at hl hf
    have hi':off+i<cur.size:=by omega
    have hc:w.cell? (Addr.add ⟨g,off,none⟩ i)=some cur[off+i]:=by
      rw [Addr.add_lit];simp [World.cell?,hg,hi']
    have hnf:w.frozen? (Addr.add ⟨g,off,none⟩ i)=false:=by
      rw [Addr.add_lit];simp only [World.frozen?,hg]
      simp;omega
    have hv:=h1 v (.head _)
    have hset:w.setCell (Addr.add ⟨g,off,none⟩ i) v=w.setRow g (cur.setIfInBounds (off+i) v):=by
      rw [Addr.add_lit]
      simp only [World.setCell,World.setRow]
      congr 1
      apply Array.ext_getElem?
      intro k
      simp only [z6]
      split
      · rename_i e;subst e;rw [hg];rfl
      · rfl
    have hrun:(store (Addr.add ⟨g,off,none⟩ i) v).run P w= .ok () (w.setRow g (cur.setIfInBounds (off+i) v)):=by
      rw [←hset]
      cases v<;>simp [Value.oneCell'] at hv<;>simp [store,Sem.run,hc,hnf]
    have hg2:(w.setRow g (cur.setIfInBounds (off+i) v)).heap[g]?=some (.cells (cur.setIfInBounds (off+i) v) t (lo,hi)):=setRow_heap w g cur _ t _ hg
    have ih:=qBU P g off t lo hi rest (i+1) (cur.setIfInBounds (off+i) v) _ hg2 (by simp;omega) (by omega) (λu hu=>h1 u (.tail _ hu))
    simp only [storeCells,Sem.run_bind,hrun,Result.andThen_ok,ih]
    congr 1
    simp only [World.setRow]
    congr 1
    apply Array.ext_getElem?
    intro k
    simp only [z6]
    by_cases ek:g=k
    · subst ek
      rw [if_pos rfl,if_pos rfl,if_pos rfl,hg]
      simp only [zn,zN,Obj.cells.injEq,and_true]
      congr 1
      rw [Array.toList_setIfInBounds,show off+(i+1)=off+i+1 by omega,qIL _ _ _ (by simpa using hi'),List.drop_set_of_lt (by omega)]
      simp [Nat.add_assoc,Nat.add_comm 1]
    · rw [if_neg ek,if_neg ek,if_neg ek]
theorem qAW{t x y g k l e v i}(ho:o.op= .store t x y)(hx:ev env x=some (.pointer (some ⟨g,k,none⟩)))(hy:ev env y=some v)(hi:ms[i]?=some (blk g l e)){vs:List Value}(hv:v.cells=vs.toArray)
    (hz: ∀w,(sizeOf t).run P w= .ok vs.length w) (h1:vs.all Value.oneCell'=true) (hk:k+vs.length≤l.length):
    EOp P env ms o (λ_:Unit=>undef) (λ_=>True) (λ_=>ms.set i (blk g (qBC l k vs) e)):= .ofSkip λn a w0 w hkn hs=>by
  have hg:w.heap[g]?=some (.cells l.toArray e (0,0)):=hs.mem (jL hi) g _ (qAb _ _)
  have hst:=qBU P g k e 0 0 vs 0 l.toArray w hg (by simpa using hk) (by simp) (by simpa [List.all_eq_true] using h1)
  simp only [za] at hst
  refine⟨w.setRow g (qBC l k vs).toArray,by simp [execOp,ho,hkn.ev hx,hkn.ev hy,Instr.storeAt,Instr.sureAddr,storeVar,hz,hv,hst,qBC],?_⟩
  have:=hs.set hi (qAb _ _) (w':=w.setRow g (qBC l k vs).toArray) (o':= .cells (qBC l k vs).toArray e (0,0)) rfl rfl rfl (by simp [World.setRow]) (qEq hg _)
  rw [qBQ] at this
  exact this
end
end Go.Fw
