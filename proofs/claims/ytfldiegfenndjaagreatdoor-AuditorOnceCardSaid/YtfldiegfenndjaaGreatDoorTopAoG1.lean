/- Rules for walking a translated function, over heaps that are apart: for any program. -/
import Derived.Test.YtfldiegfenndjaaGreatDoorTopAoG0
set_option linter.unusedSimpArgs false
set_option linter.unusedVariables false
namespace Go.Fw
open Go
def qAM(g:Nat)(o:Obj):Hp:=λk=>if k=g then some o else none
def qEA(m:Hp)(g:Nat)(o:Obj):Hp:=λk=>if k=g then some o else m k
abbrev blk(g:Nat)(l:List Value)(e:TypeId):Hp:=qAM g (.cells l.toArray e (0,0))
theorem qAX(g:Nat)(o:Obj):qAM g o g=some o:=by simp [qAM]
theorem qBP(g:Nat)(o o':Obj):qEA (qAM g o) g o'=qAM g o':=by
  funext k;simp only [qEA,qAM];split<;>rfl
def qAP(m:Hp)(ad:Addr)(vs:List Value):Prop:=
  ad.spot=none∧ ∃cs e fz,m ad.block=some (.cells cs e fz)∧ ∀j u,vs[j]?=some u→cs[ad.off+j]?=some u
theorem qAP.mono{m m':Hp}{ad vs}(h:qAP m ad vs)(hl:Le m m'):qAP m' ad vs:=
  let ⟨h1,cs,e,fz,h2,h3⟩:=h
  ⟨h1,cs,e,fz,hl _ _ h2,h3⟩
theorem qCu{ad:Addr}(h:ad.spot=none)(n:Nat):ad.add n=⟨ad.block,ad.off+n,none⟩:=by
  obtain ⟨b,o,s⟩:=ad
  simp at h;subst h
  exact Addr.add_lit b o n
theorem qAP.cell{w:World}{ad vs}(h:qAP (hp w) ad vs){j u}(hj:vs[j]?=some u):w.cell? (ad.add j)=some u:=by
  obtain ⟨h1,cs,e,fz,h2,h3⟩:=h
  rw [qCu h1]
  simp only [hp] at h2
  simp [World.cell?,h2,h3 j u hj]
theorem qCt(ad:Addr):ad.add 0=ad:=by simp [Addr.add]
theorem qTB(ad:Addr)(i j:Nat):(ad.add i).add j=ad.add (i+j):=by
  unfold Addr.add
  by_cases hi:i=0<;>by_cases hj:j=0<;>simp [hi,hj,Nat.add_assoc]
theorem qAP.sub{m:Hp}{ad vs}(h:qAP m ad vs)(k n:Nat):qAP m (ad.add k) ((vs.drop k).take n):=by
  obtain ⟨h1,cs,e,fz,h2,h3⟩:=h
  rw [qCu h1]
  refine⟨rfl,cs,e,fz,h2,λj u hj=>?_⟩
  rw [js] at hj
  split at hj
  · rw [jt] at hj
    have:=h3 (k+j) u hj
    simpa [Nat.add_assoc] using this
  · cases hj
theorem qAP.blk{g l e}(k:Nat){vs:List Value}(h: ∀j u,vs[j]?=some u→l[k+j]?=some u):qAP (blk g l e) ⟨g,k,none⟩ vs:=
  ⟨rfl,_,_,_,qAX _ _,λj u hj=>by simpa using h j u hj⟩
theorem qAP.blk1{g l e v}(k:Nat)(h:l[k]?=some v):qAP (Fw.blk g l e) ⟨g,k,none⟩ [v]:=
  qAP.blk k λj u hj=>by
    match j with
    |0=>simp at hj;subst hj;simpa using h
    |j+1=>simp at hj
theorem qAP.blk0{g l e}:qAP (Fw.blk g l e) ⟨g,0,none⟩ l:=qAP.blk 0 λj u hj=>by simpa using hj
def Sl(m:Hp)(sz:Nat)(A:Option Addr)(n c:Nat)(xs:List (List Value)):Prop:=
  xs.length=n∧n≤c∧ ∀i x,xs[i]?=some x→x.length=sz∧ ∃ad,A=some ad∧qAP m (ad.add (i*sz)) x
theorem Sl.mono{m m':Hp}{sz A n c xs}(h:Sl m sz A n c xs)(hl:Le m m'):Sl m' sz A n c xs:=
  ⟨h.1,h.2.1,λi x hx=>let ⟨h1,ad,h2,h3⟩:=h.2.2 i x hx;⟨h1,ad,h2,h3.mono hl⟩⟩
theorem Sl.nil{m:Hp}{sz A c}:Sl m sz A 0 c []:=⟨rfl,jF _,λi x hx=>by simp at hx⟩
theorem Sl.cut{m:Hp}{sz A n c xs}(h:Sl m sz A n c xs){lo hi mx:Nat}(h1:lo≤hi)(h2:hi≤n)(h3:hi≤mx):
    Sl m sz (if mx=lo then A else A.map (·.add (lo*sz))) (hi-lo) (mx-lo) ((xs.take hi).drop lo):=by
  refine⟨by rw [jL,jE,h.1,jl h2],by omega,λi x hx=>?_⟩
  rw [jt,js] at hx
  split at hx
  · rename_i hlt
    obtain ⟨e1,ad,e2,e3⟩:=h.2.2 _ _ hx
    refine⟨e1,ad.add (lo*sz),?_,?_⟩
    · rw [if_neg (by omega),e2];rfl
    · rw [qTB,←zV];exact e3
  · cases hx
theorem Sl.flat{m:Hp}{sz A n c xs}(h:Sl m sz A n c xs)(hn:0<n): ∃ad,A=some ad∧qAP m ad xs.flatten:=by
  have h0:0<xs.length:=by rw [h.1];exact hn
  obtain ⟨_,ad,hA,hc0⟩:=h.2.2 0 xs[0] (jC h0)
  simp only [zg,qCt] at hc0
  obtain ⟨hs,cs,e,fz,hb,_⟩:=hc0
  refine⟨ad,hA,hs,cs,e,fz,hb,?_⟩
  have key: ∀(l:List (List Value)) (k:Nat),(∀i x,l[i]?=some x→xs[k+i]?=some x)→ ∀j u,l.flatten[j]?=some u→cs[ad.off+k*sz+j]?=some u:=by
    intro l
    induction l with
    |nil=>intro k _ j u hj;simp at hj
    |cons x l ih=>
      intro k hl j u hj
      have hx:=hl 0 x rfl
      obtain ⟨ex,ad',e2,h3⟩:=h.2.2 _ _ hx
      rw [hA] at e2
      cases e2
      simp only [jW] at hj
      rw [qCu hs] at h3
      obtain ⟨_,cs',e',fz',hb',hc'⟩:=h3
      simp only at hb' hc'
      rw [hb] at hb'
      cases hb'
      by_cases hlt:j<x.length
      · rw [jY hlt] at hj
        have:=hc' j u hj
        simpa using this
      · rw [jb (by omega)] at hj
        have:=ih (k+1) (λi y hy=>by have:=hl (i+1) y (by simpa using hy);rw [←this];congr 1;omega) (j-x.length) u hj
        rw [←this]
        congr 1
        rw [ex,zV]
        omega
  intro j u hj
  have:=key xs 0 (λi x hx=>by simpa using hx) j u hj
  simpa using this
def qBc(q:Prop)(m:Hp)(e:TypeId)(sz:Nat)(A:Option Addr)(n c:Nat)(xs:List (List Value)):Prop:=
  xs.length=n∧(∀x∈xs,x.length=sz)∧n≤c∧
  ((A=none∧c=0∧m=λ_=>none)∨
   ∃g rest lo hi,A=some ⟨g,0,none⟩∧m=qAM g (.cells (xs.flatten++rest).toArray e (lo,hi))∧(xs.flatten++rest).length=c*sz∧(hi=lo∨(q∧c*sz≤lo)∨((q→False)∧hi≤n*sz)))
abbrev Row(m:Hp)(e:TypeId)(sz:Nat)(A:Option Addr)(n c:Nat)(xs:List (List Value)):Prop:=qBc True m e sz A n c xs
theorem qBc.len{q m e sz A n c xs}(h:qBc q m e sz A n c xs):xs.length=n:=h.1
theorem qBc.nil{q e sz}:qBc q (λ_=>none) e sz none 0 0 []:=⟨rfl,by simp,jJ _,.inl ⟨rfl,rfl,rfl⟩⟩
theorem qAo{xs:List (List Value)}{sz:Nat}(h: ∀x∈xs,x.length=sz):xs.flatten.length=xs.length*sz:=by
  induction xs with
  |nil=>simp
  |cons x xs ih=>
    simp only [jW,jA,jD]
    rw [ih (λy hy=>h y (.tail _ hy)),h x (.head _),zV]
    omega
theorem qGG{xs:List (List Value)}{sz:Nat}(h: ∀x∈xs,x.length=sz): ∀{i:Nat} {x:List Value},xs[i]?=some x→ ∀{j:Nat} {u:Value},x[j]?=some u→xs.flatten[i*sz+j]?=some u:=by
  induction xs with
  |nil=>intro i x hx;simp at hx
  |cons y xs ih=>
    intro i x hx j u hj
    have hy:=h y (.head _)
    match i with
    |0=>
      simp at hx;subst hx
      have:j<y.length:=(List.getElem?_eq_some_iff.1 hj).1
      simp only [jW,zg,jn]
      rw [jY this];exact hj
    |i+1=>
      simp at hx
      simp only [jW]
      have e:(i+1)*sz+j=y.length+(i*sz+j):=by rw [hy,zV];omega
      rw [e,jb (by omega)]
      have:=ih (λy hy=>h y (.tail _ hy)) hx hj
      simpa using this
theorem qBc.sl{q m e sz A n c xs}(h:qBc q m e sz A n c xs):Sl m sz A n c xs:=by
  obtain ⟨h1,h2,h3,h4⟩:=h
  refine⟨h1,h3,λi x hx=>⟨h2 x (jI hx),?_⟩⟩
  rcases h4 with ⟨_,hc,_⟩|⟨g,rest,lo,hi,hA,hm,hl,_⟩
  · have:i<xs.length:=(List.getElem?_eq_some_iff.1 hx).1
    omega
  · refine⟨⟨g,0,none⟩,hA,?_⟩
    rw [Addr.add_lit]
    refine⟨rfl,_,_,_,by rw [hm];exact qAX _ _,λj u hj=>?_⟩
    have hf:=qGG h2 hx hj
    have hlt:=(List.getElem?_eq_some_iff.1 hf).1
    simp only [jn,zI]
    rw [jY hlt];exact hf
theorem qLD(w:World)(o:Obj):hp (w.alloc o)=qEA (hp w) w.heap.size o:=by
  funext k
  simp only [hp,World.alloc,qEA,Array.getElem?_push]
theorem qFI{w:World}{g:Nat}{o:Obj}(h:hp w g=some o):g<w.heap.size:=(Array.getElem?_eq_some_iff.1 h).1
theorem St.app{w0 ms w w' new}(h:St w0 ms w)(h1:w'.os=w.os)(h2:w'.output=w.output)(h3:w'.tape=w.tape)(h4:w.heap.size≤w'.heap.size)
    (hle:Le (hp w) (hp w')) (hd:Djs new) (hn: ∀m∈new,Le m (hp w')∧ ∀g,g<w.heap.size→m g=none):St w0 (ms++new) w':=by
  refine⟨h1.trans h.os,h2.trans h.out,h3.trans h.tape,jd h.size h4,?_,?_,?_,?_⟩
  · rw [qAW,jQ]
    refine⟨qAW.1 h.dj,qAW.1 hd,λm hm m' hm' g=>?_⟩
    cases hg:m g with
    |none=>exact .inl rfl
    |some o=>exact .inr ((hn m' hm').2 g (qFI (h.mem hm g o hg)))
  · intro g o ho
    obtain ⟨m,hm,hg⟩:=qB9 ho
    rcases List.mem_append.1 hm with hm|hm
    · exact hle _ _ (h.mem hm g o hg)
    · exact(hn m hm).1 g o hg
  · intro m hm g
    rcases List.mem_append.1 hm with hm|hm
    · exact h.kd m hm g
    · cases hg:w0.kp g with
      |none=>exact .inl rfl
      |some o=>exact .inr ((hn m hm).2 g (qFI (h.kl g o hg)))
  · exact h.kl.trans hle
theorem St.alloc{w0 ms w}(h:St w0 ms w)(o:Obj):St w0 (ms++ [qAM w.heap.size o]) (w.alloc o):=by
  refine h.app rfl rfl rfl (by rw [World.size_alloc];omega) ?_ ?_ ?_
  · rw [qLD]
    intro g o' ho
    have:=qFI ho
    simp only [qEA]
    rw [if_neg (by omega)];exact ho
  · simp [Djs,Dj,U]
  · intro m hm
    simp only [jU] at hm
    subst hm
    refine⟨?_,λg hg=>by simp only [qAM];rw [if_neg (by omega)]⟩
    rw [qLD]
    intro g o' ho
    simp only [qAM] at ho
    simp only [qEA]
    split at ho
    · rename_i e;rw [if_pos e];exact ho
    · cases ho
theorem St.set{w0 ms w i m g o o' w'}(h:St w0 ms w)(hi:ms[i]?=some m)(hg:m g=some o)(h1:w'.os=w.os)(h2:w'.output=w.output)(h3:w'.tape=w.tape)(h4:w'.heap.size=w.heap.size)
    (hw:hp w'=qEA (hp w) g o'):St w0 (ms.set i (qEA m g o')) w':=by
  have hlt:i<ms.length:=(List.getElem?_eq_some_iff.1 hi).1
  have hdom: ∀k,qEA m g o' k=none→m k=none:=λk hk=>by
    simp only [qEA] at hk
    split at hk
    · cases hk
    · exact hk
  have hoth: ∀j m',ms[j]?=some m'→j≠i→m' g=none:=λj m' hj hne=>by
    rcases qDA h.dj hj hi hne g with h'|h'
    · exact h'
    · rw [hg] at h';cases h'
  refine⟨h1.trans h.os,h2.trans h.out,h3.trans h.tape,by rw [h4];exact h.size,?_,?_,?_,?_⟩
  · rw [qAW,zt]
    intro a b ha hb hab k
    simp only [jm] at ha hb
    simp only [List.getElem_set]
    have hjd:=qDA h.dj (jC ha) (jC hb) (Nat.ne_of_lt hab) k
    by_cases ea:i=a
    · subst ea
      rw [if_pos rfl,if_neg (by omega)]
      by_cases ek:k=g
      · rw [ek];exact .inr (hoth b _ (jC (by omega)) (by omega))
      · rcases hjd with hjd|hjd
        · left;simp only [qEA];rw [if_neg ek]
          have:ms[i]=m:=by have:=hi;rw [jC ha] at this;exact Option.some.inj this
          rw [←this];exact hjd
        · exact .inr hjd
    · rw [if_neg ea]
      by_cases eb:i=b
      · subst eb
        rw [if_pos rfl]
        by_cases ek:k=g
        · rw [ek];exact .inl (hoth a _ (jC (by omega)) (by omega))
        · rcases hjd with hjd|hjd
          · exact .inl hjd
          · right;simp only [qEA];rw [if_neg ek]
            have:ms[i]=m:=by have:=hi;rw [jC hb] at this;exact Option.some.inj this
            rw [←this];exact hjd
      · rw [if_neg eb];exact hjd
  · intro k x hx
    obtain ⟨m',hm',hk⟩:=qB9 hx
    rw [hw]
    simp only [qEA]
    obtain ⟨j,hj⟩:=List.mem_iff_getElem?.1 hm'
    rw [j9] at hj
    by_cases ej:i=j
    · subst ej
      rw [if_pos rfl,if_pos hlt] at hj
      cases hj
      simp only [qEA] at hk
      split at hk
      · rename_i e;rw [if_pos e];exact hk
      · rename_i e
        rw [if_neg e];exact h.mem (jI hi) k x hk
    · rw [if_neg ej] at hj
      have hk':=hoth j m' hj (Ne.symm ej)
      have ek:k≠g:=λe=>by subst e;rw [hk'] at hk;cases hk
      rw [if_neg ek];exact h.mem (jI hj) k x hk
  · have hkg:w0.kp g=none:=by
      rcases h.kd m (jI hi) g with h'|h'
      · exact h'
      · rw [hg] at h';cases h'
    intro y hy k
    obtain ⟨j,hj⟩:=List.mem_iff_getElem?.1 hy
    rw [j9] at hj
    by_cases ej:i=j
    · subst ej
      rw [if_pos rfl,if_pos hlt] at hj
      cases hj
      by_cases ek:k=g
      · rw [ek];exact .inl hkg
      · rcases h.kd m (jI hi) k with h'|h'
        · exact .inl h'
        · right;simp only [qEA];rw [if_neg ek];exact h'
    · rw [if_neg ej] at hj
      exact h.kd y (jI hj) k
  · have hkg:w0.kp g=none:=by
      rcases h.kd m (jI hi) g with h'|h'
      · exact h'
      · rw [hg] at h';cases h'
    intro k x hx
    rw [hw]
    simp only [qEA]
    rw [if_neg (λe=>by subst e;rw [hkg] at hx;cases hx)]
    exact h.kl k x hx
section
variable{P:Program}{env:Env}{rs ms:List Hp}{o:Oper}
theorem qAC{x ad}(ho:o.op= .nilCheck x)(hx:ev env x=some (.pointer (some ad))):YOp P env rs o (.pointer (some ad)):=λn a w hk _=>by
  simp [execOp,ho,hk.ev hx]
theorem qAA{s x f i k fs g off j}(ho:o.op= .fieldAddr s x i)(hx:ev env x=some (.pointer (some ⟨g,off,none⟩)))(hu:P.underlying s=some (.struct fs))(hf:fs[i]?=some f)
    (hz: ∀w,(sizeOf f.type).run P w= .ok (k+1) w) (hj:off+f.offset=j):YOp P env rs o (.pointer (some ⟨g,j,none⟩)):=λn a w hk _=>by
  subst hj
  simp [execOp,ho,hk.ev hx,Instr.fieldAt,run_underlying hu,hf,Instr.sureAddr,fieldPlace,hz,Addr.add_lit]
def qDX(A:Option Addr)(i sz:Nat):Addr:=(A.getD ⟨0,0,none⟩).add (i*sz)
theorem qAF{t e x y k i sz A n' c xs m}(ho:o.op= .indexAddr t x y)(hx:ev env x=some (.slice A n' c))(hy:ev env y=some (.int k ((i:Nat):Int)))(hu:P.underlying t=some (.slice e))
    (hz: ∀w,(sizeOf e).run P w= .ok sz w) (hs:Sl m sz A n' c xs) (hi:i<n'):YOp P env rs o (.pointer (some (qDX A i sz))):=λn a w hk _=>by
  have hlt:i<xs.length:=by rw [hs.1];exact hi
  obtain ⟨_,ad,hA,_⟩:=hs.2.2 i xs[i] (jC hlt)
  subst hA
  simp [execOp,ho,hk.ev hx,hk.ev hy,Instr.indexAt,asIntOf,run_underlying hu,hz,hi,qDX]
theorem Sl.elem{m sz A n c xs}(h:Sl m sz A n c xs){i:Nat}{x:List Value}(hx:xs[i]?=some x):qAP m (qDX A i sz) x:=by
  obtain ⟨_,ad,hA,hc⟩:=h.2.2 i x hx
  subst hA;exact hc
theorem qHc{t e x y k i sz g off N}(ho:o.op= .indexAddr t x y)(hx:ev env x=some (.pointer (some ⟨g,off,none⟩)))(hy:ev env y=some (.int k ((i:Nat):Int)))(hu:P.underlying t=some (.array N e))
    (hz: ∀w,(sizeOf e).run P w= .ok sz w) (hi:i<N):YOp P env rs o (.pointer (some ⟨g,off+i*sz,none⟩)):=λn a w hk _=>by
  simp [execOp,ho,hk.ev hx,hk.ev hy,Instr.indexAt,Instr.sureAddr,asIntOf,run_underlying hu,hz,hi,Addr.add_lit]
theorem qAL{t x ad v m}(ho:o.op= .load t x)(hx:ev env x=some (.pointer (some ad)))(hg: ∀w,(isAgg t).run P w= .ok false w)(hm:m∈rs)(hc:qAP m ad [v]):YOp P env rs o v:=λn a w hk hr=>by
  have:=(hc.mono (hr m hm)).cell (j:=0) rfl
  rw [qCt] at this
  simp [execOp,ho,hk.ev hx,Instr.loadAt,Instr.sureAddr,loadVar,hg,this]
theorem qAl{t x ad vs k m}(ho:o.op= .load t x)(hx:ev env x=some (.pointer (some ad)))(hg: ∀w,(isAgg t).run P w= .ok true w)(hz: ∀w,(sizeOf t).run P w= .ok k w)(hm:m∈rs)(hc:qAP m ad vs)(hl:vs.length=k):
    YOp P env rs o (.agg vs.toArray):=λn a w hk hr=>by
  have:=run_loadCells_list (P:=P) w ad vs (λj u hj=>(hc.mono (hr m hm)).cell hj)
  rw [hl] at this
  simp [execOp,ho,hk.ev hx,Instr.loadAt,Instr.sureAddr,loadVar,hg,hz,this]
theorem qC4{t e x lo hi sz A n' c l h}(ho:o.op= .slice t x lo hi none)(hx:ev env x=some (.slice A n' c))(hu:P.underlying t=some (.slice e))(hz: ∀w,(sizeOf e).run P w= .ok sz w)
    (hlo:match lo with|none=>l=0|some p=>ev env p=some (I ((l:Nat):Int))) (hhi:match hi with|none=>h=n'|some p=>ev env p=some (I ((h:Nat):Int))) (hr:l≤h∧h≤c):
    YOp P env rs o (.slice (if c=l then A else A.map (·.add (l*sz))) (h-l) (c-l)):=λn a w hk _=>by
  cases lo with
  |none=>
    simp only at hlo
    subst hlo
    cases hi with
    |none=>
      simp only at hhi
      subst hhi
      simp [execOp,ho,hk.ev hx,Instr.sliceAt,Instr.slice,run_underlying hu,Instr.sliceBounds,hz]
    |some q=>simp [execOp,ho,hk.ev hx,hk.ev hhi,Instr.sliceAt,Instr.slice,run_underlying hu,Instr.sliceBounds,Instr.sliceBound,asIntOf,hr,hz]
  |some p=>
    cases hi with
    |none=>
      simp only at hhi
      subst hhi
      simp [execOp,ho,hk.ev hx,hk.ev hlo,Instr.sliceAt,Instr.slice,run_underlying hu,Instr.sliceBounds,Instr.sliceBound,asIntOf,hr.1,hz]
    |some q=>simp [execOp,ho,hk.ev hx,hk.ev hlo,hk.ev hhi,Instr.sliceAt,Instr.slice,run_underlying hu,Instr.sliceBounds,Instr.sliceBound,asIntOf,hr,hz]
theorem qHd{t e x y k i sz v N}{cs:Array Value}(ho:o.op= .index t x y)(hx:ev env x=some (.agg cs))(hy:ev env y=some (.int k ((i:Nat):Int)))(hu:P.underlying t=some (.array N e))
    (hz: ∀w,(sizeOf e).run P w= .ok sz w) (hg: ∀w,(isAgg e).run P w= .ok false w) (hi:i<N) (hv:cs[i*sz]?=some v):YOp P env rs o v:=λn a w hk _=>by
  simp [execOp,ho,hk.ev hx,hk.ev hy,Instr.index,asIntOf,run_underlying hu,hz,hi,part,hg,hv]
theorem qKr{t x i f v fs}{cs:Array Value}(ho:o.op= .field t x i)(hx:ev env x=some (.agg cs))(hu:P.underlying t=some (.struct fs))(hf:fs[i]?=some f)
    (hg: ∀w,(isAgg f.type).run P w= .ok false w) (hv:cs[f.offset]?=some v):YOp P env rs o v:=λn a w hk _=>by
  simp [execOp,ho,hk.ev hx,Instr.field,run_underlying hu,hf,asAgg,part,hg,hv]
theorem St.drewS{w0 w}(h:St w0 ms w):St w0 ms w.drew:=h.of_heap rfl rfl rfl rfl
theorem EOp.ofRun{X:Type}{val:X→Value}{φ:X→Prop}{ms':X→List Hp}
    (h: ∀n a (w0:Wd) w,Kn n env a→St w0 ms w→ ∃x w',(execOp a.eval o).run P w= .ok (.value (val x)) w'∧φ x∧St w0 (ms' x) w'):EOp P env ms o val φ ms':=
  λn a w0 w next Q hk hs hn=>by
    obtain ⟨x,w',hr,hx,hs'⟩:=h n a w0 w hk hs
    unfold Oper.wp
    rw [hr,Oper.upon_value]
    exact hn x w' hx hs'
theorem EOp.ofSkip{ms':List Hp}(h: ∀n a (w0:Wd) w,Kn n env a→St w0 ms w→ ∃w',(execOp a.eval o).run P w= .ok .skip w'∧St w0 ms' w'):EOp P env ms o (λ_:Unit=>undef) (λ_=>True) (λ_=>ms'):=
  λn a w0 w next Q hk hs hn=>by
    obtain ⟨w',hr,hs'⟩:=h n a w0 w hk hs
    unfold Oper.wp
    rw [hr,Oper.upon_skip]
    exact hn () w' trivial hs'
abbrev Ptr(g:Nat):Value:= .pointer (some ⟨g,0,none⟩)
theorem qAO{t z}(ho:o.op= .alloc t)(hz: ∀w,(zeroValue t).run P w= .ok z w){l:List Value}(hl:z.cells=l.toArray):
    EOp P env ms o Ptr (λ_=>True) (λg=>ms++ [blk g l t]):= .ofRun λn a w0 w hk hs=>
  ⟨w.heap.size,w.alloc (.cells l.toArray t),by simp [execOp,ho,Instr.alloc,hz,newVar,newRow,newObj,hl];rfl,trivial,hs.alloc _⟩
theorem qAi{t x v}(ho:o.op= .box t x)(hx:ev env x=some v){l:List Value}(hl:v.cells=l.toArray):
    EOp P env ms o Ptr (λ_=>True) (λg=>ms++ [blk g l t]):= .ofRun λn a w0 w hk hs=>
  ⟨w.heap.size,w.alloc (.cells l.toArray t),by simp [execOp,ho,hk.ev hx,Instr.box,newVar,newRow,newObj,hl];rfl,trivial,hs.alloc _⟩
def qA6(l:List Value)(k:Nat)(vs:List Value):List Value:=l.take k++vs++l.drop (k+vs.length)
theorem qET{w:World}{g:Nat}{cs:Array Value}{e:TypeId}{fz:Nat×Nat}(h:w.heap[g]?=some (.cells cs e fz))(cs':Array Value):
    hp (w.setRow g cs')=qEA (hp w) g (.cells cs' e fz):=by
  funext k
  simp only [hp,World.setRow,qEA,zp]
  by_cases ek:k=g
  · subst ek;simp [h]
  · rw [if_neg (Ne.symm ek),if_neg ek]
theorem qHM{α:Type}(l:List α)(p:Nat)(v:α)(h:p<l.length):(l.set p v).take (p+1)=l.take p++ [v]:=by
  rw [jO (by simpa using h),List.getElem_set_self,List.take_set_of_le (jJ _)]
theorem qBJ(P:Program)(g off:Nat)(t:TypeId)(lo hi:Nat): ∀(vs:List Value) (i:Nat) (cur:Array Value) (w:World),w.heap[g]?=some (.cells cur t (lo,hi))→off+i+vs.length≤cur.size→(hi≤lo∨off+i+vs.length≤lo∨hi≤off+i)→(∀v∈vs,v.oneCell'=true)→
    (storeCells ⟨g,off,none⟩ vs i).run P w= .ok () (w.setRow g (cur.toList.take (off+i)++vs++cur.toList.drop (off+i+vs.length)).toArray)
  | [],i,cur,w,hg,_,_,_=>by
    simp only [storeCells,jS,jH,zO,jy,Array.toArray_toList]
    rw [setRow_self w g cur t (lo,hi) hg]
    rfl
  |v::rest,i,cur,w,hg,hl,hf,h1=>by
    simp only [jD] at hl hf
    have hi':off+i<cur.size:=by omega
    have hc:w.cell? (Addr.add ⟨g,off,none⟩ i)=some cur[off+i]:=by
      rw [Addr.add_lit];simp [World.cell?,hg,hi']
    have hnf:w.frozen? (Addr.add ⟨g,off,none⟩ i)=false:=by
      rw [Addr.add_lit];simp only [World.frozen?,hg]
      simp;omega
    have hv:=h1 v (.head _)
    have hset:w.setCell (Addr.add ⟨g,off,none⟩ i) v=w.setRow g (cur.setIfInBounds (off+i) v):=by
      rw [Addr.add_lit]
      simp only [World.setCell,World.setRow]
      congr 1
      apply Array.ext_getElem?
      intro k
      simp only [zp]
      split
      · rename_i e;subst e;rw [hg];rfl
      · rfl
    have hrun:(store (Addr.add ⟨g,off,none⟩ i) v).run P w= .ok () (w.setRow g (cur.setIfInBounds (off+i) v)):=by
      rw [←hset]
      cases v<;>simp [Value.oneCell'] at hv<;>simp [store,Sem.run,hc,hnf]
    have hg2:(w.setRow g (cur.setIfInBounds (off+i) v)).heap[g]?=some (.cells (cur.setIfInBounds (off+i) v) t (lo,hi)):=setRow_heap w g cur _ t _ hg
    have ih:=qBJ P g off t lo hi rest (i+1) (cur.setIfInBounds (off+i) v) _ hg2 (by simp;omega) (by omega) (λu hu=>h1 u (.tail _ hu))
    simp only [storeCells,Sem.run_bind,hrun,Result.andThen_ok,ih]
    congr 1
    simp only [World.setRow]
    congr 1
    apply Array.ext_getElem?
    intro k
    simp only [zp]
    by_cases ek:g=k
    · subst ek
      rw [if_pos rfl,if_pos rfl,if_pos rfl,hg]
      simp only [zQ,Option.some.injEq,Obj.cells.injEq,and_true]
      congr 1
      rw [Array.toList_setIfInBounds,show off+(i+1)=off+i+1 by omega,qHM _ _ _ (by simpa using hi'),List.drop_set_of_lt (by omega)]
      simp [Nat.add_assoc,Nat.add_comm 1]
    · rw [if_neg ek,if_neg ek,if_neg ek]
theorem qAV{t x y g k l e v i}(ho:o.op= .store t x y)(hx:ev env x=some (.pointer (some ⟨g,k,none⟩)))(hy:ev env y=some v)(hi:ms[i]?=some (blk g l e)){vs:List Value}(hv:v.cells=vs.toArray)
    (hz: ∀w,(sizeOf t).run P w= .ok vs.length w) (h1:vs.all Value.oneCell'=true) (hk:k+vs.length≤l.length):
    EOp P env ms o (λ_:Unit=>undef) (λ_=>True) (λ_=>ms.set i (blk g (qA6 l k vs) e)):= .ofSkip λn a w0 w hkn hs=>by
  have hg:w.heap[g]?=some (.cells l.toArray e (0,0)):=hs.mem (jI hi) g _ (qAX _ _)
  have hst:=qBJ P g k e 0 0 vs 0 l.toArray w hg (by simpa using hk) (by simp) (by simpa [List.all_eq_true] using h1)
  simp only [zO] at hst
  refine⟨w.setRow g (qA6 l k vs).toArray,by simp [execOp,ho,hkn.ev hx,hkn.ev hy,Instr.storeAt,Instr.sureAddr,storeVar,hz,hv,hst,qA6],?_⟩
  have:=hs.set hi (qAX _ _) (w':=w.setRow g (qA6 l k vs).toArray) (o':= .cells (qA6 l k vs).toArray e (0,0)) rfl rfl rfl (by simp [World.setRow]) (qET hg _)
  rw [qBP] at this
  exact this
end
end Go.Fw
