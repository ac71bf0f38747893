/- Rules for walking a translated function, over heaps that are apart: for any program. -/
import Derived.Test.YtmemgokiolfdoaaGreatDoorTopSpG0
import Derived.Great.BuildSlice
import Derived.Laws.IdiomStrings
set_option linter.unusedSimpArgs false
set_option linter.unusedVariables false
namespace Go.Fw
open Go
section
variable{P:Program}{env:Env}{rs ms:List Hp}{o:Oper}
structure qCx (P:Program) (e:TypeId) (z:yU) (bytes:Nat):Prop where
  row: ∃i zv,P.info? e=some i/\i.size=z.length/\i.bytes=bytes/\i.zero=some zv/\zv.cells=z.toArray
  pos:0<z.length
theorem qCx.of{e:TypeId}{z:yU}{bytes:Nat}(h:(P.info? e).map (λi=>(i.size,i.bytes,i.zero.map Value.cells))=some (z.length,bytes,some z.toArray))(h0:Nat.blt 0 z.length=true):qCx P e z bytes:=by
  obtain ⟨i,hi,he⟩:=Option.map_eq_some_iff.1 h
  simp only [Prod.mk.injEq] at he
  obtain ⟨zv,hz,hc⟩:=Option.map_eq_some_iff.1 he.2.2
  exact⟨⟨i,zv,hi,he.1,he.2.1,hz,hc⟩,by simpa [Nat.blt_eq] using h0⟩
theorem qCx.sizeOf{e:TypeId}{z:yU}{bytes:Nat}(h:qCx P e z bytes)(w:World):(sizeOf e).run P w= .ok z.length w:=by
  obtain ⟨i,zv,hi,h1,_⟩:=h.row
  simp [Go.sizeOf,typeInfo,hi,h1]
theorem qHT{q:Prop}{m:Hp}{e:TypeId}{sz g:Nat}{xs:List yU}{rest:yU}{n c lo hi:Nat}(hm:m=qAd g (.cells (xs.flatten++rest).toArray e (lo,hi)))(hn:xs.length=n)(hz: ∀x∈xs,x.length=sz)(hl:(xs.flatten++rest).length=c*sz)(hc:n<=c)(hf:hi=lo\/(q/\c*sz<=lo)\/((q->False)/\hi<=n*sz)):
    qBf q m e sz (some ⟨g,0,none⟩) n c xs:=⟨hn,hz,hc,.inr ⟨g,rest,lo,hi,rfl,hm,hl,hf⟩⟩
theorem qAj{q:Prop}{e sz g n}{xs:List yU}(hxs:xs.length=n)(hsz: ∀x∈xs,x.length=sz):qBf q (blk g xs.flatten e) e sz (some ⟨g,0,none⟩) n n xs:=
  qHT (rest:= []) (lo:=0) (hi:=0) xD hxs hsz (by simp [qA7 hsz,hxs]) (jL _) (.inl O)
def qHX(l:List Operand):Array (Nat×Operand):=((l.zipIdx 0).map λx=>(x.2,x.1)).toArray
theorem qGE{α β:Type}(f:α->β): ∀(l:List α) (k:Nat),(l.zipIdx k).map (λx=>(x.2,f x.1))=((l.map f).zipIdx k).map (λx=>(x.2,x.1))
  | [],_=>rfl
  |a::l,k=>by simp only [List.zipIdx_cons,jY,qGE f l (k+1)]
theorem qAE{t e n' z by'}{xs:List yU}{l:List Operand}{vs:yU}{parts:Array (Nat×Operand)}(ho:o.op= .buildSlice t n' parts)(hp:parts=qHX l)(hv:evs env l=some vs)
    (hxs:vs.map (λv=>v.cells.toList)=xs) (hu:P.underlying t=some (.slice e)) (he:qCx P e z by') (hn:vs.length=n') (h0:0<n') (hsm:n'*z.length<=16777216) (hz: ∀x∈xs,x.length=z.length):
    EOp P env ms o (λg=> .slice (some ⟨g,0,none⟩) n' n') (λ_=>True) (λg=>ms++ [blk g xs.flatten e]):= .ofRun λn a w0 w hk hs=>by
  obtain ⟨i,zv,hi,hi1,_,hi3,hi4⟩:=he.row
  refine⟨w.heap.size,w.alloc (.cells xs.flatten.toArray e),?_,yd,hs.alloc _⟩
  have hev:=hk.evs hv
  have hfl:xs.flatten=vs.flatMap λv=>v.cells.toList:=by rw [<-hxs,List.flatMap_def]
  have hr:=run_buildSlice (P:=P) w t e n' (parts.map λ(i,x)=>(i,a.eval x)) xs.flatten.toArray i zv hu hi hi3 (by rw [hi1];omega) (by rw [hi1];have:=Nat.mul_pos h0 he.pos;omega) (by
    rw [hp,hfl]
    have e1:((qHX l).map λ(i,x)=>(i,a.eval x)).toList=(vs.zipIdx 0).map λx=>(x.2,x.1):=by
      simp only [qHX,List.map_toArray,ze]
      rw [<-hev]
      exact qGE a.eval l 0
    rw [e1]
    refine Great.fill_whole (by rw [hi1];exact he.pos) vs _ (λv hv'=>?_) (by simp [hn])
    have:=hz v.cells.toList (by rw [<-hxs];exact List.mem_map.2 ⟨v,hv',O⟩)
    rw [hi1,<-this];simp)
  simp only [execOp,ho]
  rw [Sem.run_bind,hr]
  rfl
theorem qBN{t e z by'}(ho:o.op= .buildSlice t 0 #[])(hu:P.underlying t=some (.slice e))(he:qCx P e z by'):
    EOp P env ms o (λg=> .slice (some ⟨g,0,none⟩) 0 0) (λ_=>True) (λg=>ms++ [blk g [] e]):= .ofRun λn a w0 w hk hs=>by
  obtain ⟨i,zv,hi,hi1,_,hi3,hi4⟩:=he.row
  refine⟨w.heap.size,w.alloc (.cells #[] e),?_,yd,hs.alloc _⟩
  simp [execOp,ho,Instr.buildSlice,run_underlying hu,sizeOf,typeInfo,hi,newRow,Instr.fill]
  simp [Array.range]
theorem qET{z:yU}(h0:0<z.length)(n:Nat):madeCells z.toArray (n*z.length)=(List.replicate n z).flatten.toArray:=by
  apply Array.ext_getElem?
  intro k
  simp only [madeCells,Array.getElem?_map,zM]
  by_cases hk:k<n*z.length
  . have hkm:k%z.length<z.length:=Nat.mod_lt _ h0
    have:(List.replicate n z).flatten[k/z.length*z.length+k%z.length]?=some z[k%z.length]:=
      qHw (sz:=z.length) (xs:=List.replicate n z) (λx hx=>by rw [zT hx]) (x:=z)
        (by rw [List.getElem?_replicate,yX (by rw [yG h0];exact hk)]) (jD hkm)
    rw [Nat.div_add_mod'] at this
    rw [this]
    have h4:k<(Array.range (n*z.length)).size:=by rw [Array.size_range];exact hk
    rw [yM h4,Array.getElem_range]
    simp only [zu,zl]
    rw [getElem!_pos z.toArray (k%z.length) (by rw [zl];exact hkm)]
    rfl
  . have h2:(List.replicate n z).flatten.length=n*z.length:=by
      rw [qA7 (sz:=z.length) (λx hx=>by rw [zT hx])];simp
    rw [je xB]
    have h3:(Array.range (n*z.length))[k]?=none:=Array.getElem?_eq_none (by rw [Array.size_range];omega)
    rw [h3];rfl
theorem qCY{t e x z n' by'}(ho:o.op= .makeSlice t x x)(hx:ev env x=some (I (n':Nat)))(hu:P.underlying t=some (.slice e))(he:qCx P e z by')
    (hb:by'*n'<=281474976710656) (hn:n'<=9223372036854775807):
    EOp P env ms o (λg=> .slice (some ⟨g,0,none⟩) n' n') (λ_=>True) (λg=>ms++ [blk g (List.replicate n' z).flatten e]):= .ofRun λn a w0 w hk hs=>by
  obtain ⟨i,zv,hi,hi1,hi2,hi3,hi4⟩:=he.row
  refine⟨w.heap.size,w.alloc (.cells (List.replicate n' z).flatten.toArray e),?_,yd,hs.alloc _⟩
  have hb':(i.bytes:Int)*(n':Int)<=281474976710656:=by
    rw [hi2]
    have h:((by'*n':Nat):Int)<=281474976710656:=xB
    rwa [yQ] at h
  have hr:=run_make (P:=P) w t e i zv hu hi hi3 .i64 .i64 n' n' xB (Int.le_refl _) hb' xB
  simp only [jd,hi1,hi4,qET he.pos] at hr
  simp only [execOp,ho,hk.ev hx]
  rw [Sem.run_bind,hr]
  rfl
theorem qUD{q:Prop}{e g n}{z:yU}:qBf q (blk g (List.replicate n z).flatten e) e z.length (some ⟨g,0,none⟩) n n (List.replicate n z):=
  qAj xD (λx hx=>by rw [zT hx])
theorem St.newBlock{w0:Wd}{w:World}(h:St w0 ms w)(o:Obj):St w0 (ms++ [qAd w.heap.size o]) (w.drew.alloc o):=h.drewS.alloc o
theorem qMZ{xs:List yU}(h:xs.all (λx=>x.all Value.oneCell')=true): ∀v∈xs.flatten,v.oneCell'=true:=by
  intro v hv
  obtain ⟨x,hx,hv⟩:=List.mem_flatten.1 hv
  exact List.all_eq_true.1 (List.all_eq_true.1 h x hx) v hv
theorem St.replace{w0:Wd}{w:World}{m':Hp}(h:St w0 (ms++ [m']) w)(i:Nat):St w0 (ms.set i m') w:=by
  refine h.intro_of ?_ ?_ ?_
  . rw [qAh,yL]
    intro a b ha hb hab
    simp only [j6] at ha hb
    have hlast:(ms++ [m'])[ms.length]?=some m':=xD
    have hgt: ∀j (hj:j<ms.length),(ms++ [m'])[j]?=some ms[j]:=λj hj=>by rw [jk hj,jD hj]
    simp only [List.getElem_set]
    by_cases ea:i=a
    . rw [yX ea,yW xB]
      exact qDE h.dj hlast (hgt b hb) xB
    . rw [yW ea]
      by_cases eb:i=b
      . rw [yX eb]
        exact qDE h.dj (hgt a ha) hlast xB
      . rw [yW eb]
        exact qDE h.dj (hgt a ha) (hgt b hb) xB
  . intro m hm
    rcases yN hm with hm|hm
    . exact h.mem (jj _ hm)
    . subst hm;exact h.mem (jb _ xD)
  . intro m hm
    rcases yN hm with hm|hm
    . exact h.kd _ (jj _ hm)
    . subst hm;exact h.kd _ (jb _ xD)
theorem qIh{q:Prop}{t u ty e:TypeId}{z:yU}{by':Nat}{d:TypeDesc}(hu:P.underlying t=some (.slice e))(he:qCx P e z by')(huu:P.underlying u=some d)(hd:(∃e',d= .slice e')\/d= .string){w:World}{w0:Wd}(hs:St w0 ms w){i:Nat}{m:Hp}(hi:ms[i]?=some m)
    {A:yS} {n c:Nat} {xs:List yU} (hr:qBf q m e z.length A n c xs) {x:Value} {k:Nat} {ys:List yU} (hlen: ∀w',(Builtin.lenOf x).run P w'= .ok k w') (hcells: ∀w',w'.heap=w.heap->(Builtin.firstCells z.length k x).run P w'= .ok ys.flatten.toArray w')
    (hy:ys.length=k) (hyz: ∀y∈ys,y.length=z.length) (h1:ys.all (λx=>x.all Value.oneCell')=true) (hb:(n+k)*by'<=140737488355328) (h63:n+k<=9223372036854775807):
    ∃A' c' m' w',(Builtin.append_ #[t,u] ty #[.slice A n c,x]).run P w= .ok (.slice A' (n+k) c') w'/\qBf q m' e z.length A' (n+k) c' (xs++ys)/\St w0 (ms.set i m') w'/\(n+k<=c->A'=A/\c'=c):=by
  obtain ⟨ii,zv,hii,hi1,hi2,hi3,hi4⟩:=he.row
  have hlx:=qA7 hr.2.1
  rw [hr.1] at hlx
  have hly:=qA7 hyz
  rw [hy] at hly
  have hxyz: ∀x∈xs++ys,x.length=z.length:=λx hx=>by
    rcases List.mem_append.1 hx with h|h
    . exact hr.2.1 x h
    . exact hyz x h
  by_cases hroom:n+k<=c
  .
    rcases hr.2.2.2 with ⟨hA,hc,hm⟩|⟨g,rest,lo,hi',hA,hm,hl,hf⟩
    . subst hA hc
      have hk0:k=0:=xB
      have hn0:n=0:=xB
      subst hk0 hn0
      have hys:ys= []:=jT hy
      subst hys
      refine⟨none,0,m,w,?_,by simpa using hr,?_,λ_=>⟨O,O⟩⟩
      . have hc0:=hcells w O
        simp only [zf] at hc0
        rcases hd with ⟨e',rfl⟩|rfl<;>simp [Builtin.append_,run_underlying hu,run_underlying huu,sizeOf,typeInfo,hii,hlen,hi1,hc0]
      . have hself:ms.set i m=ms:=by
          apply zm
          intro j
          rw [zO]
          split
          . rename_i e;subst e;rw [yX (List.getElem?_eq_some_iff.1 hi).1,hi]
          . rfl
        rw [hself];exact hs
    . subst hA
      have hg:w.heap[g]?=some (.cells (xs.flatten++rest).toArray e (lo,hi')):=by
        have:=hs.mem (jR hi) g (.cells (xs.flatten++rest).toArray e (lo,hi')) (by rw [hm];exact qAk _ _)
        exact this
      have hmul:(n+k)*z.length<=c*z.length:=zZ _ hroom
      rw [zj] at hmul
      have hst:=qBi P g (n*z.length) e lo hi' ys.flatten 0 (xs.flatten++rest).toArray w hg (by rw [zl,hl,hly];omega) (by rw [hly];omega) (qMZ h1)
      simp only [zc] at hst
      have hnew:((xs.flatten++rest).toArray.toList.take (n*z.length)++ys.flatten++(xs.flatten++rest).toArray.toList.drop (n*z.length+ys.flatten.length))=(xs++ys).flatten++rest.drop (k*z.length):=by
        rw [zA,<-hlx,List.toList_toArray,List.take_left,hly,List.drop_append]
        simp
      rw [hnew] at hst
      refine⟨some ⟨g,0,none⟩,c,qAd g (.cells ((xs++ys).flatten++rest.drop (k*z.length)).toArray e (lo,hi')),w.setRow g ((xs++ys).flatten++rest.drop (k*z.length)).toArray,?_,?_,?_,λ_=>⟨O,O⟩⟩
      . have hc0:=hcells w O
        rcases hd with ⟨e',rfl⟩|rfl<;>simp [Builtin.append_,run_underlying hu,run_underlying huu,sizeOf,typeInfo,hii,hlen,hi1,hc0,hroom,Addr.add_lit,hst]
      . refine qHT O (by simp [hr.1,hy]) hxyz ?_ hroom (by rcases hf with h|h|h;exact .inl h;exact .inr (.inl h);exact .inr (.inr ⟨h.1,jf h.2 (zZ _ xB)⟩))
        have h2:=qA7 hxyz
        simp only [jA] at h2 hl⊢
        rw [h2,hr.1,hy,jE,zj]
        omega
      . have:=hs.set hi (g:=g) (o:= .cells (xs.flatten++rest).toArray e (lo,hi')) (by rw [hm];exact qAk _ _) (w':=w.setRow g ((xs++ys).flatten++rest.drop (k*z.length)).toArray) (o':= .cells ((xs++ys).flatten++rest.drop (k*z.length)).toArray e (lo,hi')) O O O (by simp [World.setRow]) (qFe hg _)
        rw [hm,qBq] at this
        exact this
  .
    have hold: ∀w',w'.heap=w.heap->(Builtin.firstCells z.length n (.slice A n c)).run P w'= .ok xs.flatten.toArray w':=λw' hw'=>by
      by_cases hn:0<n
      . obtain ⟨ad,hA,hc⟩:=hr.sl.flat hn
        subst hA
        refine run_firstCells_some w' z.length n ad n c xs.flatten hlx (λj v hj=>?_)
        have h5:=(hc.mono (hs.mem (jR hi))).cell hj
        simp only [World.cell?] at h5⊢
        rw [hw'];exact h5
      . have hn0:n=0:=by omega
        subst hn0
        have hx0:xs= []:=jT hr.1
        subst hx0
        cases A<;>simp [Builtin.firstCells,loadCells,loadCellsFrom]
    have hcap:Builtin.nextslicecap (n+k) c*ii.bytes<=281474976710656:=by
      rw [hi2];exact growslice_fits xB hb
    have hnc:=grownCap_ge w (n+k) c e
    refine⟨some ⟨w.heap.size,0,none⟩,grownCap w (n+k) c e,qAd w.heap.size (.cells ((xs++ys).flatten++(List.replicate (grownCap w (n+k) c e-(n+k)) z).flatten).toArray e (0,0)),
      w.drew.alloc (.cells ((xs++ys).flatten++(List.replicate (grownCap w (n+k) c e-(n+k)) z).flatten).toArray e),?_,?_,?_,λh=>absurd h hroom⟩
    . have hzc:Builtin.zeroCells zv.cells (grownCap w (n+k) c e-(n+k))=(List.replicate (grownCap w (n+k) c e-(n+k)) z).flatten.toArray:=by
        rw [<-qET he.pos,hi4];simp [Builtin.zeroCells,madeCells]
      have h63': ¬((9223372036854775807:Int)<(n:Int)+(k:Int)):=xB
      have hcap': ¬(281474976710656<Builtin.nextslicecap (n+k) c*ii.bytes):=xB
      have hc0:=hcells w.drew O
      have ho0:=hold w.drew O
      have hgc:(Question.appendCap (n+k) c e).cut (w.tape w.drawn (Question.appendCap (n+k) c e))=grownCap w (n+k) c e:=rfl
      rcases hd with ⟨e',rfl⟩|rfl<;>simp [Builtin.append_,run_underlying hu,run_underlying huu,sizeOf,typeInfo,zeroValue,hii,hi3,hlen,hi1,hroom,IntKind.max,IntKind.signed,IntKind.bits,h63',hcap',Question.forced,hgc,askRoom,newRow,hc0,ho0,hzc]
    . refine qHT O (by simp [hr.1,hy]) hxyz ?_ xB (.inl O)
      have h2:=qA7 hxyz
      have h3:(List.replicate (grownCap w (n+k) c e-(n+k)) z).flatten.length=(grownCap w (n+k) c e-(n+k))*z.length:=by
        rw [qA7 (sz:=z.length) (λx hx=>by rw [zT hx])];simp
      rw [jA,h2,h3,jA,hr.1,hy,<-zj]
      congr 1
      omega
    . exact(hs.newBlock _).replace i
theorem qPJ{q:Prop}{t u e x y A n c xs B k c2 ys z by' i m m2}(ho:o.op= .call {callee:= .builtin .append,args:= #[x,y],argTypes:= #[t,u]})(hx:ev env x=some (.slice A n c))(hy:ev env y=some (.slice B k c2))
    (hu:P.underlying t=some (.slice e)) (hu2:P.underlying u=some (.slice e)) (he:qCx P e z by') (hi:ms[i]?=some m) (hr:qBf q m e z.length A n c xs) (hm:m2∈ms) (hs2:Sl m2 z.length B k c2 ys)
    (h1:ys.all (λx=>x.all Value.oneCell')=true) (hb:(n+k)*by'<=140737488355328) (h63:n+k<=9223372036854775807):
    EOp P env ms o (λx:yS×Nat×Hp=> .slice x.1 (n+k) x.2.1) (λx=>qBf q x.2.2 e z.length x.1 (n+k) x.2.1 (xs++ys)/\(n+k<=c->x.1=A/\x.2.1=c)) (λx=>ms.set i x.2.2):= .ofRun λnn a w0 w hk hs=>by
  have hsl:=hs2.mono (hs.mem hm)
  have hyz: ∀y∈ys,y.length=z.length:=λy hy'=>by
    obtain ⟨j,hj⟩:=List.mem_iff_getElem?.1 hy'
    exact(hsl.2.2 j y hj).1
  have hly:=qA7 hyz
  rw [hsl.1] at hly
  have hcells: ∀w',w'.heap=w.heap->(Builtin.firstCells z.length k (.slice B k c2)).run P w'= .ok ys.flatten.toArray w':=λw' hw'=>by
    by_cases hk0:0<k
    . obtain ⟨ad,hB,hc⟩:=hsl.flat hk0
      subst hB
      refine run_firstCells_some w' z.length k ad k c2 ys.flatten hly (λj v hj=>?_)
      have h5:=hc.cell hj
      simp only [World.cell?] at h5⊢
      rw [hw'];exact h5
    . have hk00:k=0:=by omega
      subst hk00
      have hx0:ys= []:=jT hsl.1
      subst hx0
      cases B<;>simp [Builtin.firstCells,loadCells,loadCellsFrom]
  obtain ⟨A',c',m',w',hrun,hrow,hst,hin⟩:=qIh (P:=P) (t:=t) (u:=u) (ty:=o.type) hu he hu2 (.inl ⟨e,rfl⟩) hs hi hr (x:= .slice B k c2) (k:=k) (ys:=ys) (λ_=>by simp [Builtin.lenOf]) hcells hsl.1 hyz h1 hb h63
  exact⟨(A',c',m'),w',by simp [execOp,ho,hk.ev hx,hk.ev hy,resolve,invoke,builtin,hrun],⟨hrow,hin⟩,hst⟩
theorem EOp.mono{X Y:Type}{val:X->Value}{φ:X->Prop}{ms':X->List Hp}{val2:Y->Value}{φ2:Y->Prop}{ms2:Y->List Hp}(h:EOp P env ms o val φ ms')(g:X->Y)(hv: ∀x,φ x->val x=val2 (g x))(hφ: ∀x,φ x->φ2 (g x))(hm: ∀x,φ x->ms' x=ms2 (g x)):EOp P env ms o val2 φ2 ms2:=
  λn a w0 w next Q hk hs hn=>h n a w0 w next Q hk hs λx w' hx hs'=>by
    rw [hv x hx];exact hn (g x) w' (hφ x hx) (hm x hx▸hs')
theorem qAV{q:Prop}{t u e x y A n c xs B k c2 ys z by' i m m2}(ho:o.op= .call {callee:= .builtin .append,args:= #[x,y],argTypes:= #[t,u]})(hx:ev env x=some (.slice A n c))(hy:ev env y=some (.slice B k c2))
    (hu:P.underlying t=some (.slice e)) (hu2:P.underlying u=some (.slice e)) (he:qCx P e z by') (hi:ms[i]?=some m) (hr:qBf q m e z.length A n c xs) (hm:m2∈ms) (hs2:Sl m2 z.length B k c2 ys)
    (h1:ys.all (λx=>x.all Value.oneCell')=true) (hb:(n+k)*by'<=140737488355328) (h63:n+k<=9223372036854775807):
    EOp P env ms o (λx:yS×Nat×Hp=> .slice x.1 (n+k) x.2.1) (λx=>qBf q x.2.2 e z.length x.1 (n+k) x.2.1 (xs++ys)) (λx=>ms.set i x.2.2):=
  (qPJ ho hx hy hu hu2 he hi hr hm hs2 h1 hb h63).mono id (λ_ _=>rfl) (λ_ h=>h.1) (λ_ _=>rfl)
end
end Go.Fw