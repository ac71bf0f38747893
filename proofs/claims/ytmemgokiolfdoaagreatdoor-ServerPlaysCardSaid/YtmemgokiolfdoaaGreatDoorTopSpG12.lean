/- Rules for walking a translated function, over heaps that are apart: for any program. -/
import Derived.Test.YtmemgokiolfdoaaGreatDoorTopSpG11
import Derived.Sort.Grow
set_option linter.unusedSimpArgs false
set_option linter.unusedVariables false
namespace Go.Fw
open Go Go.RowKit
section
variable{P:Program}{env:Env}{rs ms:List Hp}{o:Oper}
theorem qHb{t t' x y yk}{a m:Nat}(ho:o.op= .binOp .shl t x y t')(hx:ev env x=some (I (a:Nat)))(hy:ev env y=some (.int yk ((m:Nat):Int)))(hr:m<64/\a*2^m<=9223372036854775807):YOp P env rs o (I (a*2^m:Nat)):=by
  have e:(a:Int)*2^m=((a*2^m:Nat):Int):=by rw [yQ,Int.natCast_pow];rfl
  exact(qJl (a:=(a:Int)) (m:=m) ho hx hy ⟨hr.1,by rw [e];omega,by rw [e];omega⟩).as (yY I e)
theorem qRU{t t' x y yk}{a m:Nat}(ho:o.op= .binOp .shr t x y t')(hx:ev env x=some (I (a:Nat)))(hy:ev env y=some (.int yk ((m:Nat):Int)))(hr:m<64):YOp P env rs o (I (a/2^m:Nat)):=by
  have e:(a:Int)/2^m=((a/2^m:Nat):Int):=by rw [Int.natCast_ediv,Int.natCast_pow];rfl
  exact(qDW (a:=(a:Int)) (m:=m) ho hx hy ⟨hr,xB⟩).as (yY I e)
theorem St.grow{w0:Wd}{ms:List Hp}{w:World}(h:St w0 ms w)(os:Array Obj):St w0 ms (Go.Sort.grow w os):=by
  have hk:Le (hp w) (hp (Go.Sort.grow w os)):=λg o ho=>by
    have hl:=qHt ho
    show(w.heap++os)[g]?=some o
    rw [yJ hl];exact ho
  exact⟨h.os,h.out,h.tape,jf h.size (by rw [Go.Sort.size_grow];omega),h.dj,h.le.trans hk,h.kd,h.kl.trans hk⟩
theorem qDd(l:List xA):(qAG l).flatten=l.map Str:=by
  induction l with
  |nil=>rfl
  |cons a l ih=>show Str a::(qAG l).flatten=_;rw [ih];rfl
theorem Ct.ofSort{f:FuncId}{e:TypeId}{srt:List xA->List xA}(hlen: ∀l,(srt l).length=l.length)
    (hcall: ∀(blk off cap:Nat) (ss:List xA) (w:World),Go.Sort.Holds Str w blk off ss.toArray->blk<w.heap.size->ss.length<4611686018427387904->
      Calls P f #[.slice (some ⟨blk,off,none⟩) ss.length cap] w λe w'=>e= .returned (.tuple #[])/\ ∃n os,w'=Go.Sort.grow (Go.Sort.putRow Str (Go.Sort.ahead w n) blk off (srt ss).toArray) os)
    (hnone: ∀(p:yS) (cap:Nat) (w:World),Calls P f #[.slice p 0 cap] w λe w'=>e= .returned (.tuple #[])/\w'=w)
    {m F:Hp} {A:yS} {n c:Nat} {l:List xA} (hr:Row m e 1 A n c (qAG l)) (hn:n<=1073741824):
    Ct P f [.slice A n c] [m,F] (λ_:Hp=> .tuple #[]) (λm'=>Row m' e 1 A n c (qAG (srt l))) (λm'=> [m',F]):=λw0 w hs=>by
  have hln:l.length=n:=by rw [<-hr.len];exact(qKi l).symm
  obtain ⟨h1,h2,h3,h4⟩:=hr
  rcases h4 with ⟨rfl,rfl,rfl⟩|⟨g,rest,lo,hi,rfl,rfl,hl,hf⟩
  . obtain rfl:n=0:=by omega
    obtain rfl:l= []:=jT hln
    refine(hnone none 0 w).mono ?_
    rintro e' w' ⟨rfl,rfl⟩
    refine⟨_,O,?_,hs⟩
    rw [jT (hlen [])]
    exact qBf.nil
  . obtain ⟨cs,hcs⟩: ∃cs,cs=(qAG l).flatten++rest:=⟨_,rfl⟩
    rw [<-hcs] at hl hs
    have hg:w.heap[g]?=some (.cells cs.toArray e (lo,hi)):=hs.mem (.head _) g _ (qAk _ _)
    have hgl:g<w.heap.size:=qHt (show hp w g=_ from hg)
    have hcell: ∀j (hj:j<l.length),cs[j]?=some (Str l[j]):=λj hj=>by
      rw [hcs,qDd,jk (by simpa using hj)];simp [hj]
    have hH:Go.Sort.Holds Str w g 0 l.toArray:=λj hj=>by
      have hj':j<l.length:=by simpa using hj
      constructor
      . unfold World.cell?
        rw [show(⟨g,0+j,none⟩:Addr).block=g from rfl,hg]
        show cs.toArray[0+j]?=_
        rw [jl,zM,hcell j hj',getElem!_pos l.toArray j hj];simp
      . unfold World.frozen?
        rw [show(⟨g,0+j,none⟩:Addr).block=g from rfl,hg]
        show(decide (lo<=0+j)&&decide (0+j<hi))=false
        rw [Bool.and_eq_false_iff,decide_eq_false_iff_not,decide_eq_false_iff_not]
        rcases hf with hf|⟨_,hf⟩|⟨hf,_⟩
        . omega
        . omega
        . exact absurd trivial hf
    have hc:=hcall g 0 c l w hH hgl xB
    rw [hln] at hc
    refine hc.mono ?_
    rintro e' w' ⟨rfl,k,os,rfl⟩
    obtain ⟨cs',hcs'⟩: ∃cs',cs'=(qAG (srt l)).flatten++rest:=⟨_,rfl⟩
    have hslen:(srt l).length=l.length:=hlen l
    have hput:Go.Sort.putCells Str 0 (srt l).toArray cs.toArray=cs'.toArray:=by
      apply Array.ext_getElem?
      intro j
      unfold Go.Sort.putCells
      rw [Array.getElem?_mapIdx,zM,zM]
      by_cases hj:j<l.length
      . rw [hcell j hj,hcs',qDd,jk xJ]
        simp only [zu]
        rw [yX ⟨jH _,by simp;omega⟩,zw,getElem!_pos (srt l).toArray j xJ]
        rw [jO,jD xB]
        simp
      . rw [hcs,hcs',qDd,qDd,ja xJ,ja xJ,jJ,jJ,hslen]
        cases hrj:rest[j-l.length]? with
        |none=>rfl
        |some v=>simp only [zu];rw [yW xJ]
    have hs1:St w0 [qAd g (.cells cs'.toArray e (lo,hi)),F] (Go.Sort.putRow Str (Go.Sort.ahead w k) g 0 (srt l).toArray):=by
      have:=hs.set (i:=0) O (qAk _ _) (w':=Go.Sort.putRow Str (Go.Sort.ahead w k) g 0 (srt l).toArray) (o':= .cells cs'.toArray e (lo,hi)) O O O (by simp [Go.Sort.putRow,Go.Sort.mapBlock,Go.Sort.ahead]) (by
        funext q
        unfold Go.Sort.putRow Go.Sort.mapBlock
        simp only [hp,qFE,Go.Sort.ahead]
        rw [yF]
        by_cases hq:q=g
        . subst hq
          rw [yX rfl,yX rfl,hg]
          simp only [zu,Go.Sort.onCells]
          rw [hput]
        . rw [yW (λe=>hq e.symm),yW hq])
      rw [qBq] at this
      exact this
    refine⟨qAd g (.cells cs'.toArray e (lo,hi)),O,?_,hs1.grow os⟩
    refine⟨by rw [qKi];omega,λx hx=>?_,h3,.inr ⟨g,rest,lo,hi,O,by rw [hcs'],?_,hf⟩⟩
    . unfold qAG at hx
      obtain ⟨s,_,rfl⟩:=List.mem_map.1 hx
      rfl
    . rw [<-hl,hcs,jA,jA,qDd,qDd,jJ,jJ,hslen]
def nxtA(p:Option (xA×Value)):Array Value:=match p with|none=> #[.bool false]|some p=> #[.bool true,Str p.1,p.2]
theorem qRf(p:Option (xA×Value)):nxtM p= .tuple (nxtA p):=by cases p<;>rfl
theorem qWe(p:Option (xA×Value)):(nxtA p)[0]?=some (.bool p.isSome):=by cases p<;>rfl
def ixS(q:xA->Bool)(l:List xA):Int:=if l.any q=true then((l.findIdx q:Nat):Int) else-1
theorem qWv{q:xA->Bool}{l:List xA}{k:Nat}(h:k<l.length)(hp:q (l.getD k [])=true)(hn: ∀j<k,q (l.getD j [])=false):ixS q l=((k:Nat):Int):=by
  have hk:l.getD k []=l[k]:=by rw [jB,jD h];rfl
  unfold ixS
  rw [yX (List.any_eq_true.2 ⟨l[k],jU h,hk▸hp⟩)]
  congr 1
  rw [List.findIdx_eq h]
  refine⟨hk▸hp,λj hj=>?_⟩
  have:=hn j hj
  rw [jB,jD xB] at this
  exact this
theorem qWt{q:xA->Bool}{l:List xA}(hn: ∀j<l.length,q (l.getD j [])=false):ixS q l= -1:=by
  unfold ixS
  rw [yW]
  intro h
  obtain ⟨x,hx,hp⟩:=List.any_eq_true.1 h
  obtain ⟨j,hj,rfl⟩:=zp hx
  have:=hn j hj
  rw [jB,jD hj] at this
  rw [show(some l[j]).getD []=l[j] from rfl,hp] at this
  cases this
theorem qOH{q:xA->Bool}{l:List xA}(h:ixS q l= -1):l.filter (λk=>!q k)=l:=by
  unfold ixS at h
  split at h
  . omega
  . rename_i h1
    refine List.filter_eq_self.2 λx hx=>?_
    cases hq:q x with
    |false=>rfl
    |true=>exact absurd (List.any_eq_true.2 ⟨x,hx,hq⟩) h1
theorem qWu{q:xA->Bool}{l:List xA}(h: ¬ixS q l= -1): ∃i:Nat,ixS q l=((i:Nat):Int)/\i<l.length/\l.take i=(l.take (i+1)).filter (λk=>!q k):=by
  unfold ixS at h⊢
  split at h
  . rename_i h1
    rw [yX h1]
    have hi:l.findIdx q<l.length:=List.findIdx_lt_length_of_exists (by simpa using h1)
    refine⟨l.findIdx q,O,hi,?_⟩
    rw [jP hi,zG,show [l[l.findIdx q]].filter (λk=>!q k)= [] from List.filter_eq_nil_iff.2 λx hx=>by rw [List.mem_singleton.1 hx,List.findIdx_getElem (w:=hi)];simp,jS]
    refine(List.filter_eq_self.2 λx hx=>?_).symm
    obtain ⟨j,hj,rfl⟩:=zp hx
    rw [jF] at hj
    have hjk:j<l.findIdx q:=xB
    have:=List.not_of_lt_findIdx hjk
    rw [List.getElem_take];simpa using this
  . exact absurd O h
theorem qG6{q:xA->Bool}{l L:List xA}{w j:Nat}(hw:w<j)(hj:j<l.length)(hL:L.length=l.length)(h1:L.take w=(l.take j).filter (λk=>!q k))(h2:L.drop j=l.drop j)(hq:q (L.getD j [])=false):
    (L.set w (L.getD j [])).take (w+1)=(l.take (j+1)).filter (λk=>!q k)/\(L.set w (L.getD j [])).drop (j+1)=l.drop (j+1):=by
  have e0:L.getD j []=l[j]:=by
    have:=yY (λz=>z.getD 0 []) h2
    simpa [jB,js,jD hj] using this
  constructor
  . rw [jP (by rw [j6];omega),List.take_set_of_le (jL _),h1,jP hj,zG,List.getElem_set_self,e0]
    congr 1
    rw [e0] at hq
    exact(List.filter_eq_self.2 λx hx=>by rw [List.mem_singleton.1 hx,hq];rfl).symm
  . rw [List.drop_set_of_lt xB]
    have:=yY (List.drop 1) h2
    simpa [zH,yO] using this
theorem qG7{q:xA->Bool}{l L:List xA}{w j:Nat}(hj:j<l.length)(h1:L.take w=(l.take j).filter (λk=>!q k))(h2:L.drop j=l.drop j)(hq:q (L.getD j [])=true):
    L.take w=(l.take (j+1)).filter (λk=>!q k)/\L.drop (j+1)=l.drop (j+1):=by
  have e0:L.getD j []=l[j]:=by
    have:=yY (λz=>z.getD 0 []) h2
    simpa [jB,js,jD hj] using this
  constructor
  . rw [h1,jP hj,zG]
    rw [e0] at hq
    rw [show [l[j]].filter (λk=>!q k)= [] from List.filter_eq_nil_iff.2 λx hx=>by rw [List.mem_singleton.1 hx,hq];simp,jS]
  . have:=yY (List.drop 1) h2
    simpa [zH,yO] using this
end
end Go.Fw