/- Rules for walking a translated function, over heaps that are apart: for any program. -/
import Derived.Test.YtmemgokiolfdoaaGreatDoorTopMsG11
import Derived.Sort.Grow
set_option linter.unusedSimpArgs false
set_option linter.unusedVariables false
namespace Go.Fw
open Go Go.RowKit
section
variable{P:Program}{env:Env}{rs ms:List Hp}{o:Oper}
theorem qMF{t t' x y yk}{a m:Nat}(ho:o.op= .binOp .shl t x y t')(hx:ev env x=some (I (a:Nat)))(hy:ev env y=some (.int yk ((m:Nat):Int)))(hr:m<64∧a*2^m≤9223372036854775807):YOp P env rs o (I (a*2^m:Nat)):=by
  have e:(a:Int)*2^m=((a*2^m:Nat):Int):=by rw [yK,Int.natCast_pow];rfl
  exact(qJG (a:=(a:Int)) (m:=m) ho hx hy ⟨hr.1,by rw [e];omega,by rw [e];omega⟩).as (congrArg I e)
theorem qQ4{t t' x y yk}{a m:Nat}(ho:o.op= .binOp .shr t x y t')(hx:ev env x=some (I (a:Nat)))(hy:ev env y=some (.int yk ((m:Nat):Int)))(hr:m<64):YOp P env rs o (I (a/2^m:Nat)):=by
  have e:(a:Int)/2^m=((a/2^m:Nat):Int):=by rw [Int.natCast_ediv,Int.natCast_pow];rfl
  exact(qDA (a:=(a:Int)) (m:=m) ho hx hy ⟨hr,xB⟩).as (congrArg I e)
theorem St.grow{w0:Wd}{ms:List Hp}{w:World}(h:St w0 ms w)(os:Array Obj):St w0 ms (Go.Sort.grow w os):=by
  have hk:Le (hp w) (hp (Go.Sort.grow w os)):=λg o ho=>by
    have hl:=qFs ho
    show(w.heap++os)[g]?=some o
    rw [zj hl];exact ho
  exact⟨h.os,h.out,h.tape,jg h.size (by rw [Go.Sort.size_grow];omega),h.dj,h.le.trans hk,h.kd,h.kl.trans hk⟩
theorem qDN(l:List xA):(qAH l).flatten=l.map Str:=by
  induction l with
  |nil=>rfl
  |cons a l ih=>show Str a::(qAH l).flatten=_;rw [ih];rfl
theorem Ct.ofSort{f:FuncId}{e:TypeId}{srt:List xA→List xA}(hlen: ∀l,(srt l).length=l.length)
    (hcall: ∀(blk off cap:Nat) (ss:List xA) (w:World),Go.Sort.Holds Str w blk off ss.toArray→blk<w.heap.size→ss.length<4611686018427387904→
      Calls P f #[.slice (some ⟨blk,off,none⟩) ss.length cap] w λe w'=>e= .returned (.tuple #[])∧ ∃n os,w'=Go.Sort.grow (Go.Sort.putRow Str (Go.Sort.ahead w n) blk off (srt ss).toArray) os)
    (hnone: ∀(p:Option Addr) (cap:Nat) (w:World),Calls P f #[.slice p 0 cap] w λe w'=>e= .returned (.tuple #[])∧w'=w)
    {m F:Hp} {A:Option Addr} {n c:Nat} {l:List xA} (hr:Row m e 1 A n c (qAH l)) (hn:n≤1073741824):
    Ct P f [.slice A n c] [m,F] (λ_:Hp=> .tuple #[]) (λm'=>Row m' e 1 A n c (qAH (srt l))) (λm'=> [m',F]):=λw0 w hs=>by
  have hln:l.length=n:=by rw [←hr.len];exact(qKD l).symm
  obtain ⟨h1,h2,h3,h4⟩:=hr
  rcases h4 with ⟨rfl,rfl,rfl⟩|⟨g,rest,lo,hi,rfl,rfl,hl,hf⟩
  · obtain rfl:n=0:=by omega
    obtain rfl:l= []:=jT hln
    refine(hnone none 0 w).mono ?_
    rintro e' w' ⟨rfl,rfl⟩
    refine⟨_,O,?_,hs⟩
    rw [jT (hlen [])]
    exact qBZ.nil
  · obtain ⟨cs,hcs⟩: ∃cs,cs=(qAH l).flatten++rest:=⟨_,rfl⟩
    rw [←hcs] at hl hs
    have hg:w.heap[g]?=some (.cells cs.toArray e (lo,hi)):=hs.mem (.head _) g _ (qAd _ _)
    have hgl:g<w.heap.size:=qFs (show hp w g=_ from hg)
    have hcell: ∀j (hj:j<l.length),cs[j]?=some (Str l[j]):=λj hj=>by
      rw [hcs,qDN,jc (by simpa using hj)];simp [hj]
    have hH:Go.Sort.Holds Str w g 0 l.toArray:=λj hj=>by
      have hj':j<l.length:=by simpa using hj
      constructor
      · unfold World.cell?
        rw [show(⟨g,0+j,none⟩:Addr).block=g from rfl,hg]
        show cs.toArray[0+j]?=_
        rw [jj,zF,hcell j hj',getElem!_pos l.toArray j hj];simp
      · unfold World.frozen?
        rw [show(⟨g,0+j,none⟩:Addr).block=g from rfl,hg]
        show(decide (lo≤0+j)&&decide (0+j<hi))=false
        rw [Bool.and_eq_false_iff,decide_eq_false_iff_not,decide_eq_false_iff_not]
        rcases hf with hf|⟨_,hf⟩|⟨hf,_⟩
        · omega
        · omega
        · exact absurd trivial hf
    have hc:=hcall g 0 c l w hH hgl xB
    rw [hln] at hc
    refine hc.mono ?_
    rintro e' w' ⟨rfl,k,os,rfl⟩
    obtain ⟨cs',hcs'⟩: ∃cs',cs'=(qAH (srt l)).flatten++rest:=⟨_,rfl⟩
    have hslen:(srt l).length=l.length:=hlen l
    have hput:Go.Sort.putCells Str 0 (srt l).toArray cs.toArray=cs'.toArray:=by
      apply Array.ext_getElem?
      intro j
      unfold Go.Sort.putCells
      rw [Array.getElem?_mapIdx,zF,zF]
      by_cases hj:j<l.length
      · rw [hcell j hj,hcs',qDN,jc xJ]
        simp only [zq]
        rw [if_pos ⟨jE _,by simp;omega⟩,zr,getElem!_pos (srt l).toArray j xJ]
        rw [jN,jC xB]
        simp
      · rw [hcs,hcs',qDN,qDN,ja xJ,ja xJ,jP,jP,hslen]
        cases hrj:rest[j-l.length]? with
        |none=>rfl
        |some v=>simp only [zq];rw [if_neg xJ]
    have hs1:St w0 [qAN g (.cells cs'.toArray e (lo,hi)),F] (Go.Sort.putRow Str (Go.Sort.ahead w k) g 0 (srt l).toArray):=by
      have:=hs.set (i:=0) O (qAd _ _) (w':=Go.Sort.putRow Str (Go.Sort.ahead w k) g 0 (srt l).toArray) (o':= .cells cs'.toArray e (lo,hi)) O O O (by simp [Go.Sort.putRow,Go.Sort.mapBlock,Go.Sort.ahead]) (by
        funext q
        unfold Go.Sort.putRow Go.Sort.mapBlock
        simp only [hp,qEi,Go.Sort.ahead]
        rw [yA]
        by_cases hq:q=g
        · subst hq
          rw [if_pos rfl,if_pos rfl,hg]
          simp only [zq,Go.Sort.onCells]
          rw [hput]
        · rw [if_neg (λe=>hq e.symm),if_neg hq])
      rw [qBW] at this
      exact this
    refine⟨qAN g (.cells cs'.toArray e (lo,hi)),O,?_,hs1.grow os⟩
    refine⟨by rw [qKD];omega,λx hx=>?_,h3,.inr ⟨g,rest,lo,hi,O,by rw [hcs'],?_,hf⟩⟩
    · unfold qAH at hx
      obtain ⟨s,_,rfl⟩:=List.mem_map.1 hx
      rfl
    · rw [←hl,hcs,jA,jA,qDN,qDN,jP,jP,hslen]
def nxtA(p:Option (xA×Value)):Array Value:=match p with|none=> #[.bool false]|some p=> #[.bool true,Str p.1,p.2]
theorem qRC(p:Option (xA×Value)):nxtM p= .tuple (nxtA p):=by cases p<;>rfl
theorem qVt(p:Option (xA×Value)):(nxtA p)[0]?=some (.bool p.isSome):=by cases p<;>rfl
def ixS(q:xA→Bool)(l:List xA):Int:=if l.any q=true then((l.findIdx q:Nat):Int) else-1
theorem qV6{q:xA→Bool}{l:List xA}{k:Nat}(h:k<l.length)(hp:q (l.getD k [])=true)(hn: ∀j<k,q (l.getD j [])=false):ixS q l=((k:Nat):Int):=by
  have hk:l.getD k []=l[k]:=by rw [jB,jC h];rfl
  unfold ixS
  rw [if_pos (List.any_eq_true.2 ⟨l[k],jQ h,hk▸hp⟩)]
  congr 1
  rw [List.findIdx_eq h]
  refine⟨hk▸hp,λj hj=>?_⟩
  have:=hn j hj
  rw [jB,jC xB] at this
  exact this
theorem qV4{q:xA→Bool}{l:List xA}(hn: ∀j<l.length,q (l.getD j [])=false):ixS q l= -1:=by
  unfold ixS
  rw [if_neg]
  intro h
  obtain ⟨x,hx,hp⟩:=List.any_eq_true.1 h
  obtain ⟨j,hj,rfl⟩:=zL hx
  have:=hn j hj
  rw [jB,jC hj] at this
  rw [show(some l[j]).getD []=l[j] from rfl,hp] at this
  cases this
theorem qNt{q:xA→Bool}{l:List xA}(h:ixS q l= -1):l.filter (λk=>!q k)=l:=by
  unfold ixS at h
  split at h
  · omega
  · rename_i h1
    refine List.filter_eq_self.2 λx hx=>?_
    cases hq:q x with
    |false=>rfl
    |true=>exact absurd (List.any_eq_true.2 ⟨x,hx,hq⟩) h1
theorem qV5{q:xA→Bool}{l:List xA}(h: ¬ixS q l= -1): ∃i:Nat,ixS q l=((i:Nat):Int)∧i<l.length∧l.take i=(l.take (i+1)).filter (λk=>!q k):=by
  unfold ixS at h⊢
  split at h
  · rename_i h1
    rw [if_pos h1]
    have hi:l.findIdx q<l.length:=List.findIdx_lt_length_of_exists (by simpa using h1)
    refine⟨l.findIdx q,O,hi,?_⟩
    rw [jK hi,jo,show [l[l.findIdx q]].filter (λk=>!q k)= [] from List.filter_eq_nil_iff.2 λx hx=>by rw [List.mem_singleton.1 hx,List.findIdx_getElem (w:=hi)];simp,jR]
    refine(List.filter_eq_self.2 λx hx=>?_).symm
    obtain ⟨j,hj,rfl⟩:=zL hx
    rw [jF] at hj
    have hjk:j<l.findIdx q:=xB
    have:=List.not_of_lt_findIdx hjk
    rw [List.getElem_take];simpa using this
  · exact absurd O h
theorem qGU{q:xA→Bool}{l L:List xA}{w j:Nat}(hw:w<j)(hj:j<l.length)(hL:L.length=l.length)(h1:L.take w=(l.take j).filter (λk=>!q k))(h2:L.drop j=l.drop j)(hq:q (L.getD j [])=false):
    (L.set w (L.getD j [])).take (w+1)=(l.take (j+1)).filter (λk=>!q k)∧(L.set w (L.getD j [])).drop (j+1)=l.drop (j+1):=by
  have e0:L.getD j []=l[j]:=by
    have:=congrArg (λz=>z.getD 0 []) h2
    simpa [jB,jq,jC hj] using this
  constructor
  · rw [jK (by rw [jk];omega),List.take_set_of_le (jJ _),h1,jK hj,jo,List.getElem_set_self,e0]
    congr 1
    rw [e0] at hq
    exact(List.filter_eq_self.2 λx hx=>by rw [List.mem_singleton.1 hx,hq];rfl).symm
  · rw [List.drop_set_of_lt xB]
    have:=congrArg (List.drop 1) h2
    simpa [zk,Nat.add_comm] using this
theorem qGV{q:xA→Bool}{l L:List xA}{w j:Nat}(hj:j<l.length)(h1:L.take w=(l.take j).filter (λk=>!q k))(h2:L.drop j=l.drop j)(hq:q (L.getD j [])=true):
    L.take w=(l.take (j+1)).filter (λk=>!q k)∧L.drop (j+1)=l.drop (j+1):=by
  have e0:L.getD j []=l[j]:=by
    have:=congrArg (λz=>z.getD 0 []) h2
    simpa [jB,jq,jC hj] using this
  constructor
  · rw [h1,jK hj,jo]
    rw [e0] at hq
    rw [show [l[j]].filter (λk=>!q k)= [] from List.filter_eq_nil_iff.2 λx hx=>by rw [List.mem_singleton.1 hx,hq];simp,jR]
  · have:=congrArg (List.drop 1) h2
    simpa [zk,Nat.add_comm] using this
end
end Go.Fw