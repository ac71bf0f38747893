/- A part of the proof. -/
import Derived.Test.YtmemgokiolfdoaaGreatDoorTopSpG22
import Derived.Test.YtmemgokiolfdoaaGreatDoorTopSpG13
set_option maxRecDepth 100000
set_option maxHeartbeats 1000000
set_option linter.unusedSimpArgs false
set_option linter.unusedVariables false
namespace Go.Proofs.YtmemgokiolfdoaaGreatDoor
open Go Go.Fw Go.Proofs.Tryz
theorem qZ7{s:xA}(h:qLl s=0)(k:UInt8):qR0 s (qYf k) z16 1=0:=by
 unfold qR0
 rw [yW xB,qYe];rfl
theorem qLA{a b:Nat}(ha:a<256)(hb:b<256)(h:UInt8.ofNat a=UInt8.ofNat b):a=b:=by
 have:=yY UInt8.toNat h
 rw [jm,jm] at this
 omega
def qL3(x:Aud):xA:=if qBT x.op x.rt x.ht=0 then Sha.tagged 16 [x.nm,qAo x.op x.rt x.ht] else []
def qGQ(kv:List Sm.PR)(l:List Aud):Nat->List Sm.PR
 |0=>kv
 |n+1=>Sm.putP (qGQ kv l n) (qAv n) (qL3 (l.getD n qBc))
theorem qNi: ∀{l:List Sm.PR} {k:xA} (v:xA),(∀p∈l,p.1≠k)->Sm.putP l k v=l++ [(k,v)]
 | [],k,v,_=>rfl
 |p::r,k,v,h=>by rw [Sm.putP,yW (h p (.head _)),qNi v (λq hq=>h q (.tail _ hq))];rfl
theorem qMj(l:List Aud): ∀n,n<=15->qGQ [] l n=(List.range n).map λi=>(qAv i,qL3 (l.getD i qBc))
 |0,_=>rfl
 |n+1,h=>by
  rw [qGQ,qMj l n xB,qNi _ (λp hp=>?_),jt,jN];rfl
  obtain ⟨j,hj,rfl⟩:=List.mem_map.1 hp
  have:=List.mem_range.1 hj
  exact qRK xB xB xB
theorem qJ5(l:List Aud){n:Nat}(h:n<=15):(qGQ [] l n).length=n:=by rw [qMj l n h,jJ,zF]
attribute [local irreducible] Sha.tagged Wo.pub Wo.publicOf Wo.signs Wo.ends Wo.digs Wo.walk Wo.opn Mk.root Mk.path Mk.climb Xm.root sgC sgP qA6 qBK sgB normal
theorem qRH(F:Hp)(hA:yg F)(hT:qBl F)(s:xA)(hsl:s.length<=1000000)(hN:normal s=(s,0)):Cz prog 184 [Str (s)] F (I (0:Nat)):=by
 refine y7 func184 O ntmps184 O (λw0 hw0=>?_)
 refine yl λ_ C1=>yh O<|yi C1<|yl λ_ C2=>yh O<|yp (qAZ O O (λF' hF=>qHi F' (hA.mono (Fa hF)) (hT.mono (Fa hF)) s xM)) O λg7 _=>yn 5 O<|yi C2<|ym λ_ C3=>yz<|yl λ_ C4=>yh O<|yj ((qAQ O O O).no (by rw [hN];exact λh=>h O)) O<|yh O<|yi C4<|vC ?_
 refine yl λ_ C5=>yn 2 O<|yj ((qB9 O O O).no (by rw [hN];exact λh=>h O)) O<|yh O<|yi C5<|vC ?_
 refine vP<|vB<|yq (yu C3 ?_)
 exact yl λ_ C6=>yh O<|yi C6<|yr<|yw hw0 O () O yd [0] O xC
end Go.Proofs.YtmemgokiolfdoaaGreatDoor
namespace Go.Proofs.YtmemgokiolfdoaaGreatDoor
open Go Go.Fw Go.Proofs.Tryz
attribute [local irreducible] Sha.tagged Wo.pub Wo.publicOf Wo.signs Wo.ends Wo.digs Wo.walk Wo.opn Mk.root Mk.path Mk.climb Xm.root sgC sgP qA6 qBK sgB normal
theorem qSQ(F:Hp)(hK:yf F)(hA:yg F)(hT:qBl F)(s:xA)(hsl:s.length<=1000000)(hN:normal s=(s,0))(v:Nat)(o r:xA)(h:Int)(p:xA)(hE:qBK v o r h p=0)(i:Nat)(A1:yS)(n1 c1:Nat)(A2:yS)(n2 c2:Nat)(had:Bool)(z:En)(hz:had=true->z.good/\z.o=o/\z.r=r/\z.h=h)(ok:Bool)(hV: ∀F':Hp,Le F F'->Cz prog 185 [.agg #[Str (o),Str (r),I (h)],Str (qK2 s v o r h p),.agg #[I (i:Nat),.slice A1 n1 c1,.slice A2 n2 c2]] F' (.bool ok)):Cz prog 103 [.agg #[Str (s),N64 (v),Str (o),Str (r),I (h),Str (p),I (i:Nat),.slice A1 n1 c1,.slice A2 n2 c2],.bool (had),.agg #[N64 (z.v),Str (z.o),Str (z.r),I (z.h),Str (z.p)]] F (I ((if(if had=true then z.next (⟨v,o,r,h,p⟩:En) else En.hist [(⟨v,o,r,h,p⟩:En)])≠0 then(if had=true then z.next (⟨v,o,r,h,p⟩:En) else En.hist [(⟨v,o,r,h,p⟩:En)]) else if ok=true then(0:Int) else 12))):=by
 obtain ⟨e1,e2,⟨e3,e4⟩,e5,e6,e7⟩:=qEV hE
 have el:=qB4 hE
 have eml:=qGu s v o r h p
 have hgy:(⟨v,o,r,h,p⟩:En).good:=⟨by show v<_;omega,by show o.length<=_;omega,by show r.length<=_;omega,by show p.length<=_;omega⟩
 refine y7 func103 O ntmps103 O (λw0 hw0=>?_)
 refine yl λ_ C1=>yp (qAi O O O) O λg3 _=>yp (qAi O O O) O λg5 _=>yh O<|yi C1<|ym λ_ C2=>yl λ_ C3=>vA 0 qCN z9_ O O O O O<|vF 1 b9_ O O O O O<|yp (qAZ O O (λF' hF=>qRH F' (hA.mono (Fa hF)) (hT.mono (Fa hF)) s xI xG)) O λg14 _=>yh O<|yi C3<|yl λ_ C4=>yh O<|yj ((qAQ O O O).no xC) O<|yi C4<|vC ?_
 refine yy C2<|ym λ_ C5=>yl λ_ C6=>vA 1 qCN qBF O O O O O<|yj (qAb O O qBz qBF (m:=blk g3 [Str (s),N64 (v),Str (o),Str (r),I (h),Str (p),I (i:Nat),.slice A1 n1 c1,.slice A2 n2 c2] 108) xD (qAI.blk0.sub 1 5) O) O<|yp (qAZ O O (λF' hF=>qG5 F' v o r h p xI xI xI xI)) O λg21 _=>yn 5 O<|yi C6<|yl λ_ C7=>yh O<|yj ((qAQ O O O).no xB) O<|yi C7<|vC ?_
 refine yy C5<|vl (X:=Nat) (λζ=> [(1,.bool (had)),(3,Ptr g3),(5,Ptr g5),(10,I (En.hist [(⟨v,o,r,h,p⟩:En)])),(11,Ptr ζ)]) (λζ=> [F,blk g3 [Str (s),N64 (v),Str (o),Str (r),I (h),Str (p),I (i:Nat),.slice A1 n1 c1,.slice A2 n2 c2] 108,blk g5 [N64 (z.v),Str (z.o),Str (z.r),I (z.h),Str (z.p)] 102,blk ζ [Str (o),Str (r),I (h)] 32]) (λζ=>True) (λ_ C8=>?_) ?_
 .
  refine vQ [blk g3 [Str (s),N64 (v),Str (o),Str (r),I (h),Str (p),I (i:Nat),.slice A1 n1 c1,.slice A2 n2 c2] 108] [9] (.y 0 (.y 1 (.y 4 (.y 5 (.y 6 (.br (.e 2 (.br (.e 3 (.e 7 (.y 8 (.e 9 .nil)))) (.e 7 (.e 3 (.y 8 (.e 9 .nil)))))) (.e 7 (.e 2 (.e 3 (.y 8 (.e 9 .nil))))))))))) ye xF xD ?_
  refine yo O (qAA O O qCN O qBF O) O O<|yo O (qAb O O qBz qBF (m:=blk g3 [Str (s),N64 (v),Str (o),Str (r),I (h),Str (p),I (i:Nat),.slice A1 n1 c1,.slice A2 n2 c2] 108) xD (qAI.blk0.sub 1 5) O) O O<|yo O (qAA O O qCN O qBF O) O O<|yo O (qAA O O qDG O qDF O) O O<|yo O (qAb O O qKM qDF (m:=blk g3 [Str (s),N64 (v),Str (o),Str (r),I (h),Str (p),I (i:Nat),.slice A1 n1 c1,.slice A2 n2 c2] 108) xD (qAI.blk0.sub 2 3) O) O O<|vx ?_ ?_
  .
   refine vD O (qAE (l:= [.tmp 28]) (xs:= [[N64 (v),Str (o),Str (r),I (h),Str (p)]]) O O O O qGK el102 O xC xC xD) O xD λg29 _=>vx ?_ ?_
   .
    refine vD O (qAZ O O (λF' hF=>qCm F' (hK.mo hF) [(⟨v,o,r,h,p⟩:En)] (by intro x hx;rw [List.mem_singleton.1 hx];exact hgy) g29 0 1 ((qAj (q:=True) (xs:= [(⟨v,o,r,h,p⟩:En).cells]) O (by intro x hx;rw [List.mem_singleton.1 hx];rfl)).sl.mono (hF (blk g29 [N64 (v),Str (o),Str (r),I (h),Str (p)] 102) xD)) (zy _) (show 1<=1073741824 by decide))) O xD λg30 _=>vD O (qAO O qOR O) O xD λg11 _=>vU ?_
    exact vZ O (qAF (i:=4) (l:= [Str [],Str [],I 0]) (vs:= [Str (o),Str (r),I (h)]) O O O O O qDF O O) O O O λ_ _=>vM<|yq<|vY (g11) C8 (yd) (Sub.of O) (λ_ h=>h.pick [0,1,2,4] xC)
   refine vD O (qAO O qOR O) O xD λg11 _=>vD O (qAZ O O (λF' hF=>qCm F' (hK.mo hF) [(⟨v,o,r,h,p⟩:En)] (by intro x hx;rw [List.mem_singleton.1 hx];exact hgy) g29 0 1 ((qAj (q:=True) (xs:= [(⟨v,o,r,h,p⟩:En).cells]) O (by intro x hx;rw [List.mem_singleton.1 hx];rfl)).sl.mono (hF (blk g29 [N64 (v),Str (o),Str (r),I (h),Str (p)] 102) xD)) (zy _) (show 1<=1073741824 by decide))) O xD λg30 _=>vU ?_
   exact vZ O (qAF (i:=4) (l:= [Str [],Str [],I 0]) (vs:= [Str (o),Str (r),I (h)]) O O O O O qDF O O) O O O λ_ _=>vM<|yq<|vY (g11) C8 (yd) (Sub.of O) (λ_ h=>h.pick [0,1,2,4] xC)
  refine vD O (qAO O qOR O) O xD λg11 _=>vD O (qAE (l:= [.tmp 28]) (xs:= [[N64 (v),Str (o),Str (r),I (h),Str (p)]]) O O O O qGK el102 O xC xC xD) O xD λg29 _=>vD O (qAZ O O (λF' hF=>qCm F' (hK.mo hF) [(⟨v,o,r,h,p⟩:En)] (by intro x hx;rw [List.mem_singleton.1 hx];exact hgy) g29 0 1 ((qAj (q:=True) (xs:= [(⟨v,o,r,h,p⟩:En).cells]) O (by intro x hx;rw [List.mem_singleton.1 hx];rfl)).sl.mono (hF (blk g29 [N64 (v),Str (o),Str (r),I (h),Str (p)] 102) xD)) (zy _) (show 1<=1073741824 by decide))) O xD λg30 _=>vU ?_
  exact vZ O (qAF (i:=3) (l:= [Str [],Str [],I 0]) (vs:= [Str (o),Str (r),I (h)]) O O O O O qDF O O) O O O λ_ _=>vM<|yq<|vY (g11) C8 (yd) (Sub.of O) (λ_ h=>h.pick [0,1,2,3] xC)
 rintro g11 _
 refine vl (X:=Int×xA×xA×Int) (λζ=> [(3,Ptr g3),(10,I (ζ.1)),(11,Ptr g11)]) (λζ=> [F,blk g3 [Str (s),N64 (v),Str (o),Str (r),I (h),Str (p),I (i:Nat),.slice A1 n1 c1,.slice A2 n2 c2] 108,blk g11 [Str (ζ.2.1),Str (ζ.2.2.1),I (ζ.2.2.2)] 32]) (λζ=>ζ.1=(if had=true then z.next (⟨v,o,r,h,p⟩:En) else En.hist [(⟨v,o,r,h,p⟩:En)])/\ζ.2.1=o/\ζ.2.2.1=r/\ζ.2.2.2=h) (λ_ C9=>?_) ?_
 .
  refine yl λ_ C10=>yh O<|yi C10<|vf O (λh34=>?_) (λh34=>?_)
  .
   obtain ⟨hgx,hzo,hzr,hzh⟩:=hz h34
   refine vQ [blk g5 [N64 (z.v),Str (z.o),Str (z.r),I (z.h),Str (z.p)] 102,blk g3 [Str (s),N64 (v),Str (o),Str (r),I (h),Str (p),I (i:Nat),.slice A1 n1 c1,.slice A2 n2 c2] 108] [7] (.y 0 (.y 1 (.y 2 (.y 4 (.y 5 (.e 3 (.y 6 (.e 7 .nil)))))))) ye xF xD ?_
   refine yo O (qAx 0 O O O qBz qBF O) O O<|yo O (qAA O O qCN O qBF O) O O<|yo O (qAb O O qBz qBF (m:=blk g3 [Str (s),N64 (v),Str (o),Str (r),I (h),Str (p),I (i:Nat),.slice A1 n1 c1,.slice A2 n2 c2] 108) xD (qAI.blk0.sub 1 5) O) O O<|yo O (qAA O O qDG O qDF O) O O<|yo O (qAb O O qKM qDF (m:=blk g5 [N64 (z.v),Str (z.o),Str (z.r),I (z.h),Str (z.p)] 102) xD (qAI.blk0.sub 1 3) O) O O<|vD O (qAZ O O (λF' hF=>qOQ F' (hK.mo hF) z (⟨v,o,r,h,p⟩:En) hgx hgy)) O xD λg38 _=>vU ?_
   exact vZ O (qAF (i:=3) (l:= [Str (o),Str (r),I (h)]) (vs:= [Str (z.o),Str (z.r),I (z.h)]) O O O O O qDF O O) O O O λ_ _=>vM<|yq<|vY (z.next (⟨v,o,r,h,p⟩:En),z.o,z.r,z.h) C9 (⟨(yX h34).symm,hzo,hzr,hzh⟩) (Sub.of O) (λ_ h=>h.pick [0,1,3] xC)
  exact vP<|yq<|vY (En.hist [(⟨v,o,r,h,p⟩:En)],o,r,h) C9 (⟨(yW (by rw [h34];decide)).symm,O,O,O⟩) (Sub.of O) (λ_ h=>h.pick [0,1,3] xC)
 rintro⟨e,o2,r2,h2⟩ ⟨he9,ho2,hr2,hh2⟩
 dsimp only at he9 ho2 hr2 hh2⊢
 refine ym λ_ C11=>yz<|yl λ_ C12=>yh O<|yj (qAQ O O O) O<|yh O<|yi C12<|y1 O (λh41=>?_) (λh41=>?_)
 .
  exact yl λ_ C13=>yn 2 O<|yi C13<|yr<|vI<|y5<|yw hw0 O () (by rw [<-he9];split<;>first|rfl|contradiction|(split<;>first|rfl|contradiction|(exfalso;simp_all))) yd [0] O xC
 refine ym λ_ C14=>vQ [blk g3 [Str (s),N64 (v),Str (o),Str (r),I (h),Str (p),I (i:Nat),.slice A1 n1 c1,.slice A2 n2 c2] 108,blk g11 [Str (o2),Str (r2),I (h2)] 32] [] (.y 0 (.y 1 (.y 2 (.y 3 (.y 4 (.y 6 (.y 7 (.e 5 (.e 8 (.y 9 (.y 10 .nil))))))))))) ye xF xD ?_
 refine yo O (qAx 1 O O O qKM qDF O) O O<|yo O (qAA O O qCN O z9_ O) O O<|yo O (qAD 0 O O O b9_ O) O O<|yo O (qAA O O qCN O qBF O) O O<|yo O (qAb O O qBz qBF (m:=blk g3 [Str (s),N64 (v),Str (o),Str (r),I (h),Str (p),I (i:Nat),.slice A1 n1 c1,.slice A2 n2 c2] 108) xD (qAI.blk0.sub 1 5) O) O O<|yo O (qAA O O qCN O qCg O) O O<|yo O (qAb O O qGe qCg (m:=blk g3 [Str (s),N64 (v),Str (o),Str (r),I (h),Str (p),I (i:Nat),.slice A1 n1 c1,.slice A2 n2 c2] 108) xD (qAI.blk0.sub 6 3) O) O O<|vD O (qAZ O O (λF' hF=>qRI F' (hK.mo hF) s xI v o r h p xI)) O xD λg51 _=>vD O (qAZ O O (λF' hF=>by rw [ho2,hr2,hh2];exact hV F' (Fa hF))) O xD λg54 _=>yo O (qA5 O O) O O<|vU ?_
 refine vM<|yq (yu C14 ?_)
 refine vf O (λh45=>?_) (λh45=>?_)
 .
  exact yl λ_ C15=>yh O<|yi C15<|yr<|vI<|y5<|yw hw0 O () (by rw [<-he9];split<;>first|rfl|contradiction|(split<;>first|rfl|contradiction|(exfalso;simp_all))) yd [0] O xC
 refine vP<|vB<|yq (yu C11 ?_)
 exact yl λ_ C16=>yh O<|yi C16<|yr<|yw hw0 O () (by rw [<-he9];split<;>first|rfl|contradiction|(split<;>first|rfl|contradiction|(exfalso;simp_all))) yd [0] O xC
end Go.Proofs.YtmemgokiolfdoaaGreatDoor