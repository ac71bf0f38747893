/- A part of the proof. -/
import Derived.Test.YtmemgokiolfdoaaGreatDoorTopSpG8
import Derived.Test.YtmemgokiolfdoaaGreatDoorTopSpG9
set_option maxRecDepth 100000
set_option maxHeartbeats 1000000
set_option linter.unusedSimpArgs false
set_option linter.unusedVariables false
namespace Go.Proofs.YtmemgokiolfdoaaGreatDoor
open Go Go.Fw Go.Proofs.Tryz
theorem qXj: ∀r:Fin 32,1<=r.val->((UInt64.ofNat (18446744073709551616-r.val)).toNat&&&31)=32-r.val:=by decide+kernel
theorem qae(n:UInt64)(size:Nat)(j:Nat)(hj:j<size):(Sha.numB n size)[j]?=some (UInt64.ofNat (n.toNat/2^min (8*(size-1-j)) 64)).toUInt8:=by
 simp [Sha.numB,hj]
def qIN(l:xA)(k:Nat):yU:=(l.take k).map B8++List.replicate (l.length-k) (.int .u8 0)
theorem qPA(l:xA)(size:Nat)(h:l.length=size):(List.replicate size [Value.int .u8 0]).flatten=qIN l 0:=by
 subst h
 unfold qIN
 induction l with
 |nil=>rfl
 |cons a l ih=>simp only [jC,yP,jo];rw [ih];simp [yP]
theorem qRO(l:xA)(k:Nat)(h:k<=l.length):(qIN l k).length=l.length:=by simp [qIN];omega
theorem qQd{α:Type}(a:List α)(v:α)(n:Nat)(x:α):(a++List.replicate (n+1) v).take a.length++ [x]++(a++List.replicate (n+1) v).drop (a.length+1)=(a++ [x])++List.replicate n v:=by
 rw [List.take_left,List.drop_append]
 simp [yP]
theorem qPB(l:xA)(k:Nat)(v:UInt8)(h:l[k]?=some v):qBS (qIN l k) k [B8 v]=qIN l (k+1):=by
 obtain ⟨hk,rfl⟩:=List.getElem?_eq_some_iff.1 h
 have e:l.length-k=(l.length-(k+1))+1:=xB
 have h2:=qQd ((l.take k).map B8) (Value.int .u8 0) (l.length-(k+1)) (B8 l[k])
 have h3:((l.take k).map B8).length=k:=by simp;omega
 rw [h3] at h2
 unfold qBS qIN
 rw [e,jI,h2,jP hk,jN]
 rfl
theorem qRP(l:xA)(k:Nat)(h:l.length<=k):qIN l k=(qAe l).flatten:=by
 unfold qIN qAe
 rw [qBW,jV h,show l.length-k=0 by omega];simp
theorem el302:qCx prog 302 [.int .u32 0] 4:=qCx.of xH O
theorem qHh(F:Hp)(n:UInt64)(size:Nat)(hs:size<=8):
    Ct prog 189 [W64 n,I size] [F] (λx:yS×Nat×Hp=> .slice x.1 size x.2.1) (λx=>Row x.2.2 5 1 x.1 size x.2.1 (qAe (Sha.numB n size))) (λx=> [F,x.2.2]):=by
  have hlen:=Sha.numB_length n size
  refine y7 func189 O ntmps189 O (λw0 hw0=>?_)
  refine yl λ_ C1=>yh O<|yi C1 ?_
  refine yl λ_ C2=>yh O<|yp (qCY O O qBo el5 xB xB) O λg8 _=>yh O<|yi C2 ?_
  refine ym λ_ C3=>yl λ_ C4=>yh O<|yj (qAN qBo O O) O<|yh O<|yi C4 ?_
  refine yz<|vN (λk:Nat=> [(0,W64 n),(1,I size),(5,.slice (some ⟨g8,0,none⟩) size size),(10,I size),(11,I k)]) (λk=> [F,blk g8 (qIN (Sha.numB n size) k) 5]) (λk=>k<=size) (λk=>size-k) 0 (jH _) (Sub.of O) (λ_ h=>by rw [<-qPA _ size hlen];exact h) ?_
  intro k hk I0 hI0
  refine yl λ_ C5=>yj (qAP O O O) O<|yi C5 ?_
  refine ym λ_ C6=>y1 O (λh12=>?_) (λh12=>?_)
  .
    refine yy C6 ?_
    refine ym λ_ C7=>yz<|yl λ_ C8=>yn 2 O<|yi C8 ?_
    refine yt<|yn 4 O<|yj (qAm O O O xB) O<|yh O<|yj (qAm O O O xB) O<|yj (qCA O O O xB) O<|yj (qGw (m:=8*(size-1-k)) O O (by show some _=some _;congr 2;omega)) O<|yj (qEQ O O qDJ u5_) O<|yj (qAY (j:=k) O O O qBo z5_ xB xB) O<|vG (qAU (i:=1) O O O O O z5_ O (by rw [qRO (Sha.numB n size) k xB];show k+1<=_;omega)) O O λ_ _=>y8<|vB<|yq (yu C7 ?_)
    exact yt<|yj (qAM O O O xB) O<|yh O<|y8<|yq<|vE (k+1) hI0 xB (Sub.of O) (λ_ h=>by rw [<-qPB _ k _ (qae n size k xB)];exact h)
  refine vK<|y6<|y6<|vL ?_
  refine yq (yu C3 ?_)
  refine yl λ_ C9=>yn 2 O<|yi C9 ?_
  exact yr<|yw hw0 O (some ⟨g8,0,none⟩,size,blk g8 (qAe (Sha.numB n size)).flatten 5) O (qAj (by simp [qAe,hlen]) (by simp [qAe])) [0,1] (by rw [qRP (Sha.numB n size) k xB];rfl) xC
theorem qEv(F:Hp)(x:UInt32)(r:Nat)(h1:1<=r)(h2:r<32):
    Cz prog 284 [W32 x,I (-(r:Int))] F (W32 (Sha.rotr x r)):=by
  have hr:=qXj ⟨r,h2⟩ h1
  have e1:((-(r:Int))%18446744073709551616).toNat=18446744073709551616-r:=xB
  have e3:IntKind.u64.wrap (32-((32-r:Nat):Int))=(r:Int):=by simp [IntKind.wrap,IntKind.bits,IntKind.signed];omega
  refine y7 func284 O ntmps284 O (λw0 hw0=>?_)
  refine yl λ_ C1=>yh O<|yi C1 ?_
  refine yl λ_ C2=>yh O<|yj ((qCT O O u3_ qJU).as (yY (λz=>W64 (UInt64.ofNat z)) e1)) O<|yj ((qNu (b:=31) O O O).as (v':= .int .u64 ((32-r:Nat):Int)) (by show Value.int .u64 _=_;rw [UInt64.toNat_and];exact yY (λz:Nat=>Value.int .u64 (z:Int)) hr)) O<|yh O<|yi C2 ?_
  refine yl λ_ C3=>yn 2 O<|yj (qGx O O O) O<|yn 2 O<|yj (qHe O O O e3.symm) O<|yj (qJk O O O) O<|yj (qJm O O O) O<|yh O<|yi C3 ?_
  exact yr<|yw hw0 O () O yd [0] O xC
theorem qVa(F:Hp):Cz prog 249 [] F (.agg (Sha.init.list.map W32).toArray):=by
 refine y7 func249 O ntmps249 O (λw0 hw0=>?_)
 refine yl λ_ C1=>yp (qAO O zeroValue357 O) O λg0 _=>yi C1 ?_
 refine yl λ_ C2=>yj (qE5 (l:= [.const (.int .u32 1779033703),.const (.int .u32 3144134277),.const (.int .u32 1013904242),.const (.int .u32 2773480762),.const (.int .u32 1359893119),.const (.int .u32 2600822924),.const (.int .u32 528734635),.const (.int .u32 1541459225)]) O O O qGW el302 zeroValue357 O O (by simp [Value.cells]) (r:=Sha.init.list.map W32) O) O<|vG (qAU (i:=1) O O O O O sizeOf357 O xC) O O λ_ _=>yi C2 ?_
 exact yr<|vH hw0 (λ_ _ h=>h) (rv1 O (RV.blkA 1 O O isAgg357 sizeOf357)) (qAf () O yd [0] O xC)
def qE4(l:yV):yU:=l.map W32++List.replicate (64-l.length) (.int .u32 0)
theorem qHY(l:yV)(h:l.length<=64):(qE4 l).length=64:=by simp [qE4];omega
theorem qFQ(l:yV)(i:Nat)(h:i<l.length):(qE4 l)[i]?=some (W32 (l.getD i 0)):=by
 unfold qE4
 rw [jk (by simpa using h),jO,jD h,jB,jD h]
 rfl
theorem qIq(l:yV)(x:UInt32)(h:l.length<64):qBS (qE4 l) l.length [W32 x]=qE4 (l++ [x]):=by
 have e:64-l.length=(64-(l.length+1))+1:=xB
 have h2:=qQd (l.map W32) (Value.int .u32 0) (64-(l.length+1)) (W32 x)
 rw [jJ] at h2
 unfold qBS qE4
 rw [e,jI,h2,jN,jA]
 rfl
theorem qRN(l:yV)(j:Nat)(hj:l.length=16+j)(h:j<48):qBS (qE4 l) (16+j) [W32 (l.getD j 0+Sha.sg0 (l.getD (j+1) 0)+l.getD (j+9) 0+Sha.sg1 (l.getD (j+14) 0))]=qE4 (Sha.ext l):=by
 have h2:=qIq l (l.getD j 0+Sha.sg0 (l.getD (j+1) 0)+l.getD (j+9) 0+Sha.sg1 (l.getD (j+14) 0)) xB
 rw [hj] at h2
 rw [h2]
 unfold Sha.ext
 rw [hj,show 16+j-16=j by omega,show 16+j-15=j+1 by omega,show 16+j-7=j+9 by omega,show 16+j-2=j+14 by omega]
theorem firsts_succ(b:xA)(k:Nat):Sha.firsts b (k+1)=Sha.firsts b k++ [Sha.word b k]:=by simp [Sha.firsts,jt]
theorem qO9(l:yV)(h:l.length=64):qE4 l=l.map W32:=by simp [qE4,h]
theorem qYK(l:yV):(l.map W32).all Value.oneCell'=true:=by simp [Value.oneCell']
theorem getB{b:xA}{j:Nat}(h:j<b.length):b[j]?=some (b.getD j 0):=by rw [jB,jD h];rfl
theorem qMO(F:Hp)(A:yS)(n c:Nat)(b:xA)(hl:Sl F 1 A n c (qAe b))(h64:64<=n):
    Cz prog 283 [.slice A n c] F (.agg ((Sha.sched b).map W32).toArray):=by
  have hn:b.length=n:=by have:=hl.1;simpa [qAe] using this
  have hb: ∀j,j<n->b[j]?=some (b.getD j 0):=λj hj=>getB xB
  refine y7 func283 O ntmps283 O (λw0 hw0=>?_)
  refine yl λ_ C1=>yp (qAO O zeroValue403 O) O λg2 _=>yi C1 ?_
  refine yl λ_ C2=>yp (qAO O zeroValue403 O) O λg3 _=>yi C2 ?_
  refine ym λ_ C3=>yl λ_ C4=>yh O<|yi C4 ?_
  refine yz<|vN (λk:Nat=> [(0,.slice A n c),(2,Ptr g2),(3,Ptr g3),(10,I k)]) (λk=> [F,blk g2 (List.replicate 64 (.int .u32 0)) 403,blk g3 (qE4 (Sha.firsts b k)) 403]) (λk=>k<=16) (λk=>16-k) 0 (jH _) (Sub.of O) (λ_ h=>h) ?_
  intro k hk I0 hI0
  refine yl λ_ C5=>yj (qAP O O O) O<|yi C5 ?_
  refine ym λ_ C6=>y1 O (λh11=>?_) (λh11=>?_)
  .
    refine yy C6 ?_
    refine ym λ_ C7=>yz<|yl λ_ C8=>yn 2 O<|yi C8 ?_
    refine vQ [F] [35] (.y 0 (.y 1 (.y 2 (.y 3 (.y 4 (.y 5 (.y 6 (.y 7 (.y 8 (.y 9 (.y 10 (.y 11 (.y 12 (.y 13 (.y 14 (.y 15 (.y 16 (.y 17 (.y 18 (.y 19 (.y 20 (.y 21 (.y 22 (.y 23 (.y 24 (.y 25 (.y 26 (.y 27 (.y 28 (.y 29 (.y 30 (.y 31 (.y 32 (.y 33 (.y 34 (.e 35 .nil)))))))))))))))))))))))))))))))))))) ye xF xD ?_
    iterate 3 refine yx ?_
    refine yo O ((qCA O O O xB).nat (4*k) xB) O O<|yo O (qAC O O O qBo z5_ hl xB) O O<|yo O (qAH O O b5_ (m:=F) xD (hl.elem (qBw (hb (4*k) xB)))) O O<|yo O (qDQ O O u5_ qKe) O O<|yo O (qGx O O O) O O<|yx ?_
    refine yx ?_
    refine yo O ((qCA O O O xB).nat (4*k) xB) O O<|yo O ((qAM O O O xB).nat (4*k+1) xB) O O<|yo O (qAC O O O qBo z5_ hl xB) O O<|yo O (qAH O O b5_ (m:=F) xD (hl.elem (qBw (hb (4*k+1) xB)))) O O<|yo O (qDQ O O u5_ qKe) O O<|yo O (qGx O O O) O O<|yo O (qJm O O O) O O<|yx ?_
    refine yx ?_
    refine yo O ((qCA O O O xB).nat (4*k) xB) O O<|yo O ((qAM O O O xB).nat (4*k+2) xB) O O<|yo O (qAC O O O qBo z5_ hl xB) O O<|yo O (qAH O O b5_ (m:=F) xD (hl.elem (qBw (hb (4*k+2) xB)))) O O<|yo O (qDQ O O u5_ qKe) O O<|yo O (qGx O O O) O O<|yo O (qJm O O O) O O<|yx ?_
    refine yx ?_
    refine yo O ((qCA O O O xB).nat (4*k) xB) O O<|yo O ((qAM O O O xB).nat (4*k+3) xB) O O<|yo O (qAC O O O qBo z5_ hl xB) O O<|yo O (qAH O O b5_ (m:=F) xD (hl.elem (qBw (hb (4*k+3) xB)))) O O<|yo O (qDQ O O u5_ qKe) O O<|yo O (qJm O O O) O O<|yo O (qAr (i:=k) (j:=k) O O O qKc qCU xB xB) O O<|vZ O (qAU (i:=2) O O O O O qCU O (by rw [qHY (Sha.firsts b k) (by rw [Sha.firsts_length];omega)];show k+1<=_;omega)) O O O λ_ _=>vM<|vB<|yq (yu C7 ?_)
    exact yt<|yj (qAM O O O xB) O<|yh O<|y8<|yq<|vE (k+1) hI0 xB (Sub.of O) (λ_ h=>by rw [firsts_succ,<-qIq _ _ (by rw [Sha.firsts_length];omega),Sha.firsts_length];exact h)
  refine vK<|y6<|y6<|vL ?_
  refine yq (yu C3 ?_)
  refine ym λ_ C9=>yl λ_ C10=>yh O<|yi C10 ?_
  refine yz<|vN (λj:Nat=> [(2,Ptr g2),(3,Ptr g3),(5,I (16+j:Nat))]) (λj=> [F,blk g2 (List.replicate 64 (.int .u32 0)) 403,blk g3 (qE4 (Sha.exts j (Sha.firsts b 16))) 403]) (λj=>j<=48) (λj=>48-j) 0 (jH _) (Sub.of O) (λ_ h=>by rw [show k=16 by omega] at h;exact h) ?_
  intro j hj I1 hI1
  have hlj:(Sha.exts j (Sha.firsts b 16)).length=16+j:=by rw [Sha.exts_length,Sha.firsts_length]
  refine ym λ_ C11=>yl λ_ C12=>yh O<|yj (qAP O O O) O<|yi C12 ?_
  refine y1 O (λh50=>?_) (λh50=>?_)
  .
    refine yy C11 ?_
    refine ym λ_ C13=>yz<|ym λ_ C14=>vQ [blk g3 (qE4 (Sha.exts j (Sha.firsts b 16))) 403] [] (.y 0 (.y 1 (.y 2 (.y 3 (.y 4 (.y 5 (.y 6 (.y 7 (.y 8 (.y 9 .nil)))))))))) ye xF xD ?_
    refine yx ?_
    refine yo O ((qAm O O O xB).nat (j+1) xB) O O<|yo O (qAr (i:=j+1) (j:=j+1) O O O qKc qCU xB xB) O O<|yo O (qAD 0 O O O qDg (qFQ (Sha.exts j (Sha.firsts b 16)) (j+1) xB)) O O<|yx ?_
    refine yo O ((qAm O O O xB).nat (j+14) xB) O O<|yo O (qAr (i:=j+14) (j:=j+14) O O O qKc qCU xB xB) O O<|yo O (qAD 0 O O O qDg (qFQ (Sha.exts j (Sha.firsts b 16)) (j+14) xB)) O O<|vU ?_
    refine vU ?_
    refine vM<|yq (yu C14 ?_)
    refine yl λ_ C15=>yh O<|yp (qAZ O O (λF' _=>qEv F' _ 7 xC xC)) O λg62 _=>yh O<|yp (qAZ O O (λF' _=>qEv F' _ 18 xC xC)) O λg64 _=>yj (qCF O O O) O<|yh O<|yj (qJk O O O) O<|yj (qCF O O O) O<|yh O<|yi C15 ?_
    refine yl λ_ C16=>yh O<|yp (qAZ O O (λF' _=>qEv F' _ 17 xC xC)) O λg70 _=>yh O<|yp (qAZ O O (λF' _=>qEv F' _ 19 xC xC)) O λg72 _=>yj (qCF O O O) O<|yh O<|yj (qJk O O O) O<|yj (qCF O O O) O<|yh O<|yi C16 ?_
    refine vQ [blk g3 (qE4 (Sha.exts j (Sha.firsts b 16))) 403] [15] (.y 0 (.y 1 (.y 2 (.y 3 (.y 4 (.y 5 (.y 6 (.y 7 (.y 8 (.y 9 (.y 10 (.y 11 (.y 12 (.y 13 (.y 14 (.e 15 .nil)))))))))))))))) ye xF xD ?_
    refine yx ?_
    refine yx ?_
    refine yo O ((qAm O O O xB).nat (j) xB) O O<|yo O (qAr (i:=j) (j:=j) O O O qKc qCU xB xB) O O<|yo O (qAD 0 O O O qDg (qFQ (Sha.exts j (Sha.firsts b 16)) (j) xB)) O O<|yx ?_
    refine yo O (qCG O O O) O O<|yx ?_
    refine yo O ((qAm O O O xB).nat (j+9) xB) O O<|yo O (qAr (i:=j+9) (j:=j+9) O O O qKc qCU xB xB) O O<|yo O (qAD 0 O O O qDg (qFQ (Sha.exts j (Sha.firsts b 16)) (j+9) xB)) O O<|yo O (qCG O O O) O O<|yx ?_
    refine yo O (qCG O O O) O O<|yo O (qAr (i:=16+j) (j:=16+j) O O O qKc qCU xB xB) O O<|vZ O (qAU (i:=2) O O O O O qCU O (by rw [qHY (Sha.exts j (Sha.firsts b 16)) xB];show 16+j+1<=_;omega)) O O O λ_ _=>vM<|vB<|yq (yu C13 ?_)
    exact yt<|yh O<|yj (qAM O O O xB) O<|yh O<|y8<|yq<|vE (j+1) hI1 xB (Sub.of O) (λ_ h=>by rw [Sha.exts,<-qRN _ j hlj xB];exact h)
  refine vK<|y6<|y6<|vL ?_
  refine yq (yu C9 ?_)
  refine ym λ_ C17=>?_
  have hj48:j=48:=xB
  subst hj48
  refine yt<|yj (qAx 2 O O O isAgg403 sizeOf403 (qHY (Sha.exts 48 (Sha.firsts b 16)) (by rw [Sha.exts_length,Sha.firsts_length];decide))) O<|vG (qAF (i:=1) (vs:=(Sha.sched b).map W32) O O O O (by show Array.mk _=_;exact yY _ (qO9 _ (Sha.sched_length b))) (λw=>by rw [jJ,Sha.sched_length];exact sizeOf403 w) (qYK _) (by rw [jJ,Sha.sched_length];rfl)) O O λ_ _=>?_
  change J _ _ _ [F,blk g2 ((Sha.sched b).map W32) 403,_] _
  refine yi C17 ?_
  exact yr<|vH hw0 (λ_ _ h=>h) (rv1 O (RV.blkA 1 O O isAgg403 (λw=>by rw [jJ,Sha.sched_length];exact sizeOf403 w))) (qAf () O yd [0] O xC)
theorem Sha.rnds_succ(ws:yV)(s:Sha.St8)(i:Nat):Sha.rnds ws s (i+1)=Sha.rnd (ws.getD i 0) (Sha.K.getD i 0) (Sha.rnds ws s i):=rfl
theorem Sha.mix_eq(s:Sha.St8)(b:xA):Sha.mix s b=s.add (Sha.rnds (Sha.sched b) s 64):=rfl
theorem Sha.rnds_zero(ws:yV)(s:Sha.St8):Sha.rnds ws s 0=s:=rfl
attribute [local irreducible] Sha.rnds Sha.sched Sha.mix
theorem qZD{m:Hp}{g off:Nat}{vs:yU}{i:Nat}{v:Value}(h:qAI m ⟨g,off,none⟩ vs)(hi:vs[i]?=some v):qAI m ⟨g,off+i,none⟩ [v]:=by
 have:=h.sub i 1
 rw [Addr.add_lit] at this
 obtain ⟨hk,rfl⟩:=List.getElem?_eq_some_iff.1 hi
 rw [j9 hk] at this
 exact this
theorem getW{l:yV}{i:Nat}(h:i<l.length):(l.map W32)[i]?=some (W32 (l.getD i 0)):=by
 rw [jO,jD h,jB,jD h];rfl
def Sha.St8.adds(s t:Sha.St8)(k:Nat):yV:=(s.add t).list.take k++s.list.drop k
theorem qV9(s t:Sha.St8)(k:Nat)(hk:k<=8):(s.adds t k).length=8:=by simp [Sha.St8.adds,Sha.St8.list];omega
theorem qWA(s t:Sha.St8): ∀k,k<8->(s.adds t k)[k]?=some (s.list.getD k 0)
 |0,_=>rfl|1,_=>rfl|2,_=>rfl|3,_=>rfl|4,_=>rfl|5,_=>rfl|6,_=>rfl|7,_=>rfl
 |n+8,h=>by omega
theorem qV8(s t:Sha.St8): ∀k,k<8->qBS ((s.adds t k).map W32) k [W32 (s.list.getD k 0+t.list.getD k 0)]=(s.adds t (k+1)).map W32
 |0,_=>rfl|1,_=>rfl|2,_=>rfl|3,_=>rfl|4,_=>rfl|5,_=>rfl|6,_=>rfl|7,_=>rfl
 |n+8,h=>by omega
theorem qWB(s t:Sha.St8):s.adds t 8=(s.add t).list:=rfl
theorem qN8(t:Sha.St8): ∀k,k<8->(t.list.map W32)[k]?=some (W32 (t.list.getD k 0))
 |0,_=>rfl|1,_=>rfl|2,_=>rfl|3,_=>rfl|4,_=>rfl|5,_=>rfl|6,_=>rfl|7,_=>rfl
 |n+8,h=>by omega
abbrev yf(F:Hp):Prop:=qAI F ⟨3,0,none⟩ (Sha.K.map W32)
theorem qZ5(F:Hp)(hK:yf F)(g:Nat)(s:Sha.St8)(A:yS)(n c:Nat)(b:xA)(hl:Sl F 1 A n c (qAe b))(h64:64<=n):
    Ct prog 250 [Ptr g,.slice A n c] [blk g (s.list.map W32) 357,F] (λ_:Unit=> .tuple #[]) (λ_=>True) (λ_=> [blk g ((Sha.mix s b).list.map W32) 357,F]):=by
  refine y7 func250 O ntmps250 O (λw0 hw0=>?_)
  refine yl λ_ C1=>yh O<|yp (qAZ O O (λF' hF=>qMO F' A n c b (hl.mono (Fa hF)) h64)) O λg21 _=>yp (qAO O zeroValue403 O) O λg4 _=>vG (qAF (i:=2) (vs:=(Sha.sched b).map W32) O O O O O (λw=>by rw [jJ,Sha.sched_length];exact sizeOf403 w) (qYK _) (by rw [jJ,Sha.sched_length];rfl)) O O λ_ _=>yi C1 ?_
  refine ym λ_ C2=>vQ [blk g (s.list.map W32) 357] [] (.y 0 (.y 1 (.y 2 (.y 3 (.y 4 (.y 5 (.y 6 (.y 7 (.y 8 (.y 9 (.y 10 (.y 11 (.y 12 (.y 13 (.y 14 (.y 15 (.y 16 (.y 17 (.y 18 (.y 19 (.y 20 (.y 21 (.y 22 (.y 23 (.y 24 (.y 25 (.y 26 (.y 27 (.y 28 (.y 29 (.y 30 (.y 31 (.y 32 (.y 33 (.y 34 (.y 35 (.y 36 (.y 37 (.y 38 (.y 39 .nil)))))))))))))))))))))))))))))))))))))))) ye xF xD ?_
  refine yx ?_
  refine yo O (qAB O O) O O<|yo O (qAr O O O qGW qCU xC O) O O<|yo O (qAD 0 O O O qDg O) O O<|yx ?_
  refine yo O (qAB O O) O O<|yo O (qAr O O O qGW qCU xC O) O O<|yo O (qAD 0 O O O qDg O) O O<|yx ?_
  refine yo O (qAB O O) O O<|yo O (qAr O O O qGW qCU xC O) O O<|yo O (qAD 0 O O O qDg O) O O<|yx ?_
  refine yo O (qAB O O) O O<|yo O (qAr O O O qGW qCU xC O) O O<|yo O (qAD 0 O O O qDg O) O O<|yx ?_
  refine yo O (qAB O O) O O<|yo O (qAr O O O qGW qCU xC O) O O<|yo O (qAD 0 O O O qDg O) O O<|yx ?_
  refine yo O (qAB O O) O O<|yo O (qAr O O O qGW qCU xC O) O O<|yo O (qAD 0 O O O qDg O) O O<|yx ?_
  refine yo O (qAB O O) O O<|yo O (qAr O O O qGW qCU xC O) O O<|yo O (qAD 0 O O O qDg O) O O<|yx ?_
  refine yo O (qAB O O) O O<|yo O (qAr O O O qGW qCU xC O) O O<|yo O (qAD 0 O O O qDg O) O O<|vU ?_
  iterate 7 refine vU ?_
  refine vM<|yq (yu C2 ?_)
  refine ym λ_ C3=>yl λ_ C4=>yh O<|yi C4 ?_
  refine yz<|vN (λi:Nat=> [(0,Ptr g),(4,Ptr g4),(5,W32 (Sha.rnds (Sha.sched b) s i).a),(6,W32 (Sha.rnds (Sha.sched b) s i).b),(7,W32 (Sha.rnds (Sha.sched b) s i).c),(8,W32 (Sha.rnds (Sha.sched b) s i).d),(9,W32 (Sha.rnds (Sha.sched b) s i).e),(10,W32 (Sha.rnds (Sha.sched b) s i).f),(11,W32 (Sha.rnds (Sha.sched b) s i).g),(12,W32 (Sha.rnds (Sha.sched b) s i).h),(54,I i)]) (λ_=> [blk g (s.list.map W32) 357,F,blk g4 ((Sha.sched b).map W32) 403]) (λi=>i<=64) (λi=>64-i) 0 (jH _) ⟨O,O,by rw [Sha.rnds_zero];rfl,by rw [Sha.rnds_zero];rfl,by rw [Sha.rnds_zero];rfl,by rw [Sha.rnds_zero];rfl,by rw [Sha.rnds_zero];rfl,by rw [Sha.rnds_zero];rfl,by rw [Sha.rnds_zero];rfl,by rw [Sha.rnds_zero];rfl,O,yd⟩ (λ_ h=>h) ?_
  intro i hi I0 hI0
  refine yl λ_ C5=>yj (qAP O O O) O<|yi C5 ?_
  refine ym λ_ C6=>y1 O (λh55=>?_) (λh55=>?_)
  .
    refine yy C6 ?_
    refine ym λ_ C7=>yz<|yl λ_ C8=>yn 2 O<|yi C8 ?_
    refine yl λ_ C9=>yh O<|yp (qAZ O O (λF' _=>qEv F' _ 6 xC xC)) O λg58 _=>yh O<|yp (qAZ O O (λF' _=>qEv F' _ 11 xC xC)) O λg60 _=>yj (qCF O O O) O<|yh O<|yp (qAZ O O (λF' _=>qEv F' _ 25 xC xC)) O λg63 _=>yj (qCF O O O) O<|yh O<|yi C9 ?_
    refine ym λ_ C10=>?_
    have hiK:i<Sha.K.length:=by show i<64;omega
    refine vQ [blk g (s.list.map W32) 357,F,blk g4 ((Sha.sched b).map W32) 403] [] (.y 0 (.y 1 (.y 2 (.y 3 (.y 4 (.y 5 (.y 6 (.y 7 (.y 8 (.y 9 (.y 10 (.y 11 (.y 12 (.y 13 (.y 14 (.y 15 (.y 16 (.y 17 (.y 18 (.y 19 (.y 20 .nil))))))))))))))))))))) ye xF xD ?_
    refine yx ?_
    refine yx ?_
    refine yo O (qCG O O O) O O<|yx ?_
    refine yx ?_
    refine yo O (qFX O O O) O O<|yx ?_
    refine yo O (qUo O O) O O<|yx ?_
    refine yo O (qFX O O O) O O<|yo O (qCF O O O) O O<|yo O (qCG O O O) O O<|yx ?_
    refine yo O (qAr (i:=i) (j:=i) O O O qKc qCU xB xB) O O<|yo O (qUm 1 O O qDg O (by have h:=qZD hK (getW (l:=Sha.K) (i:=i) hiK);rw [jl] at h;exact h)) O O<|yo O (qCG O O O) O O<|yx ?_
    refine yo O (qAr (i:=i) (j:=i) O O O qKc qCU xB xB) O O<|yo O (qAD 2 O O O qDg (getW (l:=Sha.sched b) (i:=i) (by rw [Sha.sched_length];omega))) O O<|yo O (qCG O O O) O O<|vU ?_
    refine vM<|yq (yu C10 ?_)
    refine yl λ_ C11=>yh O<|yp (qAZ O O (λF' _=>qEv F' _ 2 xC xC)) O λg86 _=>yh O<|yp (qAZ O O (λF' _=>qEv F' _ 13 xC xC)) O λg88 _=>yj (qCF O O O) O<|yh O<|yp (qAZ O O (λF' _=>qEv F' _ 22 xC xC)) O λg91 _=>yj (qCF O O O) O<|yh O<|yi C11 ?_
    refine yl λ_ C12=>yn 3 O<|yj (qFX O O O) O<|yn 2 O<|yj (qFX O O O) O<|yj (qCF O O O) O<|yn 2 O<|yj (qFX O O O) O<|yj (qCF O O O) O<|yj (qCG O O O) O<|yh O<|yi C12 ?_
    refine yt<|yn 5 O<|yj (qCG O O O) O<|yn 5 O<|yj (qCG O O O) O<|yn 8 O<|y8<|vB<|yq (yu C7 ?_)
    exact yt<|yj (qAM O O O xB) O<|yh O<|y8<|yq<|vE (i+1) hI0 xB ⟨O,O,by rw [Sha.rnds_succ];rfl,by rw [Sha.rnds_succ];rfl,by rw [Sha.rnds_succ];rfl,by rw [Sha.rnds_succ];rfl,by rw [Sha.rnds_succ];rfl,by rw [Sha.rnds_succ];rfl,by rw [Sha.rnds_succ];rfl,by rw [Sha.rnds_succ];rfl,O,yd⟩ (λ_ h=>h)
  refine vK<|y6<|y6<|vL ?_
  refine yq (yu C3 ?_)
  refine ym λ_ C13=>?_
  have hi64:i=64:=xB
  subst hi64
  refine yt<|yn 8 O<|yj (qE5 (l:= [.tmp 119,.tmp 120,.tmp 121,.tmp 122,.tmp 123,.tmp 124,.tmp 125,.tmp 126]) O O O underlying356 el302 zeroValue356 O O (by simp [Value.cells]) (r:=(Sha.rnds (Sha.sched b) s 64).list.map W32) O) O<|yh O<|yi C13 ?_
  refine yz<|vN (λk:Nat=> [(0,Ptr g),(127,.agg ((Sha.rnds (Sha.sched b) s 64).list.map W32).toArray),(128,I k)]) (λk=> [blk g ((s.adds (Sha.rnds (Sha.sched b) s 64) k).map W32) 357,F,blk g4 ((Sha.sched b).map W32) 403]) (λk=>k<=8) (λk=>8-k) 0 (jH _) (Sub.of O) (λ_ h=>h) ?_
  intro k hk I2 hI2
  refine yl λ_ C14=>yj (qAP O O O) O<|yi C14 ?_
  refine ym λ_ C15=>y1 O (λh129=>?_) (λh129=>?_)
  .
    refine yy C15 ?_
    refine ym λ_ C16=>yz<|yl λ_ C17=>yh O<|yj (qJo O O O underlying356 qCU qDg xB (by rw [Nat.mul_one,zM];exact qN8 _ k xB)) O ?_
    refine yn 2 O<|yi C17 ?_
    refine vQ [blk g ((s.adds (Sha.rnds (Sha.sched b) s 64) k).map W32) 357] [9] (.y 0 (.y 1 (.y 2 (.y 3 (.y 4 (.y 5 (.y 6 (.y 7 (.y 8 (.e 9 .nil)))))))))) ye xF xD ?_
    refine yx ?_
    refine yx ?_
    refine yo O (qAB O O) O O<|yo O (qAr (i:=k) (j:=k) O O O qGW qCU xB xB) O O<|yo O (qAD 0 O O O qDg (by rw [jO,qWA s (Sha.rnds (Sha.sched b) s 64) k xB];rfl)) O O ?_
    refine yx ?_
    refine yo O (qCG O O O) O O<|yo O (qAB O O) O O<|yo O (qAr (i:=k) (j:=k) O O O qGW qCU xB xB) O O<|vZ O (qAU (i:=0) O O O O O qCU O (by rw [jJ,qV9 s (Sha.rnds (Sha.sched b) s 64) k xB];show k+1<=_;omega)) O O O λ_ _=>vM<|vB<|yq (yu C16 ?_)
    exact yt<|yj (qAM O O O xB) O<|yh O<|y8<|yq<|vE (k+1) hI2 xB (Sub.of O) (λ_ h=>by rw [<-qV8 s (Sha.rnds (Sha.sched b) s 64) k xB];exact h)
  refine vK<|y6<|y6<|vL ?_
  have hk8:k=8:=xB
  subst hk8
  exact vo hw0 (λ_ _ h=>h) (qIj O) (qAf () O yd [0,1] (by rw [qWB,<-Sha.mix_eq];rfl) xC)
end Go.Proofs.YtmemgokiolfdoaaGreatDoor
namespace Go.Proofs.YtmemgokiolfdoaaGreatDoor
open Go Go.Fw Go.Proofs.Tryz
theorem qVR(F:Hp)(A:yS)(n c:Nat)(ls:List xA)(hl:Sl F 1 A n c (qAG ls))(htot:ls.flatten.length<=35184372088832)(hn47:n<=70368744177664):
    Cz prog 248 [.slice A n c,Str []] F (Str ls.flatten):=by
  have h:=qYj F A n c ls [] hl (by rw [qLP];exact htot) hn47
  rw [qLP] at h;exact h
theorem qEp(a b:xA):qAe (a++b)=qAe a++qAe b:=by simp [qAe]
theorem qJG(a:xA):(qAe a).all (λx=>x.all Value.oneCell')=true:=by simp [qAe,Value.oneCell']
theorem qPg(p:xA)(k N:Nat)(hN:p.length=N):((qAe (p.drop (64*k))).take (N-64*k)).drop 64=qAe (p.drop (64*(k+1))):=by
 rw [jV (by simp [qAe,hN])]
 unfold qAe
 rw [<-List.map_drop,zH,Nat.mul_add]
def Sha.outs(t:Sha.St8)(k:Nat):xA:=(t.list.take k).flatMap λx=>Sha.numB x.toUInt64 4
theorem outs_succ(t:Sha.St8): ∀k,k<8->Sha.outs t (k+1)=Sha.outs t k++Sha.numB (t.list.getD k 0).toUInt64 4
 |0,_=>rfl|1,_=>rfl|2,_=>rfl|3,_=>rfl|4,_=>rfl|5,_=>rfl|6,_=>rfl|7,_=>rfl
 |n+8,h=>by omega
attribute [local irreducible] Sha.sum Sha.pad Sha.mixes Sha.numB
theorem qZe(F:Hp)(hK:yf F)(A:yS)(n c:Nat)(ls:List xA)(hl:Sl F 1 A n c (qAG ls))(htot:ls.flatten.length<=17592186044416)(hn47:n<=70368744177664):
    Cz prog 190 [.slice A n c] F (Str (Sha.sum ls.flatten)):=by
  obtain ⟨l,hL⟩: ∃l,l=ls.flatten:=⟨_,rfl⟩
  have hJ:=qVR F A n c ls hl xB hn47
  rw [<-hL] at hJ htot⊢
  have hpad:=Sha.pad_length l
  have hpm:=Sha.pad_mod l
  obtain ⟨p,hp⟩: ∃p,p=Sha.pad l:=⟨_,rfl⟩
  rw [<-hp] at hpad hpm
  have hsum:Sha.sum l=Sha.out (Sha.mixes Sha.init p (p.length/64)):=by rw [hp];unfold Sha.sum;rfl
  have hpd:p=l++ [128]++List.replicate ((119-l.length%64)%64) 0++Sha.numB (8*UInt64.ofNat l.length) 8:=by rw [hp];unfold Sha.pad;rfl
  refine y7 func190 O ntmps190 O (λw0 hw0=>?_)
  refine yl λ_ C1=>yh O<|yi C1<|yl λ_ C2=>yh O<|yp (qAJ O O ent hJ) O λg10 _=>yp (qIr O O u9_ qBo u5_) O ?_
  rintro⟨g11,c11,m11⟩ h11
  try dsimp only at h11
  refine yh O<|yi C2<|yl λ_ C3=>yh O<|yj (qAN qBo O O) O<|yj (qBC O O u3_ qDJ xB) O<|yh O<|yi C3<|yl λ_ C4=>yh O<|yp (qAE (l:= [.const ((Value.int IntKind.u8 128))]) (xs:= [[B8 128]]) O O O O qBo el5 O xC xC xD) O λg16 _=>yp (qAV (i:=1) (m2:=blk g16 [B8 128] 5) O O O qBo qBo el5 O h11 xD (qAj (q:=True) (xs:= [[B8 128]]) O xD).sl O xB xB) O ?_
  rintro⟨A17,c17,m17⟩ h17
  try dsimp only at h17
  rw [show [[B8 128]]=qAe [128] from rfl,<-qEp] at h17
  refine vW [0,1] [F,m17] O xC<|yh O<|yi C4<|ym λ_ C5=>yz<|vN (X:=Nat×yS×Nat×Hp) (λx=> [(3,.slice x.2.1 (l.length+1+x.1) x.2.2.1),(4,W64 (UInt64.ofNat l.length))]) (λx=> [F,x.2.2.2]) (λx=>x.1<=(119-l.length%64)%64/\Row x.2.2.2 5 1 x.2.1 (l.length+1+x.1) x.2.2.1 (qAe (l++ [128]++List.replicate x.1 0))) (λx=>(119-l.length%64)%64-x.1) (0,A17,c17,m17) (⟨jH _,by simpa using h17⟩) (Sub.of O) (λ_ h=>h) ?_
  rintro⟨k,A1,c1,m⟩ ⟨hk,hrow⟩ I0 hI0
  dsimp only at hk hrow⊢
  refine ym λ_ C6=>yl λ_ C7=>yh O<|yj (qAN qBo O O) O<|yj (qDM O O O xB) O<|yj (qAQ O O O) O<|yi C7<|y1 O (λh21=>?_) (λh21=>?_)
  .
    refine yy C6<|yz<|yt<|yh O<|yp (qAE (l:= [.const ((Value.int IntKind.u8 0))]) (xs:= [[B8 0]]) O O O O qBo el5 O xC xC xD) O λg23 _=>yp (qAV (i:=1) (m2:=blk g23 [B8 0] 5) O O O qBo qBo el5 O hrow xD (qAj (q:=True) (xs:= [[B8 0]]) O xD).sl O xB xB) O ?_
    rintro⟨A24,c24,m24⟩ h24
    try dsimp only at h24
    rw [show [[B8 0]]=qAe [0] from rfl,<-qEp] at h24
    refine vW [0,1] [F,m24] O xC<|yh O<|y8<|vB<|yq<|vE (k+1,A24,c24,m24) hI0 ⟨by dsimp only;omega,by rw [List.replicate_succ',<-jM];exact h24⟩ (Sub.of O) (λ_ h=>h)
  refine vK<|y6<|y6<|vL ?_
  refine yq (yu C5 ?_)
  refine ym λ_ C8=>?_
  have hkz:k=(119-l.length%64)%64:=xB
  refine yt<|yn 2 O<|yj (qNs (a:=8) O O O) O<|yp (qBx O O (λF' _=>qHh F' _ 8 xC)) O ?_
  rintro⟨A28,c28,m28⟩ h28
  try dsimp only at h28
  refine yp (qAV (i:=1) (m2:=m28) O O O qBo qBo el5 O hrow xD h28.sl (qJG _) xB xB) O ?_
  rintro⟨A29,c29,m29⟩ h29
  try dsimp only at h29
  rw [<-qEp] at h29
  refine vW [0,1] [F,m29] O xC<|yh O<|yi C8<|ym λ_ C9=>?_
  rw [hkz,<-hpd] at h29
  rw [hkz,show l.length+1+(119-l.length%64)%64+8=p.length by omega] at*
  refine yt<|yp (qAZ O O (λF' _=>qVa F')) O λg30 _=>yp (qAO O zeroValue357 O) O λg5 _=>vG (qAF (i:=2) (vs:=Sha.init.list.map W32) O O O O O sizeOf357 (qYK _) (by rfl)) O O λ_ _=>yi C9<|ym λ_ C10=>yz<|vN (X:=Nat×yS×Nat) (λx=> [(3,.slice x.2.1 (p.length-64*x.1) x.2.2),(5,Ptr g5)]) (λx=> [F,m29,blk g5 ((Sha.mixes Sha.init p x.1).list.map W32) 357]) (λx=>64*x.1<=p.length/\Sl m29 1 x.2.1 (p.length-64*x.1) x.2.2 (qAe (p.drop (64*x.1)))) (λx=>p.length-64*x.1) (0,A29,c29) (⟨jH _,h29.sl⟩) (Sub.of O) (λ_ h=>by unfold Sha.mixes;exact h) ?_
  rintro⟨k,A2,c2⟩ ⟨hk,hsl⟩ I2 hI2
  dsimp only at hk hsl⊢
  refine ym λ_ C11=>yl λ_ C12=>yh O<|yj (qAN qBo O O) O<|yj (qAs O O O) O<|yi C12<|y1 O (λh33=>?_) (λh33=>?_)
  .
    refine yy C11<|ym λ_ C13=>yz ?_
    have hN:64<=p.length-64*k:=xB
    have hc2:=hsl.2.1
    refine yt<|yh O<|yp (qAJ O O ent (vR 2 O (λF' hF=>qZ5 F' (hK.mono (Fa hF)) g5 _ A2 (p.length-64*k) c2 (p.drop (64*k)) (hsl.mono (Fa hF)) xB))) O λg37 _=>y8<|vB<|yq (yu C13 ?_)
    refine yt<|yh O<|yj (qCi (l:=64) (h:=p.length-64*k) O O qBo z5_ O O xB) O<|yh O<|y8<|yq ?_
    have hcut:=hsl.cut (lo:=64) (hi:=p.length-64*k) (mx:=c2) hN (jL _) hsl.2.1
    rw [qPg p k _ rfl] at hcut
    have hNN:p.length-64*k-64=p.length-64*(k+1):=xB
    refine vE (k+1,_,c2-64) hI2 ⟨by dsimp only;omega,by rw [<-hNN];exact hcut⟩ ⟨by rw [<-hNN];rfl,O,yd⟩ (λ_ h=>by unfold Sha.mixes;exact h)
  refine vK<|y6<|y6<|vL ?_
  refine yq (yu C10 ?_)
  refine ym λ_ C14=>?_
  have hk64:k=p.length/64:=xB
  rw [<-hk64] at hsum
  generalize Sha.mixes Sha.init p k=t at hsum⊢
  refine yt<|yh O<|yi C14<|ym λ_ C15=>yl λ_ C16=>vT 2 isAgg357 sizeOf357 O O O O O<|ve [0,3] [F,(λ_=>none)] O xC<|yh O<|yi C16<|yz<|vN (X:=Nat×yS×Nat×Hp) (λx=> [(6,.slice x.2.1 (4*x.1) x.2.2.1),(38,.agg (t.list.map W32).toArray),(39,I x.1)]) (λx=> [F,x.2.2.2]) (λx=>x.1<=8/\Row x.2.2.2 5 1 x.2.1 (4*x.1) x.2.2.1 (qAe (Sha.outs t x.1))) (λx=>8-x.1) (0,none,0,λ_=>none) (⟨jH _,qBf.nil⟩) (Sub.of O) (λ_ h=>h) ?_
  rintro⟨k,A3,c3,m⟩ ⟨hk,hrow⟩ I4 hI4
  dsimp only at hk hrow⊢
  refine yl λ_ C17=>yj (qAP O O O) O<|yi C17<|ym λ_ C18=>y1 O (λh40=>?_) (λh40=>?_)
  .
    refine yy C18<|ym λ_ C19=>yz<|yl λ_ C20=>yj (qJo O O O qGW qCU qDg xB (by rw [Nat.mul_one,zM];exact qN8 _ k xB)) O ?_
    refine yh O<|yi C20<|yt<|yn 2 O<|yj (qJs O O qKe qDJ) O<|yp (qBx O O (λF' _=>qHh F' _ 4 xC)) O ?_
    rintro⟨A45,c45,m45⟩ h45
    try dsimp only at h45
    refine yp (qAV (i:=1) (m2:=m45) O O O qBo qBo el5 O hrow xD h45.sl (qJG _) xB xB) O ?_
    rintro⟨A46,c46,m46⟩ h46
    try dsimp only at h46
    rw [<-qEp,<-outs_succ t k xB] at h46
    refine vW [0,1] [F,m46] O xC<|yh O<|y8<|vB<|yq (yu C19 ?_)
    refine yt<|yj (qAM O O O xB) O<|yh O<|y8<|yq<|vE (k+1,A46,c46,m46) hI4 ⟨by dsimp only;omega,h46⟩ (Sub.of O) (λ_ h=>h)
  refine vK<|y6<|y6<|vL ?_
  refine yq (yu C15 ?_)
  refine ym λ_ C21=>?_
  have hk8:k=8:=xB
  subst hk8
  exact yt<|yh O<|yj (qBO O O qBo u5_ u9_ (m:=m) xD hrow.sl) O<|yh O<|yi C21<|yr<|yw hw0 O () (by rw [hsum];rfl) yd [0] O xC
namespace Sha
def tagParts(tag:UInt8)(ls:List xA)(k:Nat):List xA:= [[tag]]++(ls.take k).flatMap λs=> [numB (UInt64.ofNat s.length) 4,s]
def tagB(tag:UInt8)(ls:List xA):xA:= [tag]++ls.flatMap λs=>numB (UInt64.ofNat s.length) 4++s
def tagged(tag:UInt8)(ls:List xA):xA:=(sum (tagB tag ls)).take 16
theorem tagParts_succ(tag:UInt8)(ls:List xA)(k:Nat){s:xA}(h:ls[k]?=some s):tagParts tag ls (k+1)=tagParts tag ls k++ [numB (UInt64.ofNat s.length) 4,s]:=by
 obtain ⟨hk,rfl⟩:=List.getElem?_eq_some_iff.1 h
 unfold tagParts
 rw [jP hk,List.flatMap_append,<-jM]
 simp
theorem tagParts_flat(tag:UInt8)(ls:List xA):(tagParts tag ls ls.length).flatten=tagB tag ls:=by
 unfold tagParts tagB
 rw [jn,zA]
 congr 1
 induction ls with
 |nil=>rfl
 |cons a l ih=>rw [List.flatMap_cons,List.flatMap_cons,zA,ih];simp
theorem tagB_length(tag:UInt8)(ls:List xA):(tagB tag ls).length=1+4*ls.length+ls.flatten.length:=by
 unfold tagB
 rw [jA]
 induction ls with
 |nil=>rfl
 |cons a l ih=>simp only [List.flatMap_cons,jA,numB_length,jC,jo,jG] at ih⊢;omega
theorem tagged_length(tag:UInt8)(ls:List xA):(tagged tag ls).length=16:=by rw [tagged,jF,sum_length];rfl
def hi(b:UInt8):UInt8:=UInt8.ofNat (b.toNat/2^min 4 8)
end Sha
theorem qB0(a b:List xA):qAG (a++b)=qAG a++qAG b:=by simp [qAG]
theorem qN9{ls:List xA}{k:Nat}{s:xA}(h:ls[k]?=some s):s.length<=ls.flatten.length:=by
 have:s∈ls:=jR h
 induction ls generalizing k with
 |nil=>cases this
 |cons a l ih=>
  cases k with
  |zero=>simp at h;subst h;simp
  |succ k=>simp only [jo,jA];simp only [List.getElem?_cons_succ] at h;have:=ih h (jR h);omega
attribute [local irreducible] Sha.tagParts Sha.tagB
theorem qBI(F:Hp)(hK:yf F)(tag:UInt8)(A:yS)(n c:Nat)(ls:List xA)(hl:Sl F 1 A n c (qAG ls))(htot:ls.flatten.length<=8796093022208)(hn:n<=1099511627776):
    Cz prog 106 [B8 tag,.slice A n c] F (Str (Sha.tagged tag ls)):=by
  have hlen:ls.length=n:=by have:=hl.1;simpa [qAG] using this
  have htl:=Sha.tagB_length tag ls
  have hfl:=Sha.tagParts_flat tag ls
  rw [hlen] at hfl htl
  refine y7 func106 O ntmps106 O (λw0 hw0=>?_)
  refine yl λ_ C1=>yh O<|yi C1<|yl λ_ C2=>yh O<|yp (qAE (l:= [.tmp 8]) (xs:= [[B8 tag]]) O O O O qBo el5 O xC xC xD) O λg9 _=>yj (qBO (l:= [tag]) O O qBo u5_ u9_ (m:=blk g9 [B8 tag] 5) xD (qAj (q:=True) (xs:= [[B8 tag]]) O xD).sl) O<|yp (qAE (l:= [.tmp 10]) (xs:= [[Str [tag]]]) O O O O qAg el9 O xC xC xD) O λg11 _=>vW [0,2] [F,blk g11 [Str [tag]] 9] O xC<|yh O<|yi C2<|ym λ_ C3=>yl λ_ C4=>yh O<|yj (qAN qAg O O) O<|yh O<|yi C4<|yz<|vN (X:=Nat×yS×Nat×Hp) (λx=> [(5,.slice x.2.1 (2*x.1+1) x.2.2.1),(12,.slice A n c),(13,I n),(14,I x.1)]) (λx=> [F,x.2.2.2]) (λx=>x.1<=n/\Row x.2.2.2 9 1 x.2.1 (2*x.1+1) x.2.2.1 (qAG (Sha.tagParts tag ls x.1))) (λx=>n-x.1) (0,some ⟨g11,0,none⟩,1,blk g11 [Str [tag]] 9) (⟨jH _,by unfold Sha.tagParts;exact qAj (xs:=qAG [[tag]]) O (by simp [qAG])⟩) (Sub.of O) (λ_ h=>h) ?_
  rintro⟨k,A1,c1,m⟩ ⟨hk,hrow⟩ I0 hI0
  dsimp only at hk hrow⊢
  refine yl λ_ C5=>yj (qAP O O O) O<|yi C5<|ym λ_ C6=>y1 O (λh15=>?_) (λh15=>?_)
  .
    refine yy C6<|ym λ_ C7=>yz<|ym λ_ C8=>?_
    have hkn:k<n:=xB
    obtain ⟨s,hs⟩: ∃s,ls[k]?=some s:=⟨_,jD xB⟩
    have hsl:=qN9 hs
    refine yt<|yj (qAC O O O qAg z9_ hl xB) O<|yj (qAH O O b9_ xD (hl.elem (qAa hs))) O<|yh O<|yi C8<|yt<|yn 2 O<|yj (qAn u9_ O O) O<|yj (qBC O O u3_ qDJ xB) O<|yp (qBx O O (λF' _=>qHh F' _ 4 xC)) O ?_
    rintro⟨A22,c22,m22⟩ h22
    try dsimp only at h22
    refine yj (qBO O O qBo u5_ u9_ (m:=m22) xD h22.sl) O<|yh O<|yp (qAE (l:= [.tmp 23,.tmp 24]) (xs:= [[Str (Sha.numB (UInt64.ofNat s.length) 4)],[Str s]]) O O O O qAg el9 O xC xC xD) O λg25 _=>yp (qAV (i:=1) (m2:=blk g25 [Str (Sha.numB (UInt64.ofNat s.length) 4),Str s] 9) O O O qAg qAg el9 O hrow xD (qAj (q:=True) (xs:=qAG [(Sha.numB (UInt64.ofNat s.length) 4),s]) O (by simp [qAG])).sl (by simp [qAG,Value.oneCell']) xB xB) O ?_
    rintro⟨A26,c26,m26⟩ h26
    try dsimp only at h26
    rw [<-qB0,<-Sha.tagParts_succ tag ls k hs] at h26
    refine vW [0,1] [F,m26] O xC<|yh O<|y8<|vB<|yq (yu C7 ?_)
    refine yt<|yj (qAM O O O xB) O<|yh O<|y8<|yq<|vE (k+1,A26,c26,m26) hI0 ⟨by dsimp only;omega,h26⟩ (Sub.of O) (λ_ h=>h)
  refine vK<|y6<|y6<|vL ?_
  refine yq (yu C3 ?_)
  refine ym λ_ C9=>?_
  have hkn:n=k:=xB
  subst hkn
  exact yt<|yh O<|yp (qAZ O O (λF' hF=>qZe F' (hK.mono (Fa hF)) A1 (2*n+1) c1 (Sha.tagParts tag ls n) (hrow.sl.mono (Fa hF)) (by rw [hfl];omega) xB)) O λg29 _=>yj (qA0 (l:=0) (h:=16) u9_ O O O O (by rw [Sha.sum_length];omega)) O<|yh O<|yi C9<|yr<|yw hw0 O () (by rw [hfl];rfl) yd [0] O xC
end Go.Proofs.YtmemgokiolfdoaaGreatDoor
namespace Go.Proofs.YtmemgokiolfdoaaGreatDoor
open Go Go.Fw Go.Proofs.Tryz
theorem el49:qCx prog 49 [.int .u64 0] 8:=qCx.of xH O
abbrev NW(x:UInt32):Value:=N64 x.toNat
def qCZ(l:yT):List yU:=l.map λx=> [N64 x]
theorem qC3{l:yT}{k:Nat}(h:k<l.length):(qCZ l)[k]?=some [N64 (l.getD k 0)]:=by
 unfold qCZ;rw [jO,jD h,jB,jD h];rfl
theorem qPK(l:yT):(qCZ l).flatten=l.map N64:=qBW _ _
theorem qHg(l:yT):(qCZ l).length=l.length:=by simp [qCZ]
theorem qRg(a b:yT):qCZ (a++b)=qCZ a++qCZ b:=by simp [qCZ]
theorem qLC(a:yT):(qCZ a).all (λx=>x.all Value.oneCell')=true:=by simp [qCZ,Value.oneCell']
theorem qDs{q:Prop}{e g:Nat}(l:yT){n:Nat}(hn:l.length=n):qBf q (blk g (l.map N64) e) e 1 (some ⟨g,0,none⟩) n n (qCZ l):=by
 rw [<-qPK];exact qAj (by rw [qHg,hn]) (by simp [qCZ])
theorem qB2(F:Hp)(X:UInt32)(n:Nat)(h1:1<=n)(h2:n<32):
    Cz prog 268 [NW X,N64 n] F (NW (Sha.rotr X n)):=by
  refine y7 func268 O ntmps268 O (λw0 hw0=>?_)
  refine yl λ_ C1=>yh O<|yi C1<|yl λ_ C2=>yh O<|yi C2<|ym λ_ C3=>yl λ_ C4=>yh O<|yi C4<|yz<|vN (λk:Nat=> [(0,NW X),(1,N64 n),(5,N64 (2^k)),(6,N64 k)]) (λ_=> [F]) (λk=>k<=n) (λk=>n-k) 0 (jH _) (Sub.of O) (λ_ h=>h) ?_
  intro k hk I0 hI0
  have hk2:2^k<=2147483648:=jZ xC (show k<=31 by omega)
  refine ym λ_ C5=>yl λ_ C6=>yn 2 O<|yj (qAP O O O) O<|yi C6<|y1 O (λh9=>?_) (λh9=>?_)
  .
    refine yy C5<|ym λ_ C7=>yz<|yt<|yh O<|yj ((qCc (b:=2) O O O xB).as (v':=N64 (2^(k+1))) (yY N64 (ju 2 k).symm)) O<|yh O<|y8<|vB<|yq (yu C7 ?_)
    exact yt<|yh O<|yj ((qBD (b:=1) O O O xB).n64 (k+1) xB) O<|yh O<|y8<|yq<|vE (k+1) hI0 xB (Sub.of O) (λ_ h=>h)
  refine vK<|y6<|y6<|vL ?_
  refine yq (yu C3 ?_)
  refine ym λ_ C8=>?_
  have hkn:n=k:=xB
  subst hkn
  have e:=R3.rotr_nat X n h1 h2
  have e2:=(Sha.rotr X n).toNat_lt
  have e3:=X.toNat_lt
  have e4:=Nat.mod_le X.toNat (2^n)
  have e5:=jv 4294967296 (2^n)
  have e6:=jv X.toNat (2^n)
  have e7:=jy n
  have b2:X.toNat/2^n+X.toNat%2^n*(4294967296/2^n)<18446744073709551616:=by rw [<-e];omega
  have b1:=jx (Nat.le_add_left (X.toNat%2^n*(4294967296/2^n)) (X.toNat/2^n)) b2
  refine vQ [F] [] (.y 0 (.y 1 (.y 2 (.y 3 (.y 4 (.y 5 (.y 6 (.y 7 (.y 8 (.y 9 (.y 10 .nil))))))))))) ye xF xD ?_
  refine yx ?_
  refine yx ?_
  refine yo O (qC2 O O O xB) O O<|yx ?_
  refine yx ?_
  refine yo O (qB8 O O O xB) O O<|yx ?_
  refine yo O (qC2 (a:=4294967296) O O O xB) O O<|yo O (qCc O O O ⟨xB,xB,b1⟩) O O<|yo O ((qBD O O O b2).as (v':=NW (Sha.rotr X n)) (yY N64 e.symm)) O O<|vU ?_
  refine vM<|yq (yu C8 ?_)
  exact yr<|yw hw0 O () O yd [0] O xC
theorem qCO(F:Hp)(a n:Nat)(ha:a<18446744073709551616)(hn:n<=64):
    Cz prog 266 [N64 a,I n] F (N64 (a/2^n)):=by
  refine y7 func266 O ntmps266 O (λw0 hw0=>?_)
  refine yl λ_ C1=>yh O<|yi C1<|ym λ_ C2=>yl λ_ C3=>yh O<|yi C3<|yz<|vN (λk:Nat=> [(0,N64 (a/2^k)),(1,I n),(5,I k)]) (λ_=> [F]) (λk=>k<=n) (λk=>n-k) 0 (jH _) ⟨by rw [Nat.pow_zero,Nat.div_one];rfl,O,O,yd⟩ (λ_ h=>h) ?_
  intro k hk I0 hI0
  have hd:=jv a (2^k)
  refine ym λ_ C4=>yl λ_ C5=>yn 2 O<|yj (qAP O O O) O<|yi C5<|y1 O (λh8=>?_) (λh8=>?_)
  .
    refine yy C4<|ym λ_ C6=>yz<|yt<|yh O<|yj ((qC2 (b:=2) O O O xB).as (v':=N64 (a/2^(k+1))) (yY N64 (by rw [ju,zQ]))) O<|yh O<|y8<|vB<|yq (yu C6 ?_)
    exact yt<|yh O<|yj ((qAM O O O xB).nat (k+1) xB) O<|yh O<|y8<|yq<|vE (k+1) hI0 xB (Sub.of O) (λ_ h=>h)
  refine vK<|y6<|y6<|vL ?_
  refine yq (yu C2 ?_)
  refine ym λ_ C7=>?_
  have hkn:n=k:=xB
  subst hkn
  exact yt<|yn 2 O<|yi C7<|yr<|yw hw0 O () O yd [0] O xC
theorem qYp(F:Hp)(n:Nat)(hn:n<9223372036854775808):
    Cz prog 217 [I n] F (Str (Sha.numB (UInt64.ofNat n) 4)):=by
  have e:=R3.four_nat n xB
  have d1:=jv n (2^24)
  have d2:=jv n (2^16)
  have d3:=jv n (2^8)
  refine y7 func217 O ntmps217 O (λw0 hw0=>?_)
  exact yl λ_ C1=>yh O<|yi C1<|yl λ_ C2=>yh O<|yj (qBj O O u3_ qDJ xB) O<|yp (qAJ O O ent (qCO F n 24 xB xC)) O λg5 _=>yj (qCu O O qDJ u5_ xB) O<|yh O<|yj (qBj O O u3_ qDJ xB) O<|yp (qAJ O O ent (qCO F n 16 xB xC)) O λg9 _=>yj (qCu O O qDJ u5_ xB) O<|yh O<|yj (qBj O O u3_ qDJ xB) O<|yp (qAJ O O ent (qCO F n 8 xB xC)) O λg13 _=>yj (qCu O O qDJ u5_ xB) O<|yh O<|yj (qAu O O u3_ u5_) O<|yp (qAE (l:= [.tmp 6,.tmp 10,.tmp 14,.tmp 16]) (xs:= [[B8 (UInt8.ofNat (n/2^24))],[B8 (UInt8.ofNat (n/2^16))],[B8 (UInt8.ofNat (n/2^8))],[B8 (UInt8.ofNat n)]]) O O O O qBo el5 O xC xC xD) O λg17 _=>yj (qBO (l:= [(UInt8.ofNat (n/2^24)),(UInt8.ofNat (n/2^16)),(UInt8.ofNat (n/2^8)),(UInt8.ofNat n)]) O O qBo u5_ u9_ (m:=blk g17 [B8 (UInt8.ofNat (n/2^24)),B8 (UInt8.ofNat (n/2^16)),B8 (UInt8.ofNat (n/2^8)),B8 (UInt8.ofNat n)] 5) xD (qAj (q:=True) (xs:= [[B8 (UInt8.ofNat (n/2^24))],[B8 (UInt8.ofNat (n/2^16))],[B8 (UInt8.ofNat (n/2^8))],[B8 (UInt8.ofNat n)]]) O xD).sl) O<|yh O<|yi C2<|yr<|yw hw0 O () (by rw [e]) yd [0] O xC
theorem qF7(F:Hp)(A:yS)(n c:Nat)(a:yT)(ha:Sl F 1 A n c (qCZ a))(B:yS)(n2 c2:Nat)(b:yT)(hb:Sl F 1 B n2 c2 (qCZ b))
    (hda: ∀j,a.getD j 0<65536) (hdb: ∀j,b.getD j 0<65536) (hn:n<=100) (hn2:n2<=100):
    Ct prog 320 [.slice A n c,.slice B n2 c2] [F] (λg:Nat=> .slice (some ⟨g,0,none⟩) (n+n2) (n+n2)) (λ_=>True) (λg=> [F,blk g ((R3.times a b).map N64) 49]):=by
  have hla:a.length=n:=by have:=ha.1;rwa [qHg] at this
  have hlb:b.length=n2:=by have:=hb.1;rwa [qHg] at this
  refine y7 func320 O ntmps320 O (λw0 hw0=>?_)
  refine yl λ_ C1=>yh O<|yi C1<|yl λ_ C2=>yh O<|yj (qAN qA8 O O) O<|yh O<|yj (qAN qA8 O O) O<|yj ((qAM O O O xB).nat (n+n2) xB) O<|yp (qCY O O qA8 el49 xB xB) O λg15 _=>?_
  change J _ _ _ [F,blk g15 (List.replicate (n+n2) [N64 0]).flatten 49] _
  refine yh O<|yi C2<|ym λ_ C3=>yl λ_ C4=>yh O<|yi C4<|yz<|vN (λi:Nat=> [(0,.slice A n c),(1,.slice B n2 c2),(5,.slice (some ⟨g15,0,none⟩) (n+n2) (n+n2)),(6,I i)]) (λi=> [F,blk g15 ((R3.rows a b i).map N64) 49]) (λi=>i<=n) (λi=>n-i) 0 (jH _) (Sub.of O) (λ_ h=>by rw [qNf,<-qQt N64] at h;rw [R3.rows,hla,hlb];exact h) ?_
  intro i hi I0 hI0
  have hro:=R3.rows_ok a b hda hdb i xB
  have hll:=hro.len
  refine ym λ_ C5=>yl λ_ C6=>yn 2 O<|yj (qAN qA8 O O) O<|yj (qAP O O O) O<|yi C6<|y1 O (λh19=>?_) (λh19=>?_)
  .
    refine yy C5<|ym λ_ C7=>yz<|yl λ_ C8=>yh O<|yi C8<|ym λ_ C9=>yl λ_ C10=>yh O<|yi C10<|yz<|vN (λk:Nat=> [(0,.slice A n c),(1,.slice B n2 c2),(5,.slice (some ⟨g15,0,none⟩) (n+n2) (n+n2)),(6,I i),(7,N64 (R3.row (a.getD i 0) b i (R3.rows a b i) k).2),(8,I k)]) (λk=> [F,blk g15 ((R3.row (a.getD i 0) b i (R3.rows a b i) k).1.map N64) 49]) (λk=>k<=n2) (λk=>n2-k) 0 (jH _) (Sub.of O) (λ_ h=>h) ?_
    intro k hk I2 hI2
    have hrd:=R3.row_ok (a.getD i 0) b i (R3.rows a b i) (hda i) hdb hro.dig xB k xB
    have hrl:=hrd.len
    refine ym λ_ C11=>yl λ_ C12=>yn 2 O<|yj (qAN qA8 O O) O<|yj (qAP O O O) O<|yi C12<|y1 O (λh25=>?_) (λh25=>?_)
    .
      refine yy C11<|ym λ_ C13=>yz<|ym λ_ C14=>?_
      have hai:=hda i
      have hbk:=hdb k
      have hpr:a.getD i 0*b.getD k 0<=65535*65535:=Nat.mul_le_mul xB xB
      have hdo:=hrd.dig (i+k)
      have hdc:=hrd.car
      refine vQ [F,blk g15 ((R3.row (a.getD i 0) b i (R3.rows a b i) k).1.map N64) 49] [] (.y 0 (.y 1 (.y 2 (.y 3 (.y 4 (.y 5 (.y 6 (.y 7 (.y 8 (.y 9 (.y 10 (.y 11 (.y 12 (.y 13 (.y 14 (.y 15 (.y 16 (.y 17 (.y 18 .nil))))))))))))))))))) ye xF xD ?_
      iterate 3 refine yx ?_
      refine yo O ((qAM O O O xB).nat (i+k) xB) O O<|yo O (qAY (i:=i+k) (j:=i+k) O O O qA8 qBV xB xB) O O<|yo O (qAD 1 O O O qBe (qC6 0 xB)) O O<|yx ?_
      refine yx ?_
      refine yo O (qAC O O O qA8 qBV ha xB) O O<|yo O (qAH O O qBe (m:=F) xD (ha.elem (qC3 (k:=i) xB))) O O<|yx ?_
      refine yx ?_
      refine yo O (qAC O O O qA8 qBV hb xB) O O<|yo O (qAH O O qBe (m:=F) xD (hb.elem (qC3 (k:=k) xB))) O O<|yo O (qCc O O O xB) O O<|yo O (qBD O O O xB) O O<|yx ?_
      refine yo O (qBD O O O xB) O O<|vU ?_
      refine vM<|yq (yu C14 ?_)
      refine yl λ_ C15=>yn 3 O<|yj ((qAM O O O xB).nat (i+k) xB) O<|yh O<|yj (qB8 (b:=65536) O O O xB) O<|yj (qAY (i:=i+k) (j:=i+k) O O O qA8 qBV xB xB) O<|vG (qAU (i:=1) O O O O O qBV O (by rw [jJ];show i+k+1<=_;omega)) O O λ_ _=>yi C15<|yt<|yh O<|yj (qC2 (b:=65536) O O O xB) O<|yh O<|y8<|vB<|yq (yu C13 ?_)
      exact yt<|yh O<|yj ((qAM O O O xB).nat (k+1) xB) O<|yh O<|y8<|yq<|vE (k+1) hI2 xB (Sub.of O) (λ_ h=>by rw [qFK N64 _ _ _ xB] at h;exact h)
    refine vK<|y6<|y6<|vL ?_
    refine yq (yu C9 ?_)
    have hkn:n2=k:=xB
    subst hkn
    have hdo:=hrd.dig (i+n2)
    have hdc:=hrd.car
    refine yt<|yn 3 O<|yj (qAN qA8 O O) O<|yj ((qAM O O O xB).nat (i+n2) xB) O<|yj (qAY (i:=i+n2) (j:=i+n2) O O O qA8 qBV xB xB) O<|yj (qAD 1 O O O qBe (qC6 0 xB)) O<|yh O<|yj (qBD O O O xB) O<|yj (qAY (i:=i+n2) (j:=i+n2) O O O qA8 qBV xB xB) O<|vG (qAU (i:=1) O O O O O qBV O (by rw [jJ];show i+n2+1<=_;omega)) O O λ_ _=>y8<|vB<|yq (yu C7 ?_)
    exact yt<|yh O<|yj ((qAM O O O xB).nat (i+1) xB) O<|yh O<|y8<|yq<|vE (i+1) hI0 xB (Sub.of O) (λ_ h=>by rw [qFK N64 _ _ _ xB] at h;rw [R3.rows,hlb];exact h)
  refine vK<|y6<|y6<|vL ?_
  refine yq (yu C3 ?_)
  refine ym λ_ C16=>?_
  have hin:n=i:=xB
  subst hin
  exact yt<|yn 2 O<|yi C16<|yr<|yw hw0 O g15 O yd [0,1] (by rw [<-hla];rfl) xC
theorem qM8(F:Hp)(y p:Nat)(hy:y<281474976710656):
    Cz prog 302 [N64 y,N64 p,.bool false] F (.bool (R3.above y p false)):=by
  have hpd:=R3.pieces_dig y hy
  obtain ⟨hl2,_,hd2⟩:=R3.times_val _ _ hpd hpd
  obtain ⟨hpl,_,hpw⟩:=R3.power_ok y false hy
  have hpl:(R3.power y false).length=6:=hpl
  have hpo:=R3.parts_ok (R3.power y false) 4 xB
  have hab:R3.above y p false=(decide (p<(R3.parts (R3.power y false) 4 6).1)||(decide ((R3.parts (R3.power y false) 4 6).1=p)&&(R3.parts (R3.power y false) 4 6).2)):=by unfold R3.above;dsimp only;rw [hpl];rfl
  refine y7 func302 O ntmps302 O (λw0 hw0=>?_)
  refine yl λ_ C1=>yh O<|yi C1<|yl λ_ C2=>yh O<|yj (qB8 (b:=65536) O O O xB) O<|yh O<|yj (qC2 (b:=65536) O O O xB) O<|yj (qB8 (b:=65536) O O O xB) O<|yh O<|yj (qC2 (b:=4294967296) O O O xB) O<|yp (qAE (l:= [.tmp 14,.tmp 17,.tmp 19]) (xs:= [[N64 (y%65536)],[N64 (y/65536%65536)],[N64 (y/4294967296)]]) O O O O qA8 el49 O xC xC xD) O λg20 _=>?_
  change J _ _ _ [F,blk g20 ((R3.pieces y).map N64) 49] _
  refine yh O<|yi C2<|yl λ_ C3=>yn 2 O<|yp (qBx O O (λF' hF=>qF7 F' (some ⟨g20,0,none⟩) 3 3 (R3.pieces y) (((qDs (q:=True) (g:=g20) (e:=49) (R3.pieces y) (n:=3) O).sl (m:=blk g20 ((R3.pieces y).map N64) 49)).mono (Fa hF)) (some ⟨g20,0,none⟩) 3 3 (R3.pieces y) (((qDs (q:=True) (g:=g20) (e:=49) (R3.pieces y) (n:=3) O).sl (m:=blk g20 ((R3.pieces y).map N64) 49)).mono (Fa hF)) hpd hpd xC xC)) O λg23 _=>yh O<|yi C3<|yl λ_ C4=>yh O<|yi C4<|ym λ_ C5=>yl λ_ C6=>yh O<|yi C6<|vC ?_
  refine yy C5<|ym λ_ C7=>vW [0,2] [F,blk g23 ((R3.power y false).map N64) 49] O xC<|yt<|yn 2 O<|yi C7<|ym λ_ C8=>yl λ_ C9=>yh O<|yj (qAN qA8 O O) O<|yj ((qAm O O O xB).as (v':=I ((6:Int)-((0:Nat):Int)-1)) O) O<|yh O<|yi C9<|yz<|vN (λj:Nat=> [(1,N64 p),(8,.slice (some ⟨g23,0,none⟩) 6 6),(9,I 4),(10,N64 (R3.parts (R3.power y false) 4 j).1),(11,.bool (R3.parts (R3.power y false) 4 j).2),(12,I ((6:Int)-(j:Int)-1))]) (λ_=> [F,blk g23 ((R3.power y false).map N64) 49]) (λj=>j<=6) (λj=>6-j) 0 (jH _) (Sub.of O) (λ_ h=>h) ?_
  intro j hj I0 hI0
  have hsp:R3.parts (R3.power y false) 4 (j+1)=if 4<=6-1-j then((R3.parts (R3.power y false) 4 j).1*65536+(R3.power y false).getD (6-1-j) 0,(R3.parts (R3.power y false) 4 j).2) else((R3.parts (R3.power y false) 4 j).1,if 0<(R3.power y false).getD (6-1-j) 0 then true else(R3.parts (R3.power y false) 4 j).2):=by rw [R3.parts,hpl]
  refine ym λ_ C10=>yl λ_ C11=>yh O<|yj (qA1 O O O) O<|yi C11<|y1 O (λh32=>?_) (λh32=>?_)
  .
    refine yy C10<|ym λ_ C12=>yz<|yl λ_ C13=>yn 2 O<|yj (qA1 O O O) O<|yi C13<|y1 O (λh37=>?_) (λh37=>?_)
    .
      have hj6:j<2:=xB
      have hb:=hpo j xB
      have hvb:(R3.parts (R3.power y false) 4 j).1<4294967296:=by
        rw [hb]
        refine j8 (R3.val_lt _ (λi=>by rw [jB,js,<-jB];exact hpw _)) ?_
        rw [jE,hpl]
        exact jZ xC (show _<=2 by omega)
      have hmj:=hpw (6-1-j)
      refine yt<|yh O<|yj (qCc (b:=65536) O O O xB) O<|yh O<|yj ((qAT O O).nat (6-1-j) xB) O<|yj (qAY (i:=6-1-j) (j:=6-1-j) O O O qA8 qBV xB xB) O<|yj (qAD 1 O O O qBe (qC6 0 xB)) O<|yj (qBD O O O xB) O<|yh O<|y8<|vB<|yq (yu C12 ?_)
      refine yt<|yh O<|yj ((qAm O O O xB).as (v':=I ((6:Int)-((j+1:Nat):Int)-1)) (yY I xB)) O<|yh O<|y8<|yq ?_
      rw [yX xB] at hsp
      exact vE (j+1) hI0 xB ⟨O,O,O,by rw [hsp];rfl,by rw [hsp];rfl,O,yd⟩ (λ_ h=>h)
    refine yl λ_ C14=>yh O<|yj ((qAT O O).nat (6-1-j) xB) O<|yj (qAY (i:=6-1-j) (j:=6-1-j) O O O qA8 qBV xB xB) O<|yj (qAD 1 O O O qBe (qC6 0 xB)) O<|yj (qAs O O O) O<|yi C14<|y1 O (λh49=>?_) (λh49=>?_)
    .
      refine yt<|yh O<|y8<|vB<|yq (yu C12 ?_)
      refine yt<|yh O<|yj ((qAm O O O xB).as (v':=I ((6:Int)-((j+1:Nat):Int)-1)) (yY I xB)) O<|yh O<|y8<|yq ?_
      rw [yW xB,yX xB] at hsp
      exact vE (j+1) hI0 xB ⟨O,O,O,by rw [hsp];rfl,by rw [hsp];rfl,O,yd⟩ (λ_ h=>h)
    refine vP<|vB<|yq (yu C12 ?_)
    refine yt<|yh O<|yj ((qAm O O O xB).as (v':=I ((6:Int)-((j+1:Nat):Int)-1)) (yY I xB)) O<|yh O<|y8<|yq ?_
    rw [yW xB,yW xB] at hsp
    exact vE (j+1) hI0 xB ⟨O,O,O,by rw [hsp];rfl,by rw [hsp];rfl,O,yd⟩ (λ_ h=>h)
  refine vK<|y6<|y6<|vL ?_
  refine yq (yu C8 ?_)
  refine ym λ_ C15=>?_
  have hjL:j=6:=xB
  subst hjL
  refine yt<|yn 2 O<|yj (qAs O O O) O<|yh O<|vO (d:=53) O (λh53=>?_) (λh53=>?_)
  .
    refine yn 4 O<|vX (Wan.un O O O O) O O ?_
    exact yn 3 O<|yi C15<|yr<|yw hw0 O () (by rw [hab,ya (show p<(R3.parts (R3.power y false) 4 6).1 by omega)];rfl) yd [0] O xC
  refine yn 2 O<|yv (qAR O O O) O<|yh O<|vO (d:=57) O (λh57=>?_) (λh57=>?_)
  .
    exact yv ((qAT O O).as (v':= .bool (R3.parts (R3.power y false) 4 6).2) O) O<|yn 3 O<|yi C15<|yr<|yw hw0 O () (by rw [hab,yb (show¬p<(R3.parts (R3.power y false) 4 6).1 by omega),ya (show(R3.parts (R3.power y false) 4 6).1=p by omega)];simp) yd [0] O xC
  exact yn 4 O<|yi C15<|yr<|yw hw0 O () (by rw [hab,yb (show¬p<(R3.parts (R3.power y false) 4 6).1 by omega),yb (show¬(R3.parts (R3.power y false) 4 6).1=p by omega)];rfl) yd [0] O xC
theorem qPq(F:Hp)(y p:Nat)(hy:y<281474976710656):
    Cz prog 302 [N64 y,N64 p,.bool true] F (.bool (R3.above y p true)):=by
  have hpd:=R3.pieces_dig y hy
  obtain ⟨hl2,_,hd2⟩:=R3.times_val _ _ hpd hpd
  obtain ⟨hpl,_,hpw⟩:=R3.power_ok y true hy
  have hpl:(R3.power y true).length=9:=hpl
  have hpo:=R3.parts_ok (R3.power y true) 6 xB
  have hab:R3.above y p true=(decide (p<(R3.parts (R3.power y true) 6 9).1)||(decide ((R3.parts (R3.power y true) 6 9).1=p)&&(R3.parts (R3.power y true) 6 9).2)):=by unfold R3.above;dsimp only;rw [hpl];rfl
  refine y7 func302 O ntmps302 O (λw0 hw0=>?_)
  change J _ [(0,_),(1,_),(2,_)] _ _ _
  refine yl λ_ C1=>yh O<|yi C1<|yl λ_ C2=>yh O<|yj (qB8 (b:=65536) O O O xB) O<|yh O<|yj (qC2 (b:=65536) O O O xB) O<|yj (qB8 (b:=65536) O O O xB) O<|yh O<|yj (qC2 (b:=4294967296) O O O xB) O<|yp (qAE (l:= [.tmp 14,.tmp 17,.tmp 19]) (xs:= [[N64 (y%65536)],[N64 (y/65536%65536)],[N64 (y/4294967296)]]) O O O O qA8 el49 O xC xC xD) O λg20 _=>?_
  change J _ _ _ [F,blk g20 ((R3.pieces y).map N64) 49] _
  refine yh O<|yi C2<|yl λ_ C3=>yn 2 O<|yp (qBx O O (λF' hF=>qF7 F' (some ⟨g20,0,none⟩) 3 3 (R3.pieces y) (((qDs (q:=True) (g:=g20) (e:=49) (R3.pieces y) (n:=3) O).sl (m:=blk g20 ((R3.pieces y).map N64) 49)).mono (Fa hF)) (some ⟨g20,0,none⟩) 3 3 (R3.pieces y) (((qDs (q:=True) (g:=g20) (e:=49) (R3.pieces y) (n:=3) O).sl (m:=blk g20 ((R3.pieces y).map N64) 49)).mono (Fa hF)) hpd hpd xC xC)) O λg23 _=>?_
  change J _ _ _ [_,_,blk g23 ((R3.times (R3.pieces y) (R3.pieces y)).map N64) 49] _
  refine yh O<|yi C3<|yl λ_ C4=>yh O<|yi C4<|ym λ_ C5=>yl λ_ C6=>yh O<|yi C6<|vV ?_
  refine yl λ_ C7=>yn 2 O<|yp (qBx O O (λF' hF=>qF7 F' (some ⟨g23,0,none⟩) 6 6 (R3.times (R3.pieces y) (R3.pieces y)) (((qDs (q:=True) (g:=g23) (e:=49) (R3.times (R3.pieces y) (R3.pieces y)) (n:=6) hl2).sl (m:=blk g23 ((R3.times (R3.pieces y) (R3.pieces y)).map N64) 49)).mono (Fa hF)) (some ⟨g20,0,none⟩) 3 3 (R3.pieces y) (((qDs (q:=True) (g:=g20) (e:=49) (R3.pieces y) (n:=3) O).sl (m:=blk g20 ((R3.pieces y).map N64) 49)).mono (Fa hF)) hd2 hpd xC xC)) O λg27 _=>?_
  change J _ _ _ [_,_,_,blk g27 ((R3.times (R3.times (R3.pieces y) (R3.pieces y)) (R3.pieces y)).map N64) 49] _
  refine yh O<|yi C7<|yt<|yh O<|yi C5<|ym λ_ C8=>vW [0,3] [F,blk g27 ((R3.power y true).map N64) 49] O xC<|yt<|yn 2 O<|yi C8<|ym λ_ C9=>yl λ_ C10=>yh O<|yj (qAN qA8 O O) O<|yj ((qAm O O O xB).as (v':=I ((9:Int)-((0:Nat):Int)-1)) O) O<|yh O<|yi C10<|yz<|vN (λj:Nat=> [(1,N64 p),(8,.slice (some ⟨g27,0,none⟩) 9 9),(9,I 6),(10,N64 (R3.parts (R3.power y true) 6 j).1),(11,.bool (R3.parts (R3.power y true) 6 j).2),(12,I ((9:Int)-(j:Int)-1))]) (λ_=> [F,blk g27 ((R3.power y true).map N64) 49]) (λj=>j<=9) (λj=>9-j) 0 (jH _) (Sub.of O) (λ_ h=>h) ?_
  intro j hj I0 hI0
  have hsp:R3.parts (R3.power y true) 6 (j+1)=if 6<=9-1-j then((R3.parts (R3.power y true) 6 j).1*65536+(R3.power y true).getD (9-1-j) 0,(R3.parts (R3.power y true) 6 j).2) else((R3.parts (R3.power y true) 6 j).1,if 0<(R3.power y true).getD (9-1-j) 0 then true else(R3.parts (R3.power y true) 6 j).2):=by rw [R3.parts,hpl]
  refine ym λ_ C11=>yl λ_ C12=>yh O<|yj (qA1 O O O) O<|yi C12<|y1 O (λh32=>?_) (λh32=>?_)
  .
    refine yy C11<|ym λ_ C13=>yz<|yl λ_ C14=>yn 2 O<|yj (qA1 O O O) O<|yi C14<|y1 O (λh37=>?_) (λh37=>?_)
    .
      have hj9:j<3:=xB
      have hb:=hpo j xB
      have hvb:(R3.parts (R3.power y true) 6 j).1<4294967296:=by
        rw [hb]
        refine j8 (R3.val_lt _ (λi=>by rw [jB,js,<-jB];exact hpw _)) ?_
        rw [jE,hpl]
        exact jZ xC (show _<=2 by omega)
      have hmj:=hpw (9-1-j)
      refine yt<|yh O<|yj (qCc (b:=65536) O O O xB) O<|yh O<|yj ((qAT O O).nat (9-1-j) xB) O<|yj (qAY (i:=9-1-j) (j:=9-1-j) O O O qA8 qBV xB xB) O<|yj (qAD 1 O O O qBe (qC6 0 xB)) O<|yj (qBD O O O xB) O<|yh O<|y8<|vB<|yq (yu C13 ?_)
      refine yt<|yh O<|yj ((qAm O O O xB).as (v':=I ((9:Int)-((j+1:Nat):Int)-1)) (yY I xB)) O<|yh O<|y8<|yq ?_
      rw [yX xB] at hsp
      exact vE (j+1) hI0 xB ⟨O,O,O,by rw [hsp];rfl,by rw [hsp];rfl,O,yd⟩ (λ_ h=>h)
    refine yl λ_ C15=>yh O<|yj ((qAT O O).nat (9-1-j) xB) O<|yj (qAY (i:=9-1-j) (j:=9-1-j) O O O qA8 qBV xB xB) O<|yj (qAD 1 O O O qBe (qC6 0 xB)) O<|yj (qAs O O O) O<|yi C15<|y1 O (λh49=>?_) (λh49=>?_)
    .
      refine yt<|yh O<|y8<|vB<|yq (yu C13 ?_)
      refine yt<|yh O<|yj ((qAm O O O xB).as (v':=I ((9:Int)-((j+1:Nat):Int)-1)) (yY I xB)) O<|yh O<|y8<|yq ?_
      rw [yW xB,yX xB] at hsp
      exact vE (j+1) hI0 xB ⟨O,O,O,by rw [hsp];rfl,by rw [hsp];rfl,O,yd⟩ (λ_ h=>h)
    refine vP<|vB<|yq (yu C13 ?_)
    refine yt<|yh O<|yj ((qAm O O O xB).as (v':=I ((9:Int)-((j+1:Nat):Int)-1)) (yY I xB)) O<|yh O<|y8<|yq ?_
    rw [yW xB,yW xB] at hsp
    exact vE (j+1) hI0 xB ⟨O,O,O,by rw [hsp];rfl,by rw [hsp];rfl,O,yd⟩ (λ_ h=>h)
  refine vK<|y6<|y6<|vL ?_
  refine yq (yu C9 ?_)
  refine ym λ_ C16=>?_
  have hjL:j=9:=xB
  subst hjL
  refine yt<|yn 2 O<|yj (qAs O O O) O<|yh O<|vO (d:=53) O (λh53=>?_) (λh53=>?_)
  .
    refine yn 4 O<|vX (Wan.un O O O O) O O ?_
    exact yn 3 O<|yi C16<|yr<|yw hw0 O () (by rw [hab,ya (show p<(R3.parts (R3.power y true) 6 9).1 by omega)];rfl) yd [0] O xC
  refine yn 2 O<|yv (qAR O O O) O<|yh O<|vO (d:=57) O (λh57=>?_) (λh57=>?_)
  .
    exact yv ((qAT O O).as (v':= .bool (R3.parts (R3.power y true) 6 9).2) O) O<|yn 3 O<|yi C16<|yr<|yw hw0 O () (by rw [hab,yb (show¬p<(R3.parts (R3.power y true) 6 9).1 by omega),ya (show(R3.parts (R3.power y true) 6 9).1=p by omega)];simp) yd [0] O xC
  exact yn 4 O<|yi C16<|yr<|yw hw0 O () (by rw [hab,yb (show¬p<(R3.parts (R3.power y true) 6 9).1 by omega),yb (show¬(R3.parts (R3.power y true) 6 9).1=p by omega)];rfl) yd [0] O xC
theorem qO3(F:Hp)(y p:Nat)(cube:Bool)(hy:y<281474976710656):
    Cz prog 302 [N64 y,N64 p,.bool cube] F (.bool (R3.above y p cube)):=by
  cases cube
  . exact qM8 F y p hy
  . exact qPq F y p hy
theorem qUF(F:Hp)(p:Nat)(cube:Bool):
    Cz prog 292 [N64 p,.bool cube] F (N64 (R3.root p cube)):=by
  refine y7 func292 O ntmps292 O (λw0 hw0=>?_)
  refine yl λ_ C1=>yh O<|yi C1<|yl λ_ C2=>yh O<|yi C2<|ym λ_ C3=>yl λ_ C4=>yh O<|yi C4<|yz<|vN (λj:Nat=> [(0,N64 p),(1,.bool cube),(5,N64 (R3.rootK p cube j)),(6,N64 (68719476736/2^j))]) (λ_=> [F]) (λj=>j<=37) (λj=>37-j) 0 (jH _) (Sub.of O) (λ_ h=>h) ?_
  intro j hj I0 hI0
  have hlt:=R3.rootK_lt p cube j
  have hsx:R3.rootK p cube (j+1)=if R3.above (R3.rootK p cube j+68719476736/2^j) p cube then R3.rootK p cube j else(R3.rootK p cube j+68719476736/2^j):=rfl
  refine ym λ_ C5=>yl λ_ C6=>yh O<|yj (qAs O O O) O<|yi C6<|y1 O (λh9=>?_) (λh9=>?_)
  .
    refine yy C5<|ym λ_ C7=>yz<|ym λ_ C8=>?_
    have hj37:j<37:=by
      rcases zR j 37 with h|h
      . exact h
      . have h2:j=37:=by omega
        subst h2;exact absurd h9 xC
    refine yt<|yn 2 O<|yj (qBD O O O xB) O<|yh O<|yi C8<|yl λ_ C9=>yn 3 O<|yp (qAJ O O ent (qO3 F (R3.rootK p cube j+68719476736/2^j) p cube xB)) O λg18 _=>yj ((qA5 O O).as (v':= .bool (decide (R3.above (R3.rootK p cube j+68719476736/2^j) p cube=false))) (yY Value.bool (by cases R3.above (R3.rootK p cube j+68719476736/2^j) p cube<;>rfl))) O<|yi C9<|y1 O (λh19=>?_) (λh19=>?_)
    .
      refine yt<|yn 2 O<|y8<|vB<|yq (yu C7 ?_)
      refine yt<|yh O<|yj ((qC2 O O O xB).as (v':=N64 (68719476736/2^(j+1))) (yY N64 (R3.pow_half j).symm)) O<|yh O<|y8<|yq ?_
      rw [h19] at hsx
      exact vE (j+1) hI0 xB ⟨O,O,by rw [hsx];rfl,O,yd⟩ (λ_ h=>h)
    refine vP<|vB<|yq (yu C7 ?_)
    refine yt<|yh O<|yj ((qC2 O O O xB).as (v':=N64 (68719476736/2^(j+1))) (yY N64 (R3.pow_half j).symm)) O<|yh O<|y8<|yq ?_
    rw [yX (by simpa using h19)] at hsx
    exact vE (j+1) hI0 xB ⟨O,O,by rw [hsx];rfl,O,yd⟩ (λ_ h=>h)
  refine vK<|y6<|y6<|vL ?_
  refine yq (yu C3 ?_)
  refine ym λ_ C10=>?_
  have hj37:j=37:=by
    rcases zR j 37 with h|h
    . have h2:2^j<=68719476736:=jZ xC (show j<=36 by omega)
      have h3:=Nat.div_pos h2 (jy j)
      omega
    . omega
  subst hj37
  exact yt<|yh O<|yj (qB8 (b:=4294967296) O O O xB) O<|yh O<|yi C10<|yr<|yw hw0 O () O yd [0] O xC
theorem qIm(F:Hp)(cube:Bool)(cnt K:Nat)(hc1:(R3.primes (K+1)).length=cnt)(hc2:(R3.primes K).length<cnt)(hc3:K<=309):
    Ct prog 267 [I cnt,.bool cube] [F] (λx:yS×Nat×Hp=> .slice x.1 cnt x.2.1) (λx=>Row x.2.2 49 1 x.1 cnt x.2.1 (qCZ (R3.roots cube (K+1)))) (λx=> [F,x.2.2]):=by
  refine y7 func267 O ntmps267 O (λw0 hw0=>?_)
  refine yl λ_ C1=>yh O<|yi C1<|yl λ_ C2=>yh O<|yi C2<|ym λ_ C3=>ym λ_ C4=>ve [0,1] [F,(λ_=>none)] O xC<|yt<|yh O<|yi C4<|yz<|vN (X:=Nat×yS×Nat×Hp) (λx=> [(0,I cnt),(1,.bool cube),(5,.slice x.2.1 (R3.primes x.1).length x.2.2.1),(6,N64 (x.1+2))]) (λx=> [F,x.2.2.2]) (λx=>x.1<=K+1/\Row x.2.2.2 49 1 x.2.1 (R3.primes x.1).length x.2.2.1 (qCZ (R3.roots cube x.1))) (λx=>K+1-x.1) (0,none,0,λ_=>none) (⟨jH _,qBf.nil⟩) (Sub.of O) (λ_ h=>h) ?_
  rintro⟨k,A,c,m⟩ ⟨hk,hrow⟩ I0 hI0
  dsimp only at hk hrow⊢
  have hpl:(R3.primes k).length<=64:=jf (by have:=R3.primes_len k (310-k);rwa [show k+(310-k)=310 by omega] at this) (Nat.le_of_eq R3.primes_tab.1)
  refine ym λ_ C5=>yl λ_ C6=>yh O<|yj (qAN qA8 O O) O<|yh O<|yj (qAP O O O) O<|yi C6<|y1 O (λh12=>?_) (λh12=>?_)
  .
    refine yy C5<|ym λ_ C7=>yz<|ym λ_ C8=>?_
    have hkK:k<K+1:=by
      rcases zR k (K+1) with h|h
      . exact h
      . have:k=K+1:=by omega
        subst this;omega
    refine yt<|yh O<|yi C8<|ym λ_ C9=>yl λ_ C10=>yh O<|yi C10<|yz<|vN (X:=Nat×Bool) (λx=> [(0,I cnt),(1,.bool cube),(5,.slice A (R3.primes k).length c),(6,N64 (k+2)),(7,.bool x.2),(8,N64 x.1)]) (λ_=> [F,m]) (λx=>2<=x.1/\x.1<=18/\R3.ploop (k+2) x.1 x.2 (22-x.1)=R3.prime (k+2)) (λx=>18-x.1) (2,true) (⟨jL _,xC,O⟩) (Sub.of O) (λ_ h=>h) ?_
    rintro⟨d,acc⟩ ⟨hd2,hd18,hc⟩ I2 hI2
    dsimp only at hd2 hd18 hc⊢
    have hdd:=Nat.mul_le_mul hd18 hd18
    refine ym λ_ C11=>yl λ_ C12=>yn 2 O<|yj (qCc O O O ⟨xB,xB,xB⟩) O<|yh O<|yj (qBQ O O O) O<|yi C12<|y1 O (λh19=>?_) (λh19=>?_)
    .
      refine yy C11<|ym λ_ C13=>yz<|ym λ_ C14=>?_
      have hd17:d<=17:=by
        rcases zR 17 d with h|h
        . have:=Nat.mul_le_mul (show 18<=d by omega) (show 18<=d by omega)
          omega
        . exact h
      rw [show 22-d=(22-(d+1))+1 by omega,R3.ploop,yX xB] at hc
      refine yt<|yn 2 O<|yj (qB8 O O O xB) O<|yj (qAR O O O) O<|yi C14<|y1 O (λh25=>?_) (λh25=>?_)
      .
        refine yt<|yh O<|y8<|vB<|yq (yu C13 ?_)
        refine yt<|yh O<|yj ((qBD (b:=1) O O O xB).n64 (d+1) xB) O<|yh O<|y8<|yq ?_
        rw [yX xB] at hc
        exact vE (d+1,false) hI2 ⟨by dsimp only;omega,by dsimp only;omega,hc⟩ (Sub.of O) (λ_ h=>h)
      refine vP<|vB<|yq (yu C13 ?_)
      refine yt<|yh O<|yj ((qBD (b:=1) O O O xB).n64 (d+1) xB) O<|yh O<|y8<|yq ?_
      rw [yW xB] at hc
      exact vE (d+1,acc) hI2 ⟨by dsimp only;omega,by dsimp only;omega,hc⟩ (Sub.of O) (λ_ h=>h)
    refine vK<|y6<|y6<|vL ?_
    refine yq (yu C9 ?_)
    refine ym λ_ C15=>?_
    rw [show 22-d=(22-(d+1))+1 by omega,R3.ploop,yW xB] at hc
    have hps:R3.primes (k+1)=if R3.prime (k+2) then R3.primes k++ [k+2] else R3.primes k:=rfl
    rw [<-hc] at hps
    refine yt<|yj ((qAT O O).as (v':= .bool (decide (acc=true))) (yY Value.bool xD)) O<|yi C15<|y1 O (λh26=>?_) (λh26=>?_)
    .
      refine yt<|yn 3 O<|yp (qAZ O O (λF' hF=>qUF F' (k+2) cube)) O λg30 _=>yp (qAE (l:= [.tmp 30]) (xs:= [[N64 (R3.root (k+2) cube)]]) O O O O qA8 el49 O xC xC xD) O λg31 _=>yp (qAV (i:=1) (m2:=blk g31 [N64 (R3.root (k+2) cube)] 49) O O O qA8 qA8 el49 O hrow xD (qAj (q:=True) (xs:=qCZ [R3.root (k+2) cube]) O (by simp [qCZ])).sl (qLC _) xB xB) O ?_
      rintro⟨A32,c32,m32⟩ h32
      try dsimp only at h32
      refine vW [0,1] [F,m32] O xC<|yh O<|y8<|vB<|yq (yu C7 ?_)
      refine yt<|yh O<|yj ((qBD (b:=1) O O O xB).n64 (k+1+2) xB) O<|yh O<|y8<|yq ?_
      rw [yX h26] at hps
      have hlen:(R3.primes (k+1)).length=(R3.primes k).length+1:=by rw [hps,jA];rfl
      refine vE (k+1,A32,c32,m32) hI0 ⟨by dsimp only;omega,by dsimp only;rw [hlen,R3.roots,hps,jN,qRg];exact h32⟩ ⟨O,O,by rw [hlen];rfl,O,yd⟩ (λ_ h=>h)
    refine vP<|vB<|yq (yu C7 ?_)
    refine yt<|yh O<|yj ((qBD (b:=1) O O O xB).n64 (k+1+2) xB) O<|yh O<|y8<|yq ?_
    rw [yW h26] at hps
    refine vE (k+1,A,c,m) hI0 ⟨by dsimp only;omega,by dsimp only;rw [R3.roots,hps];exact hrow⟩ ⟨O,O,by rw [hps];rfl,O,yd⟩ (λ_ h=>h)
  refine vK<|y6<|y6<|vL ?_
  refine yq (yu C3 ?_)
  refine ym λ_ C16=>?_
  have hkK:K+1=k:=by
    rcases zR k (K+1) with h|h
    . have:=R3.primes_len k (K-k)
      rw [show k+(K-k)=K by omega] at this
      omega
    . omega
  subst hkK
  exact yt<|yn 2 O<|yi C16<|yr<|yw hw0 O (A,c,m) (by rw [hc1]) (by rw [hc1] at hrow;exact hrow) [0,1] O xC
section
variable{P:Program}{env:Env}{rs:List Hp}{o:Oper}{t t':TypeId}{x y:Operand}{a b:UInt32}
theorem qC1(ho:o.op= .binOp .xor t x y t')(hx:ev env x=some (NW a))(hy:ev env y=some (NW b)):YOp P env rs o (NW (a^^^b)):=
 (qX9 ho hx hy (by have:=a.toNat_lt;have:=b.toNat_lt;omega)).as (yY N64 (UInt32.toNat_xor a b).symm)
theorem qHf(ho:o.op= .binOp .and t x y t')(hx:ev env x=some (NW a))(hy:ev env y=some (NW b)):YOp P env rs o (NW (a&&&b)):=
 (qJw ho hx hy (by have:=a.toNat_lt;have:=b.toNat_lt;omega)).as (yY N64 (UInt32.toNat_and a b).symm)
theorem qQK(a:UInt32):(~~~ a).toNat=4294967295-a.toNat:=by
 simp
theorem qYG(ho:o.op= .binOp .sub t x y t')(hx:ev env x=some (N64 4294967295))(hy:ev env y=some (NW a)):YOp P env rs o (NW (~~~ a)):=
 (qRT ho hx hy (by have:=a.toNat_lt;omega)).as (yY N64 (qQK a).symm)
end
abbrev nws(l:yV):yT:=l.map UInt32.toNat
attribute [local irreducible] Sha.rnds Sha.sched Sha.mix Sha.rotr R3.roots Sha.exts
theorem qPd(g i sz:Nat):qEW (some ⟨g,0,none⟩) i sz=⟨g,i*sz,none⟩:=by
 unfold qEW
 simp only [Option.getD_some]
 rw [Addr.add_lit];simp
theorem qXQ(F:Hp)(s:xA)(hs:s.length<=1099511627776):
    Cz prog 218 [Str s] F (Str (Sha.sum s)):=by
  refine y7 func218 O ntmps218 O (λw0 hw0=>?_)
  refine yl λ_ C1=>yh O<|yi C1<|yl λ_ C2=>yp (qBx O O (λF' hF=>qIm F' true 64 309 R3.primes_tab.1 (by rw [R3.primes_tab.2.1];decide) xC)) O ?_
  rintro⟨A25,c25,m25⟩ h25
  try dsimp only at h25
  rw [R3.roots_K] at h25
  refine yp (qBx O O (λF' hF=>qIm F' false 8 17 R3.primes_tab.2.2.1 (by rw [R3.primes_tab.2.2.2];decide) xC)) O ?_
  rintro⟨A26,c26,m26⟩ h26
  try dsimp only at h26
  rw [R3.roots_H] at h26
  obtain ⟨gh,rfl⟩:=qBf.at h26 xC
  refine yn 2 O<|yi C2<|yl λ_ C3=>yh O<|yj (qAn u9_ O O) O<|yh O<|yi C3<|yl λ_ C4=>yh O<|yj (qAq O O O xJ) O<|yh O<|yi C4<|ym λ_ C5=>yz<|vN (λk:Nat=> [(0,Str (s++ [0x80]++List.replicate k 0)),(3,.slice A25 64 c25),(4,.slice (some ⟨gh,0,none⟩) 8 c26),(5,I s.length)]) (λ_=> [F,m25,m26]) (λk=>k<=((119-s.length%64)%64)) (λk=>((119-s.length%64)%64)-k) 0 (jH _) ⟨yY (λl=>some (Str l)) (jS _).symm,O,O,O,yd⟩ (λ_ h=>h) ?_
  intro k hk I0 hI0
  refine ym λ_ C6=>yl λ_ C7=>yh O<|yj (qAn u9_ O O) O<|yj ((qDM O O O xB).as (v':=I ((s.length+1+k)%64:Nat)) (yY I xJ)) O<|yj (qAQ O O O) O<|yi C7<|y1 O (λh34=>?_) (λh34=>?_)
  .
    exact yy C6<|yz<|yt<|yh O<|yj ((qAq O O O xJ).as (v':=Str (s++ [0x80]++List.replicate (k+1) 0)) (by rw [List.replicate_succ',<-jM])) O<|yh O<|y8<|vB<|yq<|vE (k+1) hI0 xB (Sub.of O) (λ_ h=>h)
  refine vK<|y6<|y6<|vL ?_
  refine yq (yu C5 ?_)
  refine ym λ_ C8=>ym λ_ C9=>?_
  have hkz:k=((119-s.length%64)%64):=xB
  refine yt<|yh O<|yi C9<|yz<|vN (λt:Nat=> [(0,Str (s++ [0x80]++List.replicate ((119-s.length%64)%64) 0++(Sha.numB (8*UInt64.ofNat s.length) 8).take t)),(3,.slice A25 64 c25),(4,.slice (some ⟨gh,0,none⟩) 8 c26),(5,I s.length),(6,I (7-(t:Int)))]) (λ_=> [F,m25,m26]) (λt=>t<=8) (λt=>8-t) 0 (jH _) ⟨by rw [hkz];exact yY (λl=>some (Str l)) (jS _).symm,O,O,O,O,yd⟩ (λ_ h=>h) ?_
  intro t ht I2 hI2
  refine ym λ_ C10=>yl λ_ C11=>yh O<|yj (qA1 O O O) O<|yi C11<|y1 O (λh38=>?_) (λh38=>?_)
  .
    refine yy C10<|ym λ_ C12=>yz ?_
    have hdv:8*s.length/2^(8*(7-t))<18446744073709551616:=jx (jv _ _) xB
    refine yt<|yn 2 O<|yj ((qCA O O O xB).nat (8*s.length) xB) O<|yj (qBj O O u3_ qDJ xB) O<|yj ((qAT O O).nat (7-t) xB) O<|yj ((qCA O O O xB).nat (8*(7-t)) xB) O<|yp (qAZ O O (λF' hF=>qCO F' (8*s.length) (8*(7-t)) xB xB)) O λg47 _=>yj (qCu O O qDJ u5_ hdv) O<|yp (qAE (l:= [.tmp 48]) (xs:= [[B8 (UInt8.ofNat (8*s.length/2^(8*(7-t))))]]) O O O O qBo el5 O xC xC xD) O λg49 _=>yj (qBO (l:= [UInt8.ofNat (8*s.length/2^(8*(7-t)))]) O O qBo u5_ u9_ (m:=blk g49 [B8 (UInt8.ofNat (8*s.length/2^(8*(7-t))))] 5) xD (qAj (q:=True) (xs:= [[B8 (UInt8.ofNat (8*s.length/2^(8*(7-t))))]]) O xD).sl) O<|yj ((qAq O O O (by simp [Sha.numB_length];omega)).as (v':=Str (s++ [0x80]++List.replicate ((119-s.length%64)%64) 0++(Sha.numB (8*UInt64.ofNat s.length) 8).take (t+1))) (by rw [R3.num8 s.length xB t xB,<-jM])) O<|yh O<|y8<|vB<|yq (yu C12 ?_)
    exact vW [0,1,2] [F,m25,m26] O xC<|yt<|yh O<|yj ((qAm O O O xB).as (v':=I (7-((t+1:Nat):Int))) (yY I xB)) O<|yh O<|y8<|yq<|vE (t+1) hI2 xB (Sub.of O) (λ_ h=>h)
  refine vK<|y6<|y6<|vL ?_
  refine yq (yu C8 ?_)
  refine ym λ_ C13=>ym λ_ C14=>?_
  have ht8:t=8:=xB
  subst ht8
  refine yt<|yh O<|yi C14<|yz<|vN (X:=Nat×Hp) (λx=> [(0,Str (Sha.pad s)),(3,.slice A25 64 c25),(4,.slice (some ⟨gh,0,none⟩) 8 c26),(7,I (64*x.1:Nat))]) (λx=> [F,m25,x.2]) (λx=>64*x.1<=(Sha.pad s).length/\Row x.2 49 1 (some ⟨gh,0,none⟩) 8 c26 (qCZ (nws (Sha.mixes Sha.init (Sha.pad s) x.1).list))) (λx=>(Sha.pad s).length-64*x.1) (0,m26) (⟨jH _,h26⟩) ⟨yY (λl=>some (Str l)) (by rw [jV (by rw [Sha.numB_length];exact jL _)];rfl),O,O,O,yd⟩ (λ_ h=>h) ?_
  rintro⟨b,m⟩ ⟨hb,hrow⟩ I4 hI4
  dsimp only at hb hrow⊢
  obtain ⟨S,hS⟩: ∃S,S=(Sha.mixes Sha.init (Sha.pad s) b):=⟨_,rfl⟩
  rw [<-hS] at hrow
  have hpm:=Sha.pad_mod s
  have hpL:=Sha.pad_length s
  refine ym λ_ C15=>yl λ_ C16=>yh O<|yj ((qAT O O).as (v':=Str (Sha.pad s)) O) O<|yj (qAn u9_ O O) O<|yj (qAP O O O) O<|yi C16<|y1 O (λh55=>?_) (λh55=>?_)
  .
    refine yy C15<|ym λ_ C17=>yz<|ym λ_ C18=>?_
    have hbl:64*(b+1)<=(Sha.pad s).length:=xB
    have hgd: ∀j,j<64->(Sha.pad s)[64*b+j]?=some (((Sha.pad s).drop (64*b)).getD j 0):=λj hj=>by
      rw [jB,js,jD xB];rfl
    refine yt<|yp (qCY O O qA8 el49 xC xC) O λg58 _=>?_
    change J _ _ _ [F,m25,m,blk g58 (List.replicate 64 [N64 0]).flatten 49] _
    refine yh O<|yi C18<|ym λ_ C19=>yl λ_ C20=>yh O<|yi C20<|yz<|vN (λi:Nat=> [(0,Str (Sha.pad s)),(3,.slice A25 64 c25),(4,.slice (some ⟨gh,0,none⟩) 8 c26),(7,I (64*b:Nat)),(8,.slice (some ⟨g58,0,none⟩) 64 64),(9,I i)]) (λi=> [F,m25,m,blk g58 ((R3.wn (Sha.firsts ((Sha.pad s).drop (64*b)) i)).map N64) 49]) (λi=>i<=16) (λi=>16-i) 0 (jH _) (Sub.of O) (λ_ h=>by rw [qNf,<-qQt N64] at h;exact h) ?_
    intro i hi I6 hI6
    have hwl:=R3.wn_length (Sha.firsts ((Sha.pad s).drop (64*b)) i) (by rw [Sha.firsts_length];omega)
    refine ym λ_ C21=>yl λ_ C22=>yh O<|yj (qAP O O O) O<|yi C22<|y1 O (λh60=>?_) (λh60=>?_)
    .
      refine yy C21<|ym λ_ C23=>yz<|yl λ_ C24=>yh O<|yi C24<|yz<|vN (λj:Nat=> [(0,Str (Sha.pad s)),(3,.slice A25 64 c25),(4,.slice (some ⟨gh,0,none⟩) 8 c26),(7,I (64*b:Nat)),(8,.slice (some ⟨g58,0,none⟩) 64 64),(9,I i),(10,I j)]) (λj=> [F,m25,m,blk g58 (((R3.wn (Sha.firsts ((Sha.pad s).drop (64*b)) i)).set i (R3.pv ((Sha.pad s).drop (64*b)) i j)).map N64) 49]) (λj=>j<=4) (λj=>4-j) 0 (jH _) (Sub.of O) (λ_ h=>by have e2:=R3.wn_zero (Sha.firsts ((Sha.pad s).drop (64*b)) i) (by rw [Sha.firsts_length];omega);rw [Sha.firsts_length] at e2;rw [R3.pv,e2];exact h) ?_
      intro j hj I8 hI8
      refine ym λ_ C25=>yl λ_ C26=>yh O<|yj (qAP O O O) O<|yi C26<|y1 O (λh64=>?_) (λh64=>?_)
      .
        refine yy C25<|ym λ_ C27=>yz ?_
        have hpv:=R3.pv_lt ((Sha.pad s).drop (64*b)) i j xB
        have hpv2:256^j<=16777216:=jZ xC (show j<=3 by omega)
        have hby:=(((Sha.pad s).drop (64*b)).getD (4*i+j) 0).toNat_lt
        refine vQ [blk g58 (((R3.wn (Sha.firsts ((Sha.pad s).drop (64*b)) i)).set i (R3.pv ((Sha.pad s).drop (64*b)) i j)).map N64) 49] [18] (.y 0 (.y 1 (.y 2 (.y 3 (.y 4 (.y 5 (.y 6 (.y 7 (.y 8 (.y 9 (.y 10 (.y 11 (.y 12 (.y 13 (.y 14 (.y 15 (.y 16 (.y 17 (.e 18 .nil))))))))))))))))))) ye xF xD ?_
        iterate 4 refine yx ?_
        refine yo O (qAY (i:=i) (j:=i) O O O qA8 qBV xB xB) O O<|yo O (qAD 0 O O O qBe (by rw [jO,List.getElem?_set_self xB];rfl)) O O ?_
        refine yo O (qCc (a:=256) O O O xB) O O<|yx ?_
        refine yx ?_
        refine yx ?_
        refine yo O ((qCA O O O xB).nat (4*i) xB) O O<|yo O ((qAM O O O xB).nat (64*b+4*i) xB) O O<|yx ?_
        refine yo O ((qAM O O O xB).nat (64*b+(4*i+j)) xB) O O<|yo O (qA9 u9_ O O O (hgd (4*i+j) xB)) O O<|yo O (qK9 O O u5_ qDJ) O O<|yo O ((qBD O O O xB).as (v':=N64 (R3.pv ((Sha.pad s).drop (64*b)) i (j+1))) O) O O<|yo O (qAY (i:=i) (j:=i) O O O qA8 qBV xB xB) O O<|vZ O (qAU (i:=3) O O O O O qBV O (by rw [jJ,j6];show i+1<=_;omega)) O O O λ_ _=>vM<|vB<|yq (yu C27 ?_)
        exact yt<|yh O<|yj ((qAM O O O xB).nat (j+1) xB) O<|yh O<|y8<|yq<|vE (j+1) hI8 xB (Sub.of O) (λ_ h=>by rw [qFK N64 _ _ _ (by rw [j6];omega),List.set_set] at h;exact h)
      refine vK<|y6<|y6<|vL ?_
      refine vB<|yq (yu C23 ?_)
      have hj4:j=4:=xB
      exact yt<|yh O<|yj ((qAM O O O xB).nat (i+1) xB) O<|yh O<|y8<|yq<|vE (i+1) hI6 xB (Sub.of O) (λ_ h=>by
        have e2:=R3.wn_set (Sha.firsts ((Sha.pad s).drop (64*b)) i) (Sha.word ((Sha.pad s).drop (64*b)) i) (by rw [Sha.firsts_length];omega)
        rw [Sha.firsts_length] at e2
        rw [hj4,R3.pv_word,e2,<-R3.firsts_succ] at h;exact h)
    refine vK<|y6<|y6<|vL ?_
    refine yq (yu C19 ?_)
    refine ym λ_ C28=>yl λ_ C29=>yh O<|yi C29<|yz<|vN (λj:Nat=> [(0,Str (Sha.pad s)),(3,.slice A25 64 c25),(4,.slice (some ⟨gh,0,none⟩) 8 c26),(7,I (64*b:Nat)),(8,.slice (some ⟨g58,0,none⟩) 64 64),(11,I (16+j:Nat))]) (λj=> [F,m25,m,blk g58 ((R3.wn (Sha.exts j (Sha.firsts ((Sha.pad s).drop (64*b)) 16))).map N64) 49]) (λj=>j<=48) (λj=>48-j) 0 (jH _) (Sub.of O) (λ_ h=>by rw [show i=16 by omega] at h;unfold Sha.exts;exact h) ?_
    intro j hj I10 hI10
    obtain ⟨L,hL⟩: ∃L,L=(Sha.exts j (Sha.firsts ((Sha.pad s).drop (64*b)) 16)):=⟨_,rfl⟩
    have hll:L.length=16+j:=by rw [hL,Sha.exts_length,Sha.firsts_length]
    rw [<-hL]
    have hwl:=R3.wn_length L xB
    refine ym λ_ C30=>yl λ_ C31=>yh O<|yj (qAP O O O) O<|yi C31<|y1 O (λh86=>?_) (λh86=>?_)
    .
      refine yy C30<|ym λ_ C32=>yz<|ym λ_ C33=>?_
      have b1:=(L.getD (j+1) 0).toNat_lt
      have b2:=(L.getD (j+14) 0).toNat_lt
      have b3:=(L.getD j 0).toNat_lt
      have b4:=(L.getD (j+9) 0).toNat_lt
      have b5:=(Sha.sg0 (L.getD (j+1) 0)).toNat_lt
      have b6:=(Sha.sg1 (L.getD (j+14) 0)).toNat_lt
      refine vQ [blk g58 ((R3.wn L).map N64) 49] [] (.y 0 (.y 1 (.y 2 (.y 3 (.y 4 (.y 6 (.y 7 (.y 8 (.y 9 (.y 10 (.y 13 (.y 14 (.y 15 (.y 16 (.y 17 (.e 5 (.e 11 (.y 12 (.e 18 (.y 19 (.y 20 .nil))))))))))))))))))))) ye xF xD ?_
      refine yx ?_
      refine yx ?_
      refine yo O ((qAm O O O xB).nat (j+1) xB) O O<|yo O (qAY (i:=j+1) (j:=j+1) O O O qA8 qBV xB xB) O O<|yo O ((qAD 0 O O O qBe (qC6 (f:=N64) 0 (show j+1<(R3.wn L).length by omega))).as (v':=NW (L.getD (j+1) 0)) (yY N64 (R3.wn_get L (j+1) xB))) O O<|yx ?_
      refine yx ?_
      refine yo O ((qAm O O O xB).nat (j+1) xB) O O<|yo O (qAY (i:=j+1) (j:=j+1) O O O qA8 qBV xB xB) O O<|yo O ((qAD 0 O O O qBe (qC6 (f:=N64) 0 (show j+1<(R3.wn L).length by omega))).as (v':=NW (L.getD (j+1) 0)) (yY N64 (R3.wn_get L (j+1) xB))) O O<|yx ?_
      refine yx ?_
      refine yo O ((qAm O O O xB).nat (j+1) xB) O O<|yo O (qAY (i:=j+1) (j:=j+1) O O O qA8 qBV xB xB) O O<|yo O ((qAD 0 O O O qBe (qC6 (f:=N64) 0 (show j+1<(R3.wn L).length by omega))).as (v':=NW (L.getD (j+1) 0)) (yY N64 (R3.wn_get L (j+1) xB))) O O<|vD O (qAZ O O (λF' hF=>qB2 F' (L.getD (j+1) 0) 7 xC xC)) O xD λg94 _=>vD O (qAZ O O (λF' hF=>qB2 F' (L.getD (j+1) 0) 18 xC xC)) O xD λg100 _=>yo O (qC1 O O O) O O<|vD O (qAZ O O (λF' hF=>qCO F' (L.getD (j+1) 0).toNat 3 xB xB)) O xD λg107 _=>yo O ((qC1 O O (by show some (N64 _)=some (N64 _);rw [R3.shr_nat _ _ xC])).as (v':=NW (Sha.sg0 (L.getD (j+1) 0))) O) O O<|vU ?_
      refine vM<|yq (yu C33 ?_)
      refine ym λ_ C34=>vQ [blk g58 ((R3.wn L).map N64) 49] [] (.y 0 (.y 1 (.y 2 (.y 3 (.y 4 (.y 6 (.y 7 (.y 8 (.y 9 (.y 10 (.y 13 (.y 14 (.y 15 (.y 16 (.y 17 (.e 5 (.e 11 (.y 12 (.e 18 (.y 19 (.y 20 .nil))))))))))))))))))))) ye xF xD ?_
      refine yx ?_
      refine yx ?_
      refine yo O ((qAm O O O xB).nat (j+14) xB) O O<|yo O (qAY (i:=j+14) (j:=j+14) O O O qA8 qBV xB xB) O O<|yo O ((qAD 0 O O O qBe (qC6 (f:=N64) 0 (show j+14<(R3.wn L).length by omega))).as (v':=NW (L.getD (j+14) 0)) (yY N64 (R3.wn_get L (j+14) xB))) O O<|yx ?_
      refine yx ?_
      refine yo O ((qAm O O O xB).nat (j+14) xB) O O<|yo O (qAY (i:=j+14) (j:=j+14) O O O qA8 qBV xB xB) O O<|yo O ((qAD 0 O O O qBe (qC6 (f:=N64) 0 (show j+14<(R3.wn L).length by omega))).as (v':=NW (L.getD (j+14) 0)) (yY N64 (R3.wn_get L (j+14) xB))) O O<|yx ?_
      refine yx ?_
      refine yo O ((qAm O O O xB).nat (j+14) xB) O O<|yo O (qAY (i:=j+14) (j:=j+14) O O O qA8 qBV xB xB) O O<|yo O ((qAD 0 O O O qBe (qC6 (f:=N64) 0 (show j+14<(R3.wn L).length by omega))).as (v':=NW (L.getD (j+14) 0)) (yY N64 (R3.wn_get L (j+14) xB))) O O<|vD O (qAZ O O (λF' hF=>qB2 F' (L.getD (j+14) 0) 17 xC xC)) O xD λg114 _=>vD O (qAZ O O (λF' hF=>qB2 F' (L.getD (j+14) 0) 19 xC xC)) O xD λg120 _=>yo O (qC1 O O O) O O<|vD O (qAZ O O (λF' hF=>qCO F' (L.getD (j+14) 0).toNat 10 xB xB)) O xD λg127 _=>yo O ((qC1 O O (by show some (N64 _)=some (N64 _);rw [R3.shr_nat _ _ xC])).as (v':=NW (Sha.sg1 (L.getD (j+14) 0))) O) O O<|vU ?_
      refine vM<|yq (yu C34 ?_)
      refine vQ [blk g58 ((R3.wn L).map N64) 49] [19] (.y 0 (.y 1 (.y 2 (.y 3 (.y 4 (.y 5 (.y 6 (.y 7 (.y 8 (.y 9 (.y 10 (.y 11 (.y 12 (.y 13 (.y 14 (.y 15 (.y 16 (.y 17 (.y 18 (.e 19 .nil)))))))))))))))))))) ye xF xD ?_
      iterate 4 refine yx ?_
      refine yo O ((qAm O O O xB).nat (j) xB) O O<|yo O (qAY (i:=j) (j:=j) O O O qA8 qBV xB xB) O O<|yo O ((qAD 0 O O O qBe (qC6 (f:=N64) 0 (show j<(R3.wn L).length by omega))).as (v':=NW (L.getD (j) 0)) (yY N64 (R3.wn_get L (j) xB))) O O<|yx ?_
      refine yo O (qBD O O O xB) O O<|yx ?_
      refine yx ?_
      refine yo O ((qAm O O O xB).nat (j+9) xB) O O<|yo O (qAY (i:=j+9) (j:=j+9) O O O qA8 qBV xB xB) O O<|yo O ((qAD 0 O O O qBe (qC6 (f:=N64) 0 (show j+9<(R3.wn L).length by omega))).as (v':=NW (L.getD (j+9) 0)) (yY N64 (R3.wn_get L (j+9) xB))) O O<|yo O (qBD O O O xB) O O<|yx ?_
      refine yo O (qBD O O O xB) O O<|yo O ((qB8 (b:=4294967296) O O O xB).as (v':=NW (L.getD j 0+Sha.sg0 (L.getD (j+1) 0)+L.getD (j+9) 0+Sha.sg1 (L.getD (j+14) 0))) (yY N64 (by simp only [yB];omega))) O O<|yo O (qAY (i:=16+j) (j:=16+j) O O O qA8 qBV xB xB) O O<|vZ O (qAU (i:=3) O O O O O qBV O (by rw [jJ];show 16+j+1<=_;omega)) O O O λ_ _=>vM<|vB<|yq (yu C32 ?_)
      refine yt<|yh O<|yj ((qAM O O O xB).nat (16+(j+1)) xB) O<|yh O<|y8<|yq<|vE (j+1) hI10 xB (Sub.of O) (λ_ h=>?_)
      have e2:=R3.wn_set L (L.getD j 0+Sha.sg0 (L.getD (j+1) 0)+L.getD (j+9) 0+Sha.sg1 (L.getD (j+14) 0)) xB
      rw [hll,<-R3.ext_eq L j hll] at e2
      rw [qFK N64 _ _ _ xB,e2,hL] at h
      unfold Sha.exts
      exact h
    refine vK<|y6<|y6<|vL ?_
    refine yq (yu C28 ?_)
    refine ym λ_ C35=>?_
    have hj48:j=48:=xB
    have hsc:L=(Sha.sched ((Sha.pad s).drop (64*b))):=by rw [hL,hj48];unfold Sha.sched;rfl
    rw [hsc] at hll hwl⊢
    have hsl:(Sha.sched ((Sha.pad s).drop (64*b))).length=64:=Sha.sched_length _
    refine vW [0,1,2,3] [F,m25,m,blk g58 ((R3.wn (Sha.sched ((Sha.pad s).drop (64*b)))).map N64) 49] O xC<|yt<|yp (qBN O qA8 el49) O λg148 _=>yh O<|yp (qAV (i:=4) (m2:=m) O O O qA8 qA8 el49 O (qAj (q:=True) (xs:= []) O xD) xD hrow.sl (qLC _) xB xB) O ?_
    rintro⟨A150,c150,m150⟩ h150
    try dsimp only at h150
    refine yh O<|yi C35<|ym λ_ C36=>yl λ_ C37=>yh O<|yi C37<|yz<|vN (X:=Nat×yS×Nat×Hp) (λx=> [(0,Str (Sha.pad s)),(3,.slice A25 64 c25),(4,.slice (some ⟨gh,0,none⟩) 8 c26),(7,I (64*b:Nat)),(8,.slice (some ⟨g58,0,none⟩) 64 64),(14,.slice x.2.1 8 x.2.2.1),(15,I x.1)]) (λx=> [F,m25,m,blk g58 ((R3.wn (Sha.sched ((Sha.pad s).drop (64*b)))).map N64) 49,x.2.2.2]) (λx=>x.1<=64/\Row x.2.2.2 49 1 x.2.1 8 x.2.2.1 (qCZ (nws (Sha.rnds (Sha.sched ((Sha.pad s).drop (64*b))) S x.1).list))) (λx=>64-x.1) (0,A150,c150,m150) (⟨jH _,by unfold Sha.rnds;exact h150⟩) (Sub.of O) (λ_ h=>h) ?_
    rintro⟨i,A,c,mv⟩ ⟨hi,hv⟩ I12 hI12
    dsimp only at hi hv⊢
    obtain ⟨R,hR⟩: ∃R,R=(Sha.rnds (Sha.sched ((Sha.pad s).drop (64*b))) S i):=⟨_,rfl⟩
    rw [<-hR] at hv
    refine ym λ_ C38=>yl λ_ C39=>yh O<|yj (qAP O O O) O<|yi C39<|y1 O (λh152=>?_) (λh152=>?_)
    .
      refine yy C38<|ym λ_ C40=>yz<|ym λ_ C41=>?_
      obtain ⟨S1,hS1⟩: ∃x,x=Sha.rotr R.e 6^^^Sha.rotr R.e 11^^^Sha.rotr R.e 25:=⟨_,rfl⟩
      obtain ⟨CH,hCH⟩: ∃x,x=R.e&&&R.f^^^ ~~~ R.e&&&R.g:=⟨_,rfl⟩
      obtain ⟨T1,hT1⟩: ∃x,x=R.h+S1+CH+Sha.K.getD i 0+(Sha.sched ((Sha.pad s).drop (64*b))).getD i 0:=⟨_,rfl⟩
      obtain ⟨S0,hS0⟩: ∃x,x=Sha.rotr R.a 2^^^Sha.rotr R.a 13^^^Sha.rotr R.a 22:=⟨_,rfl⟩
      obtain ⟨MJ,hMJ⟩: ∃x,x=R.a&&&R.b^^^R.a&&&R.c^^^R.b&&&R.c:=⟨_,rfl⟩
      obtain ⟨T2,hT2⟩: ∃x,x=S0+MJ:=⟨_,rfl⟩
      have hrn:Sha.rnd ((Sha.sched ((Sha.pad s).drop (64*b))).getD i 0) (Sha.K.getD i 0) R=⟨T1+T2,R.a,R.b,R.c,R.d+T1,R.e,R.f,R.g⟩:=by rw [hT2,hT1,hS0,hMJ,hS1,hCH];rfl
      have b1:=R.h.toNat_lt
      have b2:=S1.toNat_lt
      have b3:=CH.toNat_lt
      have b4:=(Sha.K.getD i 0).toNat_lt
      have b5:=((Sha.sched ((Sha.pad s).drop (64*b))).getD i 0).toNat_lt
      have b6:=S0.toNat_lt
      have b7:=MJ.toNat_lt
      have b8:=T1.toNat_lt
      have b9:=T2.toNat_lt
      have b10:=R.d.toNat_lt
      refine vQ [mv] [] (.y 0 (.y 1 (.y 2 (.y 4 (.y 5 (.y 6 (.y 9 (.y 10 (.y 11 (.e 3 (.e 7 (.y 8 (.e 12 (.y 13 (.y 14 .nil))))))))))))))) ye xF xD ?_
      refine yx ?_
      refine yo O (qAC (i:=4) O O O qA8 qBV hv.sl xB) O O<|yo O (qAH O O qBe (m:=mv) xD (hv.sl.elem (i:=4) O)) O O<|yx ?_
      refine yo O (qAC (i:=4) O O O qA8 qBV hv.sl xB) O O<|yo O (qAH O O qBe (m:=mv) xD (hv.sl.elem (i:=4) O)) O O<|yx ?_
      refine yo O (qAC (i:=4) O O O qA8 qBV hv.sl xB) O O<|yo O (qAH O O qBe (m:=mv) xD (hv.sl.elem (i:=4) O)) O O<|vD O (qAZ O O (λF' hF=>qB2 F' R.e 6 xC xC)) O xD λg158 _=>vD O (qAZ O O (λF' hF=>qB2 F' R.e 11 xC xC)) O xD λg162 _=>yo O (qC1 O O O) O O<|vD O (qAZ O O (λF' hF=>qB2 F' R.e 25 xC xC)) O xD λg167 _=>yo O ((qC1 O O O).as (v':=NW S1) (by rw [hS1])) O O<|vU ?_
      refine vM<|yq (yu C41 ?_)
      refine ym λ_ C42=>vQ [mv] [] (.y 0 (.y 1 (.y 2 (.y 3 (.y 4 (.y 5 (.y 6 (.y 7 (.y 8 (.y 9 (.y 10 (.y 11 (.y 12 (.y 13 (.y 14 (.y 15 (.y 16 .nil))))))))))))))))) ye xF xD ?_
      refine yx ?_
      refine yo O (qAC (i:=4) O O O qA8 qBV hv.sl xB) O O<|yo O (qAH O O qBe (m:=mv) xD (hv.sl.elem (i:=4) O)) O O<|yx ?_
      refine yo O (qAC (i:=5) O O O qA8 qBV hv.sl xB) O O<|yo O (qAH O O qBe (m:=mv) xD (hv.sl.elem (i:=5) O)) O O<|yo O (qHf O O O) O O<|yx ?_
      refine yo O (qAC (i:=4) O O O qA8 qBV hv.sl xB) O O<|yo O (qAH O O qBe (m:=mv) xD (hv.sl.elem (i:=4) O)) O O<|yo O (qYG O O O) O O<|yx ?_
      refine yo O (qAC (i:=6) O O O qA8 qBV hv.sl xB) O O<|yo O (qAH O O qBe (m:=mv) xD (hv.sl.elem (i:=6) O)) O O<|yo O (qHf O O O) O O<|yo O ((qC1 O O O).as (v':=NW CH) (by rw [hCH])) O O<|vU ?_
      refine vM<|yq (yu C42 ?_)
      refine ym λ_ C43=>vQ [mv,blk g58 ((R3.wn (Sha.sched ((Sha.pad s).drop (64*b)))).map N64) 49,m25] [] (.y 0 (.y 1 (.y 2 (.y 3 (.y 4 (.y 5 (.y 6 (.y 7 (.y 8 (.y 9 (.y 10 (.y 11 (.y 12 (.y 13 (.y 14 (.y 15 (.y 16 (.y 17 (.y 18 .nil))))))))))))))))))) ye xF xD ?_
      refine yx ?_
      refine yo O (qAC (i:=7) O O O qA8 qBV hv.sl xB) O O<|yo O (qAH O O qBe (m:=mv) xD (hv.sl.elem (i:=7) O)) O O<|yx ?_
      refine yo O (qBD O O O xB) O O<|yx ?_
      refine yo O (qBD O O O xB) O O<|yx ?_
      refine yx ?_
      refine yo O (qAC O O O qA8 qBV h25.sl xB) O O<|yo O ((qAH O O qBe (m:=m25) xD (h25.sl.elem (qC3 (k:=i) (by rw [jJ];show i<64;omega)))).as (v':=NW (Sha.K.getD i 0)) (yY N64 (R3.map_getD Sha.K i (by show i<64;omega)))) O O<|yo O (qBD O O O xB) O O<|yx ?_
      refine yx ?_
      refine yo O (qAY (i:=i) (j:=i) O O O qA8 qBV xB xB) O O<|yo O ((qAD 1 O O O qBe (qC6 (f:=N64) 0 (show i<(R3.wn (Sha.sched ((Sha.pad s).drop (64*b)))).length by omega))).as (v':=NW ((Sha.sched ((Sha.pad s).drop (64*b))).getD i 0)) (yY N64 (R3.wn_get (Sha.sched ((Sha.pad s).drop (64*b))) i xB))) O O<|yo O (qBD O O O xB) O O<|yo O ((qB8 (b:=4294967296) O O O xB).as (v':=NW T1) (yY N64 (by rw [hT1];simp only [yB];omega))) O O<|vU ?_
      refine vM<|yq (yu C43 ?_)
      refine ym λ_ C44=>vQ [mv] [] (.y 0 (.y 1 (.y 2 (.y 4 (.y 5 (.y 6 (.y 9 (.y 10 (.y 11 (.e 3 (.e 7 (.y 8 (.e 12 (.y 13 (.y 14 .nil))))))))))))))) ye xF xD ?_
      refine yx ?_
      refine yo O (qAC (i:=0) O O O qA8 qBV hv.sl xB) O O<|yo O (qAH O O qBe (m:=mv) xD (hv.sl.elem (i:=0) O)) O O<|yx ?_
      refine yo O (qAC (i:=0) O O O qA8 qBV hv.sl xB) O O<|yo O (qAH O O qBe (m:=mv) xD (hv.sl.elem (i:=0) O)) O O<|yx ?_
      refine yo O (qAC (i:=0) O O O qA8 qBV hv.sl xB) O O<|yo O (qAH O O qBe (m:=mv) xD (hv.sl.elem (i:=0) O)) O O<|vD O (qAZ O O (λF' hF=>qB2 F' R.a 2 xC xC)) O xD λg206 _=>vD O (qAZ O O (λF' hF=>qB2 F' R.a 13 xC xC)) O xD λg210 _=>yo O (qC1 O O O) O O<|vD O (qAZ O O (λF' hF=>qB2 F' R.a 22 xC xC)) O xD λg215 _=>yo O ((qC1 O O O).as (v':=NW S0) (by rw [hS0])) O O<|vU ?_
      refine vM<|yq (yu C44 ?_)
      refine ym λ_ C45=>vQ [mv] [] (.y 0 (.y 1 (.y 2 (.y 3 (.y 4 (.y 5 (.y 6 (.y 7 (.y 8 (.y 9 (.y 10 (.y 11 (.y 12 (.y 13 (.y 14 (.y 15 (.y 16 (.y 17 (.y 18 (.y 19 (.y 20 (.y 21 (.y 22 (.y 23 (.y 24 (.y 25 (.y 26 .nil))))))))))))))))))))))))))) ye xF xD ?_
      refine yx ?_
      refine yx ?_
      refine yo O (qAC (i:=0) O O O qA8 qBV hv.sl xB) O O<|yo O (qAH O O qBe (m:=mv) xD (hv.sl.elem (i:=0) O)) O O<|yx ?_
      refine yo O (qAC (i:=1) O O O qA8 qBV hv.sl xB) O O<|yo O (qAH O O qBe (m:=mv) xD (hv.sl.elem (i:=1) O)) O O<|yo O (qHf O O O) O O<|yx ?_
      refine yo O (qAC (i:=0) O O O qA8 qBV hv.sl xB) O O<|yo O (qAH O O qBe (m:=mv) xD (hv.sl.elem (i:=0) O)) O O<|yx ?_
      refine yo O (qAC (i:=2) O O O qA8 qBV hv.sl xB) O O<|yo O (qAH O O qBe (m:=mv) xD (hv.sl.elem (i:=2) O)) O O<|yo O (qHf O O O) O O<|yo O (qC1 O O O) O O<|yx ?_
      refine yo O (qAC (i:=1) O O O qA8 qBV hv.sl xB) O O<|yo O (qAH O O qBe (m:=mv) xD (hv.sl.elem (i:=1) O)) O O<|yx ?_
      refine yo O (qAC (i:=2) O O O qA8 qBV hv.sl xB) O O<|yo O (qAH O O qBe (m:=mv) xD (hv.sl.elem (i:=2) O)) O O<|yo O (qHf O O O) O O<|yo O ((qC1 O O O).as (v':=NW MJ) (by rw [hMJ])) O O<|yo O (qBD O O O xB) O O<|yo O ((qB8 (b:=4294967296) O O O xB).as (v':=NW T2) (yY N64 (by rw [hT2];simp only [yB]))) O O<|vU ?_
      refine vM<|yq (yu C45 ?_)
      refine vQ [mv] [] (.y 0 (.y 1 (.y 2 (.y 3 (.y 4 (.y 5 (.y 6 (.y 7 (.y 8 (.y 9 (.y 10 (.y 11 (.y 12 (.y 13 (.y 14 (.y 15 (.y 16 (.y 17 (.y 18 (.y 19 (.y 20 (.y 21 (.y 22 (.y 23 (.y 24 (.y 25 (.y 26 (.y 27 (.e 28 (.y 29 .nil)))))))))))))))))))))))))))))) ye xF xD ?_
      refine yx ?_
      refine yx ?_
      refine yo O (qBD O O O xB) O O<|yo O ((qB8 (b:=4294967296) O O O xB).as (v':=NW (T1+T2)) (yY N64 (by simp only [yB]))) O O<|yx ?_
      refine yo O (qAC (i:=0) O O O qA8 qBV hv.sl xB) O O<|yo O (qAH O O qBe (m:=mv) xD (hv.sl.elem (i:=0) O)) O O<|yx ?_
      refine yo O (qAC (i:=1) O O O qA8 qBV hv.sl xB) O O<|yo O (qAH O O qBe (m:=mv) xD (hv.sl.elem (i:=1) O)) O O<|yx ?_
      refine yo O (qAC (i:=2) O O O qA8 qBV hv.sl xB) O O<|yo O (qAH O O qBe (m:=mv) xD (hv.sl.elem (i:=2) O)) O O<|yx ?_
      refine yo O (qAC (i:=3) O O O qA8 qBV hv.sl xB) O O<|yo O (qAH O O qBe (m:=mv) xD (hv.sl.elem (i:=3) O)) O O<|yx ?_
      refine yo O (qBD O O O xB) O O<|yo O ((qB8 (b:=4294967296) O O O xB).as (v':=NW (R.d+T1)) (yY N64 (by simp only [yB]))) O O<|yx ?_
      refine yo O (qAC (i:=4) O O O qA8 qBV hv.sl xB) O O<|yo O (qAH O O qBe (m:=mv) xD (hv.sl.elem (i:=4) O)) O O<|yx ?_
      refine yo O (qAC (i:=5) O O O qA8 qBV hv.sl xB) O O<|yo O (qAH O O qBe (m:=mv) xD (hv.sl.elem (i:=5) O)) O O<|yx ?_
      refine yo O (qAC (i:=6) O O O qA8 qBV hv.sl xB) O O<|yo O (qAH O O qBe (m:=mv) xD (hv.sl.elem (i:=6) O)) O O<|vD O (qAE (l:= [.tmp 246,.tmp 249,.tmp 252,.tmp 255,.tmp 261,.tmp 264,.tmp 267,.tmp 270]) (xs:= [[NW (T1+T2)],[NW (R.a)],[NW (R.b)],[NW (R.c)],[NW (R.d+T1)],[NW (R.e)],[NW (R.f)],[NW (R.g)]]) O O O O qA8 el49 O xC xC xD) O xD λg271 _=>?_
      change J _ _ _ [F,m25,m,blk g58 ((R3.wn (Sha.sched ((Sha.pad s).drop (64*b)))).map N64) 49,mv,blk g271 [NW (T1+T2),NW (R.a),NW (R.b),NW (R.c),NW (R.d+T1),NW (R.e),NW (R.f),NW (R.g)] 49] _
      refine vU ?_
      refine vM<|vB<|yq (yu C40 ?_)
      refine vW [0,1,2,3,5] [F,m25,m,blk g58 ((R3.wn (Sha.sched ((Sha.pad s).drop (64*b)))).map N64) 49,blk g271 [NW (T1+T2),NW (R.a),NW (R.b),NW (R.c),NW (R.d+T1),NW (R.e),NW (R.f),NW (R.g)] 49] O xC<|yt<|yh O<|yj ((qAM O O O xB).nat (i+1) xB) O<|yh O<|y8<|yq ?_
      rw [show [NW (T1+T2),NW (R.a),NW (R.b),NW (R.c),NW (R.d+T1),NW (R.e),NW (R.f),NW (R.g)]=(nws (Sha.rnd ((Sha.sched ((Sha.pad s).drop (64*b))).getD i 0) (Sha.K.getD i 0) R).list).map N64 by rw [hrn];rfl]
      refine vE (i+1,some ⟨g271,0,none⟩,8,blk g271 ((nws (Sha.rnd ((Sha.sched ((Sha.pad s).drop (64*b))).getD i 0) (Sha.K.getD i 0) R).list).map N64) 49) hI12 ⟨by dsimp only;omega,?_⟩ (Sub.of O) (λ_ h=>h)
      have e3:Sha.rnds (Sha.sched ((Sha.pad s).drop (64*b))) S (i+1)=Sha.rnd ((Sha.sched ((Sha.pad s).drop (64*b))).getD i 0) (Sha.K.getD i 0) R:=by rw [hR];exact Sha.rnds_succ _ _ _
      dsimp only
      rw [e3]
      exact qDs _ O
    refine vK<|y6<|y6<|vL ?_
    refine yq (yu C36 ?_)
    refine ym λ_ C46=>?_
    have hi64:i=64:=xB
    rw [hi64] at hR
    have hmx:(Sha.mixes Sha.init (Sha.pad s) (b+1))=S.add R:=by rw [Sha.mixes,<-hS,Sha.mix_eq,hR]
    have hl8:S.list.length=(S.add R).list.length:=rfl
    have hl82:(S.add R).list.length=8:=rfl
    refine vW [0,1,2,4] [F,m25,m,mv] O xC<|yt<|yh O<|yi C46<|yz<|vN (X:=Nat×Hp) (λx=> [(0,Str (Sha.pad s)),(3,.slice A25 64 c25),(4,.slice (some ⟨gh,0,none⟩) 8 c26),(7,I (64*b:Nat)),(14,.slice A 8 c),(21,I x.1)]) (λx=> [F,m25,x.2,mv]) (λx=>x.1<=8/\Row x.2 49 1 (some ⟨gh,0,none⟩) 8 c26 (qCZ (nws (R3.hv S.list (S.add R).list x.1)))) (λx=>8-x.1) (0,m) (⟨jH _,by rw [R3.hv_zero];exact hrow⟩) (Sub.of O) (λ_ h=>h) ?_
    rintro⟨i2,m2⟩ ⟨hi2,hrow2⟩ I14 hI14
    dsimp only at hi2 hrow2⊢
    have hvl:=R3.hv_length S.list (S.add R).list i2 hl8 xB
    refine ym λ_ C47=>yl λ_ C48=>yh O<|yj (qAP O O O) O<|yi C48<|y1 O (λh273=>?_) (λh273=>?_)
    .
      refine yy C47<|ym λ_ C49=>yz ?_
      have hg1:=R3.hv_get S.list (S.add R).list i2 hl8 xB
      have hg2:=R3.add_get S R i2 xB
      have b1:=(S.list.getD i2 0).toNat_lt
      have b2:=(R.list.getD i2 0).toNat_lt
      refine vQ [m2,mv] [13] (.y 0 (.y 1 (.y 2 (.y 3 (.y 4 (.y 5 (.y 6 (.y 7 (.y 8 (.y 9 (.y 10 (.y 11 (.y 12 (.e 13 .nil)))))))))))))) ye xF xD ?_
      iterate 4 refine yx ?_
      refine yo O (qAY (i:=i2) (j:=i2) O O O qA8 qBV xB xB) O O<|yo O ((qAH O O qBe (m:=m2) xD (by have:=hrow2.sl.elem (qC3 (k:=i2) (by rw [jJ];omega));rw [qPd,Nat.mul_one] at this;exact this)).as (v':=NW (S.list.getD i2 0)) (yY N64 (by rw [R3.map_getD _ _ xB,hg1]))) O O<|yx ?_
      refine yx ?_
      refine yo O (qAC O O O qA8 qBV hv.sl xB) O O<|yo O ((qAH O O qBe (m:=mv) xD (hv.sl.elem (qC3 (k:=i2) (by rw [jJ];show i2<8;omega)))).as (v':=NW (R.list.getD i2 0)) (yY N64 (R3.map_getD R.list i2 (by show i2<8;omega)))) O O<|yo O (qBD O O O xB) O O<|yo O ((qB8 (b:=4294967296) O O O xB).as (v':=NW ((S.add R).list.getD i2 0)) (yY N64 (by rw [hg2,yB]))) O O<|yo O (qAY (i:=i2) (j:=i2) O O O qA8 qBV xB xB) O O<|vZ O (qBr (i:=2) O O O O hrow2 O qBV O xB (qC3 (k:=i2) (by rw [jJ];omega)) O (jL _)) O O O ?_
      rintro m288 h288
      have h288:Row m288 49 1 (some ⟨gh,0,none⟩) 8 c26 (qCZ (nws (R3.hv S.list (S.add R).list (i2+1)))):=by
        rw [<-R3.hv_set _ _ _ hl8 xB]
        have e5:(qCZ (nws (R3.hv S.list (S.add R).list i2))).set i2 [NW ((S.add R).list.getD i2 0)]=qCZ (nws ((R3.hv S.list (S.add R).list i2).set i2 ((S.add R).list.getD i2 0))):=by unfold qCZ nws;rw [List.map_set,List.map_set]
        rw [<-e5];exact h288
      refine vM<|vB<|yq (yu C49 ?_)
      exact yt<|yh O<|yj ((qAM O O O xB).nat (i2+1) xB) O<|yh O<|y8<|yq<|vE (i2+1,m288) hI14 ⟨by dsimp only;omega,h288⟩ (Sub.of O) (λ_ h=>h)
    refine vK<|y6<|y6<|vL ?_
    refine vB<|yq (yu C17 ?_)
    exact vW [0,1,2] [F,m25,m2] O xC<|yt<|yh O<|yj ((qAM O O O xB).nat (64*(b+1)) xB) O<|yh O<|y8<|yq<|vE (b+1,m2) hI4 ⟨by dsimp only;omega,by dsimp only;rw [hmx];rw [show i2=(S.add R).list.length by omega,R3.hv_full _ _ hl8] at hrow2;exact hrow2⟩ (Sub.of O) (λ_ h=>h)
  refine vK<|y6<|y6<|vL ?_
  refine yq (yu C13 ?_)
  refine ym λ_ C50=>?_
  have hbe:b=(Sha.pad s).length/64:=xB
  have hout:Sha.sum s=Sha.out S:=by rw [hS,hbe];rfl
  refine yt<|yh O<|yi C50<|ym λ_ C51=>yl λ_ C52=>yh O<|yi C52<|yz<|vN (λi:Nat=> [(4,.slice (some ⟨gh,0,none⟩) 8 c26),(22,Str (R3.outs S.list i)),(23,I i)]) (λ_=> [F,m]) (λi=>i<=8) (λi=>8-i) 0 (jH _) (Sub.of O) (λ_ h=>h.pick [0,2] xC) ?_
  intro i hi I16 hI16
  have hol:(R3.outs S.list i).length<=32:=R3.outs_length S.list i
  refine ym λ_ C53=>yl λ_ C54=>yh O<|yj (qAP O O O) O<|yi C54<|y1 O (λh290=>?_) (λh290=>?_)
  .
    refine yy C53<|ym λ_ C55=>yz<|yl λ_ C56=>yh O<|yi C56<|yz<|vN (λt:Nat=> [(4,.slice (some ⟨gh,0,none⟩) 8 c26),(22,Str ((R3.outs S.list i)++(Sha.numB (S.list.getD i 0).toUInt64 4).take t)),(23,I i),(24,I (3-(t:Int)))]) (λ_=> [F,m]) (λt=>t<=4) (λt=>4-t) 0 (jH _) ⟨O,yY (λl=>some (Str l)) (jS _).symm,O,O,yd⟩ (λ_ h=>h) ?_
    intro t ht I18 hI18
    refine ym λ_ C57=>yl λ_ C58=>yh O<|yj (qA1 O O O) O<|yi C58<|y1 O (λh294=>?_) (λh294=>?_)
    .
      refine yy C57<|ym λ_ C59=>yz ?_
      have b1:=(S.list.getD i 0).toNat_lt
      have hdv:(S.list.getD i 0).toNat/2^(8*(3-t))<18446744073709551616:=jx (jv _ _) xB
      refine yt<|yn 3 O<|yj (qAC O O O qA8 qBV hrow.sl xB) O<|yj ((qAH O O qBe (m:=m) xD (hrow.sl.elem (qC3 (k:=i) (by rw [jJ];show i<8;omega)))).as (v':=NW (S.list.getD i 0)) (yY N64 (R3.map_getD S.list i (by show i<8;omega)))) O<|yj ((qAT O O).nat (3-t) xB) O<|yj ((qCA O O O xB).nat (8*(3-t)) xB) O<|yp (qAZ O O (λF' hF=>qCO F' (S.list.getD i 0).toNat (8*(3-t)) xB xB)) O λg304 _=>yj (qCu O O qDJ u5_ hdv) O<|yp (qAE (l:= [.tmp 305]) (xs:= [[B8 (UInt8.ofNat ((S.list.getD i 0).toNat/2^(8*(3-t))))]]) O O O O qBo el5 O xC xC xD) O λg306 _=>yj (qBO (l:= [(UInt8.ofNat ((S.list.getD i 0).toNat/2^(8*(3-t))))]) O O qBo u5_ u9_ (m:=blk g306 [B8 (UInt8.ofNat ((S.list.getD i 0).toNat/2^(8*(3-t))))] 5) xD (qAj (q:=True) (xs:= [[B8 (UInt8.ofNat ((S.list.getD i 0).toNat/2^(8*(3-t))))]]) O xD).sl) O<|yj ((qAq O O O (by simp [Sha.numB_length];omega)).as (v':=Str ((R3.outs S.list i)++(Sha.numB (S.list.getD i 0).toUInt64 4).take (t+1))) (by rw [R3.num4 _ t xB,<-jM])) O<|yh O<|y8<|vB<|yq (yu C59 ?_)
      exact vW [0,1] [F,m] O xC<|yt<|yh O<|yj ((qAm O O O xB).as (v':=I (3-((t+1:Nat):Int))) (yY I xB)) O<|yh O<|y8<|yq<|vE (t+1) hI18 xB (Sub.of O) (λ_ h=>h)
    refine vK<|y6<|y6<|vL ?_
    refine vB<|yq (yu C55 ?_)
    exact yt<|yh O<|yj ((qAM O O O xB).nat (i+1) xB) O<|yh O<|y8<|yq<|vE (i+1) hI16 xB ⟨O,by rw [R3.outs_succ _ _ (by show i<8;omega),show t=4 by omega,jV (by rw [Sha.numB_length];exact jL _)];rfl,O,yd⟩ (λ_ h=>h)
  refine vK<|y6<|y6<|vL ?_
  refine yq (yu C51 ?_)
  refine ym λ_ C60=>?_
  have hi8:i=8:=xB
  subst hi8
  exact yt<|yn 2 O<|yi C60<|yr<|yw hw0 O () (by rw [hout,<-R3.outs_full]) yd [0] O xC
end Go.Proofs.YtmemgokiolfdoaaGreatDoor
namespace Go.Proofs.YtmemgokiolfdoaaGreatDoor
open Go Go.Fw Go.Proofs.Tryz
def qCd(ok:Bool)(e bad:Int):Int:=if ok=false/\bad=0 then e else bad
def qIF(ok:Bool)(e bad:Int)(l:yU):yU:=if ok=false/\bad=0 then qBS l 2 [I e] else l
theorem qKA{ok:Bool}{e bad:Int}{l:yU}(hl:l.length=3):(qIF ok e bad l).length=3:=by
 unfold qIF
 split
 . rw [qEL xB];exact hl
 . exact hl
theorem qKC{ok:Bool}{e bad:Int}{l:yU}(hl:l.length=3)(hb:l[2]?=some (I bad)):(qIF ok e bad l)[2]?=some (I (qCd ok e bad)):=by
 unfold qIF qCd
 split
 . exact qDX xB
 . exact hb
theorem qKB{ok:Bool}{e bad:Int}{g:Nat}{l:yU}{mr:Hp}{bs:xA}{A:yS}{c:Nat}{p:yS}(hl:l.length=3)(hb:Bld g 0 l mr bs A c p):Bld g 0 (qIF ok e bad l) mr bs A c p:=by
 unfold qIF
 split
 . exact⟨(qCE xB xC).trans hb.a0,hb.self,(qCE xB xC).trans hb.a1,hb.row,hb.cap⟩
 . exact hb
theorem qSe(F:Hp)(g:Nat)(l:yU)(hl:l.length=3)(bad:Int)(hb:l[2]?=some (I bad))(e:Int):
    Ct prog 134 [Ptr g,.bool true,I e] [blk g l 148,F] (λ_:Unit=> .bool (decide (qCd true e bad=0))) (λ_=>True) (λ_=> [blk g (qIF true e bad l) 148,F]):=by
  refine y7 func134 O ntmps134 O (λw0 hw0=>?_)
  refine yl λ_ C1=>yh O<|yi C1<|ym λ_ C2=>yl λ_ C3=>yh O<|yj (qA5 O O) O<|yn 7 O<|yi C3<|vC ?_
  exact yy C2<|yl λ_ C4=>yh O<|yj (qAB O O) O<|vA 2 qHM qJL O O O O O<|yj (qAD 0 O O O qPk (by first|exact hb|exact qDX xB)) O<|yj (qAR O O O) O<|yh O<|yi C4<|yr<|yw hw0 O () (yY Value.bool (decide_eq_decide.2 (by unfold qCd;rw [yW (show¬(true=false/\bad=0) from λh=>by cases h.1)]))) yd [0,1] (by show [blk g _ _,F]= [blk g (qIF true e bad l) _,F];unfold qIF;rw [yW (show¬(true=false/\bad=0) from λh=>by cases h.1)]) xC
theorem qPb(F:Hp)(g:Nat)(l:yU)(hl:l.length=3)(bad:Int)(hb:l[2]?=some (I bad))(e:Int):
    Ct prog 134 [Ptr g,.bool false,I e] [blk g l 148,F] (λ_:Unit=> .bool (decide (qCd false e bad=0))) (λ_=>True) (λ_=> [blk g (qIF false e bad l) 148,F]):=by
  refine y7 func134 O ntmps134 O (λw0 hw0=>?_)
  refine yl λ_ C1=>yh O<|yi C1<|ym λ_ C2=>yl λ_ C3=>yh O<|yj (qA5 O O) O<|yn 2 O<|yv (qAB O O) O<|yv (qAA O O qHM O qJL O) O<|yv (qAD 0 O O O qPk hb) O<|yv (qAR O O O) O<|yh O<|yi C3<|y1 O (λh15=>?_) (λh15=>?_)
  .
    exact yt<|yn 2 O<|yj (qAB O O) O<|vA 2 qHM qJL O O O O O<|vG (qAU (i:=0) O O O O O qJL O (by rw [hl];exact jL 3)) O O λ_ _=>yi C2<|yl λ_ C4=>yh O<|yj (qAB O O) O<|vA 2 qHM qJL O O O O O<|yj (qAD 0 O O O qPk (by first|exact hb|exact qDX xB)) O<|yj (qAR O O O) O<|yh O<|yi C4<|yr<|yw hw0 O () (yY Value.bool (decide_eq_decide.2 (by unfold qCd;rw [yX (show false=false/\bad=0 from⟨O,xB⟩)]))) yd [0,1] (by show [blk g _ _,F]= [blk g (qIF false e bad l) _,F];unfold qIF;rw [yX (show false=false/\bad=0 from⟨O,xB⟩)]) xC
  exact yy C2<|yl λ_ C5=>yh O<|yj (qAB O O) O<|vA 2 qHM qJL O O O O O<|yj (qAD 0 O O O qPk (by first|exact hb|exact qDX xB)) O<|yj (qAR O O O) O<|yh O<|yi C5<|yr<|yw hw0 O () (yY Value.bool (decide_eq_decide.2 (by unfold qCd;rw [yW (show¬(false=false/\bad=0) from λh=>h15 h.2)]))) yd [0,1] (by show [blk g _ _,F]= [blk g (qIF false e bad l) _,F];unfold qIF;rw [yW (show¬(false=false/\bad=0) from λh=>h15 h.2)]) xC
theorem qMr(F:Hp)(g:Nat)(l:yU)(hl:l.length=3)(bad:Int)(hb:l[2]?=some (I bad))(ok:Bool)(e:Int):
    Ct prog 134 [Ptr g,.bool ok,I e] [blk g l 148,F] (λ_:Unit=> .bool (decide (qCd ok e bad=0))) (λ_=>True) (λ_=> [blk g (qIF ok e bad l) 148,F]):=by
  cases ok
  . exact qPb F g l hl bad hb e
  . exact qSe F g l hl bad hb e
def Wtr(m:Hp)(g:Nat)(bs:xA)(bad:Int):Prop:= ∃l mr A c p,m=U [blk g l 148,mr]/\Dj (blk g l 148) mr/\l.length=3/\Bld g 0 l mr bs A c p/\l[2]?=some (I bad)
theorem lies(l:yU)(hl:l.length=3):liesAt prog prog.depth 148 (l.length/prog.cellsOf 148) 0 146 1=true:=by rw [hl];kernel_rfl
def okN(n:UInt64)(size:Nat):Bool:=decide (n.toNat<2^(8*size))
def qL8(n:UInt64)(size:Nat)(bs:xA)(bad:Int):xA:=if qCd (okN n size) 10 bad=0 then bs++Sha.numB n size else bs
def okF(s:xA)(size:Nat):Bool:=decide (s.length=size)
def qKZ(s:xA)(size:Nat)(bs:xA)(bad:Int):xA:=if qCd (okF s size) 10 bad=0 then bs++s else bs
theorem qRk(n:UInt64)(size t:Nat)(h:t<size):(Sha.numB n size).take (t+1)=(Sha.numB n size).take t++ [(UInt64.ofNat (n.toNat/2^min (8*(size-1-t)) 64)).toUInt8]:=by
 rw [jP (by rw [Sha.numB_length];exact h)]
 congr 2
 simp [Sha.numB]
theorem qT8(n:UInt64)(size:Nat)(h:size<8):(((UInt64.ofNat (n.toNat/2^min (8*size) 64)).toNat:Int)=0)↔n.toNat<2^(8*size):=by
  have hn:=n.toNat_lt
  rw [z8,jX (jx (jv _ _) hn),jq xB]
  have hp:=jy (8*size)
  constructor
  . intro h0
    have h1:n.toNat/2^(8*size)=0:=xB
    rcases Nat.div_eq_zero_iff.1 h1 with h2|h2
    . omega
    . exact h2
  . intro h0
    rw [zC h0];rfl
theorem qFY(F m:Hp)(g:Nat)(bs:xA)(bad:Int)(hw:Wtr m g bs bad)(hlen:bs.length<=1099511627776)(n:UInt64)(size:Nat)(h1:1<=size)(h8:size<8):
    Ct prog 133 [Ptr g,W64 n,I size] [m,F] (λ_:Hp=>Ptr g) (λm'=>Wtr m' g (qL8 n size bs bad) (qCd (okN n size) 10 bad)) (λm'=> [m',F]):=by
  obtain ⟨l,mr,A,c,p,rfl,hd,hl,hb,hbad⟩:=hw
  have hfl:=qKA (ok:=(okN n size)) (e:=10) (bad:=bad) hl
  have hfb:=qKB (ok:=(okN n size)) (e:=10) (bad:=bad) hl hb
  have hf2:=qKC (ok:=(okN n size)) (e:=10) hl hbad
  refine y7 func133 O ntmps133 O (λw0 hw0=>?_)
  refine wF hd ?_
  refine yl λ_ C1=>yh O<|yi C1<|ym λ_ C2=>yl λ_ C3=>yh O<|yj ((qBL underlying149 O O O).as (v':= .bool false) O) O<|yn 3 O<|yv ((qA1 O O O).yes xB) O<|yn 2 O<|yv ((qBQ O O O).yes xB) O<|yn 3 O<|yv ((qAR O O O).no xB) O<|yn 3 O<|yv ((qCA O O O xB).nat (8*size) xB) O<|yv (qGw O O O) O<|yv ((qAR O O O).as (v':= .bool (okN n size)) (yY Value.bool (by unfold okN;exact decide_eq_decide.2 (qT8 n size h8)))) O<|yn 2 O<|vg (qAJ O O ent (vR 0 O (λF' _=>qMr F' g l hl bad hbad (okN n size) 10))) O λg29 _=>yv (qHc O O) O<|yh O<|yi C3<|y1 O (λh31=>?_) (λh31=>?_)
  .
    exact yl λ_ C4=>yn 2 O<|yi C4<|yr<|y5<|vH hw0 (λ_ _ h=>h) (qIM O O) (qCf (U [blk g (qIF (okN n size) 10 bad l) 148,mr]) O (λhd=>⟨_,mr,A,c,p,O,hd,hfl,by unfold qL8;rw [yW xB];exact hfb,hf2⟩) [0,1,2] O O xC)
  refine yy C2<|ym λ_ C5=>ym λ_ C6=>?_
  have hok:qCd (okN n size) 10 bad=0:=xB
  refine yt<|yh O<|yj ((qAm O O O xB).as (v':=I ((size:Int)-1-((0:Nat):Int))) (yY I xB)) O<|yh O<|yi C6<|yz<|vN (X:=Nat×yU×Hp) (λx=> [(0,Ptr g),(1,W64 n),(7,I ((size:Int)-1-(x.1:Int)))]) (λx=> [blk g x.2.1 148,x.2.2,F]) (λx=>x.1<=size/\x.2.1.length=3/\x.2.1[2]?=some (I (qCd (okN n size) 10 bad))/\ ∃A c p,Bld g 0 x.2.1 x.2.2 (bs++(Sha.numB n size).take x.1) A c p) (λx=>size-x.1) (0,(qIF (okN n size) 10 bad l),mr) (⟨jH _,hfl,hf2,A,c,p,by rw [zV,jS];exact hfb⟩) (Sub.of O) (λ_ h=>h) ?_
  rintro⟨t,l2,mr2⟩ ⟨ht,hl2,hbad2,A2,c2,p2,hb2⟩ I0 hI0
  dsimp only at ht hl2 hbad2 hb2⊢
  refine ym λ_ C7=>yl λ_ C8=>yh O<|yj (qA1 O O O) O<|yi C8<|y1 O (λh36=>?_) (λh36=>?_)
  .
    refine yy C7<|ym λ_ C9=>yz<|vQ [] [] (.y 0 (.y 1 (.y 2 (.y 3 (.y 4 (.y 5 (.y 6 (.y 7 (.e 8 .nil))))))))) ye xF xD ?_
    refine yx ?_
    refine yo O (qAB O O) O O<|yo O (qAA O O qHM O sizeOf146 O) O O<|yx ?_
    refine yo O ((qAT O O).nat (size-1-t) xB) O O<|yo O ((qCA O O O xB).nat (8*(size-1-t)) xB) O O<|yo O (qGw O O O) O O<|yo O (qEQ O O qDJ u5_) O O<|vD O (qAJ O O ent (vi [blk g l2 148,mr2] [F] (A':=λx:yU×Hp=> [blk g x.1 148,x.2]) (new:=λ_=> []) (λF' _=>qKW F' mr2 g 148 0 l2 (bs++(Sha.numB n size).take t) A2 c2 p2 hb2 (lies l2 hl2) ((UInt64.ofNat (n.toNat/2^min (8*(size-1-t)) 64)).toUInt8) (by rw [jA,jF,Sha.numB_length];omega)))) O xD ?_
    rintro⟨l3,mr3⟩ ⟨A3,c3,hb3,hu3⟩
    dsimp only at hb3 hu3
    rw [jM,<-qRk n size t xB] at hb3
    refine vM<|vB<|yq (yu C9 ?_)
    exact yt<|yh O<|yj ((qAm O O O xB).as (v':=I ((size:Int)-1-((t+1:Nat):Int))) (yY I xB)) O<|yh O<|y8<|yq<|vE (t+1,l3,mr3) hI0 ⟨by dsimp only;omega,hu3.1.trans hl2,(hu3.2 2 xC xC).trans hbad2,A3,c3,_,hb3⟩ (Sub.of O) (λ_ h=>h)
  refine vK<|y6<|y6<|vL ?_
  refine yq (yu C5 ?_)
  refine ym λ_ C10=>?_
  have hts:t=size:=xB
  subst hts
  rw [jV (by rw [Sha.numB_length];exact jL _)] at hb2
  exact yt<|yn 2 O<|yi C10<|yr<|vH hw0 (λ_ _ h=>h) (qIM O O) (qCf (U [blk g l2 148,mr2]) O (λhd=>⟨l2,mr2,A2,c2,p2,O,hd,hl2,by unfold qL8;rw [yX hok];exact hb2,hbad2⟩) [0,1,2] O O xC)
theorem qDU(F m:Hp)(g:Nat)(bs:xA)(bad:Int)(hw:Wtr m g bs bad)(hlen:bs.length<=1099511627776)(s:xA)(hs:s.length<=1099511627776)(size:Nat):
    Ct prog 60 [Ptr g,Str s,I size] [m,F] (λ_:Hp=>Ptr g) (λm'=>Wtr m' g (qKZ s size bs bad) (qCd (okF s size) 10 bad)) (λm'=> [m',F]):=by
  obtain ⟨l,mr,A,c,p,rfl,hd,hl,hb,hbad⟩:=hw
  have hfl:=qKA (ok:=(okF s size)) (e:=10) (bad:=bad) hl
  have hfb:=qKB (ok:=(okF s size)) (e:=10) (bad:=bad) hl hb
  have hf2:=qKC (ok:=(okF s size)) (e:=10) hl hbad
  refine y7 func60 O ntmps60 O (λw0 hw0=>?_)
  refine wF hd ?_
  refine yl λ_ C1=>yh O<|yi C1<|ym λ_ C2=>yl λ_ C3=>yh O<|yj ((qWb underlying149 O O O).as (v':= .bool true) O) O<|yn 3 O<|yv (qAn u9_ O O) O<|yh O<|yv ((qAR O O O).as (v':= .bool (okF s size)) (yY Value.bool (by unfold okF;exact decide_eq_decide.2 xB))) O<|vg (qAJ O O ent (vR 0 O (λF' _=>qMr F' g l hl bad hbad (okF s size) 10))) O λg15 _=>yh O<|yi C3<|y1 O (λh16=>?_) (λh16=>?_)
  .
    refine yt<|yh O<|yj (qAB O O) O<|vA 0 qHM sizeOf146 O O O O O<|yh O<|yp (qAJ O O ent (vi [blk g (qIF (okF s size) 10 bad l) 148,mr] [F] (A':=λx:yU×Hp=> [blk g x.1 148,x.2]) (new:=λ_=> []) (λF' _=>qBb F' mr g 148 0 (qIF (okF s size) 10 bad l) bs A c p hfb (lies _ hfl) s xB))) O ?_
    rintro⟨l3,mr3⟩ ⟨A3,c3,hb3,hu3⟩
    dsimp only at hb3 hu3
    exact yi C2<|yl λ_ C4=>yn 2 O<|yi C4<|yr<|vH hw0 (λ_ _ h=>h) (qIM O O) (qCf (U [blk g l3 148,mr3]) O (λhd=>⟨l3,mr3,A3,c3,_,O,hd,hu3.1.trans hfl,by unfold qKZ;rw [yX xG];exact hb3,(hu3.2 2 xC xC).trans hf2⟩) [0,1,2] O O xC)
  exact yy C2<|yl λ_ C5=>yn 2 O<|yi C5<|yr<|vH hw0 (λ_ _ h=>h) (qIM O O) (qCf (U [blk g (qIF (okF s size) 10 bad l) 148,mr]) O (λhd=>⟨_,mr,A,c,p,O,hd,hfl,by unfold qKZ;rw [yW xG];exact hfb,hf2⟩) [0,1,2] O O xC)
theorem qOU{P:Program}{X:Type}{f:FuncId}{vs:yU}{a b:Hp}{r:List Hp}{val:X->Value}{φ:X->Prop}{A B:X->Hp}{ψ:Hp->Prop}{v:Value}(hd:Dj a b)(hv: ∀x,φ x->val x=v)(hp: ∀x,φ x->Dj (A x) (B x)->ψ (U [A x,B x]))(h:Ct P f vs (a::b::r) val φ (λx=>A x::B x::r)):Ct P f vs (U [a,b]::r) (λ_:Hp=>v) ψ (λm=>m::r):=
 λw0 w hs=>(h w0 w (hs.splitU hd)).mono λe w' ⟨x,he,hx,hs'⟩=>⟨U [A x,B x],by rw [he,hv x hx],hp x hx hs'.dj2,hs'.joinU⟩
theorem failW(F m:Hp)(g:Nat)(bs:xA)(bad:Int)(hw:Wtr m g bs bad)(hlen:bs.length<=1099511627776)(ok:Bool)(e:Int):
    Ct prog 134 [Ptr g,.bool ok,I e] [m,F] (λ_:Hp=> .bool (decide (qCd ok e bad=0))) (λm'=>Wtr m' g bs (qCd ok e bad)) (λm'=> [m',F]):=by
  obtain ⟨l,mr,A,c,p,rfl,hd,hl,hb,hbad⟩:=hw
  exact qOU (A:=λ_:Unit=>blk g (qIF ok e bad l) 148) (B:=λ_=>mr) hd (λ_ _=>rfl) (λ_ _ hd'=>⟨_,mr,A,c,p,O,hd',qKA hl,qKB hl hb,qKC hl hbad⟩) (vR 0 (m':=λ_:Unit=>blk g (qIF ok e bad l) 148) (new:=λ_=> []) O (λF' _=>qMr F' g l hl bad hbad ok e))
theorem qKV(F m:Hp)(g:Nat)(bs:xA)(bad:Int)(hw:Wtr m g bs bad)(hlen:bs.length<=2199023255552)(s:xA)(hs:s.length<=1099511627776):
    Ct prog 111 [.pointer (some ⟨g,0,none⟩),Str s] [m,F] (λ_:Hp=> .tuple #[I s.length,.nilIface]) (λm'=>Wtr m' g (bs++s) bad) (λm'=> [m',F]):=by
  obtain ⟨l,mr,A,c,p,rfl,hd,hl,hb,hbad⟩:=hw
  exact qOU (A:=λx:yU×Hp=>blk g x.1 148) (B:=λx=>x.2) hd (λ_ _=>rfl) (λx hx hd'=>by obtain ⟨A3,c3,hb3,hu3⟩:=hx;exact⟨x.1,x.2,A3,c3,_,O,hd',hu3.1.trans hl,hb3,(hu3.2 2 xC xC).trans hbad⟩) (qBb F mr g 148 0 l bs A c p hb (lies l hl) s xB)
def okT(s:xA):Bool:=decide (s.length<=4096)
def qL5(s:xA)(bs:xA)(bad:Int):xA:=if qCd (okT s) 2 bad=0 then bs++Sha.numB (UInt64.ofNat s.length) 2++s else bs
theorem qXM{s:xA}{bad:Int}(h:qCd (okT s) 2 bad=0):s.length<=4096/\bad=0:=by
  unfold qCd okT at h
  split at h
  . omega
  . rename_i h1
    refine⟨?_,h⟩
    simp only [decide_eq_false_iff_not] at h1
    omega
theorem qRd{n:Nat}(h:n<=4096):okN (UInt64.ofNat n) 2=true:=by
 unfold okN
 rw [decide_eq_true_iff,z8,jX xB]
 omega
theorem qEG{n:UInt64}{size:Nat}{bs:xA}(h:okN n size=true):qL8 n size bs 0=bs++Sha.numB n size:=by
 unfold qL8 qCd
 rw [h];rfl
theorem qQN(F m:Hp)(g:Nat)(bs:xA)(bad:Int)(hw:Wtr m g bs bad)(hlen:bs.length<=1099511627776)(s:xA)(hs:s.length<=1099511627776):
    Ct prog 59 [Ptr g,Str s] [m,F] (λ_:Hp=>Ptr g) (λm'=>Wtr m' g (qL5 s bs bad) (qCd (okT s) 2 bad)) (λm'=> [m',F]):=by
  refine y7 func59 O ntmps59 O (λw0 hw0=>?_)
  refine yl λ_ C1=>yh O<|yi C1<|ym λ_ C2=>yl λ_ C3=>yh O<|yj ((qBL underlying149 O O O).as (v':= .bool false) O) O<|yn 3 O<|yv (qAn u9_ O O) O<|yv ((qBQ O O O).as (v':= .bool (okT s)) (yY Value.bool (by unfold okT;exact decide_eq_decide.2 xB))) O<|vg (qAJ O O ent (failW F m g bs bad hw hlen (okT s) 2)) O ?_
  rintro m1 hw1
  refine yv (qHc O O) O<|yh O<|yi C3<|y1 O (λh14=>?_) (λh14=>?_)
  .
    exact yl λ_ C4=>yn 2 O<|yi C4<|yr<|y5<|yw hw0 O m1 O (by unfold qL5;rw [yW xB];exact hw1) [0,1] O xC
  refine yy C2<|ym λ_ C5=>?_
  have hok:qCd (okT s) 2 bad=0:=xB
  have hs4:=(qXM hok).1
  rw [hok] at hw1
  refine yt<|yn 2 O<|yj (qAn u9_ O O) O<|yj (qBC O O u3_ qDJ xB) O<|yp (qAJ O O ent ((qFY F m1 g bs 0 hw1 hlen (UInt64.ofNat s.length) 2 xB xB))) O ?_
  rintro m2 hw2
  rw [qEG (qRd hs4),qRd hs4] at hw2
  refine yi C5<|yl λ_ C6=>yh O<|yj (qAB O O) O<|vA 0 qHM sizeOf146 O O O O O<|yh O<|yp (qAJ O O ent (qKV F m2 g (bs++Sha.numB (UInt64.ofNat s.length) 2) 0 hw2 (by rw [jA,Sha.numB_length];omega) s hs)) O ?_
  rintro m3 hw3
  exact yi C6<|yl λ_ C7=>yn 2 O<|yi C7<|yr<|yw hw0 O m3 O (by unfold qL5;rw [yX hok,hok];exact hw3) [0,1] O xC
theorem qEo(F m:Hp)(g:Nat)(bs:xA)(bad:Int)(hw:Wtr m g bs bad)(hlen:bs.length<=2199023255552):
    Ct prog 61 [Ptr g] [m,F] (λ_:Hp=> .tuple #[Str (if bad=0 then bs else []),I bad]) (λm'=>Wtr m' g bs bad) (λm'=> [m',F]):=by
  obtain ⟨l,mr,A,c,p,rfl,hd,hl,hb,hbad⟩:=hw
  refine y7 func61 O ntmps61 O (λw0 hw0=>?_)
  refine wF hd ?_
  refine yl λ_ C1=>yn 2 O<|yi C1<|ym λ_ C2=>yz<|yl λ_ C3=>yh O<|yj ((qBL underlying149 O O O).as (v':= .bool false) O) O<|yh O<|yi C3<|vC ?_
  refine yl λ_ C4=>yh O<|yj (qAB O O) O<|vA 2 qHM qJL O O O O O<|yj (qAD 0 O O O qPk hbad) O<|yj (qAQ O O O) O<|yh O<|yi C4<|y1 O (λh7=>?_) (λh7=>?_)
  .
    refine ym λ_ C5=>vQ [blk g l 148,mr,F] [] (.y 0 (.y 1 (.y 2 (.y 3 (.y 4 (.y 5 .nil)))))) ye xF xD ?_
    refine yx ?_
    refine yo O (qAB O O) O O<|yo O (qAA O O qHM O qJL O) O O<|yo O (qAD 0 O O O qPk hbad) O O<|vU ?_
    refine vU ?_
    refine vM<|yq (yu C5 ?_)
    exact yr<|vI<|y5<|vH hw0 (λ_ _ h=>h) (qB5 O O O) (qCf (U [blk g l 148,mr]) (by rw [yW xB]) (λhd=>⟨l,mr,A,c,p,O,hd,hl,hb,hbad⟩) [0,1,2] O O xC)
  refine vP<|vB<|yq (yu C2 ?_)
  refine ym λ_ C6=>?_
  have hz:bad=0:=xB
  subst hz
  refine yt<|yh O<|yj (qAB O O) O<|vA 0 qHM sizeOf146 O O O O O<|yp (qAJ O O ent (vi [blk g l 148,mr] [F] (A':=λx:Hp=> [blk g l 148,x]) (new:=λ_=> []) (λF' _=>qEq F' mr g 148 0 l bs A c p hb xB))) O ?_
  rintro mr2 hb2
  exact yn 2 O<|yi C6<|yr<|vH hw0 (λ_ _ h=>h) (qB5 O O O) (qCf (U [blk g l 148,mr2]) (O) (λhd=>⟨l,mr2,A,c,p,O,hd,hl,hb2,hbad⟩) [0,1,2] O O xC)
structure RS where
 s:xA
 bad:Int
def RS.can(st:RS)(size:Nat):Bool:=decide (st.bad=0/\size<=st.s.length)
def RS.out(st:RS)(size:Nat):xA:=if st.bad=0/\size<=st.s.length then st.s.take size else []
def RS.take(st:RS)(size:Nat):RS:=if st.bad=0 then(if size<=st.s.length then⟨st.s.drop size,0⟩ else⟨st.s,3⟩) else st
def RS.form(st:RS):RS:=if st.bad=0 then⟨st.s,4⟩ else st
def qBd(l:xA):Nat:=l.foldl (λn c=>n*256+c.toNat) 0
theorem qRt(l:xA)(t:Nat)(ht:t<l.length):qBd (l.take (t+1))=qBd (l.take t)*256+(l[t]'ht).toNat:=by
 rw [jP ht,qBd,z6];rfl
theorem qRu(l:xA)(c:UInt8):qBd (l++ [c])=qBd l*256+c.toNat:=by
 rw [qBd,z6];rfl
theorem qU2(l:xA):qBd l.reverse<256^l.length:=by
 induction l with
 |nil=>decide
 |cons c l ih=>
  rw [List.reverse_cons,qRu,jC,ju]
  have:=c.toNat_lt
  omega
theorem qE9(l:xA):qBd l<256^l.length:=by
 have:=qU2 l.reverse
 rwa [List.reverse_reverse,List.length_reverse] at this
theorem RS.out_len(st:RS)(size:Nat):(st.out size).length<=size:=by
 unfold RS.out
 split
 . rw [jF];omega
 . exact jH _
theorem qYS(l:xA)(n t:Nat)(h:l.length<=n)(hn:n<=8)(ht:t<l.length):qBd (l.take t)<72057594037927936:=
 j8 (qE9 _) (jf (jZ xB (show(l.take t).length<=7 by rw [jF];omega)) xC)
def RSb(g:Nat)(st:RS):Hp:=blk g [Str st.s,I st.bad] 314
theorem qYB{P:Program}{env:Env}{rs:List Hp}{o:Oper}{t t':TypeId}{x y:Operand}{a m:Nat}{yk:IntKind}(ho:o.op= .binOp .shl t x y t')(hx:ev env x=some (N64 a))(hy:ev env y=some (.int yk (m:Nat)))(hm:m<=64)(hr:a<18446744073709551616/\a*2^m<18446744073709551616):YOp P env rs o (N64 (a*2^m)):=by
 rw [N_W hr.1] at hx
 exact(qUi ho hx hy).as (by show Value.int .u64 _=Value.int .u64 _;rw [qA3 hr.1,jq hm,qA3 hr.2])
theorem qZs{P:Program}{env:Env}{rs:List Hp}{o:Oper}{t t':TypeId}{x y:Operand}{a b:Nat}(ho:o.op= .binOp .or t x y t')(hx:ev env x=some (N64 a))(hy:ev env y=some (N64 b))(hr:a<18446744073709551616/\b<18446744073709551616):YOp P env rs o (N64 (a|||b)):=by
 rw [N_W hr.1] at hx
 rw [N_W hr.2] at hy
 exact(qYE ho hx hy).as (by show Value.int .u64 _=Value.int .u64 _;rw [UInt64.toNat_or,qA3 hr.1,qA3 hr.2])
theorem qZr(a b:Nat)(h:b<256):a*2^8|||b=a*256+b:=by
 rw [zi,<-Nat.two_pow_add_eq_or_of_lt (i:=8) h]
theorem qE2(F:Hp)(s:xA):
    Ct prog 122 [Str s] [F] Ptr (λ_=>True) (λg=> [RSb g ⟨s,0⟩,F]):=by
  refine y7 func122 O ntmps122 O (λw0 hw0=>?_)
  refine yl λ_ C1=>yh O<|yi C1<|yl λ_ C2=>yh O<|yj (qAK (places:= [(0,1),(1,1)]) (r:= [Str s,I 0]) O O O qGX zeroValue314 (λ_=>xH) O) O<|yp (qAi O O O) O ?_
  rintro g5 _
  exact yh O<|yi C2<|yr<|yw hw0 O g5 O yd [1,0] O xC
theorem qQP(F:Hp)(g:Nat)(st:RS)(size:Nat):
    Ct prog 201 [Ptr g,I size] [RSb g st,F] (λ_:Unit=> .tuple #[Str (st.out size),.bool (st.can size)]) (λ_=>True) (λ_=> [RSb g (st.take size),F]):=by
  obtain ⟨s,bad⟩:=st
  change Ct _ _ _ [blk g [Str s,I bad] 314,F] _ _ _
  refine y7 func201 O ntmps201 O (λw0 hw0=>?_)
  refine yl λ_ C1=>yn 2 O<|yi C1<|ym λ_ C2=>yl λ_ C3=>yh O<|yj ((qBL underlying247 O O O).as (v':= .bool false) O) O<|yn 2 O<|yv (qAB O O) O<|yv (qAA O O qGX O qJL O) O<|yv (qAD 0 O O O qPk O) O<|yv (qAQ O O O) O<|yh O<|yi C3<|y1 O (λh15=>?_) (λh15=>?_)
  .
    exact yl λ_ C4=>yn 2 O<|yi C4<|yr<|y5<|vH hw0 (λ_ _ h=>h) (qB5 O O O) (qAf () (by unfold RS.out RS.can;simp only [h15,false_and,if_false,decide_false]) yd [0,1] (by unfold RS.take RSb;simp only [yW h15];rfl) xC)
  refine yy C2<|ym λ_ C5=>yl λ_ C6=>yn 2 O<|yj (qAB O O) O<|vA 0 qGX z9_ O O O O O<|vF 0 b9_ O O O O O<|yj (qAn u9_ O O) O<|yj (qAs O O O) O<|yi C6<|y1 O (λh22=>?_) (λh22=>?_)
  .
    exact yl λ_ C7=>yh O<|yj (qAB O O) O<|vA 1 qGX qJL O O O O O<|vG (qAU (i:=0) O O O O O qJL O xD) O O λ_ _=>yi C7<|yl λ_ C8=>yn 2 O<|yi C8<|yr<|y5<|vH hw0 (λ_ _ h=>h) (qB5 O O O) (qAf () (by unfold RS.out RS.can;simp only [show¬size<=s.length by omega,and_false,if_false,decide_false]) yd [0,1] (by unfold RS.take RSb;simp only [show bad=0 by omega,if_true,yW (show¬size<=s.length by omega)];rfl) xC)
  exact yy C5<|yl λ_ C9=>yh O<|yj (qAB O O) O<|vA 0 qGX z9_ O O O O O<|vF 0 b9_ O O O O O<|yh O<|yj ((qA0 u9_ O O O O ⟨xB,xB⟩).as (v':=Str (s.take size)) (yY Str zI)) O<|yh O<|yi C9<|yl λ_ C10=>yn 2 O<|yj (qAB O O) O<|vA 0 qGX z9_ O O O O O<|vF 0 b9_ O O O O O<|yh O<|yj ((qA0 u9_ O O O O ⟨xB,xB⟩).as (v':=Str (s.drop size)) (by rw [jn])) O<|yj (qAB O O) O<|vA 0 qGX z9_ O O O O O<|vG (qAU (i:=0) O O O O O z9_ O xD) O O λ_ _=>yi C10<|yl λ_ C11=>yn 3 O<|yi C11<|yr<|vH hw0 (λ_ _ h=>h) (qB5 O O O) (qAf () (by unfold RS.out RS.can;simp only [show bad=0 by omega,show size<=s.length by omega,and_self,if_true,decide_true]) yd [0,1] (by unfold RS.take RSb;simp only [show bad=0 by omega,if_true,yX (show size<=s.length by omega)];rfl) xC)
theorem qYq(F:Hp)(g:Nat)(st:RS):
    Ct prog 200 [Ptr g] [RSb g st,F] (λ_:Unit=> .tuple #[]) (λ_=>True) (λ_=> [RSb g st.form,F]):=by
  obtain ⟨s,bad⟩:=st
  change Ct _ _ _ [blk g [Str s,I bad] 314,F] _ _ _
  refine y7 func200 O ntmps200 O (λw0 hw0=>?_)
  refine yl λ_ C1=>yh O<|yj ((qWb underlying247 O O O).as (v':= .bool true) O) O<|yn 2 O<|yv (qAB O O) O<|yv (qAA O O qGX O qJL O) O<|yv (qAD 0 O O O qPk O) O<|yv (qAR O O O) O<|yh O<|yi C1<|y1 O (λh10=>?_) (λh10=>?_)
  .
    exact yt<|yh O<|yj (qAB O O) O<|vA 1 qGX qJL O O O O O<|vG (qAU (i:=0) O O O O O qJL O xD) O O λ_ _=>y8<|vo hw0 (λ_ _ h=>h) (qIj O) (qAf () O yd [0,1] (by unfold RS.form RSb;simp only [show bad=0 by omega,if_true];rfl) xC)
  exact vP<|vo hw0 (λ_ _ h=>h) (qIj O) (qAf () O yd [0,1] (by unfold RS.form RSb;simp only [yW (show¬bad=0 by omega)];rfl) xC)
theorem qCb(F:Hp)(g:Nat)(st:RS)(size:Nat)(h1:1<=size)(h8:size<=8):
    Ct prog 123 [Ptr g,I size] [RSb g st,F] (λ_:Unit=>N64 (qBd (st.out size))) (λ_=>True) (λ_=> [RSb g (st.take size),F]):=by
  have hol:=st.out_len size
  have hlt:=qE9 (st.out size)
  refine y7 func123 O ntmps123 O (λw0 hw0=>?_)
  refine yl λ_ C1=>yh O<|yi C1<|ym λ_ C2=>yl λ_ C3=>yh O<|yj ((qAP O O O).no xB) O<|yn 2 O<|yv ((qAs O O O).no xB) O<|yh O<|yi C3<|vC ?_
  refine yy C2<|yl λ_ C4=>yn 2 O<|yp (qAJ O O ent (vR 0 O (λF' _=>qQP F' g st size))) O λg20 _=>yh O<|yj (qAp O O O) O<|yj (qAp O O O) O<|yn 2 O<|yi C4<|yl λ_ C5=>yh O<|yi C5<|ym λ_ C6=>yl λ_ C7=>yh O<|yj (qAn u9_ O O) O<|yh O<|yi C7<|yz<|vN (X:=Nat) (λt=> [(5,Str (st.out size)),(7,N64 (qBd ((st.out size).take t))),(24,I (st.out size).length),(25,I t)]) (λ_=> [RSb g (st.take size),F]) (λt=>t<=(st.out size).length) (λt=>(st.out size).length-t) 0 (jH _) (Sub.of O) (λ_ h=>h) ?_
  intro t ht I0 hI0
  refine yl λ_ C8=>yj (qAP O O O) O<|yi C8<|ym λ_ C9=>y1 O (λh26=>?_) (λh26=>?_)
  .
    refine yy C9<|ym λ_ C10=>yz<|ym λ_ C11=>?_
    have ht1:t<(st.out size).length:=xB
    have hnt:=qYS (st.out size) size t hol h8 ht1
    refine yt<|yn 2 O<|yi C11<|yt<|yh O<|yj (qYB (m:=8) O O O xB xB) O<|yn 2 O<|yj (qA9 u9_ O O O (jD ht1)) O ?_
    refine yj (qK9 O O u5_ qDJ) O<|yj ((qZs O O O (by have:=(UInt8.toNat_lt ((st.out size)[t]'ht1));omega)).as (v':=N64 (qBd ((st.out size).take (t+1)))) (yY N64 ((qZr _ _ (UInt8.toNat_lt ((st.out size)[t]'ht1))).trans (qRt _ t ht1).symm))) O<|yh O<|y8<|vB<|yq (yu C10 ?_)
    exact yt<|yj (qAM O O O xB) O<|yh O<|y8<|yq<|vE (t+1) hI0 xB (Sub.of O) (λ_ h=>h)
  refine vK<|y6<|y6<|vL ?_
  refine yq (yu C6 ?_)
  refine ym λ_ C12=>?_
  have hte:t=(st.out size).length:=xB
  subst hte
  exact yt<|yn 2 O<|yi C12<|yr<|yw hw0 O () (by rw [jn]) yd [0,1] O xC
theorem qB1(F:Hp)(g:Nat)(st:RS)(size:Nat):
    Ct prog 204 [Ptr g,I size] [RSb g st,F] (λ_:Unit=>Str (st.out size)) (λ_=>True) (λ_=> [RSb g (st.take size),F]):=by
  refine y7 func204 O ntmps204 O (λw0 hw0=>?_)
  refine yl λ_ C1=>yh O<|yi C1<|ym λ_ C2=>yl λ_ C3=>yh O<|yj ((qAP O O O).no xB) O<|yi C3<|vC ?_
  exact yy C2<|yl λ_ C4=>yn 2 O<|yp (qAJ O O ent (vR 0 O (λF' _=>qQP F' g st size))) O λg14 _=>yh O<|yj (qAp O O O) O<|yj (qAp O O O) O<|yn 2 O<|yi C4<|yl λ_ C5=>yn 2 O<|yi C5<|yr<|yw hw0 O () O yd [0,1] O xC
def RS.textS(st:RS):xA:=if 4096<qBd (st.out 2) then [] else(st.take 2).out (qBd (st.out 2))
def RS.textR(st:RS):RS:=if 4096<qBd (st.out 2) then(st.take 2).form else(st.take 2).take (qBd (st.out 2))
def RS.last(st:RS):Int:=if st.bad=0 then(if st.s= [] then 0 else 2) else st.bad
theorem natB2(st:RS):qBd (st.out 2)<65536:=by
 refine j8 (qE9 _) (jf (jZ xB (st.out_len 2)) xC)
theorem qGo(F:Hp)(g:Nat)(st:RS):
    Ct prog 203 [Ptr g] [RSb g st,F] (λ_:Unit=>Str st.textS) (λ_=>True) (λ_=> [RSb g st.textR,F]):=by
  have hn:=natB2 st
  refine y7 func203 O ntmps203 O (λw0 hw0=>?_)
  refine yl λ_ C1=>yh O<|yi C1<|yl λ_ C2=>yh O<|yp (qAJ O O ent (vR 0 O (λF' _=>qCb F' g st 2 xB xB))) O λg5 _=>yh O<|yi C2<|ym λ_ C3=>yl λ_ C4=>yh O<|yj (qAs O O O) O<|yi C4<|y1 O (λh7=>?_) (λh7=>?_)
  .
    exact yl λ_ C5=>yh O<|yp (qAJ O O ent (vR 0 O (λF' _=>qYq F' g (st.take 2)))) O λg9 _=>yi C5<|yl λ_ C6=>yh O<|yi C6<|yr<|y5<|yw hw0 O () (by unfold RS.textS;rw [yX xB]) yd [0,1] (by unfold RS.textR;rw [yX xB];rfl) xC
  exact yy C3<|yl λ_ C7=>yn 2 O<|yj (qBv O O qDJ u3_ xB) O<|yp (qAJ O O ent (vR 0 O (λF' _=>qB1 F' g (st.take 2) (qBd (st.out 2))))) O λg13 _=>yh O<|yi C7<|yr<|yw hw0 O () (by unfold RS.textS;rw [yW xB]) yd [0,1] (by unfold RS.textR;rw [yW xB];rfl) xC
theorem qJA(F:Hp)(g:Nat)(st:RS):
    Ct prog 124 [Ptr g] [RSb g st,F] (λ_:Unit=>I st.last) (λ_=>True) (λ_=> [RSb g st,F]):=by
  obtain ⟨s,bad⟩:=st
  change Ct _ _ _ [blk g [Str s,I bad] 314,F] _ _ _
  refine y7 func124 O ntmps124 O (λw0 hw0=>?_)
  refine yl λ_ C1=>yh O<|yi C1<|ym λ_ C2=>yz<|yl λ_ C3=>yh O<|yj ((qBL underlying247 O O O).as (v':= .bool false) O) O<|yh O<|yi C3<|vC ?_
  refine yl λ_ C4=>yh O<|yj (qAB O O) O<|vA 1 qGX qJL O O O O O<|vF 0 qPk O O O O O<|yj (qAQ O O O) O<|yh O<|yi C4<|y1 O (λh6=>?_) (λh6=>?_)
  .
    exact yl λ_ C5=>yh O<|yj (qAB O O) O<|vA 1 qGX qJL O O O O O<|vF 0 qPk O O O O O<|yh O<|yi C5<|yr<|vI<|y5<|yw hw0 O () (yY I (by unfold RS.last;dsimp only;rw [yW xB])) yd [0,1] O xC
  refine yl λ_ C6=>yh O<|yj (qAB O O) O<|vA 0 qGX z9_ O O O O O<|vF 0 b9_ O O O O O<|yj (qB9 O O O) O<|yh O<|yi C6<|y1 O (λh16=>?_) (λh16=>?_)
  .
    exact yl λ_ C7=>yh O<|yi C7<|yr<|vI<|y5<|yw hw0 O () (yY I (by unfold RS.last;dsimp only;rw [yX xB,yW xG])) yd [0,1] O xC
  refine vP<|vB<|yq (yu C2 ?_)
  exact yl λ_ C8=>yh O<|yi C8<|yr<|yw hw0 O () (yY I (by unfold RS.last;dsimp only;rw [yX xB,yX (Decidable.not_not.1 xG)])) yd [0,1] O xC
theorem qJO(g:Nat):Wtr (blk g [.pointer none,.slice none 0 0,I 0] 148) g [] 0:=
 ⟨[.pointer none,.slice none 0 0,I 0],λ_=>none,none,0,none,by funext k;simp only [U];cases blk g [.pointer none,.slice none 0 0,I 0] 148 k<;>rfl,λ_=> .inr O,O,⟨O,.inl O,O,qBf.nil,.inl O⟩,O⟩
theorem qEb(s:xA)(n:Nat)(bs:xA)(bad:Int):(qKZ s n bs bad).length<=bs.length+n:=by
 unfold qKZ qCd okF
 by_cases h1:s.length=n<;>by_cases h2:bad=0<;>simp [h1,h2]
theorem qTZ(n:UInt64)(size:Nat)(bs:xA)(bad:Int):(qL8 n size bs bad).length<=bs.length+size:=by
 unfold qL8
 split
 . rw [jA,Sha.numB_length];omega
 . omega
theorem qMa{s:xA}{n:Nat}(h:s.length=n):okF s n=true:=ya h
theorem okF_f{s:xA}{n:Nat}(h: ¬s.length=n):okF s n=false:=yb h
theorem qC7(e bad:Int):qCd true e bad=bad:=by simp [qCd]
theorem qHK{s:xA}{n:Nat}(h:s.length=n)(bs:xA):qKZ s n bs 0=bs++s:=by
 unfold qKZ;rw [qMa h,qC7];simp
def qE3(o r:xA)(h:Int):Prop:=0<=h/\h<=6/\o.length=16/\r.length=16
instance (o r:xA) (h:Int):Decidable (qE3 o r h):=by unfold qE3;infer_instance
def qAo(o r:xA)(h:Int):xA:=if qE3 o r h then o++r++ [UInt8.ofNat h.toNat] else []
def qBT(o r:xA)(h:Int):Int:=if qE3 o r h then 0 else 10
theorem numB1: ∀k,k<7->Sha.numB (UInt64.ofNat k) 1= [UInt8.ofNat k]:=by decide
theorem okN1: ∀k,k<7->okN (UInt64.ofNat k) 1=true:=by decide
def qO8(o r:xA):Int:=qCd (okF r 16) 10 (qCd (okF o 16) 10 0)
def pbs(o r:xA):xA:=qKZ r 16 (qKZ o 16 [] 0) (qCd (okF o 16) 10 0)
theorem qQ5(o r:xA)(k:Nat)(hk:k<=6):qCd (okN (UInt64.ofNat k) 1) 10 (qO8 o r)=qBT o r k:=by
 rw [okN1 k xB,qC7]
 unfold qO8 qBT qE3 okF qCd
 by_cases h1:o.length=16<;>by_cases h2:r.length=16<;>simp [h1,h2]<;>omega
theorem qZm(o r:xA)(k:Nat)(hk:k<=6)(h:qBT o r k=0):qL8 (UInt64.ofNat k) 1 (pbs o r) (qO8 o r)=qAo o r k:=by
  have hb:=qQ5 o r k hk
  unfold qL8 qAo
  rw [hb,h,yX rfl,numB1 k xB]
  unfold qBT at h
  split at h
  . rename_i h1
    rw [yX h1]
    have h2:=h1
    unfold qE3 at h2
    unfold pbs
    rw [qHK h2.2.2.1,qMa h2.2.2.1,qC7,qHK h2.2.2.2];simp
  . omega
theorem qX1{o r:xA}{h:Int}(hn: ¬qBT o r h=0):qAo o r h= []:=by
 unfold qBT at hn;unfold qAo
 split at hn
 . omega
 . rename_i h1;rw [yW h1]
theorem qWY{o r:xA}{h:Int}(hn:h<0\/6<h):Value.tuple #[Str [],I 10]= .tuple #[Str (qAo o r h),I (qBT o r h)]:=by
 have h1: ¬qE3 o r h:=by unfold qE3;omega
 unfold qAo qBT
 rw [yW h1,yW h1]
theorem qX0(o r:xA)(k:Nat)(hk:k<=6):Value.tuple #[Str (if qCd (okN (UInt64.ofNat k) 1) 10 (qO8 o r)=0 then qL8 (UInt64.ofNat k) 1 (pbs o r) (qO8 o r) else []),I (qCd (okN (UInt64.ofNat k) 1) 10 (qO8 o r))]= .tuple #[Str (qAo o r k),I (qBT o r k)]:=by
 rw [qQ5 o r k hk]
 by_cases h:qBT o r k=0
 . rw [yX h,qZm o r k hk h]
 . rw [yW h,qX1 h]
theorem qCr(F:Hp)(o r:xA)(h:Int)(ho:o.length<=1048576)(hr:r.length<=1048576):
    Cz prog 58 [.agg #[Str o,Str r,I h]] F (.tuple #[Str (qAo o r h),I (qBT o r h)]):=by
  refine y7 func58 O ntmps58 O (λw0 hw0=>?_)
  refine yl λ_ C1=>yp (qAi O O O) O λg1 _=>yn 2 O<|yi C1<|ym λ_ C2=>yl λ_ C3=>vA 2 qFl z3_ O O O O O<|vF 1 b3_ O O O O O<|yj (qAP O O O) O<|yh O<|vO (d:=8) O (λh8=>?_) (λh8=>?_)
  .
    refine yn 4 O<|yi C3<|vV ?_
    exact yl λ_ C4=>yn 2 O<|yi C4<|yr<|y5<|vH hw0 (λ_ _ h=>h) (qB5 O O O) (qAf () (qWY xB) yd [0] O xC)
  refine yv (qAA O O qFl O z3_ O) O<|yv (qAD 1 O O O b3_ O) O<|yv (qAs O O O) O<|yh O<|yi C3<|y1 O (λh12=>?_) (λh12=>?_)
  .
    exact yl λ_ C5=>yn 2 O<|yi C5<|yr<|y5<|vH hw0 (λ_ _ h=>h) (qB5 O O O) (qAf () (qWY xB) yd [0] O xC)
  refine yy C2<|ym λ_ C6=>?_
  obtain ⟨k,hk⟩:=zk (show 0<=h by omega)
  have hk6:k<=6:=xB
  refine yt<|yp (qAO O qLf O) O λg4 _=>yi C6<|ym λ_ C7=>vQ [blk g1 [Str o,Str r,I h] 32] [] (.y 0 (.y 1 (.y 3 (.y 4 (.y 6 (.y 7 (.y 8 (.e 2 (.e 5 (.e 9 (.e 10 (.y 11 (.y 12 (.y 13 (.y 14 .nil))))))))))))))) ye xF xD ?_
  refine yo O (qAA O O qFl O z9_ O) O O<|yo O (qAD 0 O O O b9_ O) O O<|yo O (qAA O O qFl O z9_ O) O O<|yo O (qAD 0 O O O b9_ O) O O<|yo O (qAA O O qFl O z3_ O) O O<|yo O (qAD 0 O O O b3_ O) O O<|yo O ((qCT O O u3_ qDJ).as (v':=W64 (UInt64.ofNat k)) (by rw [show(h%18446744073709551616).toNat=k by omega])) O O<|vD O (qAJ O O ent (vR 2 O (λF' _=>qDU F' (blk g4 [.pointer none,.slice none 0 0,I 0] 148) g4 [] 0 (qJO g4) xC o xB 16))) O xD ?_
  rintro m15 hw15
  refine vD O (qAJ O O ent (vR 2 O (λF' _=>qDU F' m15 g4 (qKZ o 16 [] 0) (qCd (okF o 16) 10 0) hw15 (by have:=qEb o 16 [] 0;simp only [jG] at this;omega) r xB 16))) O xD ?_
  rintro m18 hw18
  refine vD O (qAJ O O ent (vR 2 O (λF' _=>qFY F' m18 g4 (pbs o r) (qO8 o r) hw18 (by have:=qEb o 16 [] 0;have h2:=qEb r 16 (qKZ o 16 [] 0) (qCd (okF o 16) 10 0);simp only [jG] at this;unfold pbs;omega) (UInt64.ofNat k) 1 xB xB))) O xD ?_
  rintro m22 hw22
  refine vD O (qAJ O O ent (vR 2 O (λF' _=>qEo F' m22 g4 (qL8 (UInt64.ofNat k) 1 (pbs o r) (qO8 o r)) (qCd (okN (UInt64.ofNat k) 1) 10 (qO8 o r)) hw22 (by have:=qEb o 16 [] 0;have h2:=qEb r 16 (qKZ o 16 [] 0) (qCd (okF o 16) 10 0);have h3:=qTZ (UInt64.ofNat k) 1 (pbs o r) (qO8 o r);simp only [jG] at this;unfold pbs at h3⊢;omega)))) O xD ?_
  rintro m23 hw23
  refine vm (Str (if qCd (okN (UInt64.ofNat k) 1) 10 (qO8 o r)=0 then qL8 (UInt64.ofNat k) 1 (pbs o r) (qO8 o r) else [])) ?_
  refine vm (I (qCd (okN (UInt64.ofNat k) 1) 10 (qO8 o r))) ?_
  refine vU ?_
  refine vU ?_
  refine vM<|yq (yu C7 ?_)
  exact yr<|vH hw0 (λ_ _ h=>h) (qB5 O O O) (qAf () (by subst hk;exact qX0 o r k hk6) yd [0] O xC)
theorem eqPub(d:Nat)(o r o' r':xA)(h h':Int)(w:World):(Op.equalIn (d+2) 32 (.agg #[Str o,Str r,I h]) (.agg #[Str o',Str r',I h'])).run prog w= .ok (decide (o=o'/\r=r'/\h=h')) w:=by
 have u3:=u3_
 have a3:=b3_
 have us:=u9_
 have ag:=b9_
 have hS:prog.underlying 32=some (.struct (prog.fieldsOf 32)):=xH
 have hp:prog.stoodInHeld 32=false:=xH
 rw [show d+2=(d+1)+1 from rfl,run_equalIn_struct w (d+1) 32 _ _ hS hp]
 simp only [Program.fieldsOf,qFl]
 have hi: ∀(a b:Int) (w:World),(Op.equalIn (d+1) 3 (.int .i64 a) (.int .i64 b)).run prog w= .ok (a==b) w:=λa b w=>run_equalIn_int w d 3 .i64 .i64 a b u3
 have hs: ∀(a b:xA) (w:World),(Op.equalIn (d+1) 9 (Str a) (Str b)).run prog w= .ok (decide (a=b)) w:=λa b w=>by rw [run_equalIn_string w d 9 _ _ us,qH8]
 simp only [Op.eqFields]
 simp [part,a3,ag,hi,hs]
 by_cases h1:o=o'<;>by_cases h2:r=r'<;>by_cases h3:h=h'<;>simp [h1,h2,h3]
theorem qZb(l:yT)(s:xA):l.foldl RS.take ⟨s,3⟩=⟨s,3⟩:=by
 induction l with
 |nil=>rfl
 |cons n l ih=>exact ih
theorem qBy{s:xA}{n:Nat}(h:n<=s.length):(⟨s,0⟩:RS).take n=⟨s.drop n,0⟩:=by simp [RS.take,h]
theorem qJZ{s:xA}{n:Nat}(h: ¬n<=s.length):(⟨s,0⟩:RS).take n=⟨s,3⟩:=by simp [RS.take,h]
theorem qEP{s:xA}{n:Nat}(h:n<=s.length):(⟨s,0⟩:RS).out n=s.take n:=by simp [RS.out,h]
theorem qIw(l:yT): ∀s:xA,(l.foldl RS.take ⟨s,0⟩).last=if s.length<l.sum then 3 else if l.sum<s.length then 2 else 0:=by
  induction l with
  |nil=>
    intro s
    cases s<;>simp [RS.last]
  |cons n l ih=>
    intro s
    by_cases h:n<=s.length
    . rw [List.foldl_cons,qBy h,ih,jE,zE]
      by_cases h1:s.length<n+l.sum
      . rw [yX xB,yX h1]
      . rw [yW xB,yW h1]
        by_cases h2:n+l.sum<s.length
        . rw [yX xB,yX h2]
        . rw [yW xB,yW h2]
    . rw [List.foldl_cons,qJZ h,qZb,zE,yX xB]
      simp [RS.last]
theorem qN3(c:UInt8):qBd [c]=c.toNat:=by simp [qBd]
def dpE(s:xA):Int:=if s.length<33 then 3 else if 33<s.length then 2 else if 6<(s.getD 32 0).toNat then 4 else 0
def dpO(s:xA):xA:=if dpE s=0 then s.take 16 else []
def dpR(s:xA):xA:=if dpE s=0 then(s.drop 16).take 16 else []
def dpH(s:xA):Nat:=if dpE s=0 then(s.getD 32 0).toNat else 0
def dpV(s:xA):Value:= .tuple #[.agg #[Str (dpO s),Str (dpR s),I (dpH s)],I (dpE s)]
theorem qWy{s:xA}{e:Int}(h:dpE s=e)(he:e≠0):Value.tuple #[.agg #[Str [],Str [],I 0],I e]=dpV s:=by
 unfold dpV dpO dpR dpH
 rw [h,yW he,yW he,yW he];rfl
theorem qSk(s:xA):((((⟨s,0⟩:RS).take 16).take 16).take 1).last=if s.length<33 then 3 else if 33<s.length then 2 else 0:=qIw [16,16,1] s
theorem qSj{s:xA}(h:((((⟨s,0⟩:RS).take 16).take 16).take 1).last=0):s.length=33/\(⟨s,0⟩:RS).out 16=s.take 16/\((⟨s,0⟩:RS).take 16).out 16=(s.drop 16).take 16/\qBd ((((⟨s,0⟩:RS).take 16).take 16).out 1)=(s.getD 32 0).toNat:=by
  rw [qSk] at h
  have hl:s.length=33:=by
    by_cases h1:s.length<33
    . rw [yX h1] at h;omega
    . rw [yW h1] at h
      by_cases h2:33<s.length
      . rw [yX h2] at h;omega
      . omega
  refine⟨hl,qEP xB,?_,?_⟩
  . rw [qBy xB,qEP (by rw [jE];omega)]
  . rw [qBy xB,qBy (by rw [jE];omega),qEP (by rw [jE,jE];omega),zH]
    rw [j9 (show 16+16<s.length by omega),List.take_succ_cons,zV,qN3]
    rw [jB,jD (show 32<s.length by omega)];rfl
theorem dp_e{s:xA}(h: ¬((((⟨s,0⟩:RS).take 16).take 16).take 1).last=0):dpE s=((((⟨s,0⟩:RS).take 16).take 16).take 1).last:=by
  rw [qSk] at h⊢
  unfold dpE
  by_cases h1:s.length<33
  . rw [yX h1,yX h1]
  . rw [yW h1,yW h1]
    rw [yW h1] at h
    by_cases h2:33<s.length
    . rw [yX h2,yX h2]
    . rw [yW h2] at h;exact absurd O h
theorem dp_ok{s:xA}(h:((((⟨s,0⟩:RS).take 16).take 16).take 1).last=0)(h6: ¬6<(s.getD 32 0).toNat):dpE s=0:=by
 unfold dpE
 have:=qSj h
 rw [yW xB,yW xB,yW h6]
theorem qCP{o r:xA}{h:Int}(he:qBT o r h=0):(qAo o r h).length=33:=by
  unfold qBT at he;unfold qAo
  split at he
  . rename_i h1
    rw [yX h1]
    have h2:=h1
    unfold qE3 at h2
    simp only [jA,jI]
    omega
  . omega
theorem qRh(F m:Hp)(g:Nat)(bs:xA)(bad:Int)(hw:Wtr m g bs bad)(hlen:bs.length<=1099511627776)(n:Nat)(hn:n<18446744073709551616)(size:Nat)(h1:1<=size)(h8:size<8):
    Ct prog 133 [Ptr g,N64 n,I size] [m,F] (λ_:Hp=>Ptr g) (λm'=>Wtr m' g (qL8 (UInt64.ofNat n) size bs bad) (qCd (okN (UInt64.ofNat n) size) 10 bad)) (λm'=> [m',F]):=by
  rw [N_W hn]
  exact qFY F m g bs bad hw hlen (UInt64.ofNat n) size h1 h8
theorem qUt{n size:Nat}(hn:n<18446744073709551616)(h:n<2^(8*size)):okN (UInt64.ofNat n) size=true:=by
 unfold okN
 rw [qA3 hn]
 exact ya h
theorem dp_4{s:xA}(h:((((⟨s,0⟩:RS).take 16).take 16).take 1).last=0)(h6:6<(s.getD 32 0).toNat):dpE s=4:=by
 unfold dpE
 have:=qSj h
 rw [yW xB,yW xB,yX h6]
theorem qRj(n:UInt64):Sha.numB n 0= []:=rfl
theorem qLD(n t:Nat)(hn:n<18446744073709551616)(ht:t<8):Sha.numB (UInt64.ofNat n) (t+1)=UInt8.ofNat (n/256^t%256)::Sha.numB (UInt64.ofNat n) t:=by
  unfold Sha.numB
  rw [List.range_succ_eq_map,jY,ze]
  congr 1
  . rw [qA3 hn,jq xB,show t+1-1-0=t by omega,Nat.pow_mul]
    apply UInt8.toNat_inj.1
    rw [UInt64.toNat_toUInt8,qA3 (jx (jv _ _) hn),jm];simp
  . apply yA
    intro i hi
    rw [List.mem_range] at hi
    simp only [Function.comp,Nat.succ_eq_add_one,qA3 hn]
    rw [show t+1-1-(i+1)=t-1-i by omega]
theorem qX4(t:Nat)(ht:t<=8):256^t<=18446744073709551616:=jf (jZ xB ht) xC
def qAX:xA:=List.replicate 16 0
theorem qPQ(l:xA): ∀a:Nat,l.foldl (λn c=>n*256+c.toNat) a=a*256^l.length+qBd l:=by
 induction l with
 |nil=>intro a;simp [qBd]
 |cons c l ih=>
  intro a
  unfold qBd
  rw [List.foldl_cons,List.foldl_cons,ih,ih (0*256+c.toNat),jC,ju,zj,zj,Nat.mul_assoc,zi 256]
  omega
theorem qRv(c:UInt8)(l:xA):qBd (c::l)=c.toNat*256^l.length+qBd l:=by
 rw [qBd,List.foldl_cons,qPQ,yD,jl]
theorem qFa(n:Nat)(hn:n<18446744073709551616): ∀t,t<=8->qBd (Sha.numB (UInt64.ofNat n) t)=n%256^t:=by
 intro t
 induction t with
 |zero=>intro _;rw [qRj];simp [qBd,Nat.mod_one]
 |succ t ih=>
  intro ht
  rw [qLD n t hn xB,qRv,Sha.numB_length,ih xB,jm,show(2^8:Nat)=256 from rfl,Nat.mod_mod,ju,Nat.mod_mul,zi,yO]
def tb(s:xA):xA:=Sha.numB (UInt64.ofNat s.length) 2++s
def RS.after:RS->Nat->RS
 |st,0=>st
 |st,k+1=>(st.after k).textR
theorem qGj{x:xA}(r:xA)(h:x.length<=4096):(⟨tb x++r,0⟩:RS).textS=x/\(⟨tb x++r,0⟩:RS).textR=⟨r,0⟩:=by
 have hN:(Sha.numB (UInt64.ofNat x.length) 2).length=2:=Sha.numB_length _ _
 have e1:(⟨tb x++r,0⟩:RS).out 2=Sha.numB (UInt64.ofNat x.length) 2:=by
  rw [qEP (by unfold tb;simp only [jA,hN];omega)]
  unfold tb
  rw [jM,zJ hN]
 have e2:(⟨tb x++r,0⟩:RS).take 2=⟨x++r,0⟩:=by
  rw [qBy (by unfold tb;simp only [jA,hN];omega)]
  unfold tb
  rw [jM,zW hN]
 have e3:qBd (Sha.numB (UInt64.ofNat x.length) 2)=x.length:=by
  rw [qFa _ xB 2 xC];exact jX xB
 unfold RS.textS RS.textR
 rw [e1,e2,e3,yW xB,yW xB,qEP (by rw [jA];omega),qBy (by rw [jA];omega),zJ rfl,zW rfl]
 exact⟨O,O⟩
theorem qDK(s:xA):(tb s).length=2+s.length:=by unfold tb;rw [jA,Sha.numB_length]
theorem wtrN(g:Nat):Wtr (blk g [.pointer none,.slice none 0 0,I 0] 148) g [] 0:=
 ⟨[.pointer none,.slice none 0 0,I 0],λ_=>none,none,0,none,by funext k;simp only [U];cases blk g [.pointer none,.slice none 0 0,I 0] 148 k<;>rfl,λ_=> .inr O,O,⟨O,.inl O,O,qBf.nil,.inl O⟩,O⟩
theorem qHx(e:Int):qCd true e 0=0:=by unfold qCd;rw [yW xD]
theorem qRi(F m:Hp)(g:Nat)(bs:xA)(hw:Wtr m g bs 0)(hlen:bs.length<=1099511627776)(k size:Nat)(h1:1<=size)(h8:size<8)(hk:k<2^(8*size)):
    Ct prog 133 [Ptr g,N64 k,I size] [m,F] (λ_:Hp=>Ptr g) (λm'=>Wtr m' g (bs++Sha.numB (UInt64.ofNat k) size) 0) (λm'=> [m',F]):=by
  have hlt:k<18446744073709551616:=j8 hk (jf (jZ xC (show 8*size<=64 by omega)) xC)
  have hn:(UInt64.ofNat k).toNat=k:=qA3 hlt
  have e:okN (UInt64.ofNat k) size=true:=by unfold okN;rw [hn];exact ya hk
  have h:=qFY F m g bs 0 hw hlen (UInt64.ofNat k) size h1 h8
  rw [qEG e,e,qHx] at h
  rw [N_W hlt];exact h
theorem qGk(F m:Hp)(g:Nat)(bs:xA)(hw:Wtr m g bs 0)(hlen:bs.length<=1099511627776)(s:xA)(hs:s.length<=4096):
    Ct prog 59 [Ptr g,Str s] [m,F] (λ_:Hp=>Ptr g) (λm'=>Wtr m' g (bs++tb s) 0) (λm'=> [m',F]):=by
  have h:=qQN F m g bs 0 hw hlen s xB
  have e:okT s=true:=ya hs
  have e2:qL5 s bs 0=bs++tb s:=by unfold qL5 tb;rw [e,qHx,yX rfl,jM]
  rw [e2,e,qHx] at h;exact h
theorem qYs(F m:Hp)(g:Nat)(bs:xA)(hw:Wtr m g bs 0)(hlen:bs.length<=1099511627776)(s:xA)(size:Nat)(hs:s.length=size)(h8:size<=1048576):
    Ct prog 60 [Ptr g,Str s,I size] [m,F] (λ_:Hp=>Ptr g) (λm'=>Wtr m' g (bs++s) 0) (λm'=> [m',F]):=by
  have h:=qDU F m g bs 0 hw hlen s xB size
  have e:okF s size=true:=ya hs
  have e2:qKZ s size bs 0=bs++s:=by unfold qKZ;rw [e,qHx,yX rfl]
  rw [e2,e,qHx] at h;exact h
theorem qH9(F m:Hp)(g:Nat)(bs:xA)(hw:Wtr m g bs 0)(hlen:bs.length<=1099511627776):
    Ct prog 61 [Ptr g] [m,F] (λ_:Hp=> .tuple #[Str bs,I (0:Nat)]) (λm'=>Wtr m' g bs 0) (λm'=> [m',F]):=by
  have h:=qEo F m g bs 0 hw xB
  rw [yX rfl] at h;exact h
theorem qHa{P:Program}{env:Env}{rs:List Hp}{o:Oper}{t t':TypeId}{x y:Operand}{a m:Nat}{yk:IntKind}(ho:o.op= .binOp .shr t x y t')(hx:ev env x=some (N64 a))(hy:ev env y=some (.int yk (m:Nat)))(hr:m<=64/\a<18446744073709551616):YOp P env rs o (N64 (a/2^m)):=by
 rw [N_W hr.2] at hx
 exact(qGw ho hx hy).as (by show Value.int .u64 _=Value.int .u64 _;rw [qA3 hr.2,jq hr.1,qA3 (jx (jv _ _) hr.2)])
theorem qYF{P:Program}{env:Env}{rs:List Hp}{o:Oper}{t u v x y z k a b c}(ho:o.op= .call {callee:= .builtin .min,args:= #[x,y,z],argTypes:= #[t,u,v]})(hx:ev env x=some (.int k a))(hy:ev env y=some (.int k b))(hz:ev env z=some (.int k c)):YOp P env rs o (.int k (min (min a b) c)):=λn ac w hk _=>by
 by_cases h:b<a<;>by_cases h2:c<(if b<a then b else a)<;>simp [execOp,ho,hk.ev hx,hk.ev hy,hk.ev hz,resolve,invoke,builtin,Builtin.min_,Builtin.min2,h] at h2⊢
 all_goals first|rw [yX xB]|rw [yW xB]
 all_goals omega
theorem and32{n:Nat}(h:n<4294967296):n&&&4294967295=n:=by
 have:=Nat.and_two_pow_sub_one_eq_mod n 32
 rw [show(2^32-1:Nat)=4294967295 from rfl] at this
 rw [this];exact jX h
theorem qU3(F:Hp)(n:Nat)(hn:n<4294967296):
    Cz prog 192 [N64 1,N64 n] F (.tuple #[N64 0,N64 n]):=by
  refine y7 func192 O ntmps192 O (λw0 hw0=>?_)
  exact yl λ_ C1=>yn 2 O<|yi C1<|yl λ_ C2=>yh O<|yj ((qJw (a:=1) (b:=4294967295) O O O xB).as (v':=N64 1) O) O<|yh O<|yi C2<|yl λ_ C3=>yh O<|yj ((qHa (a:=1) (m:=32) O O O xB).as (v':=N64 0) O) O<|yh O<|yi C3<|yl λ_ C4=>yh O<|yj ((qJw O O O xB).as (v':=N64 n) (yY N64 (and32 hn))) O<|yh O<|yi C4<|yl λ_ C5=>yh O<|yj ((qHa (a:=n) (m:=32) O O O xB).as (v':=N64 0) (yY N64 (zC xB))) O<|yh O<|yi C5<|yl λ_ C6=>yn 2 O<|yj ((qCc O O O xB).as (v':=N64 n) (yY N64 (Nat.one_mul n))) O<|yh O<|yi C6<|yl λ_ C7=>yn 2 O<|yj ((qCc O O O xB).as (v':=N64 0) (yY N64 (yD n))) O<|yh O<|yj ((qHa (a:=n) (m:=32) O O O xB).as (v':=N64 0) (yY N64 (zC xB))) O<|yj ((qBD O O O xB).as (v':=N64 0) O) O<|yh O<|yi C7<|yl λ_ C8=>yh O<|yj ((qJw (a:=0) (b:=4294967295) O O O xB).as (v':=N64 0) O) O<|yh O<|yi C8<|yl λ_ C9=>yh O<|yj ((qHa (a:=0) (m:=32) O O O xB).as (v':=N64 0) O) O<|yh O<|yi C9<|yl λ_ C10=>yn 3 O<|yj ((qCc O O O xB).as (v':=N64 0) O) O<|yj ((qBD O O O xB).as (v':=N64 0) O) O<|yh O<|yi C10<|yl λ_ C11=>yn 2 O<|yj ((qCc O O O xB).as (v':=N64 0) O) O<|yh O<|yj ((qBD O O O xB).as (v':=N64 0) O) O<|yh O<|yj ((qHa (a:=0) (m:=32) O O O xB).as (v':=N64 0) O) O<|yj ((qBD O O O xB).as (v':=N64 0) O) O<|yh O<|yi C11<|yl λ_ C12=>yn 2 O<|yj ((qCc O O O xB).as (v':=N64 n) (yY N64 (Nat.one_mul n))) O<|yh O<|yi C12<|yr<|vH hw0 (λ_ _ h=>h) (qB5 O O O) (qAf () O yd [0] O xC)
theorem qZG(F:Hp)(n:Nat)(hn:n<4294967296):
    Cz prog 108 [N64 1,N64 n] F (.tuple #[N64 0,N64 n]):=by
  refine y7 func108 O ntmps108 O (λw0 hw0=>?_)
  refine yl λ_ C1=>yn 2 O<|yi C1<|ym λ_ C2=>vC ?_
  exact yy C2<|yl λ_ C3=>yn 2 O<|yp (qAZ O O (λF' hF=>qU3 F' n hn)) O λg25 _=>yn 5 O<|yi C3<|yl λ_ C4=>yn 4 O<|yi C4<|yr<|vH hw0 (λ_ _ h=>h) (qB5 O O O) (qAf () O yd [0] O xC)
theorem qM1(F mr:Hp)(g:Nat)(l:yU)(bs:xA)(A:yS)(c:Nat)(p:yS)(hb:Bld g 0 l mr bs A c p):
    Ct prog 112 [Ptr g] [blk g l 146,F] (λ_:Unit=>I bs.length) (λ_=>True) (λ_=> [blk g l 146,F]):=by
  refine y7 func112 O ntmps112 O (λw0 hw0=>?_)
  exact yl λ_ C1=>yh O<|yi C1<|yl λ_ C2=>yh O<|yj (qAB O O) O<|vA 1 qD8 qKQ O O O O O<|yj (qAD 0 O O O qPt hb.a1) O<|yj (qAN qBo O O) O<|yh O<|yi C2<|yr<|yw hw0 O () O yd [0,1] O xC
theorem qKw(F:Hp)(n:Nat)(h2:2<=n)(h3:n<=8192):
    Cz prog 43 [Str [0],I n] F (Str (List.replicate n 0)):=by
  refine y7 func43 O ntmps43 O (λw0 hw0=>?_)
  refine yl λ_ C1=>yh O<|yi C1<|ym λ_ C2=>yl λ_ C3=>yh O<|yi C3<|yz<|yl λ_ C4=>yj ((qAR O O O).no xB) O<|yh O<|yi C4<|vC ?_
  refine yl λ_ C5=>yj ((qAR O O O).no xB) O<|yh O<|yi C5<|vC ?_
  refine vP<|vB<|yq (yu C2 ?_)
  refine ym λ_ C6=>yl λ_ C7=>yh O<|yj ((qAP O O O).no xB) O<|yi C7<|vC ?_
  refine yy C6<|yl λ_ C8=>yh O<|yj (qAn u9_ O O) O<|yj ((qBC O O u3_ qJU xB).as (v':=N64 1) (N_W xB).symm) O<|yh O<|yj ((qBC O O u3_ qJU xB).as (v':=N64 n) (N_W xB).symm) O<|yp (qAZ O O (λF' hF=>qZG F' n xB)) O λg26 _=>yn 5 O<|yi C8<|ym λ_ C9=>yl λ_ C10=>yh O<|yj ((qAs O O O).no xC) O<|yn 2 O<|yv ((qAs O O O).no xB) O<|yh O<|yi C10<|vC ?_
  refine yy C9<|yl λ_ C11=>yh O<|yj (qBv O O qJU u3_ xB) O<|yh O<|yi C11<|ym λ_ C12=>yl λ_ C13=>yh O<|yj (qAn u9_ O O) O<|yj ((qAR O O O).no xC) O<|yi C13<|vC ?_
  refine yy C12<|ym λ_ C14=>yl λ_ C15=>yh O<|yj (qA9 u9_ O O O O) O<|yi C15<|yz<|ym λ_ C16=>yl λ_ C17=>yj ((qAR O O O).no xC) O<|yh O<|yi C17<|vC ?_
  refine yl λ_ C18=>yj ((qAR O O O).no xC) O<|yh O<|yi C18<|vC ?_
  refine yl λ_ C19=>yj ((qAR O O O).no xC) O<|yh O<|yi C19<|vC ?_
  refine yl λ_ C20=>yj ((qAR O O O).no xC) O<|yh O<|yi C20<|vC ?_
  refine yt<|yj ((qAR O O O).no xC) O<|yh O<|yi C16<|vC ?_
  refine vP<|vB<|yq (yu C14 ?_)
  refine yl λ_ C21=>yn 2 O<|yi C21<|ym λ_ C22=>yl λ_ C23=>yh O<|yj ((qAs O O O).no xB) O<|yi C23<|vC ?_
  refine yy C22<|yl λ_ C24=>yp (qAO O zeroValue146 O) O λg9 _=>ve [1,2,0] [blk g9 [.pointer none,.slice none 0 0] 146,λ_=>none,F] O xC<|yi C24<|yl λ_ C25=>yh O<|yp (qAJ O O ent (qOf F g9 146 0 [.pointer none,.slice none 0 0] none ⟨O,.inl O,O,qBf.nil,.inl O⟩ qMh n xB)) O ?_
  rintro⟨l57,m57⟩ ⟨A57,c57,hb57,hu57⟩
  dsimp only at hb57 hu57
  refine yi C25<|yl λ_ C26=>yh O<|yp (qAJ O O ent (qBb F m57 g9 146 0 l57 [] A57 c57 _ hb57 (by rw [hu57.1];exact qMh) [0] xC)) O ?_
  rintro⟨l61,m61⟩ ⟨A61,c61,hb61,hu61⟩
  dsimp only at hb61 hu61
  refine yi C26<|ym λ_ C27=>yz<|vN (X:=Nat×yU×Hp×yS×Nat) (λx=> [(7,I n),(8,I n),(9,Ptr g9)]) (λx=> [blk g9 x.2.1 146,x.2.2.1,F]) (λx=>1<=x.1/\x.1<=n/\x.2.1.length=2/\Bld g9 0 x.2.1 x.2.2.1 (List.replicate x.1 (0:UInt8)) x.2.2.2.1 x.2.2.2.2 (some ⟨g9,0,none⟩)) (λx=>n-x.1) (1,l61,m61,A61,c61) (⟨xB,xB,by rw [hu61.1,hu57.1];rfl,hb61⟩) (Sub.of O) (λ_ h=>h) ?_
  rintro⟨k,l,m,A1,c1⟩ ⟨hk1,hkn,hll,hb⟩ I3 hI3
  dsimp only at hk1 hkn hll hb⊢
  refine ym λ_ C28=>yl λ_ C29=>yp (qAJ O O ent (vR 0 O (λF' _=>qM1 F' m g9 l (List.replicate k (0:UInt8)) A1 c1 _ hb))) O λg111 _=>yh O<|yj ((qAP O O O).as (v':= .bool (decide (k<n))) (yY Value.bool (decide_eq_decide.2 (by rw [jQ];omega)))) O<|yi C29<|y1 O (λh113=>?_) (λh113=>?_)
  .
    refine yy C28<|yz<|yl λ_ C30=>yh O<|yp (qAJ O O ent (vR 0 O (λF' _=>qM1 F' m g9 l (List.replicate k (0:UInt8)) A1 c1 _ hb))) O λg115 _=>yj ((qAm O O O (by rw [jQ];omega)).as (v':=I (n-k:Nat)) (yY I (by rw [jQ];omega))) O<|yp (qAJ O O ent (vR 0 O (λF' _=>qM1 F' m g9 l (List.replicate k (0:UInt8)) A1 c1 _ hb))) O λg117 _=>yh O<|yj ((qYF O O O O).as (v':=I (min (n-k) k:Nat)) (yY I (by rw [jQ];omega))) O<|yh O<|yi C30<|yt<|yp (qAJ O O ent (qEq F m g9 146 0 l (List.replicate k (0:UInt8)) A1 c1 _ hb (by rw [jQ];omega))) O ?_
    rintro m20 hb20
    refine yh O<|yj ((qA0 u9_ O O O O ⟨xB,by rw [jQ];omega⟩).as (v':=Str (List.replicate (min (n-k) k) (0:UInt8))) (by rw [zI,List.take_replicate];congr 2;omega)) O<|yp (qAJ O O ent (qBb F m20 g9 146 0 l (List.replicate k (0:UInt8)) A1 c1 _ hb20 (by rw [hll];exact qMh) (List.replicate (min (n-k) k) (0:UInt8)) (by simp only [jQ];omega))) O ?_
    rintro⟨l23,m23⟩ ⟨A23,c23,hb23,hu23⟩
    dsimp only at hb23 hu23
    rw [List.replicate_append_replicate] at hb23
    exact y8<|vB<|yq<|vE (k+min (n-k) k,l23,m23,A23,c23) hI3 ⟨by dsimp only;omega,by dsimp only;omega,by rw [hu23.1];exact hll,hb23⟩ (Sub.of O) (λ_ h=>h)
  refine vK<|y6<|y6<|vL ?_
  refine yq (yu C27 ?_)
  refine ym λ_ C31=>?_
  have hkn2:k=n:=xB
  subst hkn2
  refine yt<|yp (qAJ O O ent (qEq F m g9 146 0 l (List.replicate k (0:UInt8)) A1 c1 _ hb (by rw [jQ];omega))) O ?_
  rintro m24 _
  exact yh O<|yi C31<|yr<|yw hw0 O () O yd [2] O xC
theorem qUM(F:Hp):Cz prog 43 [Str [0],I 0] F (Str []):=by
 refine y7 func43 O ntmps43 O (λw0 hw0=>?_)
 refine yl λ_ C1=>yh O<|yi C1<|ym λ_ C2=>yl λ_ C3=>yh O<|yi C3<|yz<|yl λ_ C4=>yj ((qAR O O O).yes xB) O<|yh O<|yi C4<|vV ?_
 exact yl λ_ C5=>yh O<|yi C5<|yr<|vI<|y5<|yw hw0 O () O yd [0] O xC
theorem qUL(F:Hp):Cz prog 43 [Str [0],I 1] F (Str [0]):=by
 refine y7 func43 O ntmps43 O (λw0 hw0=>?_)
 refine yl λ_ C1=>yh O<|yi C1<|ym λ_ C2=>yl λ_ C3=>yh O<|yi C3<|yz<|yl λ_ C4=>yj ((qAR O O O).no xB) O<|yh O<|yi C4<|vC ?_
 refine yl λ_ C5=>yj ((qAR O O O).yes xB) O<|yh O<|yi C5<|vV ?_
 exact yl λ_ C6=>yn 2 O<|yi C6<|yr<|vI<|y5<|yw hw0 O () O yd [0] O xC
theorem qF5(F:Hp)(n:Nat)(h3:n<=8192):
    Cz prog 43 [Str [0],I n] F (Str (List.replicate n 0)):=by
  match n,h3 with
  |0,_=>exact qUM F
  |1,_=>exact qUL F
  |n+2,h3=>exact qKw F (n+2) xB h3
theorem el368:qCx prog 368 [.int .i64 0,Str []] 24:=qCx.of xH O
abbrev Wri:=Nat×xA
structure Dk where
 last:List xA
 wait:List Wri
 off:Bool
 armed:Bool
 fuse:Int
 keep:xA
def qD7(l:List Wri):List yU:=l.map λw=> [I w.1,Str w.2]
theorem qP2(a b:List Wri):qD7 (a++b)=qD7 a++qD7 b:=by simp [qD7]
theorem qHH{l:List Wri}{k:Nat}(h:k<l.length):(qD7 l)[k]?=some [I (l.getD k (0,[])).1,Str (l.getD k (0,[])).2]:=by
 unfold qD7
 rw [jO,qAc (0,[]) h];rfl
theorem qP1(l:List Wri):(qD7 l).all (λx=>x.all Value.oneCell')=true:=by simp [qD7,Value.oneCell']
theorem qOu(a b:List xA):qAG (a++b)=qAG a++qAG b:=by simp [qAG]
def Dk.cells(d:Dk)(A:yS)(c:Nat)(B:yS)(e:Nat)(C:yS)(f:Nat):yU:= [.slice A d.last.length c,.slice B d.wait.length e,.bool d.off,.bool d.armed,I d.fuse,.slice C d.keep.length f]
def Dsk(mm:Hp)(g:Nat)(d:Dk)(C:yS)(f:Nat):Prop:= ∃A c mL B e mW,mm=U [blk g (d.cells A c B e C f) 116,mL,mW]/\Djs [blk g (d.cells A c B e C f) 116,mL,mW]/\Row mL 9 1 A d.last.length c (qAG d.last)/\Row mW 368 2 B d.wait.length e (qD7 d.wait)
theorem Dsk.see{mm:Hp}{g:Nat}{d:Dk}{C:yS}{f:Nat}(h:Dsk mm g d C f): ∃A c B e,qAI mm ⟨g,0,none⟩ (d.cells A c B e C f)/\Sl mm 1 A d.last.length c (qAG d.last)/\Sl mm 2 B d.wait.length e (qD7 d.wait):=by
 obtain ⟨A,c,mL,B,e,mW,rfl,hd,h1,h2⟩:=h
 exact⟨A,c,B,e,qAI.blk0.mono (qG2 hd (.head _)),h1.sl.mono (qG2 hd (.tail _ (.head _))),h2.sl.mono (qG2 hd (.tail _ (.tail _ (.head _))))⟩
def Dk.ready(d:Dk)(i:Int):Int:=if d.off then 8 else if i<0\/(d.last.length:Int)<=i then 10 else 0
def qTN(l:List Wri)(i:Nat):Nat->Option xA
 |0=>none
 |k+1=>if(l.getD k (0,[])).1=i then some (l.getD k (0,[])).2 else qTN l i k
theorem qQh(l:List Wri)(i:Nat):qTN l i 0=none:=rfl
theorem qKr(l:List Wri)(i k:Nat):qTN l i (k+1)=if(l.getD k (0,[])).1=i then some (l.getD k (0,[])).2 else qTN l i k:=rfl
def Dk.now(d:Dk)(i:Nat):xA:=(qTN d.wait i d.wait.length).getD (d.last.getD i [])
def Dk.read(d:Dk)(i:Int):xA:=if d.ready i=0 then d.now i.toNat else []
def qXN(old t:xA)(n:Nat):xA:=t.take n++old.drop n
def qJ6(L:List xA)(w:Wri)(n:Nat):List xA:=L.set w.1 (qXN (L.getD w.1 []) w.2 n)
theorem qLN(L:List xA)(w:Wri)(n:Nat):(qJ6 L w n).length=L.length:=by unfold qJ6;rw [j6]
def qDH(L:List xA)(W:List Wri):Nat->List xA
 |0=>L
 |k+1=>qJ6 (qDH L W k) (W.getD k (0,[])) 64
def qKE(L:List xA)(W:List Wri)(K:xA):Nat->List xA
 |0=>L
 |k+1=>if k<K.length then qJ6 (qKE L W K k) (W.getD k (0,[])) (min (K.getD k 0).toNat 64) else qKE L W K k
theorem qBX(L:List xA)(W:List Wri): ∀k,(qDH L W k).length=L.length
 |0=>rfl
 |k+1=>by rw [qDH,qLN,qBX L W k]
theorem qBa(L:List xA)(W:List Wri)(K:xA): ∀k,(qKE L W K k).length=L.length
 |0=>rfl
 |k+1=>by
  rw [qKE]
  split
  . rw [qLN,qBa L W K k]
  . exact qBa L W K k
def Dk.cut(d:Dk)(K:xA):Dk:={d with last:=qKE d.last d.wait K d.wait.length,wait:= [],off:=true,armed:=false}
def Dk.burns(d:Dk):Prop:=d.armed=true/\d.fuse-1<0
instance (d:Dk):Decidable d.burns:=by unfold Dk.burns;infer_instance
def Dk.burn(d:Dk):Dk:=if d.armed=true then(if d.fuse-1<0 then{d with fuse:=d.fuse-1}.cut d.keep else{d with fuse:=d.fuse-1}) else d
def qPs(s:xA):xA:=s++List.replicate (64-s.length) 0
theorem qVZ{s:xA}(h:s.length<=64):(qPs s).length=64:=by unfold qPs;rw [jA,jQ];omega
structure Dk.ok0 (d:Dk):Prop where
 l64: ∀s∈d.last,s.length=64
 w64: ∀w∈d.wait,w.1<d.last.length/\w.2.length=64
 n0:0<d.last.length
 n1:d.last.length<=1024
structure Dk.ok (d:Dk):Prop extends Dk.ok0 d where
 fz:d.armed=true->0<=d.fuse
 fb: -9223372036854775808<=d.fuse/\d.fuse<=9223372036854775807
theorem qTm{o t:xA}{n:Nat}(ho:o.length=64)(ht:t.length=64)(hn:n<=64):(qXN o t n).length=64:=by unfold qXN;rw [jA,jF,jE];omega
theorem qMp{L:List xA}(h: ∀s∈L,s.length=64){k:Nat}(hk:k<L.length):(L.getD k []).length=64:=by
 rw [jB,jD hk];exact h _ (jU hk)
theorem qSX{W:List Wri}{p:Wri->Prop}(h: ∀w∈W,p w){k:Nat}(hk:k<W.length):p (W.getD k (0,[])):=by
 rw [jB,jD hk];exact h _ (jU hk)
theorem qOC{L:List xA}(h: ∀s∈L,s.length=64){w:Wri}(hw:w.1<L.length/\w.2.length=64){n:Nat}(hn:n<=64): ∀s∈qJ6 L w n,s.length=64:=λs hs=>by
 unfold qJ6 at hs
 rcases yN hs with hs|rfl
 . exact h s hs
 . exact qTm (qMp h hw.1) hw.2 hn
theorem qGm{L:List xA}{W:List Wri}(h: ∀s∈L,s.length=64)(hw: ∀w∈W,w.1<L.length/\w.2.length=64): ∀k,k<=W.length-> ∀s∈qDH L W k,s.length=64
 |0,_=>h
 |k+1,hk=>by
  rw [qDH]
  exact qOC (qGm h hw k xB) (by rw [qBX];exact qSX hw (show k<W.length by omega)) (jL _)
theorem qKD{L:List xA}{W:List Wri}{K:xA}(h: ∀s∈L,s.length=64)(hw: ∀w∈W,w.1<L.length/\w.2.length=64): ∀k,k<=W.length-> ∀s∈qKE L W K k,s.length=64
 |0,_=>h
 |k+1,hk=>by
  rw [qKE]
  split
  . exact qOC (qKD h hw k xB) (by rw [qBa];exact qSX hw (show k<W.length by omega)) (Nat.min_le_right _ _)
  . exact qKD h hw k xB
theorem Dk.ok0.cut{d:Dk}(h:d.ok0)(K:xA):(d.cut K).ok0:=
 ⟨qKD h.l64 h.w64 _ (jL _),(λw hw=>nomatch hw),by show 0<(qKE _ _ _ _).length;rw [qBa];exact h.n0,by show(qKE _ _ _ _).length<=_;rw [qBa];exact h.n1⟩
theorem Dk.ok.cut{d:Dk}(h:d.ok)(K:xA):(d.cut K).ok:=⟨Dk.ok0.cut h.1 K,(λe=>nomatch e),h.fb⟩
theorem Dk.ok.burn{d:Dk}(h:d.ok):d.burn.ok:=by
  unfold Dk.burn
  split
  . rename_i ha
    have h1:=h.fz ha
    have h2:=h.fb
    split
    . exact⟨Dk.ok0.cut (d:={d with fuse:=d.fuse-1}) ⟨h.l64,h.w64,h.n0,h.n1⟩ _,(λe=>nomatch e),by show _<=d.fuse-1/\d.fuse-1<=_;omega⟩
    . exact⟨⟨h.l64,h.w64,h.n0,h.n1⟩,λ_=>by show 0<=d.fuse-1;omega,by show _<=d.fuse-1/\d.fuse-1<=_;omega⟩
  . exact h
def Dk.wErr(d:Dk)(i:Int)(s:xA):Int:=if d.ready i≠0 then d.ready i else if 64<s.length then 2 else if d.burns then 8 else 0
def Dk.write(d:Dk)(i:Int)(s:xA):Dk:=if d.ready i≠0 then d else if 64<s.length then d else if d.burns then d.burn else{d.burn with wait:=d.burn.wait++ [(i.toNat,qPs s)]}
def Dk.sErr(d:Dk):Int:=if d.ready 0≠0 then d.ready 0 else if d.burns then 8 else 0
def Dk.sync(d:Dk):Dk:=if d.ready 0≠0 then d else if d.burns then d.burn else{d.burn with last:=qDH d.burn.last d.burn.wait d.burn.wait.length,wait:= []}
def Dk.new(n:Nat):Dk:=⟨List.replicate n (List.replicate 64 0),[],false,false,0,[]⟩
theorem qNg{d:Dk}{i:Int}(h:d.ready i=0):0<=i/\i<d.last.length/\d.off=false:=by
  unfold Dk.ready at h
  split at h
  . cases h
  . rename_i h1
    split at h
    . cases h
    . exact⟨xB,xB,by simpa using h1⟩
theorem qEY{d:Dk}(h: ¬d.burns):d.burn.last=d.last/\d.burn.wait=d.wait/\d.burn.off=d.off:=by
  unfold Dk.burn
  split
  . rename_i ha
    rw [yW (λe=>h ⟨ha,e⟩)];exact⟨O,O,O⟩
  . exact⟨O,O,O⟩
theorem Dk.ok.write{d:Dk}(h:d.ok)(i:Int)(s:xA):(d.write i s).ok:=by
  unfold Dk.write
  split
  . exact h
  . rename_i h0
    split
    . exact h
    . rename_i h1
      have hb:=h.burn
      split
      . exact hb
      . rename_i h2
        obtain ⟨r1,r2,_⟩:=qNg (Decidable.not_not.1 h0)
        refine⟨⟨hb.l64,λw hw=>?_,hb.n0,hb.n1⟩,hb.fz,hb.fb⟩
        rcases List.mem_append.1 hw with hw|hw
        . exact hb.w64 w hw
        . simp only [ji] at hw
          subst hw
          exact⟨by show i.toNat<d.burn.last.length;rw [(qEY h2).1];omega,qVZ xB⟩
theorem Dk.ok.sync{d:Dk}(h:d.ok):d.sync.ok:=by
  unfold Dk.sync
  split
  . exact h
  . have hb:=h.burn
    split
    . exact hb
    . exact⟨⟨qGm hb.l64 hb.w64 _ (jL _),(λw hw=>nomatch hw),by show 0<(qDH _ _ _).length;rw [qBX];exact hb.n0,by show(qDH _ _ _).length<=_;rw [qBX];exact hb.n1⟩,hb.fz,hb.fb⟩
theorem Dk.new_ok{n:Nat}(h:4<=n)(h2:n<=1024):(Dk.new n).ok:=⟨⟨λs hs=>by have:=zT hs;rw [this,jQ],(λw hw=>nomatch hw),by show 0<(List.replicate n _).length;rw [jQ];omega,by show(List.replicate n _).length<=_;rw [jQ];exact h2⟩,(λe=>nomatch e),⟨by show-9223372036854775808<=(0:Int);decide,by show(0:Int)<=_;decide⟩⟩
theorem qJg(F:Hp)(g:Nat)(d:Dk)(A:yS)(c:Nat)(B:yS)(e:Nat)(C:yS)(f:Nat)(hc:qAI F ⟨g,0,none⟩ (d.cells A c B e C f))(i:Int)(hn:d.last.length<=1073741824):
    Cz prog 253 [Ptr g,I i] F (I (d.ready i)):=by
  refine y7 func253 O ntmps253 O (λw0 hw0=>?_)
  refine yl λ_ C1=>yh O<|yi C1<|ym λ_ C2=>yz<|yl λ_ C3=>yh O<|yj ((qBL underlying24 O O O).as (v':= .bool false) O) O<|yh O<|yi C3<|vC ?_
  refine yl λ_ C4=>yh O<|yj (qAB O O) O<|vA 2 qCy z4_ O O O O O<|yj ((qAH O O b4_ (m:=F) xD (hc.at (i:=2) O)).as (v':= .bool (decide (d.off=true))) (yY Value.bool xD)) O<|yh O<|yi C4<|y1 O (λh8=>?_) (λh8=>?_)
  .
    exact yl λ_ C5=>yh O<|yi C5<|yr<|vI<|y5<|yw hw0 O () (yY I (show(8:Int)=d.ready i by unfold Dk.ready;rw [yX h8])) yd [0] O xC
  refine yl λ_ C6=>yh O<|yj (qAP O O O) O<|yh O<|vO (d:=16) O (λh16=>?_) (λh16=>?_)
  .
    refine yn 9 O<|yi C6<|vV ?_
    exact yl λ_ C7=>yh O<|yi C7<|yr<|vI<|y5<|yw hw0 O () (yY I (show(10:Int)=d.ready i by unfold Dk.ready;rw [yW h8,yX xB])) yd [0] O xC
  refine yn 2 O<|yv (qAB O O) O<|yv (qAA O O qCy O qBs O) O<|yv (qAH O O qB7 (m:=F) xD (hc.at (i:=0) O)) O<|yv (qAN qAg O O) O<|yv (qA1 O O O) O<|yn 2 O<|yi C6<|y1 O (λh13=>?_) (λh13=>?_)
  .
    exact yl λ_ C8=>yh O<|yi C8<|yr<|vI<|y5<|yw hw0 O () (yY I (show(10:Int)=d.ready i by unfold Dk.ready;rw [yW h8,yX xB])) yd [0] O xC
  refine vP<|vB<|yq (yu C2 ?_)
  exact yl λ_ C9=>yh O<|yi C9<|yr<|yw hw0 O () (yY I (show(0:Int)=d.ready i by unfold Dk.ready;rw [yW h8,yW xB])) yd [0] O xC
theorem qOV(F:Hp)(g:Nat)(d:Dk)(A:yS)(c:Nat)(B:yS)(e:Nat)(C:yS)(f:Nat)(hc:qAI F ⟨g,0,none⟩ (d.cells A c B e C f)):
    Cz prog 120 [Ptr g] F (I d.last.length):=by
  refine y7 func120 O ntmps120 O (λw0 hw0=>?_)
  refine yl λ_ C1=>yh O<|yi C1<|ym λ_ C2=>yl λ_ C3=>yh O<|yj ((qBL underlying24 O O O).as (v':= .bool false) O) O<|yi C3<|vC ?_
  exact yy C2<|yl λ_ C4=>yh O<|yj (qAB O O) O<|vA 0 qCy qBs O O O O O<|yj (qAH O O qB7 (m:=F) xD (hc.at (i:=0) O)) O<|yj (qAN qAg O O) O<|yh O<|yi C4<|yr<|yw hw0 O () O yd [0] O xC
theorem qVz(F:Hp)(B:yS)(n e:Nat):Ct prog 254 [.slice B n e] [F] (λx:Nat=> .func (.func 285) #[] #[Ptr x]) (λ_=>True) (λx=> [F,blk x [.slice B n e] 114]):=by
 refine y7 func254 O ntmps254 O (λw0 hw0=>?_)
 exact yl λ_ C1=>yp (qAi O O O) O λg1 _=>yh O<|yi C1<|yl λ_ C2=>yj (qBt O O) O<|yh O<|yi C2<|yr<|yw hw0 O g1 O yd [0,1] O xC
theorem qS9(Fr:Hp)(gB:Nat)(B:yS)(W:List Wri)(e:Nat)(hn2:W.length<=1073741824)(ha:qAI Fr ⟨gB,0,none⟩ [.slice B W.length e])(hs:Sl Fr 2 B W.length e (qD7 W)):
    qGh prog 285 [Ptr gB] Fr (λi=> [I (W.length-1-i:Nat),.agg #[I (W.getD (W.length-1-i) (0,[])).1,Str (W.getD (W.length-1-i) (0,[])).2]]) W.length:=by
  refine qGh.walk func285 O ntmps285 O (λ{X} M IY S l x0 w0 hw0 h0 hY=>?_)
  refine yl λ_ C1=>yj (qAH O O isAgg114 (m:=Fr) xD (ha)) O<|yj (qAN qJX O O) O<|yj ((qAm O O O xB).as (v':=I ((W.length:Int)-1-((0:Nat):Int))) (yY I xB)) O<|yh O<|yi C1<|yz<|vN (X:=Nat×X) (λy=> [(0,.func (.yield l) #[] #[]),(1,Ptr gB),(3,I ((W.length:Int)-1-(y.1:Int)))]) (λy=> [Fr,M y.2]) (λy=>y.1<=W.length/\IY y.1 y.2) (λy=>W.length-y.1) (0,x0) (⟨jH _,h0⟩) (Sub.of O) (λ_ h=>h) ?_
  rintro⟨i,x⟩ ⟨hi,hI⟩ I0 hI0
  dsimp only at hi hI⊢
  refine ym λ_ C2=>yl λ_ C3=>yh O<|yj (qA1 O O O) O<|yi C3<|y1 O (λh8=>?_) (λh8=>?_)
  .
    refine yy C2<|ym λ_ C4=>yz<|ym λ_ C5=>wN ?_
    refine vc (qAT O O) O O O ?_
    refine vc ((qAT O O).nat (W.length-1-i) xB) O O O ?_
    refine vc (qAH O O isAgg114 (m:=Fr) xD (ha)) O O O ?_
    refine vc ((qAT O O).nat (W.length-1-i) xB) O O O ?_
    refine vc (qAC O O O qJX qHF hs xB) O O O ?_
    refine vc (qAb O O isAgg368 qHF (m:=Fr) xD (hs.elem (qHH xB)) O) O O O ?_
    refine wO (ex:= []) O O O O O O (hY i x xB hI) ?_
    rintro x' b hb1 hb2
    cases b
    .
      have hyb:=hb2 O
      refine vc (qA5 O O) O O O ?_
      refine vy ?_
      refine yq (yu C5 ?_)
      refine vV ?_
      exact yr<|vI<|y5<|y5<|vI<|vH hw0 (λ_ _ h=>h) (qIj O) (λw hs=>⟨x',⟨_,O⟩,.inr hyb,hs⟩)
    have hyb:=hb1 O
    refine vc (qA5 O O) O O O ?_
    refine vy ?_
    refine yq (yu C5 ?_)
    refine vC ?_
    refine vP<|vB<|yq (yu C4 ?_)
    exact yt<|yh O<|yj ((qAm O O O xB).as (v':=I ((W.length:Int)-1-((i+1:Nat):Int))) (yY I xB)) O<|yh O<|y8<|yq<|vE (i+1,x') hI0 ⟨by dsimp only;omega,hyb⟩ (Sub.of O) (λ_ h=>h)
  refine vK<|y6<|y6<|vL ?_
  exact vo hw0 (λ_ _ h=>h) (qIj O) (λw hs=>⟨x,⟨_,O⟩,.inl (by rw [show W.length=i by omega];exact hI),hs⟩)
theorem qTz(F:Hp)(g:Nat)(d:Dk)(A:yS)(c:Nat)(B:yS)(e:Nat)(C:yS)(f:Nat)(hc:qAI F ⟨g,0,none⟩ (d.cells A c B e C f))(hL:Sl F 1 A d.last.length c (qAG d.last))(hW:Sl F 2 B d.wait.length e (qD7 d.wait))(i:Int)(hn:d.last.length<=1073741824)(hn2:d.wait.length<=1073741824):
    Cz prog 198 [Ptr g,I i] F (.tuple #[Str (d.read i),I (d.ready i)]):=by
  refine y7 func198 O ntmps198 O (λw0 hw0=>?_)
  refine yl λ_ C1=>yp (qAi O O O) O λg3 _=>yp (qAO O e9_ O) O λg4 _=>yp (qAO O zeroValue25 O) O λg5 _=>yi C1<|ym λ_ C2=>yl λ_ C3=>yh O<|vF 1 b3_ O O O O O<|yp (qAZ O O (λF' hF=>qJg F' g d A c B e C f (hc.mono (Fa hF)) i hn)) O λg11 _=>yh O<|yi C3<|yl λ_ C4=>yh O<|yj (qAQ O O O) O<|yi C4<|y1 O (λh13=>?_) (λh13=>?_)
  .
    exact yl λ_ C5=>yh O<|vG (qAF (i:=2) O O O O O z9_ O O) O O λ_ _=>vG (qAF (l:= [I 0]) (i:=3) (vs:= [I (d.ready i)]) O O O O O qJL O O) O O λ_ _=>yi C5<|yr<|y5<|vH hw0 (λ_ _ h=>h) (rv2 O (RV.blk1 2 O O b9_) (RV.blk1 3 O O qPk)) (qAf () (by rw [show d.read i= [] from yW xB]) yd [0] O xC)
  refine yy C2<|ym λ_ C6=>ym λ_ C7=>?_
  have h0:d.ready i=0:=xB
  obtain ⟨hi0,hil⟩:0<=i/\i<d.last.length:=by
    unfold Dk.ready at h0
    split at h0
    . cases h0
    . split at h0
      . cases h0
      . omega
  obtain ⟨iN,hiN⟩:=zk hi0
  have hrd:d.read i=d.now iN:=by unfold Dk.read;rw [yX h0,hiN];rfl
  refine yt<|yh O<|yj (qAB O O) O<|vA 1 qCy qIH O O O O O<|yj (qAH O O isAgg114 (m:=F) xD (hc.at (i:=1) O)) O<|yp (qBx O O (λF' _=>qVz F' B d.wait.length e)) O ?_
  rintro gB _
  refine yi C7<|yz<|vW [2,3,0,1,4] [blk g4 [Str []] 9,blk g5 [I 0] 25,F,blk g3 [I i] 3,blk gB [.slice B d.wait.length e] 114] O xC<|wQ (λx:xA×Int=> [blk g4 [Str x.1] 9,blk g5 [I x.2] 25]) [F,blk g3 [I i] 3,blk gB [.slice B d.wait.length e] 114] (λr x=>x=([],0)/\d.now iN=(qTN d.wait iN (d.wait.length-r)).getD (d.last.getD iN [])) (λcd x=>cd= .ret/\x=(d.now iN,0)) ([],0) O ent (λFr hF=>qS9 Fr gB B d.wait e hn2 (qAI.blk0.mono (hF (blk gB [.slice B d.wait.length e] 114) xD)) (hW.mono (Fa hF))) (λ_ _=>rfl) O (⟨O,O⟩) ?_ ?_ ?_
  .
    intro r x l wa wb hi hI K8 Post8 C8 hN8 hR8 hE8
    obtain ⟨x1,x2⟩:=x
    obtain ⟨hx,hnow⟩:=hI
    cases hx
    have hsk:qTN d.wait iN (d.wait.length-r)=if(d.wait.getD (d.wait.length-1-r) (0,[])).1=iN then some (d.wait.getD (d.wait.length-1-r) (0,[])).2 else qTN d.wait iN (d.wait.length-(r+1)):=by
      have:=qKr d.wait iN (d.wait.length-1-r)
      rw [show d.wait.length-1-r+1=d.wait.length-r by omega] at this
      rw [this,show d.wait.length-(r+1)=d.wait.length-1-r by omega]
    refine vt ?_
    refine yp (qAO O zeroValue368 O) O λg8 _=>vG (qAF (l:= [I 0,Str []]) (i:=5) (vs:= [I (d.wait.getD (d.wait.length-1-r) (0,[])).1,Str (d.wait.getD (d.wait.length-1-r) (0,[])).2]) O O O O O qHF O O) O O λ_ _=>vu ?_
    refine yq (C8 _ _ ?_)
    refine wM ?_
    refine wK (λ_ C9=>?_)
    refine vt ?_
    refine vA 0 qOq z3_ O O O O O<|vF 5 b3_ O O O O O<|vF 3 b3_ O O O O O<|yj ((qAR O O O).as (v':= .bool (decide ((d.wait.getD (d.wait.length-1-r) (0,[])).1=iN))) (yY Value.bool (decide_eq_decide.2 xB))) O<|vu ?_
    refine yq (yu C9 ?_)
    refine wX O (λh25=>?_) (λh25=>?_)
    .
      refine wK (λ_ C10=>?_)
      refine vt ?_
      refine vA 1 qOq z9_ O O O O O<|vF 5 b9_ O O O O O<|vG (qAF (l:= [Str []]) (i:=0) (vs:= [Str (d.wait.getD (d.wait.length-1-r) (0,[])).2]) O O O O O z9_ O O) O O λ_ _=>vG (qAF (i:=1) O O O O O qJL O O) O O λ_ _=>vu ?_
      refine yq (yu C10 ?_)
      refine wk ?_
      refine vI<|vW [0,1,2,3,4] [blk g4 [Str (d.wait.getD (d.wait.length-1-r) (0,[])).2] 9,blk g5 [I 0] 25,F,blk g3 [I i] 3,blk gB [.slice B d.wait.length e] 114] O xC ?_
      exact hR8 _ ((d.wait.getD (d.wait.length-1-r) (0,[])).2,0) ⟨O,by rw [hnow,hsk,yX h25];rfl⟩
    refine wj ?_
    refine vB<|vW [0,1,2,3,4] [blk g4 [Str []] 9,blk g5 [I 0] 25,F,blk g3 [I i] 3,blk gB [.slice B d.wait.length e] 114] O xC ?_
    exact hN8 _ ([],0) ⟨O,by rw [hnow,hsk,yW h25]⟩
  .
    intro w8 x hx8 hI
    obtain ⟨x1,x2⟩:=x
    obtain ⟨hx,hnow⟩:=hI
    cases hx
    rw [zK,qQh] at hnow
    refine vB<|yq (yu C6 ?_)
    refine ym λ_ C11=>vQ [blk g4 [Str []] 9,blk g5 [I 0] 25,F,blk g3 [I i] 3,blk gB [.slice B d.wait.length e] 114] [7,8] (.y 0 (.y 1 (.y 2 (.y 3 (.y 4 (.y 5 (.y 6 (.e 7 (.e 8 .nil))))))))) ye xF xD ?_
    refine yx ?_
    refine yo O (qAB O O) O O<|yo O (qAA O O qCy O qBs O) O O<|yo O (qAH O O qB7 (m:=F) xD (hc.at (i:=0) O)) O O<|yo O (qAD 3 O O O b3_ O) O O<|yo O (qAC O O (by show some (I i)=_;rw [hiN]) qAg z9_ hL xB) O O<|yo O (qAH O O b9_ (m:=F) xD (hL.elem (qAa (qAc [] (show iN<d.last.length by omega))))) O O<|vZ O (qAF (l:= [Str []]) (i:=0) (vs:= [Str (d.last.getD iN [])]) O O O O O z9_ O O) O O O λ_ _=>vZ O (qAF (i:=1) O O O O O qJL O O) O O O λ_ _=>vM<|yq (yu C11 ?_)
    exact yr<|wG hw0 hx8 (λ_ _ h=>h) (rv2 O (RV.blk1 0 O O b9_) (RV.blk1 1 O O qPk)) (qAf () (by rw [hrd,h0,hnow];rfl) yd [2] O xC)
  intro w8 x c hx8 hS
  obtain ⟨rfl,rfl⟩:=hS
  exact yr<|vI<|y5<|wG hw0 hx8 (λ_ _ h=>h) (rv2 O (RV.blk1 0 O O b9_) (RV.blk1 1 O O qPk)) (qAf () (by rw [hrd,h0]) yd [2] O xC)
theorem qSi(g i:Nat):qEW (some ⟨g,0,none⟩) i 1=⟨g,i,none⟩:=by rw [qH1];simp
theorem qSA(F mL:Hp)(g gL c n:Nat)(d:Dk)(B:yS)(e:Nat)(C:yS)(f:Nat)(L:List xA)(hc:qAI F ⟨g,0,none⟩ [.slice (some ⟨gL,0,none⟩) L.length c,.slice B d.wait.length e,.bool d.off,.bool d.armed,I d.fuse,.slice C d.keep.length f])
    (hr:Row mL 9 1 (some ⟨gL,0,none⟩) L.length c (qAG L)) (at_:Nat) (t:xA) (hat:at_<L.length) (ht:n<=t.length) (ho:n<=(L.getD at_ []).length) (hs:t.length<=1048576) (hs2:(L.getD at_ []).length<=1048576) (hn3:L.length<=1073741824):
    Ct prog 289 [Ptr g,.agg #[I at_,Str t],I n] [mL,F] (λ_:Hp=> .tuple #[]) (λm=>Row m 9 1 (some ⟨gL,0,none⟩) L.length c (qAG (qJ6 L (at_,t) n))) (λm=> [m,F]):=by
  refine y7 func289 O ntmps289 O (λw0 hw0=>?_)
  refine yl λ_ C1=>yp (qAi O O O) O λg4 _=>yi C1<|vQ [mL,F,blk g4 [I at_,Str t] 368] [22] (.y 0 (.y 1 (.y 2 (.y 3 (.y 4 (.y 5 (.y 6 (.y 7 (.y 8 (.y 9 (.y 10 (.y 11 (.y 12 (.y 13 (.y 14 (.y 15 (.y 16 (.y 17 (.y 18 (.y 19 (.y 20 (.y 21 (.e 22 .nil))))))))))))))))))))))) ye xF xD ?_
  refine yx ?_
  refine yo O (qAB O O) O O<|yo O (qAA O O qCy O qBs O) O O<|yo O (qAH O O qB7 (m:=F) xD (hc.at (i:=0) O)) O O<|yo O (qAA O O qOq O z3_ O) O O<|yo O (qAD 2 O O O b3_ O) O O<|yo O (qAA O O qOq O z9_ O) O O<|yo O (qAD 2 O O O b9_ O) O O<|yx ?_
  refine yo O ((qA0 u9_ O O O O ⟨xB,xB⟩).as (v':=Str (t.take n)) (yY Str zI)) O O<|yx ?_
  refine yo O (qAB O O) O O<|yo O (qAA O O qCy O qBs O) O O<|yo O (qAH O O qB7 (m:=F) xD (hc.at (i:=0) O)) O O<|yo O (qAA O O qOq O z3_ O) O O<|yo O (qAD 2 O O O b3_ O) O O<|yo O (qAC O O O qAg z9_ hr.sl xB) O O<|yo O (qAH O O b9_ (m:=mL) xD (hr.sl.elem (qAa (qAc [] hat)))) O O<|yx ?_
  refine yo O ((qA0 u9_ O O O O ⟨xB,xB⟩).as (v':=Str ((L.getD at_ []).drop n)) (by rw [jn])) O O<|yo O ((qAq O O O (by simp only [jF,jE];omega)).as (v':=Str (qXN (L.getD at_ []) t n)) O) O O<|yo O (qAC O O O qAg z9_ hr.sl xB) O O<|vZ O (qBr (i:=0) (k:=at_) (off:=0) (b:= [Str (qXN (L.getD at_ []) t n)]) O (by show some _=some _;rw [qSi]) O O hr (vs:= [Str (qXN (L.getD at_ []) t n)]) O z9_ O xB (qAa (qAc [] hat)) O (by show _+1<=1;decide)) O O O ?_
  rintro m9 h9
  exact vM<|vo hw0 (λ_ _ h=>h) (qIj O) (qAf m9 O (by rw [qEK] at h9;exact h9) [0,1] O xC)
theorem qY5(F mL mW:Hp)(g:Nat)(d:Dk)(hok:d.ok0)(hn2:d.wait.length<=1073741824)(gL:Nat)(c:Nat)(B:yS)(e:Nat)(C:yS)(f:Nat)(hL:Row mL 9 1 (some ⟨gL,0,none⟩) d.last.length c (qAG d.last))(hW:Row mW 368 2 B d.wait.length e (qD7 d.wait))(K:xA)(E:yS)(q:Nat)(hK:Sl F 1 E K.length q (qAe K))(hKn:K.length<=9223372036854775807):
    Ct prog 301 [Ptr g,.slice E K.length q] [blk g [.slice (some ⟨gL,0,none⟩) d.last.length c,.slice B d.wait.length e,.bool d.off,.bool d.armed,I d.fuse,.slice C d.keep.length f] 116,mL,mW,F] (λ_:Hp=> .tuple #[]) (λm=>Row m 9 1 (some ⟨gL,0,none⟩) d.last.length c (qAG (qKE d.last d.wait K d.wait.length))) (λm=> [blk g [.slice (some ⟨gL,0,none⟩) d.last.length c,.slice none 0 0,.bool true,.bool false,I d.fuse,.slice C d.keep.length f] 116,m,F]):=by
  refine y7 func301 O ntmps301 O (λw0 hw0=>?_)
  refine ym λ_ C1=>yl λ_ C2=>yh O<|yj ((qBL underlying24 O O O).as (v':= .bool false) O) O<|yi C2<|vC ?_
  refine yy C1<|ym λ_ C3=>yl λ_ C4=>yh O<|yj (qAB O O) O<|vA 1 qCy qIH O O O O O<|vF 0 isAgg114 O O O O O<|yj (qAN qJX O O) O<|yh O<|yi C4<|yz<|vN (X:=Nat×Hp) (λx=> [(0,Ptr g),(1,.slice E K.length q),(11,.slice B d.wait.length e),(12,I d.wait.length),(13,I x.1)]) (λx=> [blk g [.slice (some ⟨gL,0,none⟩) d.last.length c,.slice B d.wait.length e,.bool d.off,.bool d.armed,I d.fuse,.slice C d.keep.length f] 116,x.2,mW,F]) (λx=>x.1<=d.wait.length/\Row x.2 9 1 (some ⟨gL,0,none⟩) d.last.length c (qAG (qKE d.last d.wait K x.1))) (λx=>d.wait.length-x.1) (0,mL) (⟨jH _,hL⟩) (Sub.of O) (λ_ h=>h) ?_
  rintro⟨k,m⟩ ⟨hk,hr⟩ I0 hI0
  dsimp only at hk hr⊢
  refine yl λ_ C5=>yj (qAP O O O) O<|yi C5<|ym λ_ C6=>y1 O (λh14=>?_) (λh14=>?_)
  .
    refine yy C6<|ym λ_ C7=>yz<|yl λ_ C8=>yh O<|yj (qAC O O O qJX qHF hW.sl xB) O<|yj (qAb O O isAgg368 qHF (m:=mW) xD (hW.sl.elem (qHH xB)) O) O<|yp (qAO O zeroValue368 O) O λg5 _=>yh O<|vG (qAF (l:= [I 0,Str []]) (i:=4) (vs:= [I (d.wait.getD k (0,[])).1,Str (d.wait.getD k (0,[])).2]) O O O O O qHF O O) O O λ_ _=>yi C8<|yl λ_ C9=>yn 2 O<|yj (qAN qBo O O) O<|yj (qAP O O O) O<|yi C9<|y1 O (λh21=>?_) (λh21=>?_)
    .
      have ⟨hw1,hw2⟩:=qSX hok.w64 (show k<d.wait.length by omega)
      have h64:=qMp (qKD hok.l64 hok.w64 (K:=K) k hk) (show(d.wait.getD k (0,[])).1<(qKE d.last d.wait K k).length by rw [qBa];exact hw1)
      obtain ⟨nk,hnk⟩: ∃nk,nk=min (K.getD k 0).toNat 64:=⟨_,rfl⟩
      refine vQ [blk g5 [I (d.wait.getD k (0,[])).1,Str (d.wait.getD k (0,[])).2] 368,F] [] (.y 0 (.y 1 (.y 2 (.y 3 (.y 4 (.y 5 (.y 6 (.y 7 (.e 8 .nil))))))))) ye xF xD ?_
      refine yx ?_
      refine yo O (qAx 0 O O O isAgg368 qHF O) O O<|yx ?_
      refine yx ?_
      refine yo O (qAC O O O qBo z5_ hK xB) O O<|yo O (qAH O O b5_ (m:=F) xD (hK.elem (qBw (qAc 0 xB)))) O O<|yo O (qBG O O u5_ u3_) O O<|yo O ((qEx O O O).nat (nk) xB) O O<|vD O (qAJ O O ent (vR 1 O (λF' hF=>by have:=qSA F' m g gL c nk d B e C f (qKE d.last d.wait K k) (by rw [qBa];exact qAI.blk0.mono (hF (blk g [.slice (some ⟨gL,0,none⟩) d.last.length c,.slice B d.wait.length e,.bool d.off,.bool d.armed,I d.fuse,.slice C d.keep.length f] 116) xD)) (by rw [qBa];exact hr) (d.wait.getD k (0,[])).1 (d.wait.getD k (0,[])).2 (by rw [qBa];exact hw1) xB xB xB xB (by rw [qBa];have:=hok.n1;omega);rw [qBa] at this;exact this))) O xD ?_
      rintro m30 h30
      refine vW [0,1,2,3] [blk g [.slice (some ⟨gL,0,none⟩) d.last.length c,.slice B d.wait.length e,.bool d.off,.bool d.armed,I d.fuse,.slice C d.keep.length f] 116,m30,mW,F] O xC<|vM<|vB<|yq (yu C7 ?_)
      exact yt<|yj ((qAM O O O xB).nat (k+1) xB) O<|yh O<|y8<|yq<|vE (k+1,m30) hI0 ⟨by dsimp only;omega,by dsimp only;rw [qKE,yX xB,<-hnk];exact h30⟩ (Sub.of O) (λ_ h=>h)
    refine vP<|vB<|yq (yu C7 ?_)
    exact yt<|yj ((qAM O O O xB).nat (k+1) xB) O<|yh O<|y8<|yq<|vW [0,1,2,3] [blk g [.slice (some ⟨gL,0,none⟩) d.last.length c,.slice B d.wait.length e,.bool d.off,.bool d.armed,I d.fuse,.slice C d.keep.length f] 116,m,mW,F] O xC<|vE (k+1,m) hI0 ⟨by dsimp only;omega,by dsimp only;rw [qKE,yW xB];exact hr⟩ (Sub.of O) (λ_ h=>h)
  refine vK<|y6<|y6<|vL ?_
  refine yq (yu C3 ?_)
  have hkn:k=d.wait.length:=xB
  subst hkn
  refine yt<|yn 3 O<|yj (qAB O O) O<|vA 1 qCy qIH O O O O O<|vG (qAU (i:=0) O O O O O qIH O xD) O O λ_ _=>?_
  change J _ _ _ [blk g [.slice (some ⟨gL,0,none⟩) d.last.length c,.slice none 0 0,.bool d.off,.bool d.armed,I d.fuse,.slice C d.keep.length f] 116,m,mW,F] _
  refine yj (qAB O O) O<|vA 2 qCy z4_ O O O O O<|vG (qAU (i:=0) (vs:= [.bool true]) O O O O O z4_ O xD) O O λ_ _=>?_
  change J _ _ _ [blk g [.slice (some ⟨gL,0,none⟩) d.last.length c,.slice none 0 0,.bool true,.bool d.armed,I d.fuse,.slice C d.keep.length f] 116,_,_,_] _
  exact yj (qAB O O) O<|vA 3 qCy z4_ O O O O O<|vG (qAU (i:=0) (vs:= [.bool false]) O O O O O z4_ O xD) O O λ_ _=>y8<|vo hw0 (λ_ _ h=>h) (qIj O) (qAf m O hr [0,1,3] O xC)
theorem Dsk.open{mm:Hp}{g:Nat}{d:Dk}{C:yS}{f:Nat}(h:Dsk mm g d C f)(h0:0<d.last.length): ∃gL c mL B e mW,mm=U [blk g (d.cells (some ⟨gL,0,none⟩) c B e C f) 116,mL,mW]/\Djs [blk g (d.cells (some ⟨gL,0,none⟩) c B e C f) 116,mL,mW]/\Row mL 9 1 (some ⟨gL,0,none⟩) d.last.length c (qAG d.last)/\Row mW 368 2 B d.wait.length e (qD7 d.wait):=by
 obtain ⟨A,c,mL,B,e,mW,h1,h2,h3,h4⟩:=h
 obtain ⟨gL,rfl⟩:=h3.at h0
 exact⟨gL,c,mL,B,e,mW,h1,h2,h3,h4⟩
theorem qL2{a b:Hp}(h:Djs [a,b]):Djs [a,b,λ_=>none]:=by
 rw [qAh] at h⊢
 simp only [zB,j5,jr,or_false] at h⊢
 refine⟨?_,λ_ _ _=> .inr (by rename_i h _;rw [h]),λ_ hm=>hm.elim,.nil⟩
 rintro m (rfl|rfl)
 . exact h.1 m O
 . exact λ_=> .inr O
theorem qY4{g:Nat}(d:Dk)(gL c:Nat)(C:yS)(f:Nat)(m:Hp)(K:xA)(hm:Row m 9 1 (some ⟨gL,0,none⟩) d.last.length c (qAG (qKE d.last d.wait K d.wait.length)))(hj:Djs [blk g [.slice (some ⟨gL,0,none⟩) d.last.length c,.slice none 0 0,.bool true,.bool false,I d.fuse,.slice C d.keep.length f] 116,m]):
    Dsk (U [blk g [.slice (some ⟨gL,0,none⟩) d.last.length c,.slice none 0 0,.bool true,.bool false,I d.fuse,.slice C d.keep.length f] 116,m]) g (d.cut K) C f:=by
  refine⟨some ⟨gL,0,none⟩,c,m,none,0,λ_=>none,?_,?_,?_,qBf.nil⟩
  . show U [blk g [.slice (some ⟨gL,0,none⟩) d.last.length c,.slice none 0 0,.bool true,.bool false,I d.fuse,.slice C d.keep.length f] 116,m]=U [blk g [.slice (some ⟨gL,0,none⟩) (qKE d.last d.wait K d.wait.length).length c,.slice none 0 0,.bool true,.bool false,I d.fuse,.slice C d.keep.length f] 116,m,λ_=>none]
    rw [qBa];rfl
  . show Djs [blk g [.slice (some ⟨gL,0,none⟩) (qKE d.last d.wait K d.wait.length).length c,.slice none 0 0,.bool true,.bool false,I d.fuse,.slice C d.keep.length f] 116,m,λ_=>none]
    rw [qBa];exact qL2 hj
  . show Row m 9 1 (some ⟨gL,0,none⟩) (qKE d.last d.wait K d.wait.length).length c _
    rw [qBa];exact hm
theorem qS3(F mm:Hp)(g:Nat)(d:Dk)(C:yS)(f:Nat)(hb:Dsk mm g d C f)(hok:d.ok)(hn2:d.wait.length<=1073741824)(hKp:Sl F 1 C d.keep.length f (qAe d.keep))(hn3:d.keep.length<=9223372036854775807):
    Ct prog 288 [Ptr g] [mm,F] (λ_:Hp=> .bool (decide d.burns)) (λm=>Dsk m g d.burn C f) (λm=> [m,F]):=by
  obtain ⟨gL,c,mL,B,e,mW,rfl,hd,hL,hW⟩:=hb.open hok.n0
  unfold Dk.cells at hd⊢
  refine y7 func288 O ntmps288 O (λw0 hw0=>?_)
  refine wR hd ?_
  refine yl λ_ C1=>yh O<|yi C1<|ym λ_ C2=>yl λ_ C3=>yh O<|yj (qAB O O) O<|vA 3 qCy z4_ O O O O O<|vF 0 b4_ O O O O O<|yj ((qA5 O O).as (v':= .bool (decide (¬d.armed=true))) (yY Value.bool xD)) O<|yi C3<|y1 O (λh7=>?_) (λh7=>?_)
  .
    exact yl λ_ C4=>yh O<|yi C4<|yr<|y5<|vH hw0 (λ_ _ h=>h) (qIM O O) (qF4 [blk g [.slice (some ⟨gL,0,none⟩) d.last.length c,.slice B d.wait.length e,.bool d.off,.bool d.armed,I d.fuse,.slice C d.keep.length f] 116,mL,mW] [F] (U [blk g [.slice (some ⟨gL,0,none⟩) d.last.length c,.slice B d.wait.length e,.bool d.off,.bool d.armed,I d.fuse,.slice C d.keep.length f] 116,mL,mW]) (yY Value.bool (yb (λh=>h7 h.1)).symm) (λhd=>by rw [show d.burn=d from yW h7];exact⟨_,c,mL,B,e,mW,O,hd,hL,hW⟩) [0,1,2,3] O O xC)
  refine yy C2<|ym λ_ C5=>?_
  have ha:d.armed=true:=by simpa using h7
  refine yt<|yh O<|yj (qAB O O) O<|vA 4 qCy z3_ O O O O O<|vF 0 b3_ O O O O O<|yj (qAm O O O (by have:=hok.fb;have:=hok.fz ha;omega)) O<|yj (qAB O O) O<|vA 4 qCy z3_ O O O O O<|vG (qAU (i:=0) O O O O O z3_ O xD) O O λ_ _=>yi C5<|ym λ_ C6=>yl λ_ C7=>yh O<|yj (qAB O O) O<|vA 4 qCy z3_ O O O O O<|vF 0 b3_ O O O O O<|yj (qA1 O O O) O<|yi C7<|y1 O (λh19=>?_) (λh19=>?_)
  .
    exact yl λ_ C8=>yh O<|yi C8<|yr<|y5<|vH hw0 (λ_ _ h=>h) (qIM O O) (qF4 [blk g [.slice (some ⟨gL,0,none⟩) d.last.length c,.slice B d.wait.length e,.bool d.off,.bool d.armed,I (d.fuse-1),.slice C d.keep.length f] 116,mL,mW] [F] (U [blk g [.slice (some ⟨gL,0,none⟩) d.last.length c,.slice B d.wait.length e,.bool d.off,.bool d.armed,I (d.fuse-1),.slice C d.keep.length f] 116,mL,mW]) (yY Value.bool (yb (λh=>by have:=h.2;omega)).symm) (λhd=>by rw [show d.burn={d with fuse:=d.fuse-1} from by unfold Dk.burn;rw [yX ha,yW xB]];exact⟨_,c,mL,B,e,mW,O,hd,hL,hW⟩) [0,1,2,3] O O xC)
  refine yy C6<|yl λ_ C9=>yn 2 O<|yj (qAB O O) O<|vA 5 qCy qKQ O O O O O<|vF 0 qPt O O O O O<|yp (qAJ O O ent ((qY5 F mL mW g {d with fuse:=d.fuse-1} ⟨hok.l64,hok.w64,hok.n0,hok.n1⟩ hn2 gL c B e C f hL hW d.keep C f hKp hn3))) O ?_
  rintro m25 h25
  exact yi C9<|yl λ_ C10=>yh O<|yi C10<|yr<|vH hw0 (λ_ _ h=>h) (qIM O O) (qF4 [blk g [.slice (some ⟨gL,0,none⟩) d.last.length c,.slice none 0 0,.bool true,.bool false,I (d.fuse-1),.slice C d.keep.length f] 116,m25] [F] (U [blk g [.slice (some ⟨gL,0,none⟩) d.last.length c,.slice none 0 0,.bool true,.bool false,I (d.fuse-1),.slice C d.keep.length f] 116,m25]) (yY Value.bool (ya (show d.burns from⟨ha,xB⟩)).symm) (λhj=>by rw [show d.burn={d with fuse:=d.fuse-1}.cut d.keep from by unfold Dk.burn;rw [yX ha,yX xB]];exact qY4 {d with fuse:=d.fuse-1} gL c C f m25 d.keep h25 hj) [0,1,2] O O xC)
theorem qLm(F:Hp)(K:List xA)(E:yS)(q:Nat)(hK:Sl F 1 E K.length q (qAG K))(hn:K.length<=1073741824):
    Ct prog 126 [.slice E K.length q] [F] (λx:yS×Nat×Hp=> .slice x.1 K.length x.2.1) (λx=>Row x.2.2 9 1 x.1 K.length x.2.1 (qAG K)) (λx=> [F,x.2.2]):=by
  refine y7 func126 O ntmps126 O (λw0 hw0=>?_)
  refine yl λ_ C1=>yh O<|yi C1<|ym λ_ C2=>yl λ_ C3=>yh O<|yj ((qFT qAg O O O).as (v':= .bool (decide (E.isNone=true))) (yY Value.bool (by cases E<;>rfl))) O<|yi C3<|y1 O (λh4=>?_) (λh4=>?_)
  .
    refine ym λ_ C4=>?_
    have hnil:K= []:=by
      cases K with
      |nil=>rfl
      |cons a r=>
        obtain ⟨_,ad,hA,_⟩:=hK.2.2 0 _ rfl
        rw [hA] at h4;cases h4
    exact ve [0,1] [F,λ_=>none] O xC<|yt<|yh O<|yi C4<|yr<|y5<|yw hw0 O (none,0,λ_=>none) (by rw [hnil];rfl) (by rw [hnil];exact qBf.nil) [0,1] O xC
  refine yy C2<|yl λ_ C5=>yp (qBN O qAg el9) O λg5 _=>yh O<|yp (qAV (i:=1) (m2:=F) O O O qAg qAg el9 O (qAj (q:=True) (xs:= []) O xD) xD hK (by simp [qAG,Value.oneCell']) xB xB) O ?_
  rintro⟨A7,c7,m7⟩ h7
  try dsimp only at h7
  exact yh O<|yi C5<|yr<|yw hw0 O (A7,c7,m7) (by rw [jl]) (by rw [jl] at h7;exact h7) [0,1] O xC
theorem qTY(F mm:Hp)(g:Nat)(d:Dk)(C:yS)(f:Nat)(hb:Dsk mm g d C f)(hok:d.ok)(hn2:d.wait.length<=1073741824)(hKp:Sl F 1 C d.keep.length f (qAe d.keep))(hn3:d.keep.length<=9223372036854775807)(i:Int)(s:xA)(hs:s.length<=1048576):
    Ct prog 260 [Ptr g,I i,Str s] [mm,F] (λ_:Hp=>I (d.wErr i s)) (λm=>Dsk m g (d.write i s) C f) (λm=> [m,F]):=by
  obtain ⟨A0,c0,B0,e0,hc,hsL,hsW⟩:=hb.see
  have hn1:=hok.n1
  refine y7 func260 O ntmps260 O (λw0 hw0=>?_)
  refine yl λ_ C1=>yh O<|yi C1<|yl λ_ C2=>yn 2 O<|yp (qAZ O O (λF' hF=>qJg F' g d A0 c0 B0 e0 C f (hc.mono (Fa hF)) i xB)) O λg10 _=>yh O<|yi C2<|ym λ_ C3=>yz<|yl λ_ C4=>yh O<|yj (qAQ O O O) O<|yh O<|yi C4<|y1 O (λh11=>?_) (λh11=>?_)
  .
    exact yl λ_ C5=>yn 2 O<|yi C5<|yr<|vI<|y5<|yw hw0 O mm (yY I (by unfold Dk.wErr;rw [yX xB])) (by rw [show d.write i s=d from yX xB];exact hb) [0,1] O xC
  refine yl λ_ C6=>yh O<|yj (qAn u9_ O O) O<|yj (qAs O O O) O<|yh O<|yi C6<|y1 O (λh15=>?_) (λh15=>?_)
  .
    exact yl λ_ C7=>yh O<|yi C7<|yr<|vI<|y5<|yw hw0 O mm (yY I (by unfold Dk.wErr;rw [yW xB,yX xB])) (by rw [show d.write i s=d from by unfold Dk.write;rw [yW xB,yX xB]];exact hb) [0,1] O xC
  refine yl λ_ C8=>yh O<|yp (qAJ O O ent (vR 0 O (λF' hF=>qS3 F' mm g d C f hb hok hn2 (hKp.mono (Fa hF)) hn3))) O ?_
  rintro m21 h21
  refine yh O<|yi C8<|y1 O (λh19=>?_) (λh19=>?_)
  .
    exact yl λ_ C9=>yh O<|yi C9<|yr<|vI<|y5<|yw hw0 O m21 (yY I (by unfold Dk.wErr;rw [yW xB,yW xB,yX h19])) (by rw [show d.write i s=d.burn from by unfold Dk.write;rw [yW xB,yW xB,yX h19]];exact h21) [0,1] O xC
  refine vP<|vB<|yq (yu C3 ?_)
  refine ym λ_ C10=>?_
  have h0:d.ready i=0:=xB
  obtain ⟨hi0,hil,_⟩:=qNg h0
  obtain ⟨iN,hiN⟩:=zk hi0
  have hnb: ¬d.burns:=h19
  obtain ⟨x,hx⟩: ∃x,x=d.burn:=⟨_,rfl⟩
  rw [<-hx] at h21
  have hxo:x.ok:=hx▸hok.burn
  have hxw:x.wait=d.wait:=hx▸(qEY hnb).2.1
  have hxl:x.last=d.last:=hx▸(qEY hnb).1
  obtain ⟨gL,c,mL,B,e,mW,rfl,hd,hL,hW⟩:=h21.open hxo.n0
  unfold Dk.cells at hd⊢
  refine wR hd ?_
  refine vQ [blk g [.slice (some ⟨gL,0,none⟩) x.last.length c,.slice B x.wait.length e,.bool x.off,.bool x.armed,I x.fuse,.slice C x.keep.length f] 116] [17] (.y 0 (.y 1 (.y 2 (.y 3 (.y 4 (.y 5 (.y 6 (.y 7 (.y 8 (.y 9 (.e 10 (.y 11 (.y 12 (.e 13 (.e 14 (.y 15 (.y 16 (.e 17 .nil)))))))))))))))))) ye xF xD ?_
  refine yx ?_
  refine yx ?_
  refine yo O (qAB O O) O O<|yo O (qAA O O qCy O qIH O) O O<|yo O (qAD 0 O O O isAgg114 O) O O<|yo O ((qAT O O).as (v':=I (iN:Int)) (yY I hiN)) O O<|yx ?_
  refine yx ?_
  refine yo O (qAn u9_ O O) O O<|yo O ((qAm O O O xB).nat (64-s.length) xB) O O<|vD O (qAZ O O (λF' hF=>qF5 F' (64-s.length) xB)) O xD λg32 _=>yo O ((qAq O O O (by simp only [jQ];omega)).as (v':=Str (qPs s)) O) O O<|yo O (qAK (places:= [(0,1),(1,1)]) (r:= [I (iN:Int),Str (qPs s)]) O O O qOq zeroValue368 (λ_=>xH) O) O O<|vD O (qAE (l:= [.tmp 34]) (xs:= [[I (iN:Int),Str (qPs s)]]) O O O O qJX el368 O xC xC xD) O xD λg35 _=>vD O (qAV (i:=2) (m2:=blk g35 [I (iN:Int),Str (qPs s)] 368) O O O qJX qJX el368 O hW xD ((qAj (q:=True) (xs:=qD7 [(iN,qPs s)]) O (by simp [qD7])).sl) (qP1 _) (by rw [hxw];omega) (by rw [hxw];omega)) O xD ?_
  rintro⟨A36,c36,m36⟩ h36
  try dsimp only at h36
  refine yo O (qAB O O) O O<|yo O (qAA O O qCy O qIH O) O O<|vZ O (qAU (i:=0) O O O O O qIH O xD) O O O λ_ _=>vM<|yq (yu C10 ?_)
  exact yl λ_ C11=>yh O<|yi C11<|yr<|vH hw0 (λ_ _ h=>h) (qIM O O) (qF4 [blk g [.slice (some ⟨gL,0,none⟩) x.last.length c,.slice A36 (x.wait.length+1) c36,.bool x.off,.bool x.armed,I x.fuse,.slice C x.keep.length f] 116,mL,m36] [F] (U [blk g [.slice (some ⟨gL,0,none⟩) x.last.length c,.slice A36 (x.wait.length+1) c36,.bool x.off,.bool x.armed,I x.fuse,.slice C x.keep.length f] 116,mL,m36]) (yY I (by unfold Dk.wErr;rw [yW xB,yW xB,yW hnb])) (λhd=>by rw [show d.write i s={x with wait:=x.wait++ [(iN,qPs s)]} from by unfold Dk.write;rw [yW xB,yW xB,yW hnb,<-hx,hiN];rfl];refine⟨_,c,mL,A36,c36,m36,?_,?_,hL,?_⟩<;>(try unfold Dk.cells)<;>rw [jA]<;>first|rfl|exact hd|(rw [qP2];exact h36)) [0,1,2,3] O O xC)
theorem qTr{g:Nat}(x:Dk)(gL c:Nat)(C:yS)(f:Nat)(m:Hp)(hm:Row m 9 1 (some ⟨gL,0,none⟩) x.last.length c (qAG (qDH x.last x.wait x.wait.length)))(hj:Djs [blk g [.slice (some ⟨gL,0,none⟩) x.last.length c,.slice none 0 0,.bool x.off,.bool x.armed,I x.fuse,.slice C x.keep.length f] 116,m]):
    Dsk (U [blk g [.slice (some ⟨gL,0,none⟩) x.last.length c,.slice none 0 0,.bool x.off,.bool x.armed,I x.fuse,.slice C x.keep.length f] 116,m]) g {x with last:=qDH x.last x.wait x.wait.length,wait:= []} C f:=by
  refine⟨some ⟨gL,0,none⟩,c,m,none,0,λ_=>none,?_,?_,?_,qBf.nil⟩
  . show U [blk g [.slice (some ⟨gL,0,none⟩) x.last.length c,.slice none 0 0,.bool x.off,.bool x.armed,I x.fuse,.slice C x.keep.length f] 116,m]=U [blk g [.slice (some ⟨gL,0,none⟩) (qDH x.last x.wait x.wait.length).length c,.slice none 0 0,.bool x.off,.bool x.armed,I x.fuse,.slice C x.keep.length f] 116,m,λ_=>none]
    rw [qBX];rfl
  . show Djs [blk g [.slice (some ⟨gL,0,none⟩) (qDH x.last x.wait x.wait.length).length c,.slice none 0 0,.bool x.off,.bool x.armed,I x.fuse,.slice C x.keep.length f] 116,m,λ_=>none]
    rw [qBX];exact qL2 hj
  . show Row m 9 1 (some ⟨gL,0,none⟩) (qDH x.last x.wait x.wait.length).length c _
    rw [qBX];exact hm
theorem qXP(F mm:Hp)(g:Nat)(d:Dk)(C:yS)(f:Nat)(hb:Dsk mm g d C f)(hok:d.ok)(hn2:d.wait.length<=1073741824)(hKp:Sl F 1 C d.keep.length f (qAe d.keep))(hn3:d.keep.length<=9223372036854775807):
    Ct prog 262 [Ptr g] [mm,F] (λ_:Hp=>I d.sErr) (λm=>Dsk m g d.sync C f) (λm=> [m,F]):=by
  obtain ⟨A0,c0,B0,e0,hc,hsL,hsW⟩:=hb.see
  have hn1:=hok.n1
  refine y7 func262 O ntmps262 O (λw0 hw0=>?_)
  refine yl λ_ C1=>yh O<|yi C1<|ym λ_ C2=>yl λ_ C3=>yh O<|yp (qAZ O O (λF' hF=>qJg F' g d A0 c0 B0 e0 C f (hc.mono (Fa hF)) 0 xB)) O λg7 _=>yh O<|yi C3<|yl λ_ C4=>yh O<|yj (qAQ O O O) O<|yi C4<|y1 O (λh9=>?_) (λh9=>?_)
  .
    exact yl λ_ C5=>yn 2 O<|yi C5<|yr<|y5<|yw hw0 O mm (yY I (by unfold Dk.sErr;rw [yX xB])) (by rw [show d.sync=d from yX xB];exact hb) [0,1] O xC
  refine yy C2<|ym λ_ C6=>yl λ_ C7=>yh O<|yp (qAJ O O ent (vR 0 O (λF' hF=>qS3 F' mm g d C f hb hok hn2 (hKp.mono (Fa hF)) hn3))) O ?_
  rintro m12 h12
  refine yi C7<|y1 O (λh12c=>?_) (λh12c=>?_)
  .
    exact yl λ_ C8=>yh O<|yi C8<|yr<|y5<|yw hw0 O m12 (yY I (by unfold Dk.sErr;rw [yW xB,yX h12c])) (by rw [show d.sync=d.burn from by unfold Dk.sync;rw [yW xB,yX h12c]];exact h12) [0,1] O xC
  refine yy C6<|ym λ_ C9=>ym λ_ C10=>?_
  have h0:d.ready 0=0:=xB
  have hnb: ¬d.burns:=h12c
  obtain ⟨x,hx⟩: ∃x,x=d.burn:=⟨_,rfl⟩
  rw [<-hx] at h12
  have hxo:x.ok:=hx▸hok.burn
  have hxw:x.wait=d.wait:=hx▸(qEY hnb).2.1
  have hxl:x.last=d.last:=hx▸(qEY hnb).1
  obtain ⟨gL,c,mL,B,e,mW,rfl,hd,hL,hW⟩:=h12.open hxo.n0
  unfold Dk.cells at hd⊢
  refine wR hd ?_
  have hxn:x.wait.length<=1073741824:=by rw [hxw];exact hn2
  refine yt<|yh O<|yj (qAB O O) O<|vA 1 qCy qIH O O O O O<|vF 0 isAgg114 O O O O O<|yj (qAN qJX O O) O<|yh O<|yi C10<|yz<|vN (X:=Nat×Hp) (λy=> [(0,Ptr g),(16,.slice B x.wait.length e),(17,I x.wait.length),(18,I y.1)]) (λy=> [blk g [.slice (some ⟨gL,0,none⟩) x.last.length c,.slice B x.wait.length e,.bool x.off,.bool x.armed,I x.fuse,.slice C x.keep.length f] 116,y.2,mW,F]) (λy=>y.1<=x.wait.length/\Row y.2 9 1 (some ⟨gL,0,none⟩) x.last.length c (qAG (qDH x.last x.wait y.1))) (λy=>x.wait.length-y.1) (0,mL) (⟨jH _,hL⟩) (Sub.of O) (λ_ h=>h) ?_
  rintro⟨k,m⟩ ⟨hk,hr⟩ I0 hI0
  dsimp only at hk hr⊢
  refine yl λ_ C11=>yj (qAP O O O) O<|yi C11<|ym λ_ C12=>y1 O (λh19=>?_) (λh19=>?_)
  .
    refine yy C12<|ym λ_ C13=>yz<|yl λ_ C14=>yj (qAC O O O qJX qHF hW.sl xB) O<|yj (qAb O O isAgg368 qHF (m:=mW) xD (hW.sl.elem (qHH xB)) O) O<|yp (qAO O zeroValue368 O) O λg5 _=>vG (qAF (l:= [I 0,Str []]) (i:=4) (vs:= [I (x.wait.getD k (0,[])).1,Str (x.wait.getD k (0,[])).2]) O O O O O qHF O O) O O λ_ _=>yi C14 ?_
    have ⟨hw1,hw2⟩:=qSX hxo.w64 (show k<x.wait.length by omega)
    have h64:=qMp (qGm hxo.l64 hxo.w64 k hk) (show(x.wait.getD k (0,[])).1<(qDH x.last x.wait k).length by rw [qBX];exact hw1)
    refine yt<|yh O<|vT 4 isAgg368 qHF O O O O O<|yp (qAJ O O ent (vR 1 O (λF' hF=>by have:=qSA F' m g gL c 64 x B e C f (qDH x.last x.wait k) (by rw [qBX];exact qAI.blk0.mono (hF (blk g [.slice (some ⟨gL,0,none⟩) x.last.length c,.slice B x.wait.length e,.bool x.off,.bool x.armed,I x.fuse,.slice C x.keep.length f] 116) xD)) (by rw [qBX];exact hr) (x.wait.getD k (0,[])).1 (x.wait.getD k (0,[])).2 (by rw [qBX];exact hw1) xB xB xB xB (by rw [qBX];have:=hxo.n1;omega);rw [qBX] at this;exact this))) O ?_
    rintro m24 h24
    refine vW [0,1,2,3] [blk g [.slice (some ⟨gL,0,none⟩) x.last.length c,.slice B x.wait.length e,.bool x.off,.bool x.armed,I x.fuse,.slice C x.keep.length f] 116,m24,mW,F] O xC<|y8<|vB<|yq (yu C13 ?_)
    exact yt<|yj ((qAM O O O xB).nat (k+1) xB) O<|yh O<|y8<|yq<|vE (k+1,m24) hI0 ⟨by dsimp only;omega,h24⟩ (Sub.of O) (λ_ h=>h)
  refine vK<|y6<|y6<|vL ?_
  refine yq (yu C9 ?_)
  refine ym λ_ C15=>?_
  have hkn:k=x.wait.length:=xB
  subst hkn
  exact yt<|yh O<|yj (qAB O O) O<|vA 1 qCy qIH O O O O O<|vG (qAU (i:=0) O O O O O qIH O xD) O O λ_ _=>yi C15<|yl λ_ C16=>yh O<|yi C16<|yr<|vH hw0 (λ_ _ h=>h) (qIM O O) (qF4 [blk g [.slice (some ⟨gL,0,none⟩) x.last.length c,.slice none 0 0,.bool x.off,.bool x.armed,I x.fuse,.slice C x.keep.length f] 116,m] [F] (U [blk g [.slice (some ⟨gL,0,none⟩) x.last.length c,.slice none 0 0,.bool x.off,.bool x.armed,I x.fuse,.slice C x.keep.length f] 116,m]) (yY I (by unfold Dk.sErr;rw [yW xB,yW hnb])) (λhj=>by rw [show d.sync={x with last:=qDH x.last x.wait x.wait.length,wait:= []} from by unfold Dk.sync;rw [yW xB,yW hnb,<-hx]];exact qTr x gL c C f m hr hj) [0,1,3] O O xC)
theorem qOt(n:Nat):List.replicate n [Str []]=qAG (List.replicate n []):=by simp [qAG]
theorem qXr{n k:Nat}(a b:xA)(h:k<n):(List.replicate k a++List.replicate (n-k) b).set k a=List.replicate (k+1) a++List.replicate (n-(k+1)) b:=by
 rw [List.set_append_right _ _ (by rw [jQ];exact jL _),jQ,zK,show n-k=(n-(k+1))+1 by omega,yP,List.set_cons_zero,List.replicate_succ',jM];rfl
theorem qXs{n k:Nat}(a b:xA)(h:k<=n):(List.replicate k a++List.replicate (n-k) b).length=n:=by rw [jA,jQ,jQ];omega
theorem qYO(k g g13:Nat)(m:Hp)(hr:Row m 9 1 (some ⟨g13,0,none⟩) k k (qAG (List.replicate k (List.replicate 64 (0:UInt8)))))(hj:Djs [blk g [.slice (some ⟨g13,0,none⟩) k k,.slice none 0 0,.bool false,.bool false,I 0,.slice none 0 0] 116,m,λ_=>none]):Dsk (U [blk g [.slice (some ⟨g13,0,none⟩) k k,.slice none 0 0,.bool false,.bool false,I 0,.slice none 0 0] 116,m,λ_=>none]) g (Dk.new k) none 0:=by
 have hl:(Dk.new k).last.length=k:=jQ
 refine⟨some ⟨g13,0,none⟩,k,m,none,0,λ_=>none,?_,?_,?_,qBf.nil⟩
 . unfold Dk.cells;rw [hl];rfl
 . unfold Dk.cells;rw [hl];exact hj
 . rw [hl];exact hr
theorem qZ3(F:Hp)(i:Int):Ct prog 8 [I i] [F] (λx:Option (Nat×Hp)=>match x with|none=> .tuple #[.pointer none,I 1]|some y=> .tuple #[Ptr y.1,I 0]) (λx=>match x with|none=>i<4\/1024<i|some y=>(4<=i/\i<=1024)/\Dsk y.2 y.1 (Dk.new i.toNat) none 0) (λx=>match x with|none=> [F]|some y=> [y.2,F]):=by
 refine y7 func8 O ntmps8 O (λw0 hw0=>?_)
 refine yl λ_ C1=>yn 2 O<|yi C1<|ym λ_ C2=>yl λ_ C3=>yh O<|yj (qAP O O O) O<|yh O<|vO (d:=8) O (λh8=>?_) (λh8=>?_)
 .
  refine yn 3 O<|yi C3<|vV ?_
  exact yl λ_ C4=>yn 2 O<|yi C4<|yr<|y5<|vH hw0 (λ_ _ h=>h) (qB5 O O O) (qAf none O (by show i<4\/1024<i;omega) [0] O xC)
 refine yh O<|yv (qAs O O O) O<|yh O<|yi C3<|y1 O (λh11=>?_) (λh11=>?_)
 .
  exact yl λ_ C5=>yn 2 O<|yi C5<|yr<|y5<|vH hw0 (λ_ _ h=>h) (qB5 O O O) (qAf none O (by show i<4\/1024<i;omega) [0] O xC)
 refine yy C2<|ym λ_ C6=>?_
 obtain ⟨n,hn⟩:=zk (show 0<=i by omega)
 refine yt<|yh O<|yp (qCY O (by show some (I i)=_;rw [hn]) qAg el9 xB xB) O λg13 _=>yj (qAK (places:= [(0,1),(1,1),(2,1),(3,1),(4,1),(5,1)]) (r:= [.slice (some ⟨g13,0,none⟩) n n,.slice none 0 0,.bool false,.bool false,I 0,.slice none 0 0]) O O O qCy zeroValue116 (λ_=>xH) O) O<|yp (qAi O O O) O ?_
 rintro g15 _
 refine yh O<|yi C6<|ym λ_ C7=>yl λ_ C8=>yh O<|yj (qAB O O) O<|vA 0 qCy qBs O O O O O<|vF 2 qB7 O O O O O<|yj (qAN qAg O O) O<|yh O<|yi C8<|yz<|vN (X:=Nat×Hp) (λx=> [(4,Ptr g15),(20,I n),(21,I x.1)]) (λx=> [F,x.2,blk g15 [.slice (some ⟨g13,0,none⟩) n n,.slice none 0 0,.bool false,.bool false,I 0,.slice none 0 0] 116]) (λx=>x.1<=n/\Row x.2 9 1 (some ⟨g13,0,none⟩) n n (qAG (List.replicate x.1 (List.replicate 64 (0:UInt8))++List.replicate (n-x.1) []))) (λx=>n-x.1) (0,blk g13 (List.replicate n [Str []]).flatten 9) (⟨jH _,by dsimp only;rw [List.replicate_zero,j7,zw,<-qOt];exact qUD⟩) (Sub.of O) (λ_ h=>h) ?_
 rintro⟨k,m⟩ ⟨hk,hr⟩ I0 hI0
 dsimp only at hk hr⊢
 refine yl λ_ C9=>yj (qAP O O O) O<|yi C9<|ym λ_ C10=>y1 O (λh22=>?_) (λh22=>?_)
 .
  refine yy C10<|ym λ_ C11=>yz<|yl λ_ C12=>yn 2 O<|yi C12<|vQ [blk g15 [.slice (some ⟨g13,0,none⟩) n n,.slice none 0 0,.bool false,.bool false,I 0,.slice none 0 0] 116] [7] (.y 0 (.y 1 (.y 2 (.y 3 (.y 4 (.e 5 (.y 6 (.e 7 .nil)))))))) ye xF xD ?_
  refine yx ?_
  refine yo O (qAB O O) O O<|yo O (qAA O O qCy O qBs O) O O<|yo O (qAD 0 O O O qB7 O) O O<|yx ?_
  refine vD O (qAZ O O (λF' hF=>qF5 F' 64 xC)) O xD λg29 _=>yo O (qAC O O O qAg z9_ hr.sl xB) O O<|vZ O (qBr (i:=1) (k:=k) (off:=0) (b:= [Str (List.replicate 64 (0:UInt8))]) O (by show some _=some _;rw [qSi]) O O hr (vs:= [Str (List.replicate 64 (0:UInt8))]) O z9_ O xB (qAa (qAc [] (by rw [qXs _ _ hk];omega))) O (by show _+1<=1;decide)) O O O ?_
  rintro m9 h9
  refine vM<|vB<|yq (yu C11 ?_)
  exact yt<|yj ((qAM O O O xB).nat (k+1) xB) O<|yh O<|y8<|yq<|vE (k+1,m9) hI0 ⟨by dsimp only;omega,by dsimp only;rw [qEK,qXr _ _ xB] at h9;exact h9⟩ (Sub.of O) (λ_ h=>h)
 refine vK<|y6<|y6<|vL ?_
 refine yq (yu C7 ?_)
 refine ym λ_ C13=>?_
 have hkn:k=n:=xB
 subst hkn
 rw [zK,List.replicate_zero,jS] at hr
 exact yt<|yn 3 O<|yi C13<|yr<|ve [0,1,2,3] [F,m,blk g15 [.slice (some ⟨g13,0,none⟩) k k,.slice none 0 0,.bool false,.bool false,I 0,.slice none 0 0] 116,λ_=>none] O xC<|vH hw0 (λ_ _ h=>h) (qB5 O O O) (qF4 [blk g15 [.slice (some ⟨g13,0,none⟩) k k,.slice none 0 0,.bool false,.bool false,I 0,.slice none 0 0] 116,m,λ_=>none] [F] (some (g15,U [blk g15 [.slice (some ⟨g13,0,none⟩) k k,.slice none 0 0,.bool false,.bool false,I 0,.slice none 0 0] 116,m,λ_=>none])) O (λhj=>⟨xB,by rw [show i.toNat=k by omega];exact qYO k g15 g13 m hr hj⟩) [2,1,3,0] O O xC)
theorem qLG(F:Hp)(n:Nat)(h4:4<=n)(hm:n<=1024):Ct prog 8 [I n] [F] (λx:Nat×Hp=> .tuple #[Ptr x.1,I 0]) (λx=>Dsk x.2 x.1 (Dk.new n) none 0) (λx=>F:: [x.2]):=λw0 w hs=>
 (qZ3 F n w0 w hs).mono λe w' ⟨x,he,hx,hs'⟩=>by
  cases x with
  |none=>exact absurd hx (by show¬((n:Int)<4\/1024<(n:Int));omega)
  |some y=>exact⟨y,he,by have:=hx.2;rwa [jd] at this,hs'.pick [1,0] xC⟩
theorem qNH{d:Dk}{i:Int}{s:xA}(h:d.ready i=0)(h1:s.length<=64)(h2: ¬d.burns):d.write i s={d.burn with wait:=d.burn.wait++ [(i.toNat,qPs s)]}/\d.wErr i s=0:=by
 unfold Dk.write Dk.wErr
 rw [yW xB,yW xB,yW h2,yW xB,yW xB,yW h2]
 exact⟨O,O⟩
theorem qXy{d:Dk}{i:Int}(h:d.ready i=0):d.read i=d.now i.toNat:=yX h
theorem el371:qCx prog 371 [.int .u64 0,.int .u64 0,.int .i64 0,.int .i64 0,Str [],Str []] 64:=qCx.of xH O
theorem qTX(g:Nat):Wtr (blk g [.pointer none,.slice none 0 0,I 0] 148) g [] 0:=
 ⟨[.pointer none,.slice none 0 0,I 0],λ_=>none,none,0,none,by funext k;simp only [U];cases blk g [.pointer none,.slice none 0 0,I 0] 148 k<;>rfl,λ_=> .inr O,O,⟨O,.inl O,O,qBf.nil,.inl O⟩,O⟩
theorem qP4{n:UInt64}{size:Nat}(h:n.toNat<2^(8*size))(bs:xA):qL8 n size bs 0=bs++Sha.numB n size/\qCd (okN n size) 10 0=0:=by
 have e:okN n size=true:=ya h
 have f:qCd (okN n size) 10 0=0:=by unfold qCd;rw [e,yW xD]
 exact⟨by unfold qL8;rw [yX f],f⟩
def qVr(s:xA):xA:=(Sha.tagged 8 [s]).take 8
def qGI(turn num:UInt64)(s:xA):xA:=(Sha.tagged 7 [Sha.numB turn 4,Sha.numB num 2,s]).take 8
theorem qDC(F:Hp)(n:UInt64)(size:Nat)(h1:1<=size)(h8:size<8)(hn:n.toNat<2^(8*size)):
    Cz prog 287 [W64 n,I size] F (Str (Sha.numB n size)):=by
  refine y7 func287 O ntmps287 O (λw0 hw0=>?_)
  refine yl λ_ C1=>yh O<|yi C1<|yl λ_ C2=>yp (qAO O qLf O) O λg5 _=>yi C2<|yl λ_ C3=>yn 2 O<|yp (qAJ O O ent (vR 1 O (λF' _=>qFY F' (blk g5 [.pointer none,.slice none 0 0,I 0] 148) g5 [] 0 (qTX g5) xC n size h1 h8))) O ?_
  rintro m11 hw11
  rw [(qP4 hn []).1,(qP4 hn []).2,j7] at hw11
  refine yp (qAJ O O ent (vR 1 O (λF' _=>qEo F' m11 g5 (Sha.numB n size) 0 hw11 (by rw [Sha.numB_length];omega)))) O ?_
  rintro m12 _
  exact yn 5 O<|yi C3<|yl λ_ C4=>yn 2 O<|yi C4<|yr<|yw hw0 O () O yd [0] O xC
theorem qS6(F:Hp)(hK:yf F)(s:xA)(hs:s.length<=1048576):Cz prog 286 [Str s] F (Str (qVr s)):=by
 refine y7 func286 O ntmps286 O (λw0 hw0=>?_)
 exact yl λ_ C1=>yh O<|yi C1<|yl λ_ C2=>yh O<|yp (qAE (l:= [.tmp 3]) (xs:= [[Str (s)]]) O O O O qAg el9 O xC xC xD) O λg4 _=>yp (qAZ O O (λF' hF=>qBI F' (hK.mono (Fa hF)) 8 (some ⟨g4,0,none⟩) 1 1 [s] ((slS [s] O).mono (hF (blk g4 (([s]:List xA).map λs=>Str s) 9) xD)) xJ xC)) O λg5 _=>yj ((qA0 u9_ O O O O (by rw [Sha.tagged_length];decide)).as (v':=Str (qVr s)) (yY Str zI)) O<|yh O<|yi C2<|yr<|yw hw0 O () O yd [0] O xC
theorem qOb(F:Hp)(hK:yf F)(turn num:UInt64)(s:xA)(ht:turn.toNat<2^(8*4))(hn:num.toNat<2^(8*2))(hs:s.length<=1048576):Cz prog 256 [W64 turn,W64 num,Str s] F (Str (qGI turn num s)):=by
 refine y7 func256 O ntmps256 O (λw0 hw0=>?_)
 exact yl λ_ C1=>yh O<|yi C1<|yl λ_ C2=>yh O<|yp (qAZ O O (λF' hF=>qDC F' turn 4 xC xC ht)) O λg8 _=>yh O<|yp (qAZ O O (λF' hF=>qDC F' num 2 xC xC hn)) O λg10 _=>yh O<|yp (qAE (l:= [.tmp 8,.tmp 10,.tmp 11]) (xs:= [[Str (Sha.numB turn 4)],[Str (Sha.numB num 2)],[Str (s)]]) O O O O qAg el9 O xC xC xD) O λg12 _=>yp (qAZ O O (λF' hF=>qBI F' (hK.mono (Fa hF)) 7 (some ⟨g12,0,none⟩) 3 3 [Sha.numB turn 4,Sha.numB num 2,s] ((slS [Sha.numB turn 4,Sha.numB num 2,s] O).mono (hF (blk g12 (([Sha.numB turn 4,Sha.numB num 2,s]:List xA).map λs=>Str s) 9) xD)) (by simp only [jo,zf,jS,jA,Sha.numB_length];omega) xC)) O λg13 _=>yj ((qA0 u9_ O O O O (by rw [Sha.tagged_length];decide)).as (v':=Str (qGI turn num s)) (yY Str zI)) O<|yh O<|yi C2<|yr<|yw hw0 O () O yd [0] O xC
def qAw(n:Nat):Nat:=if n<1 then 1 else(n-1)/39+1
theorem qFP(F:Hp)(n:Nat)(hn:n<=1048576):Cz prog 135 [I n] F (I (qAw n:Nat)):=by
 refine y7 func135 O ntmps135 O (λw0 hw0=>?_)
 refine yl λ_ C1=>yh O<|yi C1<|ym λ_ C2=>yl λ_ C3=>yh O<|yj (qAP O O O) O<|yi C3<|y1 O (λh4=>?_) (λh4=>?_)
 .
  exact yl λ_ C4=>yh O<|yi C4<|yr<|y5<|yw hw0 O () (by unfold qAw;rw [yX xB];rfl) yd [0] O xC
 exact yy C2<|yl λ_ C5=>yh O<|yj ((qAm O O O xB).nat (n-1) xB) O<|yj ((qFV O O O xB).as (v':=I ((n-1)/39:Nat)) (yY I (Int.ofNat_tdiv _ _).symm)) O<|yj (qAM O O O xB) O<|yh O<|yi C5<|yr<|yw hw0 O () (by unfold qAw;rw [yW xB];rfl) yd [0] O xC
structure Prt where
 turn:UInt64
 num:UInt64
 at_:Nat
 all:Nat
 name:xA
 con:xA
def Prt.cells(p:Prt):yU:= [W64 p.turn,W64 p.num,I p.at_,I p.all,Str p.name,Str p.con]
structure Prt.ok (p:Prt):Prop where
 t:p.turn.toNat<2^(8*4)
 n:p.num.toNat<2^(8*2)
 a:p.at_<256
 l:p.all<256
 m:p.name.length<=8
 c:p.con.length<=39
def Prt.b1(p:Prt):xA:=Sha.numB p.turn 4++Sha.numB p.num 2
def Prt.b2(p:Prt):xA:=p.b1++Sha.numB (UInt64.ofNat p.at_) 1
def Prt.b3(p:Prt):xA:=p.b2++Sha.numB (UInt64.ofNat p.all) 1
def Prt.b4(p:Prt):xA:=p.b3++Sha.numB (UInt64.ofNat p.con.length) 1
def Prt.b5(p:Prt):xA:=p.b4++p.name
def Prt.body(p:Prt):xA:=p.b5++p.con
def Prt.pad(p:Prt):xA:=p.body++List.replicate (56-p.body.length) 0
def Prt.text(p:Prt):xA:=p.pad++qVr p.pad
theorem qOa(s:xA):(qVr s).length=8:=by unfold qVr;rw [jF,Sha.tagged_length];rfl
theorem qLv(t n:UInt64)(s:xA):(qGI t n s).length=8:=by unfold qGI;rw [jF,Sha.tagged_length];rfl
theorem Prt.b4_len(p:Prt):p.b4.length=9:=by unfold Prt.b4 Prt.b3 Prt.b2 Prt.b1;simp only [jA,Sha.numB_length]
theorem Prt.body_len(p:Prt):p.body.length=9+p.name.length+p.con.length:=by unfold Prt.body Prt.b5;rw [jA,jA,p.b4_len]
theorem Prt.pad_len{p:Prt}(h:p.ok):p.pad.length=56:=by
 have:=p.body_len
 have:=h.m
 have:=h.c
 unfold Prt.pad;rw [jA,jQ];omega
theorem Prt.text_len{p:Prt}(h:p.ok):p.text.length=64:=by unfold Prt.text;rw [jA,p.pad_len h,qOa]
theorem n1ok{n:Nat}(h:n<256):(UInt64.ofNat n).toNat<2^(8*1):=by rw [qA3 xB];exact h
theorem qNn(F:Hp)(hK:yf F)(p:Prt)(hp:p.ok):Cz prog 261 [.agg p.cells.toArray] F (Str p.text):=by
 obtain ⟨h1,h2,h3,h4,h5,h6⟩:=hp
 have hbl:=p.body_len
 have hpl:=Prt.pad_len ⟨h1,h2,h3,h4,h5,h6⟩
 refine y7 func261 O ntmps261 O (λw0 hw0=>?_)
 refine yl λ_ C1=>yp (qAi O O O) O λg1 _=>yh O<|yi C1<|ym λ_ C2=>vQ [blk g1 p.cells 371] [] (.y 0 (.y 1 (.y 3 (.y 4 (.y 7 (.y 8 (.y 9 (.y 12 (.y 13 (.y 14 (.y 17 (.y 18 (.y 19 (.y 20 (.y 23 (.y 24 (.y 26 (.y 27 (.e 2 (.e 5 (.y 6 (.e 10 (.y 11 (.e 15 (.y 16 (.e 21 (.y 22 (.y 25 (.y 28 (.y 29 .nil)))))))))))))))))))))))))))))) ye xF xD ?_
 refine yo O (qAA O O qBu O qBV O) O O<|yo O (qAD 0 O O O qBe O) O O<|yo O (qAA O O qBu O qBV O) O O<|yo O (qAD 0 O O O qBe O) O O<|yo O (qAA O O qBu O z3_ O) O O<|yo O (qAD 0 O O O b3_ O) O O<|yo O (qBC O O u3_ qDJ xB) O O<|yo O (qAA O O qBu O z3_ O) O O<|yo O (qAD 0 O O O b3_ O) O O<|yo O (qBC O O u3_ qDJ xB) O O<|yo O (qAA O O qBu O z9_ O) O O<|yo O (qAD 0 O O O b9_ O) O O<|yo O (qAn u9_ O O) O O<|yo O (qBC O O u3_ qDJ xB) O O<|yo O (qAA O O qBu O z9_ O) O O<|yo O (qAD 0 O O O b9_ O) O O<|yo O (qAA O O qBu O z9_ O) O O<|yo O (qAD 0 O O O b9_ O) O O<|vD O (qAZ O O (λF' hF=>qDC F' p.turn 4 xC xC h1)) O xD λg6 _=>vD O (qAZ O O (λF' hF=>qDC F' p.num 2 xC xC h2)) O xD λg9 _=>yo O ((qAq O O O (by first|(have hb4:=p.b4_len;have hbl:=p.body_len;simp only [jA,jQ,Prt.b4,Prt.b3,Prt.b2,Prt.b1,Prt.b5,Prt.body,Sha.numB_length] at hb4 hbl⊢;omega)|omega)).as (v':=Str (p.b1)) O) O O<|vD O (qAZ O O (λF' hF=>qDC F' (UInt64.ofNat p.at_) 1 xC xC (n1ok h3))) O xD λg14 _=>yo O ((qAq O O O (by first|(have hb4:=p.b4_len;have hbl:=p.body_len;simp only [jA,jQ,Prt.b4,Prt.b3,Prt.b2,Prt.b1,Prt.b5,Prt.body,Sha.numB_length] at hb4 hbl⊢;omega)|omega)).as (v':=Str (p.b2)) O) O O<|vD O (qAZ O O (λF' hF=>qDC F' (UInt64.ofNat p.all) 1 xC xC (n1ok h4))) O xD λg19 _=>yo O ((qAq O O O (by first|(have hb4:=p.b4_len;have hbl:=p.body_len;simp only [jA,jQ,Prt.b4,Prt.b3,Prt.b2,Prt.b1,Prt.b5,Prt.body,Sha.numB_length] at hb4 hbl⊢;omega)|omega)).as (v':=Str (p.b3)) O) O O<|vD O (qAZ O O (λF' hF=>qDC F' (UInt64.ofNat p.con.length) 1 xC xC (n1ok xB))) O xD λg25 _=>yo O ((qAq O O O (by first|(have hb4:=p.b4_len;have hbl:=p.body_len;simp only [jA,jQ,Prt.b4,Prt.b3,Prt.b2,Prt.b1,Prt.b5,Prt.body,Sha.numB_length] at hb4 hbl⊢;omega)|omega)).as (v':=Str (p.b4)) O) O O ?_
 refine yo O ((qAq O O O (by first|(have hb4:=p.b4_len;have hbl:=p.body_len;simp only [jA,jQ,Prt.b4,Prt.b3,Prt.b2,Prt.b1,Prt.b5,Prt.body,Sha.numB_length] at hb4 hbl⊢;omega)|omega)).as (v':=Str (p.b5)) O) O O<|yo O ((qAq O O O (by first|(have hb4:=p.b4_len;have hbl:=p.body_len;simp only [jA,jQ,Prt.b4,Prt.b3,Prt.b2,Prt.b1,Prt.b5,Prt.body,Sha.numB_length] at hb4 hbl⊢;omega)|omega)).as (v':=Str (p.body)) O) O O<|vU ?_
 refine vM<|yq (yu C2 ?_)
 exact yl λ_ C3=>yn 2 O<|yj (qAn u9_ O O) O<|yj ((qAm O O O xB).nat (56-p.body.length) xB) O<|yp (qAZ O O (λF' hF=>qF5 F' (56-p.body.length) xB)) O λg37 _=>yj ((qAq O O O (by rw [jQ];omega)).as (v':=Str p.pad) O) O<|yh O<|yi C3<|yl λ_ C4=>yn 2 O<|yp (qAZ O O (λF' hF=>qS6 F' (hK.mono (Fa hF)) p.pad xB)) O λg41 _=>yj ((qAq O O O (by rw [qOa];omega)).as (v':=Str p.text) O) O<|yh O<|yi C4<|yr<|yw hw0 O () O yd [0] O xC
def R0(s:xA):RS:=⟨s.take 56,0⟩
def R1(s:xA):RS:=(R0 s).take 4
def R2(s:xA):RS:=(R1 s).take 2
def R3(s:xA):RS:=(R2 s).take 1
def R4(s:xA):RS:=(R3 s).take 1
def R5(s:xA):RS:=(R4 s).take 1
def R6(s:xA):RS:=(R5 s).take 8
def qWz(s:xA):Nat:=min (qBd ((R4 s).out 1)) 39
def rdp(s:xA):Prt:=⟨UInt64.ofNat (qBd ((R0 s).out 4)),UInt64.ofNat (qBd ((R1 s).out 2)),qBd ((R2 s).out 1),qBd ((R3 s).out 1),(R5 s).out 8,(R6 s).out (qWz s)⟩
def qPN:Prt:=⟨0,0,0,0,[],[]⟩
theorem qCk(st:RS)(n k:Nat)(h:256^n<=k):qBd (st.out n)<k:=
 j8 (qE9 _) (jf (jZ xC (st.out_len n)) h)
theorem qWX(s:xA):(rdp s).ok:=by
  have h4:=qCk (R0 s) 4 4294967296 xC
  have h2:=qCk (R1 s) 2 65536 xC
  refine⟨?_,?_,qCk _ 1 256 xC,qCk _ 1 256 xC,RS.out_len _ _,jf (RS.out_len _ _) (Nat.min_le_right _ _)⟩
  . show(UInt64.ofNat (qBd ((R0 s).out 4))).toNat<_
    rw [qA3 xB];exact h4
  . show(UInt64.ofNat (qBd ((R1 s).out 2))).toNat<_
    rw [qA3 xB];exact h2
def qBm(s:xA):Prt×Bool:=if qVr (s.take 56)=s.drop 56 then(rdp s,decide ((rdp s).text=s)) else(qPN,false)
theorem qNq(F:Hp)(hK:yf F)(s:xA)(hs:s.length=64):Cz prog 255 [Str s] F (.tuple #[.agg (qBm s).1.cells.toArray,.bool (qBm s).2]):=by
 have hn4:=qCk (R4 s) 1 256 xC
 refine y7 func255 O ntmps255 O (λw0 hw0=>?_)
 change J _ [(0,_)] _ _ _
 refine yl λ_ C1=>yp (qAO O qMu O) O λg2 _=>?_
 change J _ _ _ [F,blk g2 _ 371] _
 refine yh O<|yi C1<|ym λ_ C2=>ym λ_ C3=>vQ [F] [] (.y 0 (.y 1 (.y 3 (.y 4 (.e 2 (.y 5 .nil)))))) ye xF xD ?_
 refine yx ?_
 refine yo O ((qA0 (l:=0) (h:=56) u9_ O O O O ⟨xB,xB⟩).as (v':=Str (s.take 56)) (yY Str zI)) O O<|yx ?_
 refine yo O ((qA0 (l:=56) (h:=s.length) u9_ O O O O ⟨xB,xB⟩).as (v':=Str (s.drop 56)) (by rw [jn])) O O<|vD O (qAZ O O (λF' hF=>qS6 F' (hK.mono (Fa hF)) (s.take 56) (by rw [jF];omega))) O xD λg9 _=>yo O (qB9 O O O) O O<|vM<|yq (yu C3 ?_)
 refine y1 O (λh12=>?_) (λh12=>?_)
 .
  refine yl λ_ C4=>yj (qAK (l:= []) (vs:= []) (places:= [(0,1),(1,1),(2,1),(3,1),(4,1),(5,1)]) (r:= [W64 0,W64 0,I 0,I 0,Str [],Str []]) O O O qBu qMu (λ_=>xH) O) O<|vG (qAF (l:=qPN.cells) (i:=1) (vs:=qPN.cells) O O O O O qHE O O) O O λ_ _=>?_
  change J _ _ _ [_,blk g2 qPN.cells 371] _
  exact yh O<|yi C4<|yr<|y5<|vH hw0 (λ_ _ h=>h) (rv2 O (RV.blkA 1 O O isAgg371 qHE) O) (qAf () (by unfold qBm;rw [yW (show¬qVr (s.take 56)=s.drop 56 from h12)]) yd [0] O xC)
 refine yy C2<|yl λ_ C5=>yh O<|yj ((qA0 (l:=0) (h:=56) u9_ O O O O ⟨xB,xB⟩).as (v':=Str (s.take 56)) (yY Str zI)) O<|yp (qAJ O O ent (Ct.use (new:=λg=> [RSb g (R0 s)]) (λF' _=>(qE2 F' (s.take 56)).mono (φ2:=λ_=>True) (val2:=Ptr) (ms2:=λg=>F':: [RSb g (R0 s)]) id (λ_ _=>rfl) (λ_ h=>h) (λx w0 w _ h=>h.pick [1,0] xC)))) O ?_
 rintro g16 _
 change J _ _ _ [F,blk g2 _ 371,RSb g16 (R0 s)] _
 refine yh O<|yi C5<|yl λ_ C6=>yh O<|yp (qAJ O O ent (vR 2 (m':=λ_:Unit=>RSb g16 (R1 s)) (new:=λ_=> []) O (λF' _=>qCb F' g16 (R0 s) 4 xB xB))) O λg18 _=>?_
 change J _ _ _ [_,_,RSb g16 (R1 s)] _
 rw [N_W (show qBd ((R0 s).out 4)<18446744073709551616 from j8 (qCk _ 4 (256^4) (jL _)) xC)]
 refine yh O<|yp (qAJ O O ent (vR 2 (m':=λ_:Unit=>RSb g16 (R2 s)) (new:=λ_=> []) O (λF' _=>qCb F' g16 (R1 s) 2 xB xB))) O λg20 _=>?_
 change J _ _ _ [_,_,RSb g16 (R2 s)] _
 rw [N_W (show qBd ((R1 s).out 2)<18446744073709551616 from j8 (qCk _ 2 (256^2) (jL _)) xC)]
 refine yh O<|yp (qAJ O O ent (vR 2 (m':=λ_:Unit=>RSb g16 (R3 s)) (new:=λ_=> []) O (λF' _=>qCb F' g16 (R2 s) 1 xB xB))) O λg22 _=>?_
 change J _ _ _ [_,_,RSb g16 (R3 s)] _
 refine yj (qBv O O qDJ u3_ (by have:=qCk (R2 s) 1 256 xC;omega)) O<|yh O<|yp (qAJ O O ent (vR 2 (m':=λ_:Unit=>RSb g16 (R4 s)) (new:=λ_=> []) O (λF' _=>qCb F' g16 (R3 s) 1 xB xB))) O λg25 _=>?_
 change J _ _ _ [_,_,RSb g16 (R4 s)] _
 refine yj (qBv O O qDJ u3_ (by have:=qCk (R3 s) 1 256 xC;omega)) O<|yj (qAK (l:= [(0,.tmp 18),(1,.tmp 20),(2,.tmp 23),(3,.tmp 26)]) (vs:= [W64 (rdp s).turn,W64 (rdp s).num,I (rdp s).at_,I (rdp s).all]) (places:= [(0,1),(1,1),(2,1),(3,1),(4,1),(5,1)]) (r:= [W64 (rdp s).turn,W64 (rdp s).num,I (rdp s).at_,I (rdp s).all,Str [],Str []]) O O O qBu qMu (λ_=>xH) O) O<|yp (qAO O qMu O) O λg5 _=>?_
 change J _ _ _ [_,_,_,blk g5 _ 371] _
 refine vG (qAF (l:=qPN.cells) (i:=3) (vs:= [W64 (rdp s).turn,W64 (rdp s).num,I (rdp s).at_,I (rdp s).all,Str [],Str []]) O O O O O qHE O O) O O λ_ _=>?_
 change J _ _ _ [_,_,_,blk g5 [W64 (rdp s).turn,W64 (rdp s).num,I (rdp s).at_,I (rdp s).all,Str [],Str []] 371] _
 refine yi C6<|yl λ_ C7=>yh O<|yp (qAJ O O ent (vR 2 (m':=λ_:Unit=>RSb g16 (R5 s)) (new:=λ_=> []) O (λF' _=>qCb F' g16 (R4 s) 1 xB xB))) O λg29 _=>?_
 change J _ _ _ [_,_,RSb g16 (R5 s),_] _
 refine yj (qBv O O qDJ u3_ xB) O<|yh O<|yi C7<|yl λ_ C8=>yh O<|yp (qAJ O O ent (vR 2 (m':=λ_:Unit=>RSb g16 (R6 s)) (new:=λ_=> []) O (λF' _=>qB1 F' g16 (R5 s) 8))) O λg32 _=>?_
 change J _ _ _ [_,_,RSb g16 (R6 s),_] _
 refine vA 4 qBu z9_ O O O O O<|vG (qAU (i:=3) (vs:= [Str (rdp s).name]) O O O O O z9_ O xD) O O λ_ _=>?_
 change J _ _ _ [_,_,_,blk g5 [W64 (rdp s).turn,W64 (rdp s).num,I (rdp s).at_,I (rdp s).all,Str (rdp s).name,Str []] 371] _
 refine yi C8<|yl λ_ C9=>yn 2 O<|yj ((qEx O O O).as (v':=I (qWz s:Nat)) (yY I (by unfold qWz;omega))) O<|yp (qAJ O O ent (vR 2 (m':=λ_:Unit=>RSb g16 ((R6 s).take (qWz s))) (new:=λ_=> []) O (λF' _=>qB1 F' g16 (R6 s) (qWz s)))) O λg37 _=>?_
 change J _ _ _ [_,_,RSb g16 ((R6 s).take (qWz s)),_] _
 refine vA 5 qBu z9_ O O O O O<|vG (qAU (i:=3) (vs:= [Str (rdp s).con]) O O O O O z9_ O xD) O O λ_ _=>?_
 change J _ _ _ [_,_,_,blk g5 (rdp s).cells 371] _
 refine yi C9<|ym λ_ C10=>vQ [F,blk g5 (rdp s).cells 371] [5,6,100003,100004] (.y 0 (.y 1 (.y 3 (.e 2 (.y 4 (.e 5 (.e 6 .nil))))))) ye xF xD ?_
 refine yo O (qAx 1 O O O isAgg371 qHE O) O O<|yo O (qAx 1 O O O isAgg371 qHE O) O O<|vq O (qAT O O) O O O ?_
 refine vD O (qAZ O O (λF' hF=>qNn F' (hK.mono (Fa hF)) (rdp s) (qWX s))) O xD λg41 _=>vq O (qBP O O O) O O O ?_
 refine vZ O (qAF (l:=qPN.cells) (i:=1) (vs:=(rdp s).cells) O O O O O qHE O O) O O O λ_ _=>?_
 change J _ _ _ [_,blk g2 (rdp s).cells 371,_,_] _
 refine vp O (YOp.eop (qBH O O)) O O O O ?_
 intro _ _
 refine vM<|yq (yu C10 ?_)
 exact yr<|vH hw0 (λ_ _ h=>h) (rv2 O (RV.blkA 1 O O isAgg371 qHE) O) (qAf () (by unfold qBm;rw [yX (show qVr (s.take 56)=s.drop 56 from Decidable.not_not.1 h12)]) yd [0] O xC)
theorem qPx:(qBm (List.replicate 64 0)).2=false\/(qBm (List.replicate 64 0)).1.turn=0:=by
  unfold qBm
  split
  . right
    show UInt64.ofNat (qBd ((R0 (List.replicate 64 0)).out 4))=0
    decide
  . exact .inl O
def zS:xA:=List.replicate 64 0
theorem qW5:(qBm zS).2=false\/(qBm zS).1.turn=0:=qPx
theorem qZ6(F:Hp)(gb gd:Nat)(first:Int)(size:Nat)(hat:Int)(hturn:UInt64)(hend:Int)(Ar:yS)(nr cr:Nat)(bad:Bool)(hB:qAI F ⟨gb,0,none⟩ [Ptr gd,I first,I (size:Nat),I hat,W64 hturn,I hend,.slice Ar nr cr,.bool bad])(s:xA):
    Cz prog 209 [Ptr gb,Str s] F (I (if 900<s.length then 2 else if bad=true then 21 else 0)):=by
  refine y7 func209 O ntmps209 O (λw0 hw0=>?_)
  refine yl λ_ C1=>yh O<|yi C1<|ym λ_ C2=>yz<|yl λ_ C3=>yh O<|yj ((qBL underlying125 O O O).as (v':= .bool false) O) O<|yh O<|yi C3<|vC ?_
  refine yl λ_ C4=>yh O<|yj (qAn u9_ O O) O<|yj (qAs O O O) O<|yh O<|yi C4<|y1 O (λh8=>?_) (λh8=>?_)
  .
    exact yl λ_ C5=>yh O<|yi C5<|yr<|vI<|y5<|yw hw0 O () (yY I (by rw [yX xB])) yd [0] O xC
  refine yl λ_ C6=>yh O<|yj (qAB O O) O<|vA 7 qEH z4_ O O O O O<|yj ((qAH O O b4_ (m:=F) xD (hB.at (i:=7) O)).as (v':= .bool (decide (bad=true))) (by rw [Bool.decide_eq_true])) O<|yh O<|yi C6<|y1 O (λh12=>?_) (λh12=>?_)
  .
    exact yl λ_ C7=>yh O<|yi C7<|yr<|vI<|y5<|yw hw0 O () (yY I (by rw [yW xB,yX xG])) yd [0] O xC
  refine vP<|vB<|yq (yu C2 ?_)
  exact yl λ_ C8=>yh O<|yi C8<|yr<|yw hw0 O () (yY I (by rw [yW xB,yW xG])) yd [0] O xC
theorem qR6(F:Hp)(gb gd:Nat)(first:Int)(size:Nat)(hat:Int)(hturn:UInt64)(hend:Int)(Ar:yS)(nr cr:Nat)(bad:Bool)(hB:qAI F ⟨gb,0,none⟩ [Ptr gd,I first,I (size:Nat),I hat,W64 hturn,I hend,.slice Ar nr cr,.bool bad])(hs:size<=1048576)(he:0<=hend/\hend<=1048576):
    Cz prog 136 [Ptr gb] F (I ((size:Int)-hend)):=by
  refine y7 func136 O ntmps136 O (λw0 hw0=>?_)
  refine yl λ_ C1=>yh O<|yi C1<|ym λ_ C2=>yl λ_ C3=>yh O<|yj ((qBL underlying125 O O O).as (v':= .bool false) O) O<|yi C3<|vC ?_
  refine yy C2<|ym λ_ C4=>vQ [F] [] (.y 0 (.y 1 (.y 2 (.y 3 (.y 4 (.y 5 (.y 6 (.y 7 (.y 8 (.y 9 (.y 10 .nil))))))))))) ye xF xD ?_
  refine yx ?_
  refine yo O (qAB O O) O O<|yo O (qAA O O qEH O z3_ O) O O<|yo O (qAH O O b3_ (m:=F) xD (hB.at (i:=2) O)) O O<|yx ?_
  refine yo O (qAB O O) O O<|yo O (qAA O O qEH O qCJ O) O O<|yo O (qAA O O qCW O z3_ O) O O<|yo O (qAH O O b3_ (m:=F) xD (hB.at (i:=5) O)) O O<|yo O (qAm O O O xB) O O<|vU ?_
  refine vM<|yq (yu C4 ?_)
  exact yr<|yw hw0 O () O yd [0] O xC
theorem qO2(F:Hp)(gb gd:Nat)(first:Int)(size:Nat)(hat:Int)(hturn:UInt64)(hend:Int)(Ar:yS)(nr cr:Nat)(bad:Bool)(hB:qAI F ⟨gb,0,none⟩ [Ptr gd,I first,I (size:Nat),I hat,W64 hturn,I hend,.slice Ar nr cr,.bool bad])(L:List xA)(hLn:L.length=nr)(hL:Sl F 1 Ar nr cr (qAG L))(hn:nr<=1073741824):
    Ct prog 53 [Ptr gb] [F] (λx:yS×Nat×Hp=> .slice x.1 L.length x.2.1) (λx=>Row x.2.2 9 1 x.1 L.length x.2.1 (qAG L)) (λx=> [F,x.2.2]):=by
  subst hLn
  refine y7 func53 O ntmps53 O (λw0 hw0=>?_)
  refine yl λ_ C1=>yh O<|yi C1<|ym λ_ C2=>yl λ_ C3=>yh O<|yj ((qBL underlying125 O O O).as (v':= .bool false) O) O<|yi C3<|vC ?_
  refine yy C2<|yl λ_ C4=>yh O<|yj (qAB O O) O<|vA 3 qEH qCJ O O O O O<|vA 6 qCW qBs O O O O O<|yj (qAH O O qB7 (m:=F) xD (hB.at (i:=6) O)) O<|yp (qBx O O (λF' hF=>qLm F' L Ar cr (hL.mono (Fa hF)) hn)) O ?_
  rintro⟨A10,c10,m10⟩ h10
  try dsimp only at h10
  exact yh O<|yi C4<|yr<|yw hw0 O (A10,c10,m10) O h10 [0,1] O xC
theorem qL1(s:xA)(n:Nat):(s.take (min s.length n)).drop 0=s.take n:=by
 rw [zI]
 by_cases h:s.length<=n
 . rw [jq h,jV (jL _),jV h]
 . rw [Nat.min_eq_right xB]
theorem qVg(s:xA)(n:Nat):s.drop (min s.length n)=s.drop n:=by
 by_cases h:s.length<=n
 . rw [jq h,j4 (jL _),j4 h]
 . rw [Nat.min_eq_right xB]
def qHV(l:List Prt):List yU:=l.map Prt.cells
theorem qRB(a b:List Prt):qHV (a++b)=qHV a++qHV b:=by simp [qHV]
def prt(turn num:UInt64)(s:xA)(n i:Nat):Prt:=⟨turn,num,i,n,qGI turn num s,(s.drop (39*i)).take 39⟩
def qX2(turn num:UInt64)(s:xA)(n k:Nat):List Prt:=(List.range k).map (prt turn num s n)
theorem qQ9(turn num:UInt64)(s:xA)(n k:Nat):qX2 turn num s n (k+1)=qX2 turn num s n k++ [prt turn num s n k]:=by unfold qX2;rw [jt,jN];rfl
theorem qRA{turn num:UInt64}{s:xA}{n k i:Nat}(h:i<k):(qHV (qX2 turn num s n k))[i]?=some (prt turn num s n i).cells:=by
 unfold qHV qX2
 rw [ze,jO,zD h];rfl
theorem qCs(n:Nat):1<=qAw n:=by unfold qAw;split<;>omega
theorem qEO{n:Nat}(h:n<=900):qAw n<=24:=by unfold qAw;split<;>omega
theorem qUf(F:Hp)(hK:yf F)(turn num:UInt64)(s:xA)(ht:turn.toNat<2^(8*4))(hnm:num.toNat<2^(8*2))(hs:s.length<=900)(n:Nat)(hn:n=qAw s.length):
    Ct prog 259 [W64 turn,W64 num,Str s] [F] (λx:yS×Nat×Hp=> .slice x.1 n x.2.1) (λx=>Row x.2.2 371 6 x.1 n x.2.1 (qHV (qX2 turn num s n n))) (λx=> [F,x.2.2]):=by
  have hn24:n<=24:=hn▸qEO hs
  refine y7 func259 O ntmps259 O (λw0 hw0=>?_)
  refine yl λ_ C1=>yh O<|yi C1<|yl λ_ C2=>yh O<|yj (qAn u9_ O O) O<|yp (qAZ O O (λF' hF=>by have:=qFP F' s.length xB;rw [<-hn] at this;exact this)) O λg13 _=>yn 3 O<|yp (qAZ O O (λF' hF=>qOb F' (hK.mono (Fa hF)) turn num s ht hnm xB)) O λg17 _=>yn 2 O<|yi C2<|yl λ_ C3=>yh O<|yi C3<|ym λ_ C4=>ym λ_ C5=>ve [0,1] [F,(λ_=>none)] O xC<|yt<|yn 2 O<|yi C5<|yz<|vN (X:=Nat×Hp×yS×Nat) (λx=> [(0,W64 turn),(1,W64 num),(2,Str (s.drop (39*x.1))),(7,I n),(8,Str (qGI turn num s)),(9,.slice x.2.2.1 x.1 x.2.2.2),(18,I n),(19,I x.1)]) (λx=> [F,x.2.1]) (λx=>x.1<=n/\Row x.2.1 371 6 x.2.2.1 x.1 x.2.2.2 (qHV (qX2 turn num s n x.1))) (λx=>n-x.1) (0,(λ_=>none),none,0) (⟨jH _,qBf.nil⟩) (Sub.of O) (λ_ h=>h) ?_
  rintro⟨k,m,A7,c7⟩ ⟨hk,hr⟩ I0 hI0
  dsimp only at hk hr⊢
  refine yl λ_ C6=>yj (qAP O O O) O<|yi C6<|ym λ_ C7=>y1 O (λh20=>?_) (λh20=>?_)
  .
    refine yy C7<|ym λ_ C8=>yz<|yl λ_ C9=>yn 2 O<|yi C9<|yl λ_ C10=>yn 8 O<|yj (qAn u9_ O O) O<|yj ((qEx O O O).as (v':=I (min (s.drop (39*k)).length 39:Nat)) (yY I xB)) O<|yj ((qA0 u9_ O O O O ⟨xB,xB⟩).as (v':=Str ((s.drop (39*k)).take 39)) (yY Str (qL1 _ _))) O<|yj (qAK (places:= [(0,1),(1,1),(2,1),(3,1),(4,1),(5,1)]) (r:= [W64 turn,W64 num,I k,I n,Str (qGI turn num s),Str ((s.drop (39*k)).take 39)]) O O O qBu qMu (λ_=>xH) O) O<|yp (qAE (l:= [.tmp 33]) (xs:= [(prt turn num s n k).cells]) O O O O qOp el371 O xC xC (by simp [Prt.cells,prt])) O λg34 _=>yp (qAV (i:=1) (m2:=blk g34 (prt turn num s n k).cells 371) O O O qOp qOp el371 O hr xD ((qAj (q:=True) (xs:=qHV [(prt turn num s n k)]) O (by simp [qHV,Prt.cells])).sl) (by simp [qHV,Prt.cells,Value.oneCell']) xB xB) O ?_
    rintro⟨A8,c8,m8⟩ h8
    try dsimp only at h8
    rw [<-qRB,<-qQ9] at h8
    refine yh O<|yi C10<|yt<|yn 2 O<|yj (qAn u9_ O O) O<|yj ((qEx O O O).as (v':=I (min (s.drop (39*k)).length 39:Nat)) (yY I xB)) O<|yj ((qA0 u9_ O O O O ⟨xB,xB⟩).as (v':=Str (s.drop (39*(k+1)))) (yY Str (by rw [jn,qVg,zH,Nat.mul_add,Nat.mul_one]))) O<|yh O<|y8<|vB<|yq (yu C8 ?_)
    exact yt<|yj ((qAM O O O xB).nat (k+1) xB) O<|yh O<|y8<|yq<|vE (k+1,m8,A8,c8) hI0 ⟨by dsimp only;omega,h8⟩ (Sub.of O) (λ_ h=>h.pick [0,1] xC)
  refine vK<|y6<|y6<|vL ?_
  refine yq (yu C4 ?_)
  refine ym λ_ C11=>?_
  have hkn:k=n:=xB
  subst hkn
  exact yt<|yn 2 O<|yi C11<|yr<|yw hw0 O (A7,c7,m) O hr [0,1] O xC
def qCQ(d:Dk)(p:Nat)(t:Nat->xA):Nat->Dk×Int
 |0=>(d,0)
 |k+1=>if(qCQ d p t k).2=0 then((qCQ d p t k).1.write ((p+k:Nat):Int) (t k),(qCQ d p t k).1.wErr ((p+k:Nat):Int) (t k)) else qCQ d p t k
theorem qFF{d:Dk}{p:Nat}{t:Nat->xA}{k:Nat}(h:(qCQ d p t k).2=0):qCQ d p t (k+1)=((qCQ d p t k).1.write ((p+k:Nat):Int) (t k),(qCQ d p t k).1.wErr ((p+k:Nat):Int) (t k)):=yX h
theorem qHG{d:Dk}{p:Nat}{t:Nat->xA}{k:Nat}(h: ¬(qCQ d p t k).2=0): ∀n,qCQ d p t (k+n)=qCQ d p t k
 |0=>rfl
 |n+1=>by
  have e:=qHG h n
  show(if(qCQ d p t (k+n)).2=0 then _ else qCQ d p t (k+n))=_
  rw [e,yW h]
def qJS(d:Dk)(p:Nat)(t:Nat->xA)(n:Nat):Dk×Int:=if(qCQ d p t n).2=0 then((qCQ d p t n).1.sync,(qCQ d p t n).1.sErr) else qCQ d p t n
theorem qS2(d:Dk):d.burn.keep=d.keep/\d.burn.wait.length<=d.wait.length:=by
  unfold Dk.burn Dk.cut
  split
  . split
    . exact⟨O,jH _⟩
    . exact⟨O,jL _⟩
  . exact⟨O,jL _⟩
theorem qOn(d:Dk)(i:Int)(s:xA):(d.write i s).keep=d.keep/\(d.write i s).wait.length<=d.wait.length+1:=by
  have hb:=qS2 d
  unfold Dk.write
  split
  . exact⟨O,Nat.le_succ _⟩
  . split
    . exact⟨O,Nat.le_succ _⟩
    . split
      . exact⟨hb.1,Nat.le_succ_of_le hb.2⟩
      . refine⟨hb.1,?_⟩
        show(d.burn.wait++ [_]).length<=_
        rw [jA];exact Nat.succ_le_succ hb.2
theorem qJP{d:Dk}(h:d.ok)(p:Nat)(t:Nat->xA): ∀k,(qCQ d p t k).1.ok/\(qCQ d p t k).1.wait.length<=d.wait.length+k/\(qCQ d p t k).1.keep=d.keep
  |0=>⟨h,jL _,rfl⟩
  |k+1=>by
    obtain ⟨h1,h2,h3⟩:=qJP h p t k
    by_cases he:(qCQ d p t k).2=0
    . rw [qFF he]
      have hw:=qOn (qCQ d p t k).1 ((p+k:Nat):Int) (t k)
      exact⟨h1.write _ _,jf hw.2 xB,hw.1.trans h3⟩
    . rw [show k+1=k+1 from rfl,qHG he 1]
      exact⟨h1,xB,h3⟩
theorem qNo{turn num:UInt64}{s:xA}{n i:Nat}(ht:turn.toNat<2^(8*4))(hn:num.toNat<2^(8*2))(h:n<=24)(hi:i<n):(prt turn num s n i).ok:=
 ⟨ht,hn,by show i<256;omega,by show n<256;omega,by show(qGI _ _ _).length<=8;rw [qLv];exact jL _,by show((s.drop _).take 39).length<=39;rw [jF];exact Nat.min_le_left _ _⟩
theorem qIT(F mm:Hp)(hK:yf F)(gb gd:Nat)(first size hat0:Int)(ht0:UInt64)(he0:Int)(Ar0:yS)(nr0 cr0:Nat)(bad:Bool)(d:Dk)(C:yS)(f:Nat)(hb:Dsk mm gd d C f)(hok:d.ok)(hn2:d.wait.length<=1048576)(hKp:Sl F 1 C d.keep.length f (qAe d.keep))(hn3:d.keep.length<=9223372036854775807)(hat:Nat)(hturn:UInt64)(hend:Nat)(Ar:yS)(nr cr:Nat)(R:List xA)(hR:R.length=nr)(hRs:Sl F 1 Ar nr cr (qAG R))(s:xA)(hs:s.length<=900)(n:Nat)(hn:n=qAw s.length)(ht:hturn.toNat<2^(8*4))(hnr:nr<65536)(hp:hat+hend<=1048576)(he:(qJS d (hat+hend) (λi=>(prt hturn (UInt64.ofNat nr) s n i).text) n).2=0):
    Ct prog 210 [Ptr gb,.agg #[I hat,W64 hturn,I hend,.slice Ar nr cr],Str s] [blk gb [Ptr gd,I first,I size,I hat0,W64 ht0,I he0,.slice Ar0 nr0 cr0,.bool bad] 244,mm,F] (λ_:Hp×yS×Nat×Hp=>I 0) (λx=>Dsk x.1 gd (qJS d (hat+hend) (λi=>(prt hturn (UInt64.ofNat nr) s n i).text) n).1 C f/\Row x.2.2.2 9 1 x.2.1 (nr+1) x.2.2.1 (qAG (R++ [s]))) (λx=> [blk gb [Ptr gd,I first,I size,I hat,W64 hturn,I (hend+n:Nat),.slice x.2.1 (nr+1) x.2.2.1,.bool bad] 244,x.1,F,x.2.2.2]):=by
  have hn24:n<=24:=hn▸qEO hs
  have hnum:(UInt64.ofNat nr).toNat<2^(8*2):=by rw [qA3 xB];exact hnr
  refine y7 func210 O ntmps210 O (λw0 hw0=>?_)
  refine yl λ_ C1=>yp (qAi O O O) O ?_
  rintro g4 _
  refine yh O<|yi C1 ?_
  refine yl λ_ C2=>vA 1 qCW qBV O O O O O<|vF 3 qBe O O O O O<|vA 3 qCW qBs O O O O O<|vF 3 qB7 O O O O O<|yj (qAN qAg O O) O<|yj (qBC O O u3_ qDJ xB) O<|yh O<|yp (qBx O O (λF' hF=>qUf F' (hK.mo hF) hturn (UInt64.ofNat nr) s ht hnum hs n hn)) O ?_
  rintro⟨Ap,cp,mp⟩ hr
  try dsimp only at hr
  refine yh O<|yi C2 ?_
  refine yl λ_ C3=>yh O<|yi C3 ?_
  refine vl (λx:Hp=> [(0,Ptr gb),(2,Str s),(4,Ptr g4),(7,.slice Ap n cp),(8,I (qCQ d (hat+hend) (λi=>(prt hturn (UInt64.ofNat nr) s n i).text) n).2)]) (λx=> [blk gb [Ptr gd,I first,I size,I hat0,W64 ht0,I he0,.slice Ar0 nr0 cr0,.bool bad] 244,x,F,blk g4 [I hat,W64 hturn,I hend,.slice Ar nr cr] 242,mp]) (λx=>Dsk x gd (qCQ d (hat+hend) (λi=>(prt hturn (UInt64.ofNat nr) s n i).text) n).1 C f) (λ_ C4=>?_) ?_
  .
    refine yl λ_ C5=>yh O<|yi C5 ?_
    refine yz<|vN (X:=Nat×Hp) (λx=> [(0,Ptr gb),(2,Str s),(4,Ptr g4),(7,.slice Ap n cp),(8,I (qCQ d (hat+hend) (λi=>(prt hturn (UInt64.ofNat nr) s n i).text) x.1).2),(9,I x.1)]) (λx=> [blk gb [Ptr gd,I first,I size,I hat0,W64 ht0,I he0,.slice Ar0 nr0 cr0,.bool bad] 244,x.2,F,blk g4 [I hat,W64 hturn,I hend,.slice Ar nr cr] 242,mp]) (λx=>x.1<=n/\Dsk x.2 gd (qCQ d (hat+hend) (λi=>(prt hturn (UInt64.ofNat nr) s n i).text) x.1).1 C f) (λx=>n-x.1) (0,mm) (⟨jH _,hb⟩) (Sub.of O) (λ_ h=>h) ?_
    rintro⟨k,m⟩ ⟨hk,hd⟩ I0 hI0
    dsimp only at hk hd⊢
    refine ym λ_ C6=>yl λ_ C7=>yn 2 O<|yj (qAN qOp O O) O<|yj (qAP O O O) O<|yh O<|vO (d:=22) O (λh22=>?_) (λh22=>?_)
    .
      refine yh O<|yv (qAR O O O) O<|yh O<|yi C7 ?_
      refine y1 O (λh25=>?_) (λh25=>?_)
      .
        refine yy C6 ?_
        refine ym λ_ C8=>yz ?_
        have hkn:k<n:=xB
        have hw:=qJP hok (hat+hend) (λi=>(prt hturn (UInt64.ofNat nr) s n i).text) k
        refine vQ [blk gb [Ptr gd,I first,I size,I hat0,W64 ht0,I he0,.slice Ar0 nr0 cr0,.bool bad] 244,blk g4 [I hat,W64 hturn,I hend,.slice Ar nr cr] 242,F,mp] [] (.y 0 (.y 1 (.y 2 (.y 3 (.y 4 (.y 5 (.y 6 (.y 7 (.y 8 (.y 9 (.y 10 (.y 11 (.y 12 (.y 13 (.y 14 (.e 15 (.e 16 (.y 17 .nil)))))))))))))))))) ye xF xD ?_
        refine yx ?_
        refine yo O (qAB O O) O O<|yo O (qAA O O qEH O sizeOf24 O) O O<|yo O (qAD 0 O O O isAgg24 O) O O<|yo O (qAA O O qCW O z3_ O) O O<|yo O (qAD 1 O O O b3_ O) O O<|yo O (qAA O O qCW O z3_ O) O O<|yo O (qAD 1 O O O b3_ O) O O<|yo O ((qAM O O O xB).nat (hat+hend) xB) O O<|yx ?_
        refine yo O ((qAM O O O xB).nat (hat+hend+k) xB) O O<|yx ?_
        refine yx ?_
        refine yo O (qAC O O O qOp qHE hr.sl xB) O O<|yo O (qAb O O isAgg371 qHE (m:=mp) xD (hr.sl.elem (qRA hkn)) O) O O<|vD O (qAZ O O (λF' hF=>qNn F' (hK.mo hF) (prt hturn (UInt64.ofNat nr) s n k) (qNo ht hnum hn24 hkn))) O xD λg43 _=>vD O (qAJ O O ent (vR 1 O (λF' hF=>qTY F' m gd (qCQ d (hat+hend) (λi=>(prt hturn (UInt64.ofNat nr) s n i).text) k).1 C f hd hw.1 (by have:=hw.2.1;omega) (by rw [hw.2.2];exact hKp.mono (Fa hF)) (by rw [hw.2.2];exact hn3) ((hat+hend+k:Nat):Int) (prt hturn (UInt64.ofNat nr) s n k).text (by rw [Prt.text_len (qNo ht hnum hn24 hkn)];decide)))) O xD ?_
        rintro m44 hd44
        refine vU ?_
        refine vM<|vB<|yq (yu C8 ?_)
        refine yt<|yh O<|yj ((qAM O O O xB).nat (k+1) xB) O<|yh O<|y8<|yq ?_
        have hsu:=qFF (show(qCQ d (hat+hend) (λi=>(prt hturn (UInt64.ofNat nr) s n i).text) k).2=0 from by omega)
        exact vE (k+1,m44) hI0 ⟨by dsimp only;omega,by dsimp only;rw [hsu];exact hd44⟩ ⟨O,O,O,O,by dsimp only;rw [hsu];rfl,O,yd⟩ (λ_ h=>h)
      refine vK<|y6<|y6<|vL ?_
      refine yq ?_
      have hst:=qHG (d:=d) (p:=hat+hend) (t:=(λi=>(prt hturn (UInt64.ofNat nr) s n i).text)) (k:=k) xB (n-k)
      rw [show k+(n-k)=n by omega] at hst
      exact vY m C4 (by rw [hst];exact hd) ⟨O,O,O,O,by rw [hst];rfl,yd⟩ (λ_ h=>h)
    refine yn 3 O<|yi C7 ?_
    refine vC ?_
    refine vK<|y6<|y6<|vL ?_
    refine yq ?_
    have hkk:k=n:=xB
    subst hkk
    exact vY m C4 hd (Sub.of O) (λ_ h=>h)
  intro m hd
  refine vl (λx:Hp=> [(0,Ptr gb),(2,Str s),(4,Ptr g4),(7,.slice Ap n cp),(8,I (qJS d (hat+hend) (λi=>(prt hturn (UInt64.ofNat nr) s n i).text) n).2)]) (λx=> [blk gb [Ptr gd,I first,I size,I hat0,W64 ht0,I he0,.slice Ar0 nr0 cr0,.bool bad] 244,x,F,blk g4 [I hat,W64 hturn,I hend,.slice Ar nr cr] 242,mp]) (λx=>Dsk x gd (qJS d (hat+hend) (λi=>(prt hturn (UInt64.ofNat nr) s n i).text) n).1 C f) (λ_ C9=>?_) ?_
  .
    refine ym λ_ C10=>?_
    have hw:=qJP hok (hat+hend) (λi=>(prt hturn (UInt64.ofNat nr) s n i).text) n
    refine yt<|yh O<|yj (qAR O O O) O<|yi C10 ?_
    refine y1 O (λh46=>?_) (λh46=>?_)
    .
      refine yt<|yh O<|yj (qAB O O) O<|vA 0 qEH sizeOf24 O O O O O<|vF 0 isAgg24 O O O O O<|yp (qAJ O O ent (vR 1 O (λF' hF=>qXP F' m gd (qCQ d (hat+hend) (λi=>(prt hturn (UInt64.ofNat nr) s n i).text) n).1 C f hd hw.1 (by have:=hw.2.1;omega) (by rw [hw.2.2];exact hKp.mono (Fa hF)) (by rw [hw.2.2];exact hn3)))) O ?_
      rintro m51 hd51
      refine yh O<|y8<|yq ?_
      have hst:(qJS d (hat+hend) (λi=>(prt hturn (UInt64.ofNat nr) s n i).text) n)=((qCQ d (hat+hend) (λi=>(prt hturn (UInt64.ofNat nr) s n i).text) n).1.sync,(qCQ d (hat+hend) (λi=>(prt hturn (UInt64.ofNat nr) s n i).text) n).1.sErr):=yX xB
      exact vY m51 C9 (by rw [hst];exact hd51) ⟨O,O,O,O,by rw [hst];rfl,yd⟩ (λ_ h=>h)
    refine vP<|yq ?_
    have hst:(qJS d (hat+hend) (λi=>(prt hturn (UInt64.ofNat nr) s n i).text) n)=(qCQ d (hat+hend) (λi=>(prt hturn (UInt64.ofNat nr) s n i).text) n):=yW xB
    exact vY m C9 (by rw [hst];exact hd) ⟨O,O,O,O,by rw [hst];rfl,yd⟩ (λ_ h=>h)
  intro m hd
  refine ym λ_ C11=>yl λ_ C12=>yh O<|yj ((qAQ O O O).no xB) O<|yi C12 ?_
  refine vC ?_
  refine yy C11 ?_
  refine yl λ_ C13=>vA 2 qCW z3_ O O O O O<|vF 3 b3_ O O O O O<|yh O<|yj (qAN qOp O O) O<|yj ((qAM O O O xB).nat (hend+n) xB) O<|vA 2 qCW z3_ O O O O O<|vG (qAU (i:=3) O O O O O z3_ O xD) O O λ_ _=>?_
  change J _ _ _ [blk gb [Ptr gd,I first,I size,I hat0,W64 ht0,I he0,.slice Ar0 nr0 cr0,.bool bad] 244,m,F,blk g4 [I hat,W64 hturn,I (hend+n:Nat),.slice Ar nr cr] 242,mp] _
  refine yi C13 ?_
  refine yl λ_ C14=>vA 3 qCW qBs O O O O O<|vF 3 qB7 O O O O O<|yp (qAJ O O ent (Ct.use (new:=λx:yS×Nat×Hp=> [x.2.2]) (λF' hF=>by have:=qLm F' R Ar cr (by rw [hR];exact hRs.mono (Fa hF)) xB;rw [hR] at this;exact this))) O ?_
  rintro⟨A6,c6,m6⟩ h6
  try dsimp only at h6
  change J _ _ _ [_,_,_,_,_,m6] _
  refine yh O<|yp (qAE (l:= [.tmp 67]) (xs:= [[Str s]]) O O O O qAg el9 O xC xC xD) O λg68 _=>?_
  change J _ _ _ [_,_,_,_,_,_,blk g68 [Str s] 9] _
  refine yp (qAV (i:=5) (m2:=blk g68 [Str s] 9) (xs:=qAG R) (ys:=qAG [s]) O O O qAg qAg el9 O h6 xD ((qAj (q:=True) (xs:=qAG [s]) O (by simp [qAG])).sl) (by simp [qAG,Value.oneCell']) xB xB) O ?_
  rintro⟨A8,c8,m8⟩ h8
  try dsimp only at h8
  change J _ ((69,.slice A8 (nr+1) c8)::_) _ [_,_,_,_,_,m8,_] _
  rw [<-qOu] at h8
  refine vA 3 qCW qBs O O O O O<|vG (qAU (i:=3) (vs:= [.slice A8 (nr+1) c8]) O O O O O qBs O xD) O O λ_ _=>yi C14 ?_
  refine yl λ_ C15=>yh O<|vT 3 isAgg242 qCJ O O O O O<|yj (qAB O O) O<|vA 3 qEH qCJ O O O O O<|vG (qAU (i:=0) (vs:= [I hat,W64 hturn,I (hend+n:Nat),.slice A8 (nr+1) c8]) O O O O O qCJ O xD) O O λ_ _=>yi C15 ?_
  refine yl λ_ C16=>yh O<|yi C16 ?_
  exact yr<|yw hw0 O (m,A8,c8,m8) O ⟨hd,h8⟩ [0,1,2,5] O xC
theorem qSx{m:Hp}{g k:Nat}{l vs:yU}(h:qAI m ⟨g,0,none⟩ l)(hs: ∀j u,vs[j]?=some u->l[k+j]?=some u):qAI m ⟨g,k,none⟩ vs:=by
 obtain ⟨h1,cs,e,fz,h2,h3⟩:=h
 refine⟨O,cs,e,fz,h2,λj u hj=>?_⟩
 have:=h3 _ _ (hs j u hj)
 rwa [jl] at this
theorem qLu(F mm:Hp)(hK:yf F)(gb gd:Nat)(first:Int)(size hat:Nat)(hturn:UInt64)(hend:Nat)(Ar:yS)(nr cr:Nat)(d:Dk)(C:yS)(f:Nat)(hb:Dsk mm gd d C f)(hok:d.ok)(hn2:d.wait.length<=1048576)(hKp:Sl F 1 C d.keep.length f (qAe d.keep))(hn3:d.keep.length<=9223372036854775807)(R:List xA)(hR:R.length=nr)(hRs:Sl F 1 Ar nr cr (qAG R))(s:xA)(hs:s.length<=900)(n:Nat)(hn:n=qAw s.length)(t':UInt64)(ht':(t'.toNat:Int)=max (hturn.toNat:Int) 1)(ht:t'.toNat<2^(8*4))(hnr:nr<65536)(hp:hat+size<=1048576)(hfit:hend+n<=size)(he:(qJS d (hat+hend) (λi=>(prt t' (UInt64.ofNat nr) s n i).text) n).2=0):
    Ct prog 137 [Ptr gb,Str s] [blk gb [Ptr gd,I first,I (size:Nat),I (hat:Nat),W64 hturn,I (hend:Nat),.slice Ar nr cr,.bool false] 244,mm,F] (λ_:Hp×yS×Nat×Hp=>I 0) (λx=>Dsk x.1 gd (qJS d (hat+hend) (λi=>(prt t' (UInt64.ofNat nr) s n i).text) n).1 C f/\Row x.2.2.2 9 1 x.2.1 (nr+1) x.2.2.1 (qAG (R++ [s]))) (λx=> [blk gb [Ptr gd,I first,I (size:Nat),I (hat:Nat),W64 t',I (hend+n:Nat),.slice x.2.1 (nr+1) x.2.2.1,.bool false] 244,x.1,F,x.2.2.2]):=by
  have hn1:=qCs s.length
  refine y7 func137 O ntmps137 O (λw0 hw0=>?_)
  refine yl λ_ C1=>yh O<|yi C1 ?_
  refine ym λ_ C2=>yl λ_ C3=>yn 2 O<|yp ((qAZ O O (λF' hF=>qZ6 F' gb gd first size hat hturn hend Ar nr cr false (qAI.blk0.mono (hF (blk gb [Ptr gd,I first,I (size:Nat),I (hat:Nat),W64 hturn,I (hend:Nat),.slice Ar nr cr,.bool false] 244) xD)) s))) O λg9 _=>yh O<|yi C3 ?_
  refine yl λ_ C4=>yh O<|yj ((qAQ O O O).no (λh=>h (by rw [yW xB,yW xC]))) O<|yi C4 ?_
  refine vC ?_
  refine yy C2 ?_
  refine yl λ_ C5=>yh O<|yj (qAB O O) O<|vA 3 qEH qCJ O O O O O<|yj (qAb O O isAgg242 qCJ (m:=blk gb [Ptr gd,I first,I (size:Nat),I (hat:Nat),W64 hturn,I (hend:Nat),.slice Ar nr cr,.bool false] 244) xD (vs:= [I (hat:Nat),W64 hturn,I (hend:Nat),.slice Ar nr cr]) (qSx qAI.blk0 (λj u hj=>by match j,hj with|0,hj=>exact hj|1,hj=>exact hj|2,hj=>exact hj|3,hj=>exact hj)) O) O<|yp (qAO O zeroValue242 O) O λg6 _=>vG (qAF (l:= [I 0,W64 0,I 0,.slice none 0 0]) (i:=3) (vs:= [I (hat:Nat),W64 hturn,I (hend:Nat),.slice Ar nr cr]) O O O O O qCJ O O) O O λ_ _=>yi C5 ?_
  refine ym λ_ C6=>yl λ_ C7=>yh O<|yp (qAZ O O (λF' hF=>qR6 F' gb gd first size hat hturn hend Ar nr cr false (qAI.blk0.mono (hF (blk gb [Ptr gd,I first,I (size:Nat),I (hat:Nat),W64 hturn,I (hend:Nat),.slice Ar nr cr,.bool false] 244) xD)) xB xB)) O λg18 _=>yh O<|yj (qAn u9_ O O) O<|yp (qAZ O O (λF' hF=>by have:=qFP F' s.length xB;rw [<-hn] at this;exact this)) O λg21 _=>yj ((qAP O O O).no xB) O<|yh O<|yv (qAA O O qCW O qBs O) O<|yv (qAD 3 O O O qB7 O) O<|yv (qAN qAg O O) O<|yv ((qA1 O O O).no xB) O<|yh O<|yi C7 ?_
  refine vC ?_
  refine yy C6 ?_
  refine yl λ_ C8=>vA 1 qCW qBV O O O O O<|vF 3 qBe O O O O O<|yj ((qNt O O O).as (v':=W64 t') (yY (Value.int .u64) ht'.symm)) O<|vA 1 qCW qBV O O O O O<|vG (qAU (i:=3) O O O O O qBV O xD) O O λ_ _=>yi C8 ?_
  refine yl λ_ C9=>yh O<|vT 3 isAgg242 qCJ O O O O O<|yh O<|yp (qAJ O O ent (vi [blk gb [Ptr gd,I first,I (size:Nat),I (hat:Nat),W64 hturn,I (hend:Nat),.slice Ar nr cr,.bool false] 244,mm] [F,blk g6 [I (hat:Nat),W64 t',I (hend:Nat),.slice Ar nr cr] 242] (A':=λx:Hp×yS×Nat×Hp=> [blk gb [Ptr gd,I first,I (size:Nat),I (hat:Nat),W64 t',I (hend+n:Nat),.slice x.2.1 (nr+1) x.2.2.1,.bool false] 244,x.1]) (new:=λx=> [x.2.2.2]) (λF' hF=>qIT F' mm (hK.mo hF) gb gd first size hat hturn hend Ar nr cr false d C f hb hok hn2 (hKp.mono (Fa hF)) hn3 hat t' hend Ar nr cr R hR (hRs.mono (Fa hF)) s hs n hn ht hnr xB he))) O ?_
  rintro⟨m36,A36,c36,m37⟩ ⟨hd36,h36⟩
  refine yh O<|yi C9 ?_
  exact yr<|yw hw0 O (m36,A36,c36,m37) O ⟨hd36,h36⟩ [0,1,2,4] O xC
theorem qC9{d:Dk}(h:d.armed=false):d.burn=d/\ ¬d.burns:=⟨by unfold Dk.burn;rw [yW (by rw [h];decide)],λe=>by have:=e.1;rw [h] at this;exact absurd this xC⟩
theorem qDe{d:Dk}(h:d.off=false){i:Nat}(hi:i<d.last.length):d.ready (i:Int)=0:=by unfold Dk.ready;rw [h,yW xC,yW xB]
theorem qKU{d:Dk}(ho:d.off=false)(ha:d.armed=false){p n:Nat}(hp:p+n<=d.last.length){t:Nat->xA}(ht: ∀i,i<n->(t i).length<=64): ∀k,k<=n->(qCQ d p t k).2=0/\(qCQ d p t k).1.off=false/\(qCQ d p t k).1.armed=false/\(qCQ d p t k).1.last=d.last
 |0,_=>⟨rfl,ho,ha,rfl⟩
 |k+1,hk=>by
  obtain ⟨h1,h2,h3,h4⟩:=qKU ho ha hp ht k xB
  have hw:=qNH (qDe h2 (i:=p+k) (by rw [h4];omega)) (ht k xB) (qC9 h3).2
  rw [(qC9 h3).1] at hw
  rw [qFF h1]
  dsimp only
  rw [hw.1]
  exact⟨hw.2,h2,h3,h4⟩
theorem qP5{d:Dk}(hok:d.ok)(ho:d.off=false)(ha:d.armed=false){p n:Nat}(hp:p+n<=d.last.length){t:Nat->xA}(ht: ∀i,i<n->(t i).length<=64):
    (qJS d p t n).2=0/\(qJS d p t n).1.off=false/\(qJS d p t n).1.armed=false/\(qJS d p t n).1.last.length=d.last.length/\(qJS d p t n).1.wait= []/\(qJS d p t n).1.keep=d.keep/\(qJS d p t n).1.ok:=by
  obtain ⟨h1,h2,h3,h4⟩:=qKU ho ha hp ht n (jL _)
  have hw:=qJP hok p t n
  have hs:=hw.1.sync
  have h0:(qCQ d p t n).1.ready 0=0:=qDe h2 (i:=0) (by rw [h4];exact hok.n0)
  have e:qJS d p t n=((qCQ d p t n).1.sync,(qCQ d p t n).1.sErr):=yX h1
  have e2:(qCQ d p t n).1.sync={(qCQ d p t n).1 with last:=qDH (qCQ d p t n).1.last (qCQ d p t n).1.wait (qCQ d p t n).1.wait.length,wait:= []}:=by
    unfold Dk.sync
    rw [yW xB,yW (qC9 h3).2,(qC9 h3).1]
  have e3:(qCQ d p t n).1.sErr=0:=by
    unfold Dk.sErr
    rw [yW xB,yW (qC9 h3).2]
  rw [e]
  refine⟨e3,?_,?_,?_,?_,?_,hs⟩
  . show(qCQ d p t n).1.sync.off=_;rw [e2];exact h2
  . show(qCQ d p t n).1.sync.armed=_;rw [e2];exact h3
  . show(qCQ d p t n).1.sync.last.length=_;rw [e2];show(qDH _ _ _).length=_;rw [qBX,h4]
  . show(qCQ d p t n).1.sync.wait=_;rw [e2]
  . show(qCQ d p t n).1.sync.keep=_;rw [e2];exact hw.2.2
theorem qRC{turn num:UInt64}{s:xA}{n:Nat}(ht:turn.toNat<2^(8*4))(hn:num.toNat<2^(8*2))(h:n<=24): ∀i,i<n->((prt turn num s n i).text).length<=64:=λi hi=>by rw [Prt.text_len (qNo ht hn h hi)];exact jL _
end Go.Proofs.YtmemgokiolfdoaaGreatDoor
namespace Go.Proofs.YtmemgokiolfdoaaGreatDoor
def qAv(n:Nat):List UInt8:=Sha.tagged 15 [[UInt8.ofNat (n/256),UInt8.ofNat n]]
theorem qGA(n:Nat):(qAv n).length=16:=Sha.tagged_length _ _
theorem qRJ:((List.range 15).map qAv).Nodup:=by decide+kernel
theorem qMf{f:Nat->List UInt8}{n:Nat}(h:((List.range n).map f).Nodup){i j:Nat}(hi:i<n)(hj:j<n)(hij:i≠j):f i≠f j:=by
  have h:=List.pairwise_iff_getElem.1 (List.pairwise_map.1 h)
  rcases Nat.lt_or_gt_of_ne hij with q|q
  . have:=h i j (by simpa using hi) (by simpa using hj) q
    simpa using this
  . have:=h j i (by simpa using hj) (by simpa using hi) q
    exact λe=>(by simpa using this:f j≠f i) e.symm
theorem qRK{i j:Nat}(hi:i<15)(hj:j<15)(h:i≠j):qAv i≠qAv j:=qMf qRJ hi hj h
end Go.Proofs.YtmemgokiolfdoaaGreatDoor
namespace Go.Proofs.YtmemgokiolfdoaaGreatDoor
open Go Go.Fw Go.Proofs.Tryz
namespace Mk
def node(a b:xA):xA:=Sha.tagged 5 [a,b]
def above(l:List xA):List xA:=(List.range (l.length/2)).map λk=>node (l.getD (2*k) []) (l.getD (2*k+1) [])
def lvl(l:List xA):Nat->List xA
 |0=>l
 |j+1=>above (lvl l j)
def root(l:List xA)(h:Nat):xA:=(lvl l h).getD 0 []
def path(l:List xA)(i h:Nat):List xA:=(List.range h).map λj=>(lvl l j).getD ((i/2^j)^^^1) []
def climb:xA->Nat->List xA->xA
 |x,_,[]=>x
 |x,i,s::r=>climb (if i%2=0 then node x s else node s x) (i/2) r
def Right(n:Nat):Prop:=n=1\/n=2\/n=4\/n=8\/n=16\/n=32\/n=64
instance (n:Nat):Decidable (Right n):=by unfold Right;infer_instance
theorem qQr: ∀n:Fin 65,(1<=n.val/\n.val&&&(n.val-1)=0)↔Right n.val:=by decide+kernel
theorem right_of(n:Nat):(1<=n/\n<=64/\n&&&(n-1)=0)↔Right n:=by
  by_cases h:n<65
  . have:=qQr ⟨n,h⟩
    dsimp only at this
    rw [<-this]
    constructor
    . intro ⟨a,_,c⟩;exact⟨a,c⟩
    . intro ⟨a,c⟩;exact⟨a,xB,c⟩
  . constructor
    . intro ⟨_,b,_⟩;omega
    . intro hr;unfold Right at hr;omega
theorem right_pow(h:Nat)(h6:h<=6):Right (2^h):=by
 have: ∀h:Fin 7,Right (2^h.val):=by decide+kernel
 exact this ⟨h,xB⟩
theorem node_length(a b:xA):(node a b).length=16:=Sha.tagged_length _ _
theorem qLz(l:List xA):(above l).length=l.length/2:=by simp [above]
theorem qM7(l:List xA): ∀s∈above l,s.length=16:=λs hs=>by
 simp only [above,zh] at hs
 obtain ⟨k,_,rfl⟩:=hs
 exact node_length _ _
theorem lvl_succ_length(l:List xA)(j:Nat):(lvl l (j+1)).length=(lvl l j).length/2:=qLz _
theorem lvl_length(l:List xA)(h:Nat)(hl:l.length=2^h): ∀j,j<=h->(lvl l j).length=2^(h-j)
 |0,_=>hl
 |j+1,hj=>by
  rw [lvl_succ_length,lvl_length l h hl j xB,show h-j=(h-(j+1))+1 by omega,ju]
  omega
theorem lvl_small(l:List xA)(hs: ∀s∈l,s.length<=1048576): ∀j,∀s∈lvl l j,s.length<=1048576
 |0=>hs
 |j+1=>λs h=>by rw [qM7 _ s h];decide
theorem xor_one(m k:Nat)(h:m<2*k):m^^^1<2*k:=by
 have e1:(m^^^1)/2=m/2:=by rw [Nat.xor_div_two];simp
 omega
theorem path_succ(l:List xA)(i h:Nat):path l i (h+1)=path l i h++ [(lvl l h).getD ((i/2^h)^^^1) []]:=by simp [path,jt]
theorem path_length(l:List xA)(i h:Nat):(path l i h).length=h:=by simp [path]
theorem above_succ(l:List xA)(k:Nat):((List.range (k+1)).map λk=>node (l.getD (2*k) []) (l.getD (2*k+1) []))=((List.range k).map λk=>node (l.getD (2*k) []) (l.getD (2*k+1) []))++ [node (l.getD (2*k) []) (l.getD (2*k+1) [])]:=by simp [jt]
theorem getS{l:List xA}{j:Nat}(h:j<l.length):l[j]?=some (l.getD j []):=by rw [jB,jD h];rfl
theorem getS_mem{l:List xA}{j:Nat}(h:j<l.length):l.getD j []∈l:=jR (getS h)
end Mk
theorem qKh(a:List xA):(qAG a).all (λx=>x.all Value.oneCell')=true:=by simp [qAG,Value.oneCell']
attribute [local irreducible] Mk.node
theorem qMb(F:Hp)(hK:yf F)(a b:xA)(ha:a.length<=1048576)(hb:b.length<=1048576):
    Cz prog 207 [Str a,Str b] F (Str (Mk.node a b)):=by
  refine y7 func207 O ntmps207 O (λw0 hw0=>?_)
  exact yl λ_ C1=>yh O<|yi C1<|yl λ_ C2=>yn 2 O<|yp (qAE (l:= [.tmp 5,.tmp 6]) (xs:= [[Str a],[Str b]]) O O O O qAg el9 O xC xC xD) O λg7 _=>yp (qAZ O O (λF' hF=>qBI F' (hK.mono (Fa hF)) 5 (some ⟨g7,0,none⟩) 2 2 [a,b] (((qAj (q:=True) (xs:=qAG [a,b]) O (by simp [qAG])).sl (m:=blk g7 [Str a,Str b] 9)).mono (Fa hF)) xJ xC)) O λg8 _=>yh O<|yi C2<|yr<|yw hw0 O () (by unfold Mk.node;rfl) yd [0] O xC
theorem qNc(F:Hp)(n:Nat)(hn:n<9223372036854775808):Cz prog 130 [I n] F (.bool (decide (Mk.Right n))):=by
 have hR:=Mk.right_of n
 refine y7 func130 O ntmps130 O (λw0 hw0=>?_)
 refine yl λ_ C1=>yh O<|yi C1<|yl λ_ C2=>yh O<|yj (qA1 O O O) O<|yh O<|vO (d:=5) O (λh5=>?_) (λh5=>?_)
 .
  refine yh O<|yv (qBQ O O O) O<|yn 2 O<|vO (d:=9) O (λh9=>?_) (λh9=>?_)
  .
   exact yn 2 O<|yv ((qAm O O O xB).nat (n-1) xB) O<|yv (qMX O O O xB) O<|yv (qAR O O O) O<|yn 2 O<|yi C2<|yr<|yw hw0 O () (yY Value.bool (decide_eq_decide.2 (by rw [<-hR];omega))) yd [0] O xC
  exact yn 7 O<|yi C2<|yr<|yw hw0 O () (yY Value.bool (yb (by rw [<-hR];omega)).symm) yd [0] O xC
 exact yn 11 O<|yi C2<|yr<|yw hw0 O () (yY Value.bool (yb (by rw [<-hR];omega)).symm) yd [0] O xC
theorem qOk(F:Hp)(hK:yf F)(A:yS)(n c:Nat)(ls:List xA)(hl:Sl F 1 A n c (qAG ls))(hsm: ∀s∈ls,s.length<=1048576)(hn:n<=1048576):
    Ct prog 131 [.slice A n c] [F] (λx:yS×Nat×Hp=> .slice x.1 (n/2) x.2.1) (λx=>Row x.2.2 9 1 x.1 (n/2) x.2.1 (qAG (Mk.above ls))) (λx=> [F,x.2.2]):=by
  have hlen:ls.length=n:=by have:=hl.1;simpa [qAG] using this
  refine y7 func131 O ntmps131 O (λw0 hw0=>?_)
  refine yl λ_ C1=>yh O<|yi C1<|yl λ_ C2=>yh O<|yi C2<|ym λ_ C3=>ym λ_ C4=>ve [0,1] [F,(λ_=>none)] O xC<|yt<|yh O<|yi C4<|yz<|vN (X:=Nat×yS×Nat×Hp) (λx=> [(0,.slice A n c),(3,.slice x.2.1 x.1 x.2.2.1),(4,I (2*x.1:Nat))]) (λx=> [F,x.2.2.2]) (λx=>2*x.1<=n/\Row x.2.2.2 9 1 x.2.1 x.1 x.2.2.1 (qAG ((List.range x.1).map λk=>Mk.node (ls.getD (2*k) []) (ls.getD (2*k+1) [])))) (λx=>n-x.1) (0,none,0,λ_=>none) (⟨jH _,qBf.nil⟩) (Sub.of O) (λ_ h=>h) ?_
  rintro⟨k,A1,c1,m⟩ ⟨hk,hrow⟩ I0 hI0
  dsimp only at hk hrow⊢
  refine ym λ_ C5=>yl λ_ C6=>yh O<|yj ((qAM O O O xB)) O<|yh O<|yj (qAN qAg O O) O<|yj (qAP O O O) O<|yi C6<|y1 O (λh9=>?_) (λh9=>?_)
  .
    refine yy C5<|ym λ_ C7=>yz<|vQ [F] [] (.y 0 (.y 1 (.y 2 (.y 3 (.y 4 (.y 5 (.y 6 (.y 7 (.y 8 (.y 9 (.e 10 (.e 11 (.e 12 (.y 13 .nil)))))))))))))) ye xF xD ?_
    iterate 3 refine yx ?_
    refine yo O (qAC O O O qAg z9_ hl xB) O O<|yo O (qAH O O b9_ (m:=F) xD (hl.elem (qAa (Mk.getS (l:=ls) (j:=2*k) xB)))) O O<|yx ?_
    refine yx ?_
    refine yo O ((qAM O O O xB).nat (2*k+1) xB) O O<|yo O (qAC O O O qAg z9_ hl xB) O O<|yo O (qAH O O b9_ (m:=F) xD (hl.elem (qAa (Mk.getS (l:=ls) (j:=2*k+1) xB)))) O O<|vD O (qAZ O O (λF' hF=>qMb F' (hK.mono (Fa hF)) (ls.getD (2*k) []) (ls.getD (2*k+1) []) (hsm _ (Mk.getS_mem xB)) (hsm _ (Mk.getS_mem xB)))) O xD λg22 _=>vD O (qAE (l:= [.tmp 22]) (xs:= [[Str (Mk.node (ls.getD (2*k) []) (ls.getD (2*k+1) []))]]) O O O O qAg el9 O xC xC xD) O xD λg23 _=>vD O (qAV (i:=1) (m2:=blk g23 [Str (Mk.node (ls.getD (2*k) []) (ls.getD (2*k+1) []))] 9) O O O qAg qAg el9 O hrow xD (qAj (q:=True) (xs:=qAG [Mk.node (ls.getD (2*k) []) (ls.getD (2*k+1) [])]) O (by simp [qAG])).sl (qKh _) xB xB) O xD ?_
    rintro⟨A24,c24,m24⟩ h24
    try dsimp only at h24
    rw [<-qB0,<-Mk.above_succ ls k] at h24
    refine vU ?_
    refine vM<|vB<|yq (yu C7 ?_)
    refine vW [0,1] [F,m24] O xC<|yt<|yh O<|yj ((qAM O O O xB).nat (2*(k+1)) xB) O<|yh O<|y8<|yq<|vE (k+1,A24,c24,m24) hI0 ⟨by dsimp only;omega,h24⟩ (Sub.of O) (λ_ h=>h)
  refine vK<|y6<|y6<|vL ?_
  refine yq (yu C3 ?_)
  refine yl λ_ C8=>yn 2 O<|yi C8<|yr ?_
  have hk2:k=n/2:=xB
  subst hk2
  exact yw hw0 O (A1,c1,m) O (by rw [<-hlen] at hrow;unfold Mk.above;rw [<-hlen];exact hrow) [0,1] O xC
theorem qXk(F:Hp)(hK:yf F)(A:yS)(n c:Nat)(ls:List xA)(hl:Sl F 1 A n c (qAG ls))(h:Nat)(h6:h<=6)(hn:n=2^h)(hsm: ∀s∈ls,s.length<=1048576):
    Cz prog 55 [.slice A n c] F (.tuple #[Str (Mk.root ls h),I 0]):=by
  have hlen:ls.length=n:=by have:=hl.1;simpa [qAG] using this
  have hR:Mk.Right n:=by rw [hn];exact Mk.right_pow h h6
  have hn64:n<=64:=by unfold Mk.Right at hR;omega
  have hlv: ∀j,j<=h->(Mk.lvl ls j).length=2^(h-j):=Mk.lvl_length ls h xB
  have hle: ∀j,2^(h-j)<=64:=λj=>jf (jZ xC (show h-j<=6 by omega)) xC
  refine y7 func55 O ntmps55 O (λw0 hw0=>?_)
  refine yl λ_ C1=>yn 2 O<|yi C1<|ym λ_ C2=>yl λ_ C3=>yh O<|yj (qAN qAg O O) O<|yp (qAJ O O ent (qNc F n xB)) O λg6 _=>yj ((qHc O O).as (v':= .bool false) (by simp [hR])) O<|ve [0,1] [F,(λ_=>none)] O xC<|yi C3<|vC ?_
  refine yy C2<|ym λ_ C4=>yz<|vN (X:=Nat×yS×Nat×Hp) (λx=> [(0,.slice x.2.1 (Mk.lvl ls x.1).length x.2.2.1)]) (λx=> [F,x.2.2.2]) (λx=>x.1<=h/\ ∃mm∈ [F,x.2.2.2],Sl mm 1 x.2.1 (Mk.lvl ls x.1).length x.2.2.1 (qAG (Mk.lvl ls x.1))) (λx=>h-x.1) (0,A,c,λ_=>none) (⟨jH _,F,.head _,by rw [show(Mk.lvl ls (0,A,c,(λ_=>none:Hp)).1).length=n from hlen];exact hl⟩) ⟨by rw [<-hlen];rfl,yd⟩ (λ_ h=>h) ?_
  rintro⟨j,A1,c1,m⟩ ⟨hj,mm,hmm,hsl⟩ I0 hI0
  dsimp only at hj hmm hsl⊢
  have hj2:=hlv j hj
  have hj3:=hle j
  have hpos:0<(Mk.lvl ls j).length:=by rw [hj2];exact jy _
  have hmm2:mm=F\/mm=m:=by simpa using hmm
  refine ym λ_ C5=>yl λ_ C6=>yh O<|yj (qAN qAg O O) O<|yj (qAs O O O) O<|yi C6<|y1 O (λh10=>?_) (λh10=>?_)
  .
    refine yy C5<|yz ?_
    have hjh:j<h:=by
      rcases zR j h with hlt|hge
      . exact hlt
      . rw [hj2,show h-j=0 by omega] at h10;simp at h10
    refine yt<|yh O<|yp (qBx O O (λF' hF=>qOk F' (hK.mono (Fa hF)) A1 (Mk.lvl ls j).length c1 (Mk.lvl ls j) (hsl.mono (hF _ (by rcases hmm2 with rfl|rfl<;>simp))) (Mk.lvl_small ls hsm j) xB)) O ?_
    rintro⟨A12,c12,m12⟩ h12
    try dsimp only at h12
    refine vW [0,2] [F,m12] O xC<|yh O<|y8<|vB<|yq<|vE (j+1,A12,c12,m12) hI0 ⟨by dsimp only;omega,m12,by simp,by rw [Mk.lvl_succ_length];exact h12.sl⟩ ⟨by rw [Mk.lvl_succ_length];rfl,yd⟩ (λ_ h=>h)
  refine vK<|y6<|y6<|vL ?_
  refine yq (yu C4 ?_)
  refine ym λ_ C7=>?_
  have hjh:j=h:=by
    rcases zR j h with hlt|hge
    . have:=Nat.one_lt_two_pow_iff.2 (show h-j≠0 by omega)
      omega
    . omega
  exact yt<|yh O<|yj (qAC O O O qAg z9_ hsl hpos) O<|yj (qAH O O b9_ hmm (hsl.elem (qAa (Mk.getS (l:=Mk.lvl ls j) (j:=0) hpos)))) O<|yn 2 O<|yi C7<|yr<|vH hw0 (λ_ _ h=>h) (qB5 O O O) (qAf () (by rw [hjh];rfl) yd [0] O xC)
theorem qX6(F:Hp)(hK:yf F)(A:yS)(n c:Nat)(ls:List xA)(hl:Sl F 1 A n c (qAG ls))(h:Nat)(h6:h<=6)(hn:n=2^h)(hsm: ∀s∈ls,s.length<=1048576)(i:Nat)(hi:i<n):
    Ct prog 167 [.slice A n c,I i] [F] (λx:yS×Nat×Hp=> .tuple #[.slice x.1 h x.2.1,I 0]) (λx=>Row x.2.2 9 1 x.1 h x.2.1 (qAG (Mk.path ls i h))) (λx=> [F,x.2.2]):=by
  have hlen:ls.length=n:=by have:=hl.1;simpa [qAG] using this
  have hR:Mk.Right n:=by rw [hn];exact Mk.right_pow h h6
  have hn64:n<=64:=by unfold Mk.Right at hR;omega
  have hlv: ∀j,j<=h->(Mk.lvl ls j).length=2^(h-j):=Mk.lvl_length ls h xB
  have hle: ∀j,2^(h-j)<=64:=λj=>jf (jZ xC (show h-j<=6 by omega)) xC
  refine y7 func167 O ntmps167 O (λw0 hw0=>?_)
  refine yl λ_ C1=>yn 2 O<|yi C1<|ym λ_ C2=>yz<|yl λ_ C3=>yh O<|yj (qAN qAg O O) O<|yp (qAJ O O ent (qNc F n xB)) O λg10 _=>yj ((qHc O O).as (v':= .bool false) (by simp [hR])) O<|yh O<|yi C3<|vC ?_
  refine yl λ_ C4=>yh O<|yj ((qAP O O O).no xB) O<|yn 3 O<|yv (qAN qAg O O) O<|yv ((qA1 O O O).no xB) O<|yn 2 O<|yi C4<|vC ?_
  refine vP<|vB<|yq (yu C2 ?_)
  refine ym λ_ C5=>ve [0,1] [F,(λ_=>none)] O xC<|ve [0,1,2] [F,(λ_=>none),(λ_=>none)] O xC<|yt<|yh O<|yi C5<|ym λ_ C6=>yz<|vN (X:=Nat×yS×Nat×Hp×yS×Nat×Hp) (λx=> [(0,.slice x.2.1 (Mk.lvl ls x.1).length x.2.2.1),(1,I (i/2^x.1:Nat)),(6,.slice x.2.2.2.2.1 x.1 x.2.2.2.2.2.1)]) (λx=> [F,x.2.2.2.2.2.2,x.2.2.2.1]) (λx=>x.1<=h/\(∃mm∈ [F,x.2.2.2.1],Sl mm 1 x.2.1 (Mk.lvl ls x.1).length x.2.2.1 (qAG (Mk.lvl ls x.1)))/\Row x.2.2.2.2.2.2 9 1 x.2.2.2.2.1 x.1 x.2.2.2.2.2.1 (qAG (Mk.path ls i x.1))) (λx=>h-x.1) (0,A,c,(λ_=>none),none,0,λ_=>none) (⟨jH _,⟨F,.head _,by rw [show(Mk.lvl ls (0,A,c,(λ_=>none:Hp)).1).length=n from hlen];exact hl⟩,qBf.nil⟩) ⟨by rw [<-hlen];rfl,by rw [Nat.pow_zero,Nat.div_one];rfl,O,yd⟩ (λ_ h=>h) ?_
  rintro⟨j,A1,c1,m,A2,c2,m2⟩ ⟨hj,⟨mm,hmm,hsl⟩,hrow⟩ I0 hI0
  dsimp only at hj hmm hsl hrow⊢
  have hj2:=hlv j hj
  have hj3:=hle j
  have hpos:0<(Mk.lvl ls j).length:=by rw [hj2];exact jy _
  have hmm2:mm=F\/mm=m:=by simpa using hmm
  have hmF:mm∈ [F,m2,m]:=by rcases hmm2 with rfl|rfl<;>simp
  refine ym λ_ C7=>yl λ_ C8=>yh O<|yj (qAN qAg O O) O<|yj (qAs O O O) O<|yi C8<|y1 O (λh23=>?_) (λh23=>?_)
  .
    refine yy C7<|ym λ_ C9=>yz ?_
    have hjh:j<h:=by
      rcases zR j h with hlt|hge
      . exact hlt
      . rw [hj2,show h-j=0 by omega] at h23;simp at h23
    have hij:i/2^j<2^(h-j):=by
      rw [yG (jy j),<-Nat.pow_add,show h-j+j=h by omega,<-hn];exact hi
    have hx1:i/2^j^^^1<(Mk.lvl ls j).length:=by
      rw [hj2,show h-j=(h-j-1)+1 by omega,ju,zi]
      refine Mk.xor_one _ _ ?_
      rw [show h-j=(h-j-1)+1 by omega,ju,zi] at hij;exact hij
    refine yt<|yn 3 O<|yj (qYA O O O ⟨jx (jv _ _) (show i<9223372036854775808 by omega),xC⟩) O<|yj (qAC O O O qAg z9_ hsl hx1) O<|yj (qAH O O b9_ hmF (hsl.elem (qAa (Mk.getS (l:=Mk.lvl ls j) (j:=i/2^j^^^1) hx1)))) O<|yp (qAE (l:= [.tmp 33]) (xs:= [[Str ((Mk.lvl ls j).getD ((i/2^j)^^^1) [])]]) O O O O qAg el9 O xC xC xD) O λg34 _=>yp (qAV (i:=1) (m2:=blk g34 [Str ((Mk.lvl ls j).getD ((i/2^j)^^^1) [])] 9) O O O qAg qAg el9 O hrow xD (qAj (q:=True) (xs:=qAG [((Mk.lvl ls j).getD ((i/2^j)^^^1) [])]) O (by simp [qAG])).sl (qKh _) xB xB) O ?_
    rintro⟨A35,c35,m35⟩ h35
    try dsimp only at h35
    rw [<-qB0,<-Mk.path_succ] at h35
    refine yh O<|y8<|vB<|yq (yu C9 ?_)
    refine yt<|yh O<|yp (qBx O O (λF' hF=>qOk F' (hK.mono (Fa hF)) A1 (Mk.lvl ls j).length c1 (Mk.lvl ls j) (hsl.mono (hF _ (by rcases hmm2 with rfl|rfl<;>simp))) (Mk.lvl_small ls hsm j) xB)) O ?_
    rintro⟨A25,c25,m25⟩ h25
    try dsimp only at h25
    refine vW [0,1,4] [F,m35,m25] O xC<|yh O<|yj ((qFV O O O ⟨Int.natCast_nonneg _,xC,Int.ofNat_le.2 (jf (jv _ _) (show i<=9223372036854775807 by omega))⟩).as (v':=I (i/2^(j+1):Nat)) (yY I (by rw [ju,<-zQ];rfl))) O<|yn 2 O<|y8<|yq<|vE (j+1,A25,c25,m25,A35,c35,m35) hI0 ⟨by dsimp only;omega,⟨m25,by simp,by rw [Mk.lvl_succ_length];exact h25.sl⟩,h35⟩ ⟨by rw [Mk.lvl_succ_length];rfl,O,O,yd⟩ (λ_ h=>h)
  refine vK<|y6<|y6<|vL ?_
  refine yq (yu C6 ?_)
  refine ym λ_ C10=>?_
  have hjh:j=h:=by
    rcases zR j h with hlt|hge
    . have:=Nat.one_lt_two_pow_iff.2 (show h-j≠0 by omega)
      omega
    . omega
  exact yt<|yn 3 O<|yi C10<|yr<|vH hw0 (λ_ _ h=>h) (qB5 O O O) (qAf (A2,c2,m2) (by rw [hjh]) (by rw [hjh] at hrow;exact hrow) [0,1] O xC)
theorem qVj(F:Hp)(hK:yf F)(xx:xA)(i:Nat)(A:yS)(n c:Nat)(ls:List xA)(hl:Sl F 1 A n c (qAG ls))(hx:xx.length<=1048576)(hsm: ∀s∈ls,s.length<=1048576)(hi:i<9223372036854775808)(hn:n<=1048576):
    Cz prog 245 [Str xx,I i,.slice A n c] F (Str (Mk.climb xx i ls)):=by
  have hlen:ls.length=n:=by have:=hl.1;simpa [qAG] using this
  refine y7 func245 O ntmps245 O (λw0 hw0=>?_)
  refine yl λ_ C1=>yh O<|yi C1<|ym λ_ C2=>yl λ_ C3=>yh O<|yj (qAN qAg O O) O<|yh O<|yi C3<|yz<|vN (X:=Nat×xA×Nat) (λx=> [(0,Str x.2.1),(1,I x.2.2),(9,.slice A n c),(10,I n),(11,I x.1)]) (λ_=> [F]) (λx=>x.1<=n/\x.2.1.length<=1048576/\x.2.2<=i/\Mk.climb x.2.1 x.2.2 (ls.drop x.1)=Mk.climb xx i ls) (λx=>n-x.1) (0,xx,i) (⟨jH _,hx,jL _,O⟩) (Sub.of O) (λ_ h=>h) ?_
  rintro⟨k,y,j⟩ ⟨hk,hy,hji,hc⟩ I0 hI0
  dsimp only at hk hy hji hc⊢
  refine yl λ_ C4=>yj (qAP O O O) O<|yi C4<|ym λ_ C5=>y1 O (λh12=>?_) (λh12=>?_)
  .
    refine yy C5<|ym λ_ C6=>yz<|ym λ_ C7=>?_
    have hkn:k<n:=xB
    obtain ⟨s,hs⟩: ∃s,ls[k]?=some s:=⟨_,jD xB⟩
    have hdr:ls.drop k=s::ls.drop (k+1):=by
      obtain ⟨hk2,rfl⟩:=List.getElem?_eq_some_iff.1 hs
      exact j9 hk2
    rw [hdr,Mk.climb] at hc
    refine yt<|yj (qAC O O O qAg z9_ hl xB) O<|yj (qAH O O b9_ (m:=F) xD (hl.elem (qAa hs))) O<|yh O<|yi C7<|ym λ_ C8=>yl λ_ C9=>yh O<|yj (qMX (a:=j) (b:=1) O O O xB) O<|yj (qAR O O O) O<|yi C9<|y1 O (λh17=>?_) (λh17=>?_)
    .
      refine yt<|yn 2 O<|yp (qAZ O O (λF' hF=>qMb F' (hK.mono (Fa hF)) y s hy (hsm _ (jR hs)))) O λg20 _=>yh O<|yi C8<|yt<|yh O<|yj ((qDW (m:=1) O O O xB).nat (j/2) xB) O<|yh O<|y8<|vB<|yq (yu C6 ?_)
      refine yt<|yj (qAM O O O xB) O<|yh O<|y8<|yq ?_
      rw [yX (by rw [Nat.and_one_is_mod] at h17;omega)] at hc
      refine vE (k+1,Mk.node y s,j/2) hI0 ⟨by dsimp only;omega,by dsimp only;rw [Mk.node_length];decide,by dsimp only;omega,hc⟩ (Sub.of O) (λ_ h=>h)
    refine yt<|yn 2 O<|yp (qAZ O O (λF' hF=>qMb F' (hK.mono (Fa hF)) s y (hsm _ (jR hs)) hy)) O λg23 _=>yh O<|yi C8<|yt<|yh O<|yj ((qDW (m:=1) O O O xB).nat (j/2) xB) O<|yh O<|y8<|vB<|yq (yu C6 ?_)
    refine yt<|yj (qAM O O O xB) O<|yh O<|y8<|yq ?_
    rw [yW (by rw [Nat.and_one_is_mod] at h17;omega)] at hc
    refine vE (k+1,Mk.node s y,j/2) hI0 ⟨by dsimp only;omega,by dsimp only;rw [Mk.node_length];decide,by dsimp only;omega,hc⟩ (Sub.of O) (λ_ h=>h)
  refine vK<|y6<|y6<|vL ?_
  refine yq (yu C2 ?_)
  refine ym λ_ C10=>?_
  rw [j4 xB] at hc
  exact yt<|yn 2 O<|yi C10<|yr<|yw hw0 O () (by rw [<-hc];rfl) yd [0] O xC
end Go.Proofs.YtmemgokiolfdoaaGreatDoor
namespace Go.Proofs.YtmemgokiolfdoaaGreatDoor
open Go Go.Fw Go.Proofs.Tryz
attribute [local irreducible] Mk.node
namespace Mk
theorem qW7(m:Nat):m^^^1=if m%2=0 then m+1 else m-1:=by
 have e1:(m^^^1)/2=m/2:=by rw [Nat.xor_div_two];simp
 have e2:(m^^^1)%2=(m%2)^^^1:=Nat.xor_mod_two_pow (n:=1)
 rcases Nat.mod_two_eq_zero_or_one m with h|h
 . rw [h,show(0:Nat)^^^1=1 from rfl] at e2;rw [yX h];omega
 . rw [h,show(1:Nat)^^^1=0 from rfl] at e2;rw [yW xB];omega
theorem qTH(l:List xA)(k:Nat):(above l)[k]?=if k<l.length/2 then some (node (l.getD (2*k) []) (l.getD (2*k+1) [])) else none:=by
 unfold above
 rw [jO]
 by_cases h:k<l.length/2
 . rw [yX h,zD h];rfl
 . rw [yW h,je (by simpa using Nat.le_of_not_lt h)];rfl
theorem qKf{k:Nat}(h:0<k):2^k%2=0:=by
 rw [show k=(k-1)+1 by omega,ju];omega
end Mk
attribute [local irreducible] Mk.root Mk.path
end Go.Proofs.YtmemgokiolfdoaaGreatDoor
namespace Go.Proofs.YtmemgokiolfdoaaGreatDoor
open Go Go.Fw Go.Proofs.Tryz
theorem qEw(a b:xA){n:Nat}(h:a.length=n):(⟨a++b,0⟩:RS).out n=a/\(⟨a++b,0⟩:RS).take n=⟨b,0⟩:=by
 subst h
 exact⟨by rw [qEP (by rw [jA];omega),zJ rfl],by rw [qBy (by rw [jA];omega),zW rfl]⟩
theorem qWl(x:UInt64)(t:Nat)(ht:t<=8)(h:x.toNat<256^t):qBd (Sha.numB x t)=x.toNat:=by
 have:=qFa x.toNat x.toNat_lt t ht
 rw [UInt64.ofNat_toNat,jX h] at this
 exact this
theorem qLJ(x t:Nat)(ht:t<=8)(h:x<256^t):qBd (Sha.numB (UInt64.ofNat x) t)=x:=by
 have h2:x<18446744073709551616:=j8 h (jf (jZ xC ht) xC)
 rw [qFa x h2 t ht,jX h]
theorem Prt.pad_eq(p:Prt):p.pad=Sha.numB p.turn 4++(Sha.numB p.num 2++(Sha.numB (UInt64.ofNat p.at_) 1++(Sha.numB (UInt64.ofNat p.all) 1++(Sha.numB (UInt64.ofNat p.con.length) 1++(p.name++(p.con++List.replicate (56-p.body.length) 0)))))):=by
 have e:p.body=Sha.numB p.turn 4++(Sha.numB p.num 2++(Sha.numB (UInt64.ofNat p.at_) 1++(Sha.numB (UInt64.ofNat p.all) 1++(Sha.numB (UInt64.ofNat p.con.length) 1++(p.name++p.con))))):=by
  unfold Prt.body Prt.b5 Prt.b4 Prt.b3 Prt.b2 Prt.b1;simp only [jM]
 unfold Prt.pad
 generalize List.replicate (56-p.body.length) (0:UInt8)=Z
 rw [e]
 simp only [jM]
theorem qUS{p:Prt}(h:p.ok)(h8:p.name.length=8){s:xA}(hs:s.take 56=p.pad):rdp s=p:=by
 have hN: ∀(x:UInt64) (n:Nat),(Sha.numB x n).length=n:=Sha.numB_length
 have t0:R0 s=⟨p.pad,0⟩:=by unfold R0;rw [hs]
 rw [p.pad_eq] at t0
 have a0:=qEw (Sha.numB p.turn 4) (Sha.numB p.num 2++(Sha.numB (UInt64.ofNat p.at_) 1++(Sha.numB (UInt64.ofNat p.all) 1++(Sha.numB (UInt64.ofNat p.con.length) 1++(p.name++(p.con++List.replicate (56-p.body.length) 0)))))) (hN _ 4)
 have t1:=a0.2
 rw [<-t0] at t1
 change R1 s=_ at t1
 have a1:=qEw (Sha.numB p.num 2) (Sha.numB (UInt64.ofNat p.at_) 1++(Sha.numB (UInt64.ofNat p.all) 1++(Sha.numB (UInt64.ofNat p.con.length) 1++(p.name++(p.con++List.replicate (56-p.body.length) 0))))) (hN _ 2)
 have t2:=a1.2
 rw [<-t1] at t2
 change R2 s=_ at t2
 have a2:=qEw (Sha.numB (UInt64.ofNat p.at_) 1) (Sha.numB (UInt64.ofNat p.all) 1++(Sha.numB (UInt64.ofNat p.con.length) 1++(p.name++(p.con++List.replicate (56-p.body.length) 0)))) (hN _ 1)
 have t3:=a2.2
 rw [<-t2] at t3
 change R3 s=_ at t3
 have a3:=qEw (Sha.numB (UInt64.ofNat p.all) 1) (Sha.numB (UInt64.ofNat p.con.length) 1++(p.name++(p.con++List.replicate (56-p.body.length) 0))) (hN _ 1)
 have t4:=a3.2
 rw [<-t3] at t4
 change R4 s=_ at t4
 have a4:=qEw (Sha.numB (UInt64.ofNat p.con.length) 1) (p.name++(p.con++List.replicate (56-p.body.length) 0)) (hN _ 1)
 have t5:=a4.2
 rw [<-t4] at t5
 change R5 s=_ at t5
 have a5:=qEw p.name (p.con++List.replicate (56-p.body.length) 0) h8
 have t6:=a5.2
 rw [<-t5] at t6
 change R6 s=_ at t6
 have hc:=h.c
 have hcn:qWz s=p.con.length:=by
  unfold qWz
  rw [t4,a4.1,qLJ _ 1 xC xB];omega
 unfold rdp
 rw [hcn,t0,t1,t2,t3,t5,t6,a0.1,a1.1,a2.1,a3.1,a5.1,(qEw p.con _ rfl).1,qWl _ 4 xC h.t,qWl _ 2 xC h.n,qLJ _ 1 xC h.a,qLJ _ 1 xC h.l,UInt64.ofNat_toNat,UInt64.ofNat_toNat]
theorem qPC{p:Prt}(h:p.ok)(h8:p.name.length=8):qBm p.text=(p,true):=by
 have e1:p.text.take 56=p.pad:=by unfold Prt.text;rw [zJ (Prt.pad_len h)]
 have e2:p.text.drop 56=qVr p.pad:=by unfold Prt.text;rw [zW (Prt.pad_len h)]
 unfold qBm
 rw [e1,e2,yX rfl,qUS h h8 e1,ya rfl]
theorem qFR(s:xA):(qBm s).1.ok:=by
 unfold qBm
 split
 . exact qWX s
 . exact⟨xC,xC,xC,xC,xC,xC⟩
def qWW(p:Prt)(i:Nat)(y:Prt×Bool):Prop:=y.2=true/\y.1.at_=i/\y.1.turn.toNat=p.turn.toNat/\y.1.num.toNat=p.num.toNat/\y.1.all=p.all/\y.1.name=p.name
instance (p:Prt) (i:Nat) (y:Prt×Bool):Decidable (qWW p i y):=by unfold qWW;infer_instance
def qXx(turn:UInt64)(nr n:Nat)(y:Prt×Bool):Prop:=y.2=true/\y.1.at_=0/\y.1.turn.toNat≠0/\y.1.num.toNat=nr/\y.1.all<=n/\(0<nr->y.1.turn.toNat=turn.toNat)
instance (turn:UInt64) (nr n:Nat) (y:Prt×Bool):Decidable (qXx turn nr n y):=by unfold qXx;infer_instance
def qGR(l:List xA):Nat->xA
 |0=> []
 |k+1=>qGR l k++(qBm (l.getD k [])).1.con
theorem qHB(l:List xA): ∀k,(qGR l k).length<=39*k
 |0=>jL _
 |k+1=>by
  have h1:=qHB l k
  have h2:=(qFR (l.getD k [])).c
  rw [qGR,jA];omega
structure RecR where
 turn:UInt64
 text:xA
 n:Nat
 ok:Bool
def qU0:RecR:=⟨0,[],0,false⟩
def qCq(turn:UInt64)(nr:Nat)(l:List xA):RecR:=
 if qXx turn nr l.length (qBm (l.getD 0 []))/\(∀i<(qBm (l.getD 0 [])).1.all,qWW (qBm (l.getD 0 [])).1 i (qBm (l.getD i []))) then
  ⟨(qBm (l.getD 0 [])).1.turn,qGR l (qBm (l.getD 0 [])).1.all,(qBm (l.getD 0 [])).1.all,decide ((qBm (l.getD 0 [])).1.all=qAw (qGR l (qBm (l.getD 0 [])).1.all).length/\(qBm (l.getD 0 [])).1.name=qGI (qBm (l.getD 0 [])).1.turn (qBm (l.getD 0 [])).1.num (qGR l (qBm (l.getD 0 [])).1.all))⟩
 else qU0
theorem qIl{turn:UInt64}{nr:Nat}{l:List xA}{p:Prt}{ok:Bool}(hp:qBm (l.getD 0 [])=(p,ok))(h: ¬qXx turn nr l.length (p,ok)):qCq turn nr l=qU0:=by
 unfold qCq
 rw [hp,yW (λe=>h e.1)]
theorem qIk{turn:UInt64}{nr:Nat}{l:List xA}{p q:Prt}{ok ok2:Bool}(hp:qBm (l.getD 0 [])=(p,ok)){i:Nat}(hi:i<p.all)(hq:qBm (l.getD i [])=(q,ok2))(h: ¬qWW p i (q,ok2)):qCq turn nr l=qU0:=by
 unfold qCq
 rw [hp,yW (λe=>h (by have:=e.2 i hi;rwa [hq] at this))]
theorem qWV{turn:UInt64}{nr:Nat}{l:List xA}{p:Prt}{ok:Bool}(hp:qBm (l.getD 0 [])=(p,ok))(hf:qXx turn nr l.length (p,ok))(hq: ∀i<p.all,qWW p i (qBm (l.getD i []))):
    qCq turn nr l=⟨p.turn,qGR l p.all,p.all,decide (p.all=qAw (qGR l p.all).length/\p.name=qGI p.turn p.num (qGR l p.all))⟩:=by
  unfold qCq
  rw [hp,yX ⟨hf,hq⟩]
def RecR.val(r:RecR):Value:= .tuple #[W64 r.turn,Str r.text,I (r.n:Nat),.bool r.ok]
theorem qQz{turn:UInt64}{nr:Nat}{l:List xA}(h:(qCq turn nr l).ok=true):1<=(qCq turn nr l).n/\(qCq turn nr l).n<=l.length/\(qCq turn nr l).n<=255/\(qCq turn nr l).text.length<=9945:=by
  unfold qCq at h⊢
  split at h
  . rename_i hc
    rw [yX hc]
    dsimp only at h⊢
    have h1:=yc h
    have h2:=qCs (qGR l (qBm (l.getD 0 [])).1.all).length
    have h3:=hc.1.2.2.2.2.1
    have h4:=(qFR (l.getD 0 [])).l
    have h5:=qHB l (qBm (l.getD 0 [])).1.all
    exact⟨by rw [h1.1];exact h2,h3,xB,xB⟩
  . cases h
theorem qQy(F:Hp)(hK:yf F)(gh hat:Nat)(hturn:UInt64)(hend:Nat)(Ar:yS)(nr cr:Nat)(hH:qAI F ⟨gh,0,none⟩ [I (hat:Nat),W64 (hturn),I (hend:Nat),.slice Ar nr cr])(hnr:nr<=1048576)(A:yS)(n c:Nat)(l:List xA)(hl:Sl F 1 A n c (qAG l))(hn:0<n)(h64: ∀s∈l,s.length=64):
    Cz prog 199 [Ptr gh,.slice A n c] F ((qCq hturn nr l).val):=by
  have hln:l.length=n:=by have:=hl.1;simpa [qAG] using this
  obtain ⟨p,ok,hp⟩: ∃p ok,qBm (l.getD 0 [])=(p,ok):=⟨_,_,rfl⟩
  obtain ⟨p1,p2,p3,p4,p5,p6⟩:p.ok:=by have:=qFR (l.getD 0 []);rwa [hp] at this
  refine y7 func199 O ntmps199 O (λw0 hw0=>?_)
  refine yl λ_ C1=>yn 4 O<|yi C1<|yl λ_ C2=>yh O<|yj (qAC (i:=0) O O O qAg z9_ hl xB) O<|yj (qAH O O b9_ (m:=F) xD (hl.elem (qAa (qAc [] xB)))) O<|yp (qAZ O O (λF' hF=>by have:=qNq F' (hK.mo hF) (l.getD 0 []) (qMp h64 xB);rw [hp] at this;exact this)) O λg18 _=>yn 3 O<|yp (qAO O qMu O) O λg8 _=>vG (qAF (i:=1) (l:= [.int .u64 0,.int .u64 0,I 0,I 0,Str [],Str []]) (vs:= [W64 (p.turn),W64 (p.num),I (p.at_:Nat),I (p.all:Nat),Str (p.name),Str (p.con)]) O O O O O qHE O O) O O λ_ _=>yh O<|yi C2<|vl (X:=Unit) (λζ=> [(1,.slice A n c),(8,Ptr g8)]) (λζ=> [F,blk g8 [W64 (p.turn),W64 (p.num),I (p.at_:Nat),I (p.all:Nat),Str (p.name),Str (p.con)] 371]) (λζ=>qXx hturn nr l.length (p,ok)) (λ_ C3=>?_) ?_
  .
    refine ym λ_ C4=>vQ [F,blk g8 [W64 (p.turn),W64 (p.num),I (p.at_:Nat),I (p.all:Nat),Str (p.name),Str (p.con)] 371] [] (.y 0 (.y 1 (.y 2 (.y 3 (.y 4 (.y 5 (.y 6 (.y 7 (.y 8 (.y 9 (.y 10 (.y 11 (.y 12 (.y 13 (.y 14 (.y 15 (.y 16 (.y 17 (.y 18 (.y 19 (.y 20 (.y 21 (.y 22 (.y 23 (.y 24 (.y 25 (.y 26 (.y 27 (.y 28 (.y 29 (.y 30 (.y 31 (.y 32 (.y 33 (.y 34 (.y 35 (.y 36 (.y 37 (.y 38 (.y 39 (.y 40 (.y 41 (.y 42 (.y 43 (.y 44 (.y 45 (.y 46 .nil))))))))))))))))))))))))))))))))))))))))))))))) ye xF xD ?_
    refine yx ?_
    refine yo O (qA5 O O) O O<|yx ?_
    refine vz (d:=23) O (λh23=>?_) (λh23=>?_)
    .
      iterate 3 refine vb ?_
      refine vj ?_
      refine yx ?_
      iterate 3 refine vb ?_
      refine vj ?_
      refine yx ?_
      iterate 9 refine vb ?_
      refine vj ?_
      refine yx ?_
      iterate 5 refine vb ?_
      refine vj ?_
      refine yx ?_
      iterate 7 refine vb ?_
      refine vS O (Wan.un O O O O) O O ?_
      refine vS O (Wan.un O O O O) O O ?_
      refine vS O (Wan.un O O O O) O O ?_
      refine vS O (Wan.un O O O O) O O ?_
      refine vS O (Wan.un O O O O) O O ?_
      refine vS O (Wan.un O O O O) O O ?_
      refine vS O (Wan.un O O O O) O O ?_
      refine vb ?_
      refine vj ?_
      refine vM<|yq (yu C4 ?_)
      refine vV ?_
      exact yl λ_ C5=>yn 4 O<|yi C5<|yr<|y5<|vH hw0 (λ_ _ h=>h) (qNe O O O O O) (qAf () (by rw [qIl hp (λ⟨a1,a2,a3,a4,a5,a6⟩=>by dsimp only at a1 a2 a3 a4 a5 a6;first|(simp [a1] at h23;done)|omega|(have:=a6 xB;omega))];rfl) yd [0] O xC)
    refine y9 O (qAA O O qBu O z3_ O) O O<|y9 O (qAD 1 O O O b3_ O) O O<|y9 O (qAQ O O O) O O<|vd ?_
    refine yx ?_
    refine vO (d:=28) O (λh28=>?_) (λh28=>?_)
    .
      iterate 3 refine vb ?_
      refine vj ?_
      refine yx ?_
      iterate 9 refine vb ?_
      refine vj ?_
      refine yx ?_
      iterate 5 refine vb ?_
      refine vj ?_
      refine yx ?_
      iterate 7 refine vb ?_
      refine vS O (Wan.un O O O O) O O ?_
      refine vS O (Wan.un O O O O) O O ?_
      refine vS O (Wan.un O O O O) O O ?_
      refine vS O (Wan.un O O O O) O O ?_
      refine vS O (Wan.un O O O O) O O ?_
      refine vS O (Wan.un O O O O) O O ?_
      refine vS O (Wan.un O O O O) O O ?_
      refine vb ?_
      refine vj ?_
      refine vM<|yq (yu C4 ?_)
      refine vV ?_
      exact yl λ_ C6=>yn 4 O<|yi C6<|yr<|y5<|vH hw0 (λ_ _ h=>h) (qNe O O O O O) (qAf () (by rw [qIl hp (λ⟨a1,a2,a3,a4,a5,a6⟩=>by dsimp only at a1 a2 a3 a4 a5 a6;first|(simp [a1] at h23;done)|omega|(have:=a6 xB;omega))];rfl) yd [0] O xC)
    refine y9 O (qAA O O qBu O qBV O) O O<|y9 O (qAD 1 O O O qBe O) O O<|y9 O (qAR O O O) O O<|vd ?_
    refine yx ?_
    refine vO (d:=33) O (λh33=>?_) (λh33=>?_)
    .
      iterate 9 refine vb ?_
      refine vj ?_
      refine yx ?_
      iterate 5 refine vb ?_
      refine vj ?_
      refine yx ?_
      iterate 7 refine vb ?_
      refine vS O (Wan.un O O O O) O O ?_
      refine vS O (Wan.un O O O O) O O ?_
      refine vS O (Wan.un O O O O) O O ?_
      refine vS O (Wan.un O O O O) O O ?_
      refine vS O (Wan.un O O O O) O O ?_
      refine vS O (Wan.un O O O O) O O ?_
      refine vS O (Wan.un O O O O) O O ?_
      refine vb ?_
      refine vj ?_
      refine vM<|yq (yu C4 ?_)
      refine vV ?_
      exact yl λ_ C7=>yn 4 O<|yi C7<|yr<|y5<|vH hw0 (λ_ _ h=>h) (qNe O O O O O) (qAf () (by rw [qIl hp (λ⟨a1,a2,a3,a4,a5,a6⟩=>by dsimp only at a1 a2 a3 a4 a5 a6;first|(simp [a1] at h23;done)|omega|(have:=a6 xB;omega))];rfl) yd [0] O xC)
    refine y9 O (qAA O O qBu O qBV O) O O<|y9 O (qAD 1 O O O qBe O) O O<|y9 O (qAT O O) O O<|y9 O (qAB O O) O O<|y9 O (qAA O O qCW O qBs O) O O<|y9 O (qAH O O qB7 (m:=F) xD (hH.at (i:=3) O)) O O<|y9 O (qAN qAg O O) O O<|y9 O (qBj O O u3_ qDJ xB) O O<|y9 O (qAQ O O O) O O<|vd ?_
    refine yx ?_
    refine vO (d:=44) O (λh44=>?_) (λh44=>?_)
    .
      iterate 5 refine vb ?_
      refine vj ?_
      refine yx ?_
      iterate 7 refine vb ?_
      refine vS O (Wan.un O O O O) O O ?_
      refine vS O (Wan.un O O O O) O O ?_
      refine vS O (Wan.un O O O O) O O ?_
      refine vS O (Wan.un O O O O) O O ?_
      refine vS O (Wan.un O O O O) O O ?_
      refine vS O (Wan.un O O O O) O O ?_
      refine vS O (Wan.un O O O O) O O ?_
      refine vb ?_
      refine vj ?_
      refine vM<|yq (yu C4 ?_)
      refine vV ?_
      exact yl λ_ C8=>yn 4 O<|yi C8<|yr<|y5<|vH hw0 (λ_ _ h=>h) (qNe O O O O O) (qAf () (by rw [qIl hp (λ⟨a1,a2,a3,a4,a5,a6⟩=>by dsimp only at a1 a2 a3 a4 a5 a6;first|(simp [a1] at h23;done)|omega|(have:=a6 xB;omega))];rfl) yd [0] O xC)
    refine y9 O (qAA O O qBu O z3_ O) O O<|y9 O (qAD 1 O O O b3_ O) O O<|y9 O (qAT O O) O O<|y9 O (qAN qAg O O) O O<|y9 O (qAs O O O) O O<|vd ?_
    refine yx ?_
    refine vO (d:=51) O (λh51=>?_) (λh51=>?_)
    .
      iterate 7 refine vb ?_
      refine vS O (Wan.un O O O O) O O ?_
      refine vS O (Wan.un O O O O) O O ?_
      refine vS O (Wan.un O O O O) O O ?_
      refine vS O (Wan.un O O O O) O O ?_
      refine vS O (Wan.un O O O O) O O ?_
      refine vS O (Wan.un O O O O) O O ?_
      refine vS O (Wan.un O O O O) O O ?_
      refine vb ?_
      refine vj ?_
      refine vM<|yq (yu C4 ?_)
      refine vV ?_
      exact yl λ_ C9=>yn 4 O<|yi C9<|yr<|y5<|vH hw0 (λ_ _ h=>h) (qNe O O O O O) (qAf () (by rw [qIl hp (λ⟨a1,a2,a3,a4,a5,a6⟩=>by dsimp only at a1 a2 a3 a4 a5 a6;first|(simp [a1] at h23;done)|omega|(have:=a6 xB;omega))];rfl) yd [0] O xC)
    refine y9 O (qAT O O) O O<|y9 O (qAB O O) O O<|y9 O (qAA O O qCW O qBs O) O O<|y9 O (qAH O O qB7 (m:=F) xD (hH.at (i:=3) O)) O O<|y9 O (qAN qAg O O) O O<|y9 O (qAs O O O) O O<|y9 O (qAT O O) O O<|vO (d:=58) O (λh58=>?_) (λh58=>?_)
    .
      refine y9 O (qAA O O qBu O qBV O) O O<|y9 O (qAD 1 O O O qBe O) O O<|y9 O (qAT O O) O O<|y9 O (qAB O O) O O<|y9 O (qAA O O qCW O qBV O) O O<|y9 O (qAH O O qBe (m:=F) xD (hH.at (i:=1) O)) O O<|y9 O (qAQ O O O) O O<|y9 O (qDN O O O) O O<|vd ?_
      refine vM<|yq (yu C4 ?_)
      refine y1 O (λh67=>?_) (λh67=>?_)
      .
        exact yl λ_ C10=>yn 4 O<|yi C10<|yr<|y5<|vH hw0 (λ_ _ h=>h) (qNe O O O O O) (qAf () (by rw [qIl hp (λ⟨a1,a2,a3,a4,a5,a6⟩=>by dsimp only at a1 a2 a3 a4 a5 a6;first|(simp [a1] at h23;done)|omega|(have:=a6 xB;omega))];rfl) yd [0] O xC)
      exact vP<|yq<|vY () C3 (⟨by simpa using h23,by show p.at_=0;omega,by show p.turn.toNat≠0;omega,by show p.num.toNat=nr;omega,by show p.all<=l.length;omega,λh0=>by show p.turn.toNat=hturn.toNat;omega⟩) (Sub.of O) (λ_ h=>h)
    iterate 7 refine vb ?_
    refine y9 O (qDO O O O) O O<|vd ?_
    refine vM<|yq (yu C4 ?_)
    refine vC ?_
    exact vP<|yq<|vY () C3 (⟨by simpa using h23,by show p.at_=0;omega,by show p.turn.toNat≠0;omega,by show p.num.toNat=nr;omega,by show p.all<=l.length;omega,λh0=>by show p.turn.toNat=hturn.toNat;omega⟩) (Sub.of O) (λ_ h=>h)
  rintro _ hf
  refine yl λ_ C11=>yh O<|yi C11<|ym λ_ C12=>ym λ_ C13=>?_
  have hf5:p.all<=l.length:=hf.2.2.2.2.1
  refine yt<|vA 3 qBu z3_ O O O O O<|vF 1 b3_ O O O O O<|yh O<|yi C13<|yz<|vN (X:=Nat) (λζ=> [(1,.slice A n c),(8,Ptr g8),(10,Str (qGR l ζ)),(69,I (p.all:Nat)),(70,I (ζ:Nat))]) (λζ=> [F,blk g8 [W64 (p.turn),W64 (p.num),I (p.at_:Nat),I (p.all:Nat),Str (p.name),Str (p.con)] 371]) (λζ=>ζ<=p.all/\ ∀j<ζ,qWW p j (qBm (l.getD j []))) (λζ=>p.all-ζ) 0 (⟨jH _,λj h=>absurd h (jz j)⟩) (Sub.of O) (λ_ h=>h) ?_
  rintro i ⟨hi,hqs⟩ I0 hI0
  refine yl λ_ C14=>yj (qAP O O O) O<|yi C14<|ym λ_ C15=>y1 O (λh71=>?_) (λh71=>?_)
  .
    refine yy C15<|ym λ_ C16=>yz<|yl λ_ C17=>yn 2 O<|yi C17<|ym λ_ C18=>?_
    obtain ⟨q,ok2,hq⟩: ∃q ok2,qBm (l.getD i [])=(q,ok2):=⟨_,_,rfl⟩
    obtain ⟨q1,q2,q3,q4,q5,q6⟩:q.ok:=by have:=qFR (l.getD i []);rwa [hq] at this
    have hcl:=qHB l i
    refine yt<|yn 2 O<|yj (qAC O O O qAg z9_ hl xB) O<|yj (qAH O O b9_ (m:=F) xD (hl.elem (qAa (qAc [] xB)))) O<|yp (qAZ O O (λF' hF=>by have:=qNq F' (hK.mo hF) (l.getD i []) (qMp h64 xB);rw [hq] at this;exact this)) O λg78 _=>yn 3 O<|yp (qAO O qMu O) O λg12 _=>vG (qAF (i:=2) (l:= [.int .u64 0,.int .u64 0,I 0,I 0,Str [],Str []]) (vs:= [W64 (q.turn),W64 (q.num),I (q.at_:Nat),I (q.all:Nat),Str (q.name),Str (q.con)]) O O O O O qHE O O) O O λ_ _=>yh O<|yi C18<|ym λ_ C19=>yl λ_ C20=>yh O<|yj (qA5 O O) O<|yh O<|vz (d:=83) O (λh83=>?_) (λh83=>?_)
    .
      refine yn 33 O<|yi C20<|vV ?_
      exact yl λ_ C21=>yn 4 O<|yi C21<|yr<|y5<|vI<|y5<|y5<|vI<|y5<|vH hw0 (λ_ _ h=>h) (qNe O O O O O) (qAf () (by rw [qIk hp xB hq (λ⟨a1,a2,a3,a4,a5,a6⟩=>by dsimp only at a1 a2 a3 a4 a5 a6;first|(simp [a1] at h83;done)|omega|contradiction)];rfl) yd [0] O xC)
    refine yv (qAA O O qBu O z3_ O) O<|yv (qAD 2 O O O b3_ O) O<|yh O<|yv (qAQ O O O) O<|yn 2 O<|vO (d:=89) O (λh89=>?_) (λh89=>?_)
    .
      refine yn 27 O<|yi C20<|vV ?_
      exact yl λ_ C22=>yn 4 O<|yi C22<|yr<|y5<|vI<|y5<|y5<|vI<|y5<|vH hw0 (λ_ _ h=>h) (qNe O O O O O) (qAf () (by rw [qIk hp xB hq (λ⟨a1,a2,a3,a4,a5,a6⟩=>by dsimp only at a1 a2 a3 a4 a5 a6;first|(simp [a1] at h83;done)|omega|contradiction)];rfl) yd [0] O xC)
    refine yv (qAA O O qBu O qBV O) O<|yv (qAD 2 O O O qBe O) O<|yv (qAA O O qBu O qBV O) O<|yv (qAD 1 O O O qBe O) O<|yv (qAQ O O O) O<|yn 2 O<|vO (d:=96) O (λh96=>?_) (λh96=>?_)
    .
      refine yn 20 O<|yi C20<|vV ?_
      exact yl λ_ C23=>yn 4 O<|yi C23<|yr<|y5<|vI<|y5<|y5<|vI<|y5<|vH hw0 (λ_ _ h=>h) (qNe O O O O O) (qAf () (by rw [qIk hp xB hq (λ⟨a1,a2,a3,a4,a5,a6⟩=>by dsimp only at a1 a2 a3 a4 a5 a6;first|(simp [a1] at h83;done)|omega|contradiction)];rfl) yd [0] O xC)
    refine yv (qAA O O qBu O qBV O) O<|yv (qAD 2 O O O qBe O) O<|yv (qAA O O qBu O qBV O) O<|yv (qAD 1 O O O qBe O) O<|yv (qAQ O O O) O<|yn 2 O<|vO (d:=103) O (λh103=>?_) (λh103=>?_)
    .
      refine yn 13 O<|yi C20<|vV ?_
      exact yl λ_ C24=>yn 4 O<|yi C24<|yr<|y5<|vI<|y5<|y5<|vI<|y5<|vH hw0 (λ_ _ h=>h) (qNe O O O O O) (qAf () (by rw [qIk hp xB hq (λ⟨a1,a2,a3,a4,a5,a6⟩=>by dsimp only at a1 a2 a3 a4 a5 a6;first|(simp [a1] at h83;done)|omega|contradiction)];rfl) yd [0] O xC)
    refine yv (qAA O O qBu O z3_ O) O<|yv (qAD 2 O O O b3_ O) O<|yv (qAA O O qBu O z3_ O) O<|yv (qAD 1 O O O b3_ O) O<|yv (qAQ O O O) O<|yn 2 O<|vO (d:=110) O (λh110=>?_) (λh110=>?_)
    .
      refine yn 6 O<|yi C20<|vV ?_
      exact yl λ_ C25=>yn 4 O<|yi C25<|yr<|y5<|vI<|y5<|y5<|vI<|y5<|vH hw0 (λ_ _ h=>h) (qNe O O O O O) (qAf () (by rw [qIk hp xB hq (λ⟨a1,a2,a3,a4,a5,a6⟩=>by dsimp only at a1 a2 a3 a4 a5 a6;first|(simp [a1] at h83;done)|omega|contradiction)];rfl) yd [0] O xC)
    refine yv (qAA O O qBu O z9_ O) O<|yv (qAD 2 O O O b9_ O) O<|yv (qAA O O qBu O z9_ O) O<|yv (qAD 1 O O O b9_ O) O<|yv (qB9 O O O) O<|yh O<|yi C20<|y1 O (λh116=>?_) (λh116=>?_)
    .
      exact yl λ_ C26=>yn 4 O<|yi C26<|yr<|y5<|vI<|y5<|y5<|vI<|y5<|vH hw0 (λ_ _ h=>h) (qNe O O O O O) (qAf () (by rw [qIk hp xB hq (λ⟨a1,a2,a3,a4,a5,a6⟩=>by dsimp only at a1 a2 a3 a4 a5 a6;first|(simp [a1] at h83;done)|omega|contradiction)];rfl) yd [0] O xC)
    refine yy C19 ?_
    have hqi:qWW p i (qBm (l.getD i [])):=by rw [hq];exact⟨by simpa using h83,by show q.at_=i;omega,by show q.turn.toNat=p.turn.toNat;omega,by show q.num.toNat=p.num.toNat;omega,by show q.all=p.all;omega,by first|assumption|exact Decidable.not_not.1 xG⟩
    refine yt<|yh O<|vA 5 qBu z9_ O O O O O<|vF 2 b9_ O O O O O<|yj (qAq O O O xB) O ?_
    rw [show qGR l i++q.con=qGR l (i+1) by rw [qGR,hq]]
    refine yh O<|y8<|vB<|yq (yu C16 ?_)
    exact yt<|yj ((qAM O O O xB).nat (i+1) xB) O<|yh O<|y8<|yq<|vE (i+1) hI0 ⟨xB,λj hj=>by rcases Nat.lt_succ_iff_lt_or_eq.1 hj with h|rfl;exact hqs j h;exact hqi⟩ (Sub.of O) (λ_ h=>h.pick [0,1] xC)
  refine vK<|y6<|y6<|vL ?_
  refine yq (yu C12 ?_)
  refine ym λ_ C27=>?_
  obtain rfl:i=p.all:=by omega
  have hy:=qWV hp hf hqs
  have hcl:=qHB l p.all
  refine vQ [blk g8 [W64 (p.turn),W64 (p.num),I (p.at_:Nat),I (p.all:Nat),Str (p.name),Str (p.con)] 371] [] (.y 0 (.y 1 (.y 2 (.y 3 (.y 4 (.y 5 (.y 6 (.y 7 (.y 8 (.e 9 (.y 10 (.y 11 (.y 12 (.y 13 (.y 14 (.y 15 (.y 16 (.y 17 (.y 18 (.e 19 (.y 20 (.y 21 (.y 22 (.y 23 (.y 24 (.y 25 .nil)))))))))))))))))))))))))) ye xF xD ?_
  refine yo O (qAA O O qBu O qBV O) O O<|yo O (qAD 0 O O O qBe O) O O<|yx ?_
  refine yo O (qAA O O qBu O z3_ O) O O<|yo O (qAD 0 O O O b3_ O) O O<|yo O (qAA O O qBu O z3_ O) O O<|yo O (qAD 0 O O O b3_ O) O O<|yx ?_
  refine yo O (qAn u9_ O O) O O<|vD O (qAZ O O (λF' hF=>qFP F' (qGR l p.all).length xB)) O xD λg131 _=>yo O (qAR O O O) O O<|yx ?_
  refine vO (d:=133) O (λh133=>?_) (λh133=>?_)
  .
    refine y9 O (qAA O O qBu O z9_ O) O O<|y9 O (qAD 0 O O O b9_ O) O O<|y9 O (qAA O O qBu O qBV O) O O<|y9 O (qAD 0 O O O qBe O) O O<|y9 O (qAA O O qBu O qBV O) O O<|y9 O (qAD 0 O O O qBe O) O O<|y9 O (qAT O O) O O<|vn O (qAZ O O (λF' hF=>qOb F' (hK.mo hF) p.turn p.num (qGR l p.all) p1 p2 xB)) (Wan.is O O O O O) O O xD ?_
    intro g141 _
    refine y9 O (qBP O O O) O O<|vj ?_
    iterate 4 refine vU ?_
    refine vM<|yq (yu C27 ?_)
    exact yr<|vH hw0 (λ_ _ h=>h) (qNe O O O O O) (qAf () (by rw [hy,show decide (p.all=qAw (qGR l p.all).length/\p.name=qGI p.turn p.num (qGR l p.all))=decide (p.name=qGI p.turn p.num (qGR l p.all)) from decide_eq_decide.2 ⟨λh=>h.2,λh=>⟨xB,h⟩⟩];rfl) yd [0] O xC)
  iterate 7 refine vb ?_
  refine wB O (Wan.is O O O O O) O O xD<|vb ?_
  refine vd ?_
  iterate 4 refine vU ?_
  refine vM<|yq (yu C27 ?_)
  exact yr<|vH hw0 (λ_ _ h=>h) (qNe O O O O O) (qAf () (by rw [hy,show decide (p.all=qAw (qGR l p.all).length/\p.name=qGI p.turn p.num (qGR l p.all))=false from yb (λh=>by have:=h.1;omega)];rfl) yd [0] O xC)
def rdl(t:UInt64)(R:List xA)(e:Nat)(l:List xA):UInt64×List xA×Nat:=
 if h:l≠ []/\(qCq t R.length l).ok=true then
  rdl (qCq t R.length l).turn (R++ [(qCq t R.length l).text]) (e+(qCq t R.length l).n) (l.drop (qCq t R.length l).n)
 else(t,R,e)
termination_by l.length
decreasing_by
 have:=qQz h.2
 rw [jE];omega
theorem qQ0{t:UInt64}{R:List xA}{e:Nat}{l:List xA}(h:l≠ [])(h2:(qCq t R.length l).ok=true):
    rdl t R e l=rdl (qCq t R.length l).turn (R++ [(qCq t R.length l).text]) (e+(qCq t R.length l).n) (l.drop (qCq t R.length l).n):=by rw [rdl,dif_pos ⟨h,h2⟩]
theorem qQ1{t:UInt64}{R:List xA}{e:Nat}{l:List xA}(h: ¬(l≠ []/\(qCq t R.length l).ok=true)):rdl t R e l=(t,R,e):=by rw [rdl,dif_neg h]
def qEg(d:Dk)(at_ n:Nat):List xA:=(List.range n).map λi=>d.now (at_+i)
theorem qQj(d:Dk)(at_ n:Nat):qEg d at_ (n+1)=qEg d at_ n++ [d.now (at_+n)]:=by unfold qEg;rw [jt,jN];rfl
theorem qDr(d:Dk)(at_ n:Nat):(qEg d at_ n).length=n:=by unfold qEg;rw [jJ,zF]
theorem qQi{L:List Wri}{m:Nat}(h: ∀w∈L,w.1<m/\w.2.length=64)(i:Nat): ∀k,k<=L.length-> ∀s,qTN L i k=some s->s.length=64
 |0,_,s,hs=>by cases hs
 |k+1,hk,s,hs=>by
  rw [qKr] at hs
  split at hs
  . cases hs;exact(qSX h (show k<L.length by omega)).2
  . exact qQi h i k xB s hs
theorem qZ1{d:Dk}(h:d.ok){i:Nat}(hi:i<d.last.length):(d.now i).length=64:=by
 unfold Dk.now
 cases e:qTN d.wait i d.wait.length with
 |none=>exact qMp h.l64 hi
 |some s=>exact qQi h.w64 i _ (jL _) s e
theorem qXd{d:Dk}(h:d.ok){at_ n:Nat}(hn:at_+n<=d.last.length): ∀s∈qEg d at_ n,s.length=64:=λs hs=>by
 obtain ⟨i,hi,rfl⟩:=List.mem_map.1 hs
 have:=List.mem_range.1 hi
 exact qZ1 h xB
theorem qVu(F:Hp)(hK:yf F)(gb gd:Nat)(first:Int)(size:Nat)(rest:yU)(hB:qAI F ⟨gb,0,none⟩ (Ptr gd::I first::I (size:Nat)::rest))(d:Dk)(hok:d.ok)(A:yS)(c:Nat)(B:yS)(e:Nat)(C:yS)(f:Nat)(hc:qAI F ⟨gd,0,none⟩ (d.cells A c B e C f))(hL:Sl F 1 A d.last.length c (qAG d.last))(hW:Sl F 2 B d.wait.length e (qD7 d.wait))(hn1:d.last.length<=1073741824)(hn2:d.wait.length<=1073741824)(at_:Nat)(hs:at_+size<=d.last.length)(hoff:d.off=false):
    Ct prog 121 [Ptr gb,I (at_:Nat)] [F] (λx:yS×Nat×Hp=> .tuple #[.agg #[I (at_:Nat),W64 (rdl 0 [] 0 (qEg d at_ size)).1,I ((rdl 0 [] 0 (qEg d at_ size)).2.2:Nat),.slice x.1 (rdl 0 [] 0 (qEg d at_ size)).2.1.length x.2.1],I (0:Nat)]) (λx=>Row x.2.2 9 1 x.1 (rdl 0 [] 0 (qEg d at_ size)).2.1.length x.2.1 (qAG (rdl 0 [] 0 (qEg d at_ size)).2.1)) (λx=> [F,x.2.2]):=by
  have hn3:=hok.n1
  refine y7 func121 O ntmps121 O (λw0 hw0=>?_)
  refine yl λ_ C1=>yp (qAO O zeroValue242 O) O λg4 _=>yh O<|yi C1<|yl λ_ C2=>yh O<|yj (qAK (places:= [(0,1),(1,1),(2,1),(3,1)]) (r:= [I (at_:Nat),.int .u64 0,I 0,.slice none 0 0]) O O O qCW zeroValue242 (λ_=>xH) O) O<|yp (qAO O zeroValue242 O) O λg6 _=>vG (qAF (i:=2) (l:= [I 0,.int .u64 0,I 0,.slice none 0 0]) (vs:= [I (at_:Nat),.int .u64 0,I 0,.slice none 0 0]) O O O O O qCJ O O) O O λ_ _=>yi C2<|yl λ_ C3=>yh O<|yi C3<|ym λ_ C4=>yl λ_ C5=>yh O<|yj (qAB O O) O<|vA 2 qEH z3_ O O O O O<|yj (qAH O O b3_ (m:=F) xD (hB.at (i:=2) O)) O<|yh O<|yi C5<|yz<|vN (X:=Nat×yS×Nat×Hp) (λζ=> [(0,Ptr gb),(1,I (at_:Nat)),(4,Ptr g4),(6,Ptr g6),(7,.slice ζ.2.1 ((qEg d at_ ζ.1).length) ζ.2.2.1),(20,I (size:Nat)),(21,I (ζ.1:Nat))]) (λζ=> [F,blk g4 [I 0,.int .u64 0,I 0,.slice none 0 0] 242,blk g6 [I (at_:Nat),.int .u64 0,I 0,.slice none 0 0] 242,ζ.2.2.2]) (λζ=>ζ.1<=size/\Row ζ.2.2.2 9 1 ζ.2.1 (qEg d at_ ζ.1).length ζ.2.2.1 (qAG (qEg d at_ ζ.1))) (λζ=>size-ζ.1) (0,none,0,(λ_=>none)) (⟨jH _,qBf.nil⟩) (Sub.of O) (λ_ h=>h.empty.pick [0,1,2,3] xC) ?_
  rintro⟨k,A7,c7,m⟩ ⟨hk,hr0⟩ I0 hI0
  dsimp only at hk hr0⊢
  have hsl:=qDr d at_ k
  refine yl λ_ C6=>yj (qAP O O O) O<|yi C6<|ym λ_ C7=>y1 O (λh22=>?_) (λh22=>?_)
  .
    refine yy C7<|ym λ_ C8=>yz<|yl λ_ C9=>yn 2 O<|yi C9<|ym λ_ C10=>?_
    have hrk:d.read ((at_+k:Nat):Int)=d.now (at_+k)/\d.ready ((at_+k:Nat):Int)=0:=by
      have h0:=qDe hoff (i:=at_+k) xB
      exact⟨qXy h0,h0⟩
    refine yt<|yh O<|yj (qAB O O) O<|vA 0 qEH sizeOf24 O O O O O<|yj (qAH O O isAgg24 (m:=F) xD (hB.at (i:=0) O)) O<|yn 2 O<|yj ((qAM O O O xB).nat (at_+k) xB) O<|yp (qAZ O O (λF' hF=>by have:=qTz F' gd d A c B e C f (hc.mono (Fa hF)) (hL.mono (Fa hF)) (hW.mono (Fa hF)) ((at_+k:Nat):Int) hn1 hn2;rw [hrk.1,hrk.2] at this;exact this)) O λg32 _=>yn 5 O<|yi C10<|ym λ_ C11=>yl λ_ C12=>yh O<|yj ((qAQ O O O).no xC) O<|yi C12<|vC ?_
    refine yy C11<|yt<|yn 2 O<|yp (qAE (l:= [.tmp 40]) (xs:= [[Str (d.now (at_+k))]]) O O O O qAg el9 O xC xC xD) O λg41 _=>?_
    change J _ _ _ [F,blk g4 [I 0,.int .u64 0,I 0,.slice none 0 0] 242,blk g6 [I (at_:Nat),.int .u64 0,I 0,.slice none 0 0] 242,m,blk g41 [Str (d.now (at_+k))] 9] _
    refine yp (qAV (i:=3) (xs:=qAG (qEg d at_ k)) (m2:=blk g41 [Str (d.now (at_+k))] 9) (ys:= [[Str (d.now (at_+k))]]) O O O qAg qAg el9 O hr0 xD ((qAz (q:=True) (qAG [d.now (at_+k)]) O (by simp [qAG]) O).sl) O xB xB) O ?_
    rintro⟨A42,c42,m42⟩ h42
    try dsimp only at h42
    change J _ ((42,.slice A42 (((qEg d at_ k).length)+1) c42)::_) _ [_,_,_,m42,_] _
    rw [<-qBh,<-qQj] at h42
    rw [show(qEg d at_ k).length+1=(qEg d at_ (k+1)).length by rw [qDr,qDr]] at h42⊢
    refine yh O<|y8<|vB<|yq (yu C8 ?_)
    exact yt<|yj ((qAM O O O xB).nat (k+1) xB) O<|yh O<|y8<|yq<|vE (k+1,A42,c42,m42) hI0 ⟨by dsimp only;omega,h42⟩ (Sub.of O) (λ_ h=>h.pick [0,1,2,3] xC)
  refine vK<|y6<|y6<|vL ?_
  refine yq (yu C4 ?_)
  refine ym λ_ C13=>yz ?_
  obtain rfl:size=k:=by omega
  refine vN (X:=UInt64×List xA×Nat×yS×Nat×Hp×yS×Nat×List xA) (λζ=> [(4,Ptr g4),(6,Ptr g6),(7,.slice ζ.2.2.2.2.2.2.1 ζ.2.2.2.2.2.2.2.2.length ζ.2.2.2.2.2.2.2.1)]) (λζ=> [F,blk g4 [I 0,.int .u64 0,I 0,.slice none 0 0] 242,blk g6 [I (at_:Nat),W64 (ζ.1),I (ζ.2.2.1:Nat),.slice ζ.2.2.2.1 ζ.2.1.length ζ.2.2.2.2.1] 242,m,ζ.2.2.2.2.2.1]) (λζ=>Sl m 1 ζ.2.2.2.2.2.2.1 ζ.2.2.2.2.2.2.2.2.length ζ.2.2.2.2.2.2.2.1 (qAG ζ.2.2.2.2.2.2.2.2)/\Row ζ.2.2.2.2.2.1 9 1 ζ.2.2.2.1 ζ.2.1.length ζ.2.2.2.2.1 (qAG ζ.2.1)/\rdl ζ.1 ζ.2.1 ζ.2.2.1 ζ.2.2.2.2.2.2.2.2=(rdl 0 [] 0 (qEg d at_ size))/\ζ.2.1.length+ζ.2.2.2.2.2.2.2.2.length<=size/\ζ.2.2.1+ζ.2.2.2.2.2.2.2.2.length<=size/\ ∀s∈ζ.2.2.2.2.2.2.2.2,s.length=64) (λζ=>ζ.2.2.2.2.2.2.2.2.length) (0,[],0,none,0,(λ_=>none),A7,c7,qEg d at_ size) (⟨hr0.sl,qBf.nil,O,by simp only [qDr,jG];omega,by simp only [qDr];omega,qXd hok hs⟩) (Sub.of O) (λ_ h=>h.empty.pick [0,1,2,3,4] xC) ?_
  rintro⟨t,R,e',Ar,cr,mr,A7,c7,l⟩ ⟨hl,hr,hq,hb1,hb2,h64⟩ I2 hI2
  dsimp only at hl hr hq hb1 hb2 h64⊢
  refine ym λ_ C14=>yl λ_ C15=>yh O<|yj (qAN qAg O O) O<|yj (qAs O O O) O<|yi C15<|y1 O (λh46=>?_) (λh46=>?_)
  .
    refine yy C14<|yz<|yl λ_ C16=>yh O<|yp (qAZ O O (λF' hF=>qQy F' (hK.mo hF) g6 at_ t e' Ar R.length cr (qAI.blk0.mono (hF (blk g6 [I (at_:Nat),W64 (t),I (e':Nat),.slice Ar R.length cr] 242) xD)) xB A7 l.length c7 l (hl.mono (Fa hF)) xB h64)) O λg49 _=>yn 9 O<|yi C16<|ym λ_ C17=>yl λ_ C18=>yh O<|yj (qA5 O O) O<|yi C18<|vf O (λh55=>?_) (λh55=>?_)
    .
      refine vK<|y6<|wc O ?_
      refine y6<|vL ?_
      refine yq (yu C13 ?_)
      refine ym λ_ C19=>?_
      have hfin:rdl t R e' l=(t,R,e'):=qQ1 (by rintro⟨q1,q2⟩;first|(simp [q2] at h55;done)|exact q1 (List.length_eq_zero_iff.1 xB))
      have hx:(rdl 0 [] 0 (qEg d at_ size))=(t,R,e'):=hq.symm.trans hfin
      exact yt<|vT 2 isAgg242 qCJ O O O O O<|vG (qAF (i:=1) (l:= [I 0,.int .u64 0,I 0,.slice none 0 0]) (vs:= [I (at_:Nat),W64 (t),I (e':Nat),.slice Ar R.length cr]) O O O O O qCJ O O) O O λ_ _=>yh O<|yi C19<|yr<|vH hw0 (λ_ _ h=>h) (rv2 O (RV.blkA 1 O O isAgg242 qCJ) O) (qAf (Ar,cr,mr) (by rw [hx];rfl) (by rw [hx];exact hr) [0,4] O xC)
    refine yy C17<|ym λ_ C20=>?_
    have hok2:(qCq t R.length l).ok=true:=by simpa using h55
    obtain ⟨hr1,hr2,hr3,hr4⟩:=qQz hok2
    have hne:l≠ []:=λh=>by have hz:=yY List.length h;rw [jG] at hz;omega
    have hcap:=hl.2.1
    have hstep:=qQ0 (e:=e') hne hok2
    refine yt<|yh O<|vA 3 qCW qBs O O O O O<|vF 2 qB7 O O O O O<|yh O<|yp (qAE (l:= [.tmp 59]) (xs:= [[Str ((qCq t R.length l).text)]]) O O O O qAg el9 O xC xC xD) O λg60 _=>?_
    change J _ _ _ [F,blk g4 [I 0,.int .u64 0,I 0,.slice none 0 0] 242,blk g6 [I (at_:Nat),W64 (t),I (e':Nat),.slice Ar R.length cr] 242,m,mr,blk g60 [Str ((qCq t R.length l).text)] 9] _
    refine yp (qAV (i:=4) (xs:=qAG R) (m2:=blk g60 [Str ((qCq t R.length l).text)] 9) (ys:= [[Str ((qCq t R.length l).text)]]) O O O qAg qAg el9 O hr xD ((qAz (q:=True) (qAG [(qCq t R.length l).text]) O (by simp [qAG]) O).sl) O xB xB) O ?_
    rintro⟨A61,c61,m61⟩ h61
    try dsimp only at h61
    change J _ ((61,.slice A61 (R.length+1) c61)::_) _ [_,_,_,_,m61,_] _
    rw [show R.length+1=(R++ [(qCq t R.length l).text]).length by rw [jA];rfl] at h61⊢
    rw [<-qBh] at h61
    exact vA 1 qCW qBV O O O O O<|vG (qAU (i:=2) O O O O O qBV O xD) O O λ_ _=>vA 3 qCW qBs O O O O O<|vG (qAU (i:=2) (l:= [I (at_:Nat),W64 ((qCq t R.length l).turn),I (e':Nat),.slice Ar R.length cr]) (vs:= [.slice A61 ((R++ [(qCq t R.length l).text]).length) c61]) O O O O O qBs O xD) O O λ_ _=>yi C20<|yl λ_ C21=>vA 2 qCW z3_ O O O O O<|vF 2 b3_ O O O O O<|yh O<|yj ((qAM O O O xB).as (v':=I (e'+((qCq t R.length l).n):Nat)) (yY I xB)) O<|vA 2 qCW z3_ O O O O O<|vG (qAU (i:=2) (l:= [I (at_:Nat),W64 ((qCq t R.length l).turn),I (e':Nat),.slice A61 ((R++ [(qCq t R.length l).text]).length) c61]) (vs:= [I (e'+((qCq t R.length l).n):Nat)]) O O O O O z3_ O xD) O O λ_ _=>yi C21<|yt<|yn 2 O<|yj (qCi O O qAg z9_ O O xB) O<|yh O<|y8<|vB<|yq<|vE ((qCq t R.length l).turn,R++ [(qCq t R.length l).text],e'+(qCq t R.length l).n,A61,c61,m61,if c7=(qCq t R.length l).n then A7 else(A7).map (·.add ((qCq t R.length l).n*1)),c7-((qCq t R.length l).n),l.drop (qCq t R.length l).n) hI2 ⟨by dsimp only;rw [jE];exact hl.strsFrom xB,h61,by dsimp only;rw [<-hstep];exact hq,by dsimp only;rw [jA,jE,jI];omega,by dsimp only;rw [jE];omega,λs hs=>h64 s (List.mem_of_mem_drop hs)⟩ ⟨O,O,by dsimp only;rw [jE];rfl,yd⟩ (λ_ h=>h.pick [0,1,2,3,4] xC) (by dsimp only;rw [jE];omega)
  refine vK<|y6<|y6<|vL ?_
  refine yq (yu C13 ?_)
  refine ym λ_ C22=>?_
  have hfin:rdl t R e' l=(t,R,e'):=qQ1 (by rintro⟨q1,q2⟩;first|(simp [q2] at h55;done)|exact q1 (List.length_eq_zero_iff.1 xB))
  have hx:(rdl 0 [] 0 (qEg d at_ size))=(t,R,e'):=hq.symm.trans hfin
  exact yt<|vT 2 isAgg242 qCJ O O O O O<|vG (qAF (i:=1) (l:= [I 0,.int .u64 0,I 0,.slice none 0 0]) (vs:= [I (at_:Nat),W64 (t),I (e':Nat),.slice Ar R.length cr]) O O O O O qCJ O O) O O λ_ _=>yh O<|yi C22<|yr<|vH hw0 (λ_ _ h=>h) (rv2 O (RV.blkA 1 O O isAgg242 qCJ) O) (qAf (Ar,cr,mr) (by rw [hx];rfl) (by rw [hx];exact hr) [0,4] O xC)
structure Hlf where
 at_:Nat
 t:UInt64
 R:List xA
 e:Nat
def hlf(d:Dk)(at_ size:Nat):Hlf:=⟨at_,(rdl 0 [] 0 (qEg d at_ size)).1,(rdl 0 [] 0 (qEg d at_ size)).2.1,(rdl 0 [] 0 (qEg d at_ size)).2.2⟩
def hst(d:Dk)(first size:Nat):Nat->Hlf
 |0=>⟨0,0,[],0⟩
 |1=>hlf d first size
 |_+2=>if 0<(hlf d (first+size) size).R.length/\((hlf d first size).R.length=0\/(hlf d first size).t.toNat<(hlf d (first+size) size).t.toNat) then hlf d (first+size) size else hlf d first size
theorem qOK{d:Dk}{at_ size:Nat}{t:UInt64}{R:List xA}{e:Nat}(h:rdl 0 [] 0 (qEg d at_ size)=(t,R,e)):hlf d at_ size=⟨at_,t,R,e⟩:=by unfold hlf;rw [h]
theorem qJ7{d:Dk}{first size k km at1 e1 e2:Nat}{t1 t2:UInt64}{R1 R2:List xA}(hk:k<2)(hkm:km=k*size)(h1:hst d first size k=⟨at1,t1,R1,e1⟩)(h2:rdl 0 [] 0 (qEg d (first+km) size)=(t2,R2,e2))
    (hc:k=0\/(0<R2.length/\(R1.length=0\/t1.toNat<t2.toNat))):hst d first size (k+1)=⟨first+km,t2,R2,e2⟩:=by
  have h3:=qOK h2
  match k,hk with
  |0,_=>
    rw [yD] at hkm
    subst hkm
    exact h3
  |1,_=>
    rw [Nat.one_mul] at hkm
    subst hkm
    have hc2:=hc.resolve_left xC
    have h4:hlf d first km=⟨at1,t1,R1,e1⟩:=h1
    show(if _ then _ else _)=_
    rw [h3,h4,yX hc2]
theorem qOI{d:Dk}{first size k km at1 e1 e2:Nat}{t1 t2:UInt64}{R1 R2:List xA}(hk:k<2)(hkm:km=k*size)(h1:hst d first size k=⟨at1,t1,R1,e1⟩)(h2:rdl 0 [] 0 (qEg d (first+km) size)=(t2,R2,e2))
    (hc:k≠0/\ ¬(0<R2.length/\(R1.length=0\/t1.toNat<t2.toNat))):hst d first size (k+1)=⟨at1,t1,R1,e1⟩:=by
  have h3:=qOK h2
  match k,hk with
  |0,_=>exact absurd O hc.1
  |1,_=>
    rw [Nat.one_mul] at hkm
    subst hkm
    have h4:hlf d first km=⟨at1,t1,R1,e1⟩:=h1
    show(if _ then _ else _)=_
    rw [h3,h4,yW hc.2]
def bkC(gd first size:Nat)(x:Hlf)(A:yS)(c:Nat)(bad:Bool):yU:= [Ptr gd,I (first:Nat),I (size:Nat),I (x.at_:Nat),W64 x.t,I (x.e:Nat),.slice A x.R.length c,.bool bad]
theorem qVv(F:Hp)(hK:yf F)(gd:Nat)(d:Dk)(hok:d.ok)(A:yS)(c:Nat)(B:yS)(e:Nat)(C:yS)(f:Nat)(hc:qAI F ⟨gd,0,none⟩ (d.cells A c B e C f))(hL:Sl F 1 A d.last.length c (qAG d.last))(hW:Sl F 2 B d.wait.length e (qD7 d.wait))(hn2:d.wait.length<=1073741824)(first count:Nat)(h8:8<=count)(hfc:first+count<=d.last.length)(hoff:d.off=false):
    Ct prog 51 [Ptr gd,I (first:Nat),I (count:Nat)] [F] (λx:Nat×yS×Nat×Hp=> .tuple #[Ptr x.1,I (0:Nat)]) (λx=>Row x.2.2.2 9 1 x.2.1 (hst d first (count/2) 2).R.length x.2.2.1 (qAG (hst d first (count/2) 2).R)) (λx=> [F,blk x.1 (bkC gd first (count/2) (hst d first (count/2) 2) x.2.1 x.2.2.1 false) 244,x.2.2.2]):=by
  have hn1:=hok.n1
  refine y7 func51 O ntmps51 O (λw0 hw0=>?_)
  refine yl λ_ C1=>yn 2 O<|yi C1<|ym λ_ C2=>yl λ_ C3=>yh O<|yj ((qBL underlying24 O O O).as (v':= .bool false) O) O<|yn 2 O<|yv ((qAP O O O).no xB) O<|yn 3 O<|yv ((qAP O O O).no xB) O<|yn 4 O<|vg (qAZ O O (λF' hF=>qOV F' gd d A c B e C f (hc.mono (Fa hF)))) O λg25 _=>yv ((qAs O O O).no xB) O<|yn 4 O<|vg (qAZ O O (λF' hF=>qOV F' gd d A c B e C f (hc.mono (Fa hF)))) O λg31 _=>yh O<|yv (qAm O O O xB) O<|yv ((qAs O O O).no xB) O<|yh O<|yi C3<|vC ?_
  refine yy C2<|yl λ_ C4=>yn 3 O<|yj ((qFV O O O xB).nat (count/2) xB) O<|yj (qAK (places:= [(0,1),(1,1),(2,1),(3,4),(7,1)]) (r:= [Ptr gd,I (first:Nat),I (count/2:Nat),I 0,.int .u64 0,I 0,.slice none 0 0,.bool false]) O O O qEH zeroValue244 (λ_=>xH) xH) O<|yp (qAi O O O) O λg41 _=>yh O<|yi C4<|ym λ_ C5=>yl λ_ C6=>yh O<|yi C6<|yz<|vN (X:=Nat×Nat×UInt64×List xA×Nat×yS×Nat×Hp) (λζ=> [(1,I (first:Nat)),(8,Ptr g41),(42,I (ζ.1:Nat))]) (λζ=> [F,blk g41 [Ptr gd,I (first:Nat),I (count/2:Nat),I (ζ.2.1:Nat),W64 (ζ.2.2.1),I (ζ.2.2.2.2.1:Nat),.slice ζ.2.2.2.2.2.1 ζ.2.2.2.1.length ζ.2.2.2.2.2.2.1,.bool false] 244,ζ.2.2.2.2.2.2.2]) (λζ=>ζ.1<=2/\hst d first (count/2) ζ.1=⟨ζ.2.1,ζ.2.2.1,ζ.2.2.2.1,ζ.2.2.2.2.1⟩/\Row ζ.2.2.2.2.2.2.2 9 1 ζ.2.2.2.2.2.1 ζ.2.2.2.1.length ζ.2.2.2.2.2.2.1 (qAG ζ.2.2.2.1)) (λζ=>2-ζ.1) (0,0,0,[],0,none,0,(λ_=>none)) (⟨jH _,O,qBf.nil⟩) (Sub.of O) (λ_ h=>h.empty.pick [0,1,2] xC) ?_
  rintro⟨k,at1,t1,R1,e1,A1,c1,mr⟩ ⟨hk,hq,hr⟩ I0 hI0
  dsimp only at hk hq hr⊢
  refine yl λ_ C7=>yj (qAP O O O) O<|yi C7<|ym λ_ C8=>y1 O (λh43=>?_) (λh43=>?_)
  .
    refine yy C8<|ym λ_ C9=>yz<|yl λ_ C10=>yn 2 O<|yi C10<|ym λ_ C11=>?_
    obtain ⟨km,hkm⟩: ∃km,km=k*(count/2):=⟨_,rfl⟩
    have hkm2:km+count/2<=count:=by
      have:k=0\/k=1:=xB
      rcases this with e|e<;>rw [hkm,e]<;>omega
    obtain ⟨t2,R2,e2,hD2⟩: ∃t2 R2 e2,rdl 0 [] 0 (qEg d (first+km) (count/2))=(t2,R2,e2):=⟨_,_,_,rfl⟩
    refine yt<|yn 4 O<|yj (qAB O O) O<|vA 2 qEH z3_ O O O O O<|vF 1 b3_ O O O O O<|yj ((qCA O O O (by rw [<-yQ,<-hkm];omega)).as (v':=I (km:Nat)) (yY I (by rw [hkm,yQ]))) O<|yj ((qAM O O O xB).nat (first+km) xB) O<|yp (qBx O O (λF' hF=>by have:=qVu F' (hK.mo hF) g41 gd ((first:Nat):Int) (count/2) _ (qAI.blk0.mono (hF (blk g41 [Ptr gd,I (first:Nat),I (count/2:Nat),I (at1:Nat),W64 (t1),I (e1:Nat),.slice A1 R1.length c1,.bool false] 244) xD)) d hok A c B e C f (hc.mono (Fa hF)) (hL.mono (Fa hF)) (hW.mono (Fa hF)) xB hn2 (first+km) xB hoff;rw [hD2] at this;exact this)) O ?_
    rintro⟨A55,c55,m55⟩ h55
    try dsimp only at h55
    refine yn 3 O<|yp (qAO O zeroValue242 O) O λg10 _=>vG (qAF (i:=4) (l:= [I 0,.int .u64 0,I 0,.slice none 0 0]) (vs:= [I (first+km:Nat),W64 (t2),I (e2:Nat),.slice A55 R2.length c55]) O O O O O qCJ O O) O O λ_ _=>yh O<|yi C11<|ym λ_ C12=>yl λ_ C13=>yh O<|yj ((qAQ O O O).no xC) O<|yi C13<|vC ?_
    refine yy C12<|ym λ_ C14=>vQ [F,blk g41 [Ptr gd,I (first:Nat),I (count/2:Nat),I (at1:Nat),W64 (t1),I (e1:Nat),.slice A1 R1.length c1,.bool false] 244,blk g10 [I (first+km:Nat),W64 (t2),I (e2:Nat),.slice A55 R2.length c55] 242] [] (.y 0 (.y 1 (.y 2 (.y 3 (.y 4 (.y 5 (.y 6 (.y 7 (.y 8 (.y 9 (.y 10 (.y 11 (.y 12 (.y 13 (.y 14 (.y 15 (.y 16 (.y 17 (.y 18 (.y 19 (.y 20 (.y 21 (.y 22 (.y 23 (.y 24 (.y 25 (.y 26 .nil))))))))))))))))))))))))))) ye xF xD ?_
    refine yx ?_
    refine yo O (qAR O O O) O O<|yx ?_
    refine vO (d:=63) O (λh63=>?_) (λh63=>?_)
    .
      iterate 5 refine vb ?_
      refine vS O (Wan.un O O O O) O O ?_
      refine vS O (Wan.un O O O O) O O ?_
      refine vS O (Wan.un O O O O) O O ?_
      refine vS O (Wan.un O O O O) O O ?_
      refine vS O (Wan.un O O O O) O O ?_
      refine vS O (Wan.un O O O O) O O ?_
      refine vS O (Wan.un O O O O) O O ?_
      refine vS O (Wan.un O O O O) O O ?_
      refine vS O (Wan.un O O O O) O O ?_
      refine vS O (Wan.un O O O O) O O ?_
      refine vS O (Wan.un O O O O) O O ?_
      refine vS O (Wan.un O O O O) O O ?_
      refine vS O (Wan.un O O O O) O O ?_
      refine vS O (Wan.un O O O O) O O ?_
      refine vS O (Wan.un O O O O) O O ?_
      refine vS O (Wan.un O O O O) O O ?_
      refine vS O (Wan.un O O O O) O O ?_
      refine vb ?_
      refine vj ?_
      refine vM<|yq (yu C14 ?_)
      refine vV ?_
      refine yt<|yh O<|vT 4 isAgg242 qCJ O O O O O<|yj (qAB O O) O<|vA 3 qEH qCJ O O O O O<|vG (qAU (i:=1) O O O O O qCJ O xD) O O λ_ _=>y8<|vB<|yq (yu C9 ?_)
      exact yt<|yj ((qAM O O O xB).nat (k+1) xB) O<|yh O<|y8<|yq<|vE (k+1,first+km,t2,R2,e2,A55,c55,m55) hI0 ⟨by dsimp only;omega,by dsimp only;exact qJ7 xB hkm hq hD2 xB,h55⟩ (Sub.of O) (λ_ h=>h.pick [0,1,3] xC)
    refine y9 O (qAA O O qCW O qBs O) O O<|y9 O (qAD 2 O O O qB7 O) O O<|y9 O (qAN qAg O O) O O<|y9 O (qAs O O O) O O<|y9 O (qAT O O) O O<|vO (d:=68) O (λh68=>?_) (λh68=>?_)
    .
      refine y9 O (qAT O O) O O<|y9 O (qAB O O) O O<|y9 O (qAA O O qEH O qCJ O) O O<|y9 O (qAA O O qCW O qBs O) O O<|y9 O (qAD 1 O O O qB7 O) O O<|y9 O (qAN qAg O O) O O<|y9 O (qAR O O O) O O<|y9 O (qAT O O) O O<|vO (d:=76) O (λh76=>?_) (λh76=>?_)
      .
        iterate 8 refine vb ?_
        refine y9 O (qDN O O O) O O<|y9 O (qDN O O O) O O<|vd ?_
        refine vM<|yq (yu C14 ?_)
        refine vV ?_
        refine yt<|yh O<|vT 4 isAgg242 qCJ O O O O O<|yj (qAB O O) O<|vA 3 qEH qCJ O O O O O<|vG (qAU (i:=1) O O O O O qCJ O xD) O O λ_ _=>y8<|vB<|yq (yu C9 ?_)
        exact yt<|yj ((qAM O O O xB).nat (k+1) xB) O<|yh O<|y8<|yq<|vE (k+1,first+km,t2,R2,e2,A55,c55,m55) hI0 ⟨by dsimp only;omega,by dsimp only;exact qJ7 xB hkm hq hD2 xB,h55⟩ (Sub.of O) (λ_ h=>h.pick [0,1,3] xC)
      refine y9 O (qAA O O qCW O qBV O) O O<|y9 O (qAD 2 O O O qBe O) O O<|y9 O (qAT O O) O O<|y9 O (qAB O O) O O<|y9 O (qAA O O qEH O qCJ O) O O<|y9 O (qAA O O qCW O qBV O) O O<|y9 O (qAD 1 O O O qBe O) O O<|y9 O (qAs O O O) O O<|y9 O (qDO O O O) O O<|y9 O (qDN O O O) O O<|vd ?_
      refine vM<|yq (yu C14 ?_)
      refine y1 O (λh87=>?_) (λh87=>?_)
      .
        refine yt<|yh O<|vT 4 isAgg242 qCJ O O O O O<|yj (qAB O O) O<|vA 3 qEH qCJ O O O O O<|vG (qAU (i:=1) O O O O O qCJ O xD) O O λ_ _=>y8<|vB<|yq (yu C9 ?_)
        exact yt<|yj ((qAM O O O xB).nat (k+1) xB) O<|yh O<|y8<|yq<|vE (k+1,first+km,t2,R2,e2,A55,c55,m55) hI0 ⟨by dsimp only;omega,by dsimp only;exact qJ7 xB hkm hq hD2 xB,h55⟩ (Sub.of O) (λ_ h=>h.pick [0,1,3] xC)
      refine vP<|vB<|yq (yu C9 ?_)
      exact yt<|yj ((qAM O O O xB).nat (k+1) xB) O<|yh O<|y8<|yq<|vE (k+1,at1,t1,R1,e1,A1,c1,mr) hI0 ⟨by dsimp only;omega,by dsimp only;exact qOI xB hkm hq hD2 xB,hr⟩ (Sub.of O) (λ_ h=>h.pick [0,1,2] xC)
    iterate 8 refine vb ?_
    refine vS O (Wan.un O O O O) O O ?_
    refine vS O (Wan.un O O O O) O O ?_
    refine vS O (Wan.un O O O O) O O ?_
    refine vS O (Wan.un O O O O) O O ?_
    refine vS O (Wan.un O O O O) O O ?_
    refine vS O (Wan.un O O O O) O O ?_
    refine vS O (Wan.un O O O O) O O ?_
    refine vS O (Wan.un O O O O) O O ?_
    refine vb ?_
    refine y9 O (qDO O O O) O O<|vd ?_
    refine vM<|yq (yu C14 ?_)
    refine vC ?_
    refine vP<|vB<|yq (yu C9 ?_)
    exact yt<|yj ((qAM O O O xB).nat (k+1) xB) O<|yh O<|y8<|yq<|vE (k+1,at1,t1,R1,e1,A1,c1,mr) hI0 ⟨by dsimp only;omega,by dsimp only;exact qOI xB hkm hq hD2 xB,hr⟩ (Sub.of O) (λ_ h=>h.pick [0,1,2] xC)
  refine vK<|y6<|y6<|vL ?_
  refine yq (yu C5 ?_)
  refine ym λ_ C15=>?_
  obtain rfl:k=2:=by omega
  exact yt<|yn 3 O<|yi C15<|yr<|vH hw0 (λ_ _ h=>h) (qB5 O O O) (qAf (g41,A1,c1,mr) O (by rw [hq];exact hr) [0,1,2] (by dsimp only;rw [hq];rfl) xC)
end Go.Proofs.YtmemgokiolfdoaaGreatDoor