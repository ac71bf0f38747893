/- A part of the proof. -/
import Derived.Test.YtmemgokiolfdoaaGreatDoorTopSpG18
import Derived.Test.YtmemgokiolfdoaaGreatDoorTopSpG26
set_option maxRecDepth 100000
set_option maxHeartbeats 1000000
set_option linter.unusedSimpArgs false
set_option linter.unusedVariables false
namespace Go.Proofs.YtmemgokiolfdoaaGreatDoor
open Go Go.Fw Go.Proofs.Tryz
theorem qTn(F:Hp)(g:Nat)(l:List Sm.PR)(hT:qCo F g l):Ct prog 212 [Ptr g] [F] (λx:Nat×Hp=>Ptr x.1) (λx=>qGg x.2 x.1 l) (λx=> [x.2,F]):=by
 have hT0:=hT
 obtain ⟨gm,hc,hm⟩:=hT0
 refine y7 func212 O ntmps212 O (λw0 hw0=>?_)
 refine yl λ_ C1=>yh O<|yi C1<|ym λ_ C2=>yl λ_ C3=>yh O<|yj ((qBL qMK O O O).as (v':= .bool false) O) O<|yi C3<|vC ?_
 refine yy C2<|yl λ_ C4=>yh O<|yj (qAB O O) O<|vA 0 qMJ sizeOf235 O O O O O<|yj (qAH O O isAgg235 (m:=F) xD (hc)) O<|yp (qBx O O (λF' hF=>qRz F' gm (ssM l) (hm.mono (Fa hF)))) O ?_
 rintro⟨g9,m9⟩ h9
 try dsimp only at h9
 exact yj (qAK (places:= [(0,1)]) (r:= [.map (some g9)]) O O O qMJ zeroValue237 (λ_=>xH) O) O<|yp (qAi O O O) O λg11 _=>yh O<|yi C4<|yr<|vH hw0 (λ_ _ h=>h) (qIM O O) (qCf (g11,U [blk g11 [.map (some g9)] 237,m9]) (O) (λhd=>⟨g9,m9,O,hd,h9⟩) [2,1,0] O O xC)
theorem qQM(F:Hp)(b z:Int)(A:yS)(n c:Nat)(ks:List xA)(hs:Sl F 1 A n c (qAG ks))(hn:n<=1000000)(hsm: ∀k:Nat,(ks.getD k []).length<=1000000):Cz prog 71 [I (b),I (z),.slice A n c] F (I (qHO b z ks:Nat)):=by
 have hkn:ks.length=n:=by have:=hs.1;simpa [qAG] using this
 refine y7 func71 O ntmps71 O (λw0 hw0=>?_)
 refine yl λ_ C1=>yh O<|yi C1<|yl λ_ C2=>yh O<|yp (qAZ O O (λF' hF=>qDB F' z)) O λg13 _=>yh O<|yi C2<|ym λ_ C3=>yz<|yl λ_ C4=>yh O<|yj (qAR O O O) O<|yh O<|yi C4<|y1 O (λh14=>?_) (λh14=>?_)
 .
  exact yl λ_ C5=>yh O<|yi C5<|yr<|vI<|y5<|yw hw0 O () (by(first|rw [qE1 xB]|rw [qDo xB xB]|rw [qDp xB xB xB]|rw [qDn hc0 h256 hbn hno (λe=>by have:=hib.1 e;omega)]|rw [qEI hc0 h256 hbn hall])<;>rfl) yd [0] O xC
 refine yl λ_ C6=>yh O<|yj (qAN qAg O O) O<|yj (qAs O O O) O<|yh O<|yi C6<|y1 O (λh17=>?_) (λh17=>?_)
 .
  exact yl λ_ C7=>yh O<|yi C7<|yr<|vI<|y5<|yw hw0 O () (by(first|rw [qE1 xB]|rw [qDo xB xB]|rw [qDp xB xB xB]|rw [qDn hc0 h256 hbn hno (λe=>by have:=hib.1 e;omega)]|rw [qEI hc0 h256 hbn hall])<;>rfl) yd [0] O xC
 refine yl λ_ C8=>yh O<|yj (qAP O O O) O<|yh O<|vO (d:=24) O (λh24=>?_) (λh24=>?_)
 .
  refine yn 5 O<|yi C8<|vV ?_
  exact yl λ_ C9=>yh O<|yi C9<|yr<|vI<|y5<|yw hw0 O () (by(first|rw [qE1 xB]|rw [qDo xB xB]|rw [qDp xB xB xB]|rw [qDn hc0 h256 hbn hno (λe=>by have:=hib.1 e;omega)]|rw [qEI hc0 h256 hbn hall])<;>rfl) yd [0] O xC
 refine yn 2 O<|yv (qA1 O O O) O<|yn 2 O<|yi C8<|y1 O (λh21=>?_) (λh21=>?_)
 .
  exact yl λ_ C10=>yh O<|yi C10<|yr<|vI<|y5<|yw hw0 O () (by(first|rw [qE1 xB]|rw [qDo xB xB]|rw [qDp xB xB xB]|rw [qDn hc0 h256 hbn hno (λe=>by have:=hib.1 e;omega)]|rw [qEI hc0 h256 hbn hall])<;>rfl) yd [0] O xC
 refine vP<|vB<|yq (yu C3 ?_)
 refine ym λ_ C11=>ym λ_ C12=>?_
 obtain ⟨d,rfl⟩:=zk (show 0<=z by unfold cnt at h14;split at h14<;>omega)
 have hd:d<=4:=by unfold cnt at h14;split at h14<;>omega
 have hb0:0<=b:=xB
 have hbn: ¬(b<0\/((cnt (d:Int):Nat):Int)<=b):=xB
 have hc0: ¬cnt (d:Int)=0:=xB
 have h256: ¬256<ks.length:=xB
 refine yt<|yh O<|yj (qAN qAg O O) O<|yh O<|yi C12<|yz<|vN (X:=Nat) (λζ=> [(0,I (b)),(1,I (d:Nat)),(29,.slice A n c),(30,I (n:Nat)),(31,I (ζ:Nat))]) (λζ=> [F]) (λζ=>ζ<=n/\ ∀k∈ks.take ζ,inB b.toNat d k) (λζ=>n-ζ) 0 (⟨jH _,λk h=>by simp at h⟩) (Sub.of O) (λ_ h=>h) ?_
 rintro i ⟨hi,hall⟩ I1 hI1
 refine yl λ_ C13=>yj (qAP O O O) O<|yi C13<|ym λ_ C14=>y1 O (λh32=>?_) (λh32=>?_)
 .
  refine yy C14<|ym λ_ C15=>yz<|yl λ_ C16=>yj (qAC O O O qAg z9_ hs xB) O<|yj (qAH O O b9_ (m:=F) xD (hs.elem (qAa (qAc [] xB)))) O<|yh O<|yi C16<|yl λ_ C17=>yn 2 O<|yp (qAZ O O (λF' hF=>qW3 F' (ks.getD i []) (by first|omega|exact hsm _|exact jW O) d xB)) O λg38 _=>yn 5 O<|yi C17<|ym λ_ C18=>?_
  have hib:=qaK (b:=b) (d:=d) (k:=ks.getD i []) hb0
  refine yt<|yh O<|yj (qAQ O O O) O<|yh O<|vO (d:=43) O (λh43=>?_) (λh43=>?_)
  .
   refine yn 4 O<|yi C18<|vV ?_
   refine ym λ_ C19=>?_
   have hno:=qSI (ks:=ks) (i:=i) xB
   exact yt<|yh O<|yi C19<|yr<|vI<|y5<|y5<|vI<|y5<|yw hw0 O () (by(first|rw [qE1 xB]|rw [qDo xB xB]|rw [qDp xB xB xB]|rw [qDn hc0 h256 hbn hno (λe=>by have:=hib.1 e;omega)]|rw [qEI hc0 h256 hbn hall])<;>rfl) yd [0] O xC
  refine yn 2 O<|yv (qAQ O O O) O<|yh O<|yi C18<|y1 O (λh47=>?_) (λh47=>?_)
  .
   refine ym λ_ C20=>?_
   have hno:=qSI (ks:=ks) (i:=i) xB
   exact yt<|yh O<|yi C20<|yr<|vI<|y5<|y5<|vI<|y5<|yw hw0 O () (by(first|rw [qE1 xB]|rw [qDo xB xB]|rw [qDp xB xB xB]|rw [qDn hc0 h256 hbn hno (λe=>by have:=hib.1 e;omega)]|rw [qEI hc0 h256 hbn hall])<;>rfl) yd [0] O xC
  refine vP<|vB<|yq (yu C15 ?_)
  exact yt<|yj ((qAM O O O xB).nat (i+1) xB) O<|yh O<|y8<|yq<|vE (i+1) hI1 ⟨xB,qV7 xB hall (hib.2 ⟨xB,xB⟩)⟩ (Sub.of O) (λ_ h=>h)
 refine vK<|y6<|y6<|vL ?_
 refine yq (yu C11 ?_)
 refine ym λ_ C21=>?_
 obtain rfl:i=ks.length:=by omega
 rw [jn] at hall
 exact yt<|yh O<|yi C21<|yr<|yw hw0 O () (by(first|rw [qE1 xB]|rw [qDo xB xB]|rw [qDp xB xB xB]|rw [qDn hc0 h256 hbn hno (λe=>by have:=hib.1 e;omega)]|rw [qEI hc0 h256 hbn hall])<;>rfl) yd [0] O xC
theorem el160:qCx prog 160 [Str [],Str [],.slice none 0 0,.bool false,Str [],Str []] 96:=qCx.of xH O
theorem qTk(F:Hp)(hK:yf F)(g:Nat)(l:List Sm.PR)(hT:qCo F g l)(hf:qCD l)(hln:l.length<=90000)(b d:Nat)(hd:d<=4)(hb:b<2^d)(A0:yS)(n0 c0:Nat)(cl:List Chg)(hs:Sl F 2 A0 n0 c0 (qDI cl))(hch:qL4 b d cl):
    Ct prog 139 [Ptr g,I (b:Nat),I (d:Nat),.slice A0 n0 c0] [F] (λr:MkR=> .tuple #[.agg #[I (b:Nat),I (d:Nat),Str (Sm.ndB l (kF b d) d),Str (Sm.ndB (kvC l cl) (kF b d) d),.slice r.A r.L.length r.c],Ptr r.g,I 0]) (MkP l d cl) (λr=> [F,r.mt,r.ms,r.M]):=by
  have hcn:cl.length=n0:=by have:=hs.1;simpa [qDI] using this
  have hc256:=hch.len
  have hmay:=hch.may hd hb
  have hmd:min (((d:Nat):Int)).toNat 128=d:=by rw [jd];omega
  have hkb:=qFc b d
  refine y7 func139 O ntmps139 O (λw0 hw0=>?_)
  refine yl λ_ C1=>yp (qAO O zeroValue59 O) O λg8 _=>yn 2 O<|yi C1<|yl λ_ C2=>yh O<|yi C2<|ym λ_ C3=>yl λ_ C4=>yh O<|yj (qAN qGY O O) O<|yh O<|yi C4<|yz<|vN (X:=Nat×yS×Nat×Hp) (λζ=> [(0,Ptr g),(1,I (b:Nat)),(2,I (d:Nat)),(3,.slice A0 n0 c0),(8,Ptr g8),(11,.slice ζ.2.1 ((qHr cl ζ.1).length) ζ.2.2.1),(22,.slice A0 n0 c0),(23,I (n0:Nat)),(24,I (ζ.1:Nat))]) (λζ=> [F,blk g8 [I 0,I 0,Str [],Str [],.slice none 0 0] 59,ζ.2.2.2]) (λζ=>ζ.1<=n0/\Row ζ.2.2.2 9 1 ζ.2.1 (qHr cl ζ.1).length ζ.2.2.1 (qAG (qHr cl ζ.1))) (λζ=>n0-ζ.1) (0,none,0,(λ_=>none)) (⟨jH _,qBf.nil⟩) (Sub.of O) (λ_ h=>h.empty.pick [0,1,2] xC) ?_
  rintro⟨i,A1,c1,m1⟩ ⟨hi,hr1⟩ I0 hI0
  dsimp only at hi hr1⊢
  have hkl:=qSM (cl:=cl) (i:=i) xB
  refine yl λ_ C5=>yj (qAP O O O) O<|yi C5<|ym λ_ C6=>y1 O (λh25=>?_) (λh25=>?_)
  .
    refine yy C6<|ym λ_ C7=>yz<|yl λ_ C8=>yj (qAC O O O qGY qEE hs xB) O<|yj (qAb O O isAgg155 qEE (m:=F) xD (hs.elem (qH7 xB)) O) O<|yp (qAO O qPf O) O λg13 _=>vG (qAF (i:=3) (l:= [Str [],Str []]) (vs:= [Str ((cl.getD i qAy).k),Str ((cl.getD i qAy).v)]) O O O O O qEE O O) O O λ_ _=>yi C8<|yt<|yh O<|vA 0 qFo z9_ O O O O O<|vF 3 b9_ O O O O O<|yp (qAE (l:= [.tmp 30]) (xs:= [[Str ((cl.getD i qAy).k)]]) O O O O qAg el9 O xC xC xD) O λg31 _=>?_
    change J _ _ _ [_,_,_,_,blk g31 [Str ((cl.getD i qAy).k)] 9] _
    refine yp (qAV (i:=2) (xs:=qAG (qHr cl i)) (m2:=blk g31 [Str ((cl.getD i qAy).k)] 9) (ys:= [[Str ((cl.getD i qAy).k)]]) O O O qAg qAg el9 O hr1 xD ((qAz (q:=True) (qAG [(cl.getD i qAy).k]) O (by simp [qAG]) O).sl) O xB xB) O ?_
    rintro⟨A32,c32,m32⟩ h32
    try dsimp only at h32
    change J _ ((32,.slice A32 (((qHr cl i).length)+1) c32)::_) _ [_,_,m32,_,_] _
    rw [<-qBh] at h32
    refine yh O<|y8<|vB<|yq (yu C7 ?_)
    exact yt<|yj ((qAM O O O xB).nat (i+1) xB) O<|yh O<|y8<|yq<|vE (i+1,A32,c32,m32) hI0 ⟨by dsimp only;omega,by dsimp only;rw [qI3 xB,jA];exact h32⟩ ⟨O,O,O,O,O,by dsimp only;rw [qI3 xB,jA];rfl,O,O,O,yd⟩ (λ_ h=>h.pick [0,1,2] xC)
  refine vK<|y6<|y6<|vL ?_
  refine yq (yu C3 ?_)
  refine ym λ_ C9=>ym λ_ C10=>?_
  obtain rfl:i=cl.length:=by omega
  rw [qSN] at hr1 hkl⊢
  have hsk:=hch.smallK
  refine yt<|yn 3 O<|yp (qAZ O O (λF' hF=>qQM F' ((b:Nat):Int) ((d:Nat):Int) A1 ((cl.map Chg.k).length) c1 (cl.map Chg.k) (hr1.sl.mono (Fa hF)) xB xG)) O λg37 _=>yh O<|yi C10<|yl λ_ C11=>yh O<|yj ((qAQ O O O).no (by rw [hmay];decide)) O<|yn 2 O<|yv ((qBL qMK O O O).as (v':= .bool false) O) O<|yh O<|yi C11<|vC ?_
  refine yy C9<|yl λ_ C12=>yn 2 O<|yp (qAZ O O (λF' hF=>qLa F' b d xB xG)) O λg50 _=>yh O<|yi C12<|yl λ_ C13=>yh O<|yp (qBx O O (λF' hF=>Ct.swap2 (qTn F' g l (hT.mono (Fa hF))))) O ?_
  rintro⟨g52,m52⟩ h52
  try dsimp only at h52
  refine yh O<|yi C13<|yl λ_ C14=>yn 5 O<|yp (qAZ O O (λF' hF=>qGl F' (hK.mo hF) g l (hT.mono (Fa hF)) xG (kF b d) xM ((d:Nat):Int) (by first|assumption|exact qJR xG|exact qNJ xG xG))) O λg58 _=>?_
  rw [hmd]
  refine yj (qAK (places:= [(0,1),(1,1),(2,1),(3,1),(4,1)]) (r:= [I (b:Nat),I (d:Nat),Str (Sm.ndB l (kF b d) d),Str [],.slice none 0 0]) O O O qMH zeroValue59 (λ_=>xH) O) O<|yp (qAO O zeroValue59 O) O λg17 _=>vG (qAF (i:=4) (l:= [I 0,I 0,Str [],Str [],.slice none 0 0]) (vs:= [I (b:Nat),I (d:Nat),Str (Sm.ndB l (kF b d) d),Str [],.slice none 0 0]) O O O O O qTL O O) O O λ_ _=>yi C14<|ym λ_ C15=>yl λ_ C16=>yh O<|yj (qAN qGY O O) O<|yh O<|yi C16<|yz<|vN (X:=Nat×List qBA×yS×Nat×Hp×Hp×Hp) (λζ=> [(2,I (d:Nat)),(8,Ptr g8),(15,Str (kF b d)),(16,Ptr g52),(17,Ptr g17),(60,.slice A0 n0 c0),(61,I (n0:Nat)),(62,I (ζ.1:Nat))]) (λζ=> [ζ.2.2.2.2.2.2,F,blk g8 [I 0,I 0,Str [],Str [],.slice none 0 0] 59,blk g17 [I (b:Nat),I (d:Nat),Str (Sm.ndB l (kF b d) d),Str ([]),.slice ζ.2.2.1 ζ.2.1.length ζ.2.2.2.1] 59,ζ.2.2.2.2.2.1,ζ.2.2.2.2.1]) (λζ=>ζ.1<=cl.length/\ζ.2.1.map qBA.chg=cl.take ζ.1/\qCe l d ζ.2.1/\Row ζ.2.2.2.2.1 160 6 ζ.2.2.1 ζ.2.1.length ζ.2.2.2.1 (qGZ ζ.2.1)/\qGg ζ.2.2.2.2.2.1 g52 ((kvC l (cl.take ζ.1)))/\qPh ζ.2.2.2.2.2.2 ζ.2.1) (λζ=>cl.length-ζ.1) (0,[],none,0,(λ_=>none),m52,(λ_=>none)) (⟨jH _,O,qCe.nil _ _,qBf.nil,h52,qPh.nil _⟩) (Sub.of O) (λ_ h=>h.empty.empty.pick [5,0,1,4,3,6] xC) ?_
  rintro⟨i,L,As,cs,ms,mt,M⟩ ⟨hi,hL,hok,hst,ht,hbs⟩ I2 hI2
  dsimp only at hi hL hok hst ht hbs⊢
  refine yl λ_ C17=>yj (qAP O O O) O<|yi C17<|ym λ_ C18=>y1 O (λh63=>?_) (λh63=>?_)
  .
    refine yy C18<|ym λ_ C19=>yz<|ym λ_ C20=>?_
    obtain ⟨hk16,hkb2,hkv⟩:=hch.at (i:=i) xB
    have hfi:=hch.fine hf hln i
    have hLl:=yY List.length hL
    rw [jJ,jF] at hLl
    refine yt<|yj (qAC O O O qGY qEE hs xB) O<|yj (qAb O O isAgg155 qEE (m:=F) xD (hs.elem (qH7 xB)) O) O<|yp (qAO O qPf O) O λg19 _=>vG (qAF (i:=6) (l:= [Str [],Str []]) (vs:= [Str ((cl.getD i qAy).k),Str ((cl.getD i qAy).v)]) O O O O O qEE O O) O O λ_ _=>yi C20<|yl λ_ C21=>yh O<|vA 0 qFo z9_ O O O O O<|vF 6 b9_ O O O O O<|yh O<|yp (qBx O O (λF' hF=>qNp F' (hK.mo hF) g52 (kvC l (cl.take i)) (ht.at.mono (Fa hF)) hfi (cl.getD i qAy).k hk16 d xB)) O ?_
    rintro⟨s71,A71,c71,m71⟩ ⟨hst71,hr71⟩
    refine yn 3 O<|yp (qAO O zeroValue87 O) O λg20 _=>vG (qAF (i:=8) (l:= [.slice none 0 0,.bool false,Str [],Str []]) (vs:= [.slice A71 ((bsd (kvC l (cl.take i)) (cl.getD i qAy).k d (s71-d)).length) c71,.bool (qBB (kvC l (cl.take i)) (cl.getD i qAy).k s71),Str (qC0 (kvC l (cl.take i)) (cl.getD i qAy).k s71),Str (qDL (kvC l (cl.take i)) (cl.getD i qAy).k s71)]) O O O O O qEa O O) O O λ_ _=>yh O<|yi C21<|ym λ_ C22=>yl λ_ C23=>yh O<|yj ((qAQ O O O).no xC) O<|yi C23<|vC ?_
    refine yy C22<|ym λ_ C24=>?_
    obtain ⟨x,hx⟩: ∃x:qBA,x=(⟨(cl.getD i qAy).k,(cl.getD i qAy).v,A71,c71,bsd ((kvC l (cl.take i))) (cl.getD i qAy).k d (s71-d),qBB ((kvC l (cl.take i))) (cl.getD i qAy).k s71,qC0 ((kvC l (cl.take i))) (cl.getD i qAy).k s71,qDL ((kvC l (cl.take i))) (cl.getD i qAy).k s71⟩:qBA):=⟨_,rfl⟩
    refine yt<|vA 4 qMH sizeOf57 O O O O O<|vF 3 isAgg57 O O O O O<|vT 6 isAgg155 qEE O O O O O<|vT 8 qHD qEa O O O O O<|yj (qAK (places:= [(0,2),(2,4)]) (r:= [Str ((cl.getD i qAy).k),Str ((cl.getD i qAy).v),.slice A71 ((bsd (kvC l (cl.take i)) (cl.getD i qAy).k d (s71-d)).length) c71,.bool (qBB (kvC l (cl.take i)) (cl.getD i qAy).k s71),Str (qC0 (kvC l (cl.take i)) (cl.getD i qAy).k s71),Str (qDL (kvC l (cl.take i)) (cl.getD i qAy).k s71)]) O O O qJV zeroValue160 (λ_=>xH) O) O<|yp (qAE (l:= [.tmp 82]) (xs:= [[Str ((cl.getD i qAy).k),Str ((cl.getD i qAy).v),.slice A71 ((bsd (kvC l (cl.take i)) (cl.getD i qAy).k d (s71-d)).length) c71,.bool (qBB (kvC l (cl.take i)) (cl.getD i qAy).k s71),Str (qC0 (kvC l (cl.take i)) (cl.getD i qAy).k s71),Str (qDL (kvC l (cl.take i)) (cl.getD i qAy).k s71)]]) O O O O qXH el160 O xC xC xD) O λg83 _=>yp (qAV (i:=5) (m2:=blk g83 [Str ((cl.getD i qAy).k),Str ((cl.getD i qAy).v),.slice A71 ((bsd (kvC l (cl.take i)) (cl.getD i qAy).k d (s71-d)).length) c71,.bool (qBB (kvC l (cl.take i)) (cl.getD i qAy).k s71),Str (qC0 (kvC l (cl.take i)) (cl.getD i qAy).k s71),Str (qDL (kvC l (cl.take i)) (cl.getD i qAy).k s71)] 160) O O O qXH qXH el160 O hst xD ((qAj (q:=True) (xs:=qGZ [(⟨(cl.getD i qAy).k,(cl.getD i qAy).v,A71,c71,(bsd (kvC l (cl.take i)) (cl.getD i qAy).k d (s71-d)),qBB (kvC l (cl.take i)) (cl.getD i qAy).k s71,qC0 (kvC l (cl.take i)) (cl.getD i qAy).k s71,qDL (kvC l (cl.take i)) (cl.getD i qAy).k s71⟩:qBA)]) O (by intro x hx;rw [List.mem_singleton.1 hx];rfl)).sl) O xB xB) O ?_
    rintro⟨A84,c84,m84⟩ h84
    try dsimp only at h84
    replace h84:Row m84 160 6 A84 (L.length+1) c84 (qGZ (L++ [x])):=by rw [qOv,hx];exact h84
    rw [show L.length+1=(L++ [x]).length by rw [jA];rfl] at h84⊢
    refine vA 4 qMH sizeOf57 O O O O O<|vG (qAU (i:=3) O O O O O sizeOf57 O xD) O O λ_ _=>yi C24<|yt<|yh O<|vA 0 qFo z9_ O O O O O<|vF 6 b9_ O O O O O<|vA 1 qFo z9_ O O O O O<|vF 6 b9_ O O O O O<|yp (qAJ O O ent (vR 4 O (λF' hF=>qQJ F' mt g52 (kvC l (cl.take i)) ht ((cl.getD i qAy).k) ((cl.getD i qAy).v) (by first|omega|rfl|assumption)))) O ?_
    rintro m91 h91
    refine vW [0,7,1,2,3,4,5] [M,m71,F,blk g8 [I 0,I 0,Str [],Str [],.slice none 0 0] 59,blk g17 [I (b:Nat),I (d:Nat),Str (Sm.ndB l (kF b d) d),Str ([]),.slice A84 ((L++ [x]).length) c84] 59,m91,m84] O xC<|vk (λhj=>?_)
    refine y8<|vB<|yq (yu C19 ?_)
    exact yt<|yj ((qAM O O O xB).nat (i+1) xB) O<|yh O<|y8<|yq<|vE (i+1,L++ [x],A84,c84,m84,m91,U [M,m71]) hI2 ⟨by dsimp only;omega,qVl xB hL (by rw [hx]) (by rw [hx]),hok.snoc (by rw [hL,hx];exact qL0.of hfi (by have:=qSH l (cl.take i);rw [jF] at this;omega) hk16 hkv hst71 A71 c71),h84,by dsimp only;rw [qOE xB];exact h91,(hbs.mono (qEC hj)).snoc (by rw [hx];exact hr71.sl.mono (qIE hj))⟩ (Sub.of O) (λ_ h=>h)
  refine vK<|y6<|y6<|vL ?_
  refine yq (yu C15 ?_)
  refine ym λ_ C25=>?_
  have hfi:=hch.fine hf hln i
  refine yt<|yn 3 O<|yp (qAZ O O (λF' hF=>qGl F' (hK.mo hF) g52 (kvC l (cl.take i)) (ht.at.mono (Fa hF)) xG (kF b d) xM ((d:Nat):Int) (by first|assumption|exact qJR xG|exact qNJ xG xG))) O λg96 _=>?_
  rw [hmd]
  exact vA 3 qMH z9_ O O O O O<|vG (qAU (i:=3) O O O O O z9_ O xD) O O λ_ _=>yi C25<|yl λ_ C26=>vT 3 isAgg59 qTL O O O O O<|yh O<|vG (qAF (i:=2) (l:= [I 0,I 0,Str [],Str [],.slice none 0 0]) (vs:= [I (b:Nat),I (d:Nat),Str (Sm.ndB l (kF b d) d),Str (Sm.ndB (kvC l (cl.take i)) (kF b d) d),.slice As L.length cs]) O O O O O qTL O O) O O λ_ _=>yn 2 O<|yi C26<|yr<|vH hw0 (λ_ _ h=>h) (rv3 O (RV.blkA 2 O O isAgg59 qTL) O O) (qAf (⟨As,cs,ms,g52,mt,M,L⟩:MkR) (by rw [show i=cl.length by omega,jn]) ⟨by rw [hL,show i=cl.length by omega,jn],hok,hst,by rw [show i=cl.length by omega,jn] at ht;exact ht,hbs⟩ [1,4,5,0] O xC)
theorem qW2(L:List qBA){i:Nat}(h:i<L.length):(L.map qBA.chg).getD i qAy=(L.getD i qAW).chg:=by
 rw [jB,jB,jO,jD h];rfl
theorem qVm(L:List qBA):(L.map qBA.chg).map Chg.k=L.map qBA.k:=by rw [ze];rfl
theorem qCe.next{l:List Sm.PR}{d b:Nat}{L:List qBA}(hok:qCe l d L)(hch:qL4 b d (L.map qBA.chg))(hf:qCD l)(hln:l.length<=90000)(hd:d<=4){i:Nat}(hi:i<L.length):
    qFS (L.getD i qAW).bs (L.getD i qAW).th (L.getD i qAW).pk (L.getD i qAW).pv (L.getD i qAW).k d=Sm.ndB (kvC l ((L.map qBA.chg).take i)) (kF b d) d/\
    qGT (L.getD i qAW).bs (L.getD i qAW).th (L.getD i qAW).pk (L.getD i qAW).pv (L.getD i qAW).k (L.getD i qAW).v d=Sm.ndB (kvC l ((L.map qBA.chg).take (i+1))) (kF b d) d:=by
  have hs:=hok i hi
  have hc:=hch.at (i:=i) (by rw [jJ];exact hi)
  rw [qW2 L hi] at hc
  have h1:=(hch.fine hf hln i).k16
  have h2:=(hch.fine hf hln (i+1)).k16
  refine⟨hs.node.trans (qN2 h1 hc.1 hd hc.2.1),?_⟩
  rw [qOE (by rw [jJ];exact hi),qW2 L hi] at h2⊢
  exact hs.after.trans (qN2 h2 hc.1 hd hc.2.1)
theorem qPU{L:List qBA}(h: ∀x∈L,x.k.length<=1000000)(j:Nat):((L.map qBA.k).getD j []).length<=1000000:=by
 rw [jB,jO]
 by_cases hj:j<L.length
 . rw [jD hj];exact h _ (jU hj)
 . rw [je xB];decide
theorem qL4.small{b d:Nat}{L:List qBA}(h:qL4 b d (L.map qBA.chg)): ∀x∈L,x.k.length<=1000000:=λx hx=>by
 have:=h.k16 x.chg (List.mem_map.2 ⟨x,hx,O⟩)
 rw [show x.k.length=16 from this];decide
theorem qQO(F:Hp)(hK:yf F)(b d:Nat)(hd:d<=4)(hb:b<2^d)(old new:xA)(A0:yS)(n0 c0:Nat)(L:List qBA)(hs:Sl F 6 A0 n0 c0 (qGZ L))(l:List Sm.PR)(hf:qCD l)(hln:l.length<=90000)(hch:qL4 b d (L.map qBA.chg))(hok:qCe l d L)(hbs:qPh F L)(hold:old=Sm.ndB l (kF b d) d):Cz prog 16 [.agg #[I (b:Nat),I (d:Nat),Str (old),Str (new),.slice A0 n0 c0]] F (I (if new=Sm.ndB (kvC l (L.map qBA.chg)) (kF b d) d then 0 else 15:Nat)):=by
 have hLn:L.length=n0:=by have:=hs.1;simpa [qGZ] using this
 have hsk:=qPU hch.small
 have hmay:=hch.may hd hb
 rw [qVm] at hmay
 have hl256:=hch.len
 rw [jJ] at hl256
 refine y7 func16 O ntmps16 O (λw0 hw0=>?_)
 refine yl λ_ C1=>yp (qAi O O O) O λg1 _=>yh O<|yi C1<|yl λ_ C2=>yh O<|yi C2<|ym λ_ C3=>yl λ_ C4=>vA 4 qMH sizeOf57 O O O O O<|vF 1 isAgg57 O O O O O<|yj (qAN qXH O O) O<|yh O<|yi C4<|yz<|vN (X:=Nat×yS×Nat×Hp) (λζ=> [(1,Ptr g1),(3,.slice ζ.2.1 ((qHp L ζ.1).length) ζ.2.2.1),(13,.slice A0 n0 c0),(14,I (n0:Nat)),(15,I (ζ.1:Nat))]) (λζ=> [F,blk g1 [I (b:Nat),I (d:Nat),Str (old),Str (new),.slice A0 n0 c0] 59,ζ.2.2.2]) (λζ=>ζ.1<=n0/\Row ζ.2.2.2 9 1 ζ.2.1 (qHp L ζ.1).length ζ.2.2.1 (qAG (qHp L ζ.1))) (λζ=>n0-ζ.1) (0,none,0,(λ_=>none)) (⟨jH _,qBf.nil⟩) (Sub.of O) (λ_ h=>h.empty.pick [0,1,2] xC) ?_
 rintro⟨i,A1,c1,m1⟩ ⟨hi,hr1⟩ I0 hI0
 dsimp only at hi hr1⊢
 have hkl:=qSK (L:=L) (i:=i) xB
 refine yl λ_ C5=>yj (qAP O O O) O<|yi C5<|ym λ_ C6=>y1 O (λh16=>?_) (λh16=>?_)
 .
  refine yy C6<|ym λ_ C7=>yz<|yl λ_ C8=>yj (qAC O O O qXH sizeOf160 hs xB) O<|yj (qAb O O isAgg160 sizeOf160 (m:=F) xD (hs.elem (qKj xB)) O) O<|yp (qAO O zeroValue160 O) O λg5 _=>vG (qAF (i:=3) (l:= [Str [],Str [],.slice none 0 0,.bool false,Str [],Str []]) (vs:= [Str ((L.getD i qAW).k),Str ((L.getD i qAW).v),.slice (L.getD i qAW).bsA (L.getD i qAW).bs.length (L.getD i qAW).bsc,.bool ((L.getD i qAW).th),Str ((L.getD i qAW).pk),Str ((L.getD i qAW).pv)]) O O O O O sizeOf160 O O) O O λ_ _=>yi C8<|yt<|yh O<|vA 0 qJV qEE O O O O O<|vA 0 qFo z9_ O O O O O<|vF 3 b9_ O O O O O<|yp (qAE (l:= [.tmp 22]) (xs:= [[Str ((L.getD i qAW).k)]]) O O O O qAg el9 O xC xC xD) O λg23 _=>?_
  change J _ _ _ [_,_,_,_,blk g23 [Str ((L.getD i qAW).k)] 9] _
  refine yp (qAV (i:=2) (xs:=qAG (qHp L i)) (m2:=blk g23 [Str ((L.getD i qAW).k)] 9) (ys:= [[Str ((L.getD i qAW).k)]]) O O O qAg qAg el9 O hr1 xD ((qAz (q:=True) (qAG [(L.getD i qAW).k]) O (by simp [qAG]) O).sl) O xB xB) O ?_
  rintro⟨A24,c24,m24⟩ h24
  try dsimp only at h24
  change J _ ((24,.slice A24 (((qHp L i).length)+1) c24)::_) _ [_,_,m24,_,_] _
  rw [<-qBh] at h24
  refine yh O<|y8<|vB<|yq (yu C7 ?_)
  exact yt<|yj ((qAM O O O xB).nat (i+1) xB) O<|yh O<|y8<|yq<|vE (i+1,A24,c24,m24) hI0 ⟨by dsimp only;omega,by dsimp only;rw [qI2 xB,jA];exact h24⟩ ⟨O,by dsimp only;rw [qI2 xB,jA];rfl,O,O,O,yd⟩ (λ_ h=>h.pick [0,1,2] xC)
 refine vK<|y6<|y6<|vL ?_
 refine yq (yu C3 ?_)
 refine ym λ_ C9=>ym λ_ C10=>?_
 obtain rfl:i=L.length:=by omega
 rw [qSL] at hr1 hkl⊢
 refine yt<|vA 0 qMH z3_ O O O O O<|vF 1 b3_ O O O O O<|vA 1 qMH z3_ O O O O O<|vF 1 b3_ O O O O O<|yh O<|yp (qAZ O O (λF' hF=>qQM F' ((b:Nat):Int) ((d:Nat):Int) A1 ((L.map qBA.k).length) c1 (L.map qBA.k) (hr1.sl.mono (Fa hF)) xB xG)) O λg31 _=>yh O<|yi C10<|yl λ_ C11=>yh O<|yj ((qAQ O O O).no (by rw [hmay];decide)) O<|yi C11<|vC ?_
 refine yy C9<|yl λ_ C12=>vA 2 qMH z9_ O O O O O<|vF 1 b9_ O O O O O<|yh O<|yi C12<|ym λ_ C13=>yl λ_ C14=>vA 4 qMH sizeOf57 O O O O O<|vF 1 isAgg57 O O O O O<|yj (qAN qXH O O) O<|yh O<|yi C14<|yz<|vN (X:=Nat) (λζ=> [(1,Ptr g1),(7,Str (Sm.ndB (kvC l ((L.map qBA.chg).take ζ)) (kF b d) d)),(38,.slice A0 n0 c0),(39,I (n0:Nat)),(40,I (ζ:Nat))]) (λζ=> [F,blk g1 [I (b:Nat),I (d:Nat),Str (old),Str (new),.slice A0 n0 c0] 59,m1]) (λζ=>ζ<=L.length) (λζ=>L.length-ζ) 0 (jH _) ⟨O,yY (λz=>some (Str z)) hold,O,O,O,yd⟩ (λ_ h=>h) ?_
 rintro i hi I2 hI2
 refine yl λ_ C15=>yj (qAP O O O) O<|yi C15<|ym λ_ C16=>y1 O (λh41=>?_) (λh41=>?_)
 .
  refine yy C16<|ym λ_ C17=>yz<|ym λ_ C18=>?_
  have hso:=hok i xB
  have hgo:=hso.good
  have hpv:=hso.pv
  have hvl:=hso.val
  have hnx:=hok.next hch hf hln hd (i:=i) xB
  have hk16:=hgo.k16
  refine yt<|yj (qAC O O O qXH sizeOf160 hs xB) O<|yj (qAb O O isAgg160 sizeOf160 (m:=F) xD (hs.elem (qKj xB)) O) O<|yp (qAO O zeroValue160 O) O λg9 _=>vG (qAF (i:=3) (l:= [Str [],Str [],.slice none 0 0,.bool false,Str [],Str []]) (vs:= [Str ((L.getD i qAW).k),Str ((L.getD i qAW).v),.slice (L.getD i qAW).bsA (L.getD i qAW).bs.length (L.getD i qAW).bsc,.bool ((L.getD i qAW).th),Str ((L.getD i qAW).pk),Str ((L.getD i qAW).pv)]) O O O O O sizeOf160 O O) O O λ_ _=>yi C18<|ym λ_ C19=>yl λ_ C20=>vA 2 qJV qEa O O O O O<|yj (qAb O O qHD qEa (m:=blk g9 [Str ((L.getD i qAW).k),Str ((L.getD i qAW).v),.slice (L.getD i qAW).bsA (L.getD i qAW).bs.length (L.getD i qAW).bsc,.bool ((L.getD i qAW).th),Str ((L.getD i qAW).pk),Str ((L.getD i qAW).pv)] 160) xD (qAI.blk0.sub 2 4) O) O<|vA 0 qJV qEE O O O O O<|vA 0 qFo z9_ O O O O O<|vF 3 b9_ O O O O O<|vA 1 qMH z3_ O O O O O<|vF 1 b3_ O O O O O<|yp (qAZ O O (λF' hF=>qHv F' ((L.getD i qAW).bsA) ((L.getD i qAW).bsc) ((L.getD i qAW).bs) ((hbs i xB).mono (Fa hF)) ((L.getD i qAW).th) ((L.getD i qAW).pk) ((L.getD i qAW).pv) ((L.getD i qAW).k) d xG)) O λg51 _=>yj (qA5 O O) O<|yh O<|yv (qAA O O qJV O qEa O) O<|yv (qAb O O qHD qEa (m:=blk g9 [Str ((L.getD i qAW).k),Str ((L.getD i qAW).v),.slice (L.getD i qAW).bsA (L.getD i qAW).bs.length (L.getD i qAW).bsc,.bool ((L.getD i qAW).th),Str ((L.getD i qAW).pk),Str ((L.getD i qAW).pv)] 160) xD (qAI.blk0.sub 2 4) O) O<|yv (qAA O O qJV O qEE O) O<|yv (qAA O O qFo O z9_ O) O<|yv (qAD 3 O O O b9_ O) O<|yv (qAA O O qMH O z3_ O) O<|yv (qAD 1 O O O b3_ O) O<|vg (qAZ O O (λF' hF=>qGv F' (hK.mo hF) ((L.getD i qAW).bsA) ((L.getD i qAW).bsc) ((L.getD i qAW).bs) ((hbs i xB).mono (Fa hF)) ((L.getD i qAW).th) ((L.getD i qAW).pk) ((L.getD i qAW).pv) ((L.getD i qAW).k) d xG xG)) O λg61 _=>yh O<|yv ((qB9 O O O).no (λh=>h hnx.1)) O<|yh O<|yi C20<|vC ?_
  refine yy C19<|yl λ_ C21=>vA 2 qJV qEa O O O O O<|yj (qAb O O qHD qEa (m:=blk g9 [Str ((L.getD i qAW).k),Str ((L.getD i qAW).v),.slice (L.getD i qAW).bsA (L.getD i qAW).bs.length (L.getD i qAW).bsc,.bool ((L.getD i qAW).th),Str ((L.getD i qAW).pk),Str ((L.getD i qAW).pv)] 160) xD (qAI.blk0.sub 2 4) O) O<|vA 0 qJV qEE O O O O O<|vA 0 qFo z9_ O O O O O<|vF 3 b9_ O O O O O<|vA 0 qJV qEE O O O O O<|vA 1 qFo z9_ O O O O O<|vF 3 b9_ O O O O O<|vA 1 qMH z3_ O O O O O<|vF 1 b3_ O O O O O<|yp (qAZ O O (λF' hF=>qPo F' (hK.mo hF) ((L.getD i qAW).bsA) ((L.getD i qAW).bsc) ((L.getD i qAW).bs) ((hbs i xB).mono (Fa hF)) ((L.getD i qAW).th) ((L.getD i qAW).pk) ((L.getD i qAW).pv) ((L.getD i qAW).k) d xG ((L.getD i qAW).v) xI xG)) O λg76 _=>yn 5 O<|yi C21<|ym λ_ C22=>yl λ_ C23=>yh O<|yj ((qAQ O O O).no xC) O<|yi C23<|vC ?_
  refine yy C22<|yt<|yn 2 O<|y8<|vB<|yq (yu C17 ?_)
  exact yt<|yj ((qAM O O O xB).nat (i+1) xB) O<|yh O<|y8<|yq<|vE (i+1) hI2 xB ⟨O,yY (λz=>some (Str z)) hnx.2,O,O,O,yd⟩ (λ_ h=>h.pick [0,1,2] xC)
 refine vK<|y6<|y6<|vL ?_
 refine yq (yu C13 ?_)
 refine ym λ_ C24=>ym λ_ C25=>?_
 obtain rfl:i=L.length:=by omega
 rw [show(L.map qBA.chg).take L.length=L.map qBA.chg from jV (by rw [jJ];exact jL _)]
 refine yt<|yh O<|vA 3 qMH z9_ O O O O O<|vF 1 b9_ O O O O O<|yj (qB9 O O O) O<|yi C25<|y1 O (λh87=>?_) (λh87=>?_)
 .
  exact yl λ_ C26=>yh O<|yi C26<|yr<|y5<|yw hw0 O () (by first|(rw [yW (λe=>h87 e.symm)];rfl)|(rw [yX (Decidable.not_not.1 h87).symm];rfl)) yd [0] O xC
 exact yy C24<|yl λ_ C27=>yh O<|yi C27<|yr<|yw hw0 O () (by first|(rw [yW (λe=>h87 e.symm)];rfl)|(rw [yX (Decidable.not_not.1 h87).symm];rfl)) yd [0] O xC
end Go.Proofs.YtmemgokiolfdoaaGreatDoor