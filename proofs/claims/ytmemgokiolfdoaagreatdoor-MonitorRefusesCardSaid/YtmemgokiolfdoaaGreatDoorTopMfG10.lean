/- A part of the proof. -/
import Derived.Test.YtmemgokiolfdoaaGreatDoorTopMfG8
import Derived.Test.YtmemgokiolfdoaaGreatDoorTopMfG9
set_option maxRecDepth 100000
set_option maxHeartbeats 1000000
set_option linter.unusedSimpArgs false
set_option linter.unusedVariables false
namespace Go.Proofs.YtmemgokiolfdoaaGreatDoor
open Go Go.Fw Go.Proofs.Tryz
theorem qWQ: ∀r:Fin 32,1≤r.val→((UInt64.ofNat (18446744073709551616-r.val)).toNat&&&31)=32-r.val:=by decide+kernel
theorem qZQ(n:UInt64)(size:Nat)(j:Nat)(hj:j<size):(Sha.numB n size)[j]?=some (UInt64.ofNat (n.toNat/2^min (8*(size-1-j)) 64)).toUInt8:=by
 simp [Sha.numB,hj]
def qHw(l:xA)(k:Nat):List Value:=(l.take k).map B8++List.replicate (l.length-k) (.int .u8 0)
theorem qOh(l:xA)(size:Nat)(h:l.length=size):(List.replicate size [Value.int .u8 0]).flatten=qHw l 0:=by
 subst h
 unfold qHw
 induction l with
 |nil=>rfl
 |cons a l ih=>simp only [jD,yH,jb];rw [ih];simp [yH]
theorem qQd(l:xA)(k:Nat)(h:k≤l.length):(qHw l k).length=l.length:=by simp [qHw];omega
theorem qLx{α:Type}(a:List α)(v:α)(n:Nat)(x:α):(a++List.replicate (n+1) v).take a.length++ [x]++(a++List.replicate (n+1) v).drop (a.length+1)=(a++ [x])++List.replicate n v:=by
 rw [List.take_left,List.drop_append]
 simp [yH]
theorem qOi(l:xA)(k:Nat)(v:UInt8)(h:l[k]?=some v):qBE (qHw l k) k [B8 v]=qHw l (k+1):=by
 obtain ⟨hk,rfl⟩:=List.getElem?_eq_some_iff.1 h
 have e:l.length-k=(l.length-(k+1))+1:=xB
 have h2:=qLx ((l.take k).map B8) (Value.int .u8 0) (l.length-(k+1)) (B8 l[k])
 have h3:((l.take k).map B8).length=k:=by simp;omega
 rw [h3] at h2
 unfold qBE qHw
 rw [e,jJ,h2,jL hk,jN]
 rfl
theorem qQe(l:xA)(k:Nat)(h:l.length≤k):qHw l k=(qAh l).flatten:=by
 unfold qHw qAh
 rw [qBS,jY h,show l.length-k=0 by omega];simp
theorem el302:qCe prog 302 [.int .u32 0] 4:=qCe.of xH O
theorem qFU(F:Hp)(n:UInt64)(size:Nat)(hs:size≤8):
    Ct prog 189 [W64 n,I size] [F] (λx:Option Addr×Nat×Hp=> .slice x.1 size x.2.1) (λx=>Row x.2.2 5 1 x.1 size x.2.1 (qAh (Sha.numB n size))) (λx=> [F,x.2.2]):=by
  have hlen:=Sha.numB_length n size
  refine Ct.walk func189 O ntmps189 O (λw0 hw0=>?_)
  refine J.f λ_ j1=>J.b O<|J.c j1 ?_
  refine J.f λ_ j2=>J.b O<|J.k (qCJ O O qBy el5 xB xB) O λg8 _=>J.b O<|J.c j2 ?_
  refine J.q λ_ j3=>J.f λ_ j4=>J.b O<|J.g (qAQ qBy O O) O<|J.b O<|J.c j4 ?_
  refine J.T<|J.b8 (λk:Nat=> [(0,W64 n),(1,I size),(5,.slice (some ⟨g8,0,none⟩) size size),(10,I size),(11,I k)]) (λk=> [F,blk g8 (qHw (Sha.numB n size) k) 5]) (λk=>k≤size) (λk=>size-k) 0 (jG _) ⟨O,O,O,O,O,trivial⟩ (λ_ h=>by rw [←qOh _ size hlen];exact h) ?_
  intro k hk I0 hI0
  refine J.f λ_ j5=>J.g (qAS O O O) O<|J.c j5 ?_
  refine J.q λ_ j6=>J.Z O (λh12=>?_) (λh12=>?_)
  ·
    refine J.M j6 ?_
    refine J.q λ_ j7=>J.T<|J.f λ_ j8=>J.j 2 O<|J.c j8 ?_
    refine J.L<|J.j 4 O<|J.g (qA8 O O O xB) O<|J.b O<|J.g (qA8 O O O xB) O<|J.g (qDj O O O xB) O<|J.g (qGR (m:=8*(size-1-k)) O O (by show some _=some _;congr 2;omega)) O<|J.g (qGC O O qEp u5_) O<|J.g (qAl (j:=k) O O O qBy z5_ xB xB) O<|J.a8 (qAa (i:=1) O O O O O z5_ O (by rw [qQd (Sha.numB n size) k xB];show k+1≤_;omega)) O O λ_ _=>J.a5<|J.a4<|J.u (J.D j7 ?_)
    exact J.L<|J.g (qAR O O O xB) O<|J.b O<|J.a5<|J.u<|J.b0 (k+1) (λx (hx:x≤size∧size-x<size-k)=>hI0 x hx.1 hx.2) ⟨xB,xB⟩ ⟨O,O,O,O,O,trivial⟩ (λ_ h=>by rw [←qOi _ k _ (qZQ n size k xB)];exact h)
  refine J.b5<|J.a0<|J.a0<|J.b6 ?_
  refine J.u (J.D j3 ?_)
  refine J.f λ_ j9=>J.j 2 O<|J.c j9 ?_
  exact J.A<|J.E hw0 O (some ⟨g8,0,none⟩,size,blk g8 (qAh (Sha.numB n size)).flatten 5) O (qAp (by simp [qAh,hlen]) (by simp [qAh])) [0,1] (by rw [qQe (Sha.numB n size) k xB];rfl) xC
theorem qEl(F:Hp)(x:UInt32)(r:Nat)(h1:1≤r)(h2:r<32):
    Cz prog 284 [W32 x,I (-(r:Int))] F (W32 (Sha.rotr x r)):=by
  have hr:=qWQ ⟨r,h2⟩ h1
  have e1:((-(r:Int))%18446744073709551616).toNat=18446744073709551616-r:=xB
  have e3:IntKind.u64.wrap (32-((32-r:Nat):Int))=(r:Int):=by simp [IntKind.wrap,IntKind.bits,IntKind.signed];omega
  refine Ct.walk func284 O ntmps284 O (λw0 hw0=>?_)
  refine J.f λ_ j1=>J.b O<|J.c j1 ?_
  refine J.f λ_ j2=>J.b O<|J.g ((qCE O O u3_ qIu).as (congrArg (λz=>W64 (UInt64.ofNat z)) e1)) O<|J.g ((qNW (b:=31) O O O).as (v':= .int .u64 ((32-r:Nat):Int)) (by show Value.int .u64 _=_;rw [UInt64.toNat_and];exact congrArg (λz:Nat=>Value.int .u64 (z:Int)) hr)) O<|J.b O<|J.c j2 ?_
  refine J.f λ_ j3=>J.j 2 O<|J.g (qGS O O O) O<|J.j 2 O<|J.g (qIP O O O e3.symm) O<|J.g (qJE O O O) O<|J.g (qJG O O O) O<|J.b O<|J.c j3 ?_
  exact J.A<|J.E hw0 O () O trivial [0] O xC
theorem qUX(F:Hp):Cz prog 249 [] F (.agg (Sha.init.list.map W32).toArray):=by
 refine Ct.walk func249 O ntmps249 O (λw0 hw0=>?_)
 refine J.f λ_ j1=>J.k (qAJ O zeroValue357 O) O λg0 _=>J.c j1 ?_
 refine J.f λ_ j2=>J.g (qEx (l:= [.const (.int .u32 1779033703),.const (.int .u32 3144134277),.const (.int .u32 1013904242),.const (.int .u32 2773480762),.const (.int .u32 1359893119),.const (.int .u32 2600822924),.const (.int .u32 528734635),.const (.int .u32 1541459225)]) O O O qGK el302 zeroValue357 O O (by simp [Value.cells]) (r:=Sha.init.list.map W32) O) O<|J.a8 (qAa (i:=1) O O O O O sizeOf357 O xC) O O λ_ _=>J.c j2 ?_
 exact J.A<|J.a9 hw0 (λ_ _ h=>h) (rv1 O (RV.blkA 1 O O isAgg357 sizeOf357)) (qAi () O trivial [0] O xC)
def qEw(l:List UInt32):List Value:=l.map W32++List.replicate (64-l.length) (.int .u32 0)
theorem qHI(l:List UInt32)(h:l.length≤64):(qEw l).length=64:=by simp [qEw];omega
theorem qFK(l:List UInt32)(i:Nat)(h:i<l.length):(qEw l)[i]?=some (W32 (l.getD i 0)):=by
 unfold qEw
 rw [jg (by simpa using h),jO,jC h,jB,jC h]
 rfl
theorem qIK(l:List UInt32)(x:UInt32)(h:l.length<64):qBE (qEw l) l.length [W32 x]=qEw (l++ [x]):=by
 have e:64-l.length=(64-(l.length+1))+1:=xB
 have h2:=qLx (l.map W32) (Value.int .u32 0) (64-(l.length+1)) (W32 x)
 rw [jQ] at h2
 unfold qBE qEw
 rw [e,jJ,h2,jN,jA]
 rfl
theorem qQc(l:List UInt32)(j:Nat)(hj:l.length=16+j)(h:j<48):qBE (qEw l) (16+j) [W32 (l.getD j 0+Sha.sg0 (l.getD (j+1) 0)+l.getD (j+9) 0+Sha.sg1 (l.getD (j+14) 0))]=qEw (Sha.ext l):=by
 have h2:=qIK l (l.getD j 0+Sha.sg0 (l.getD (j+1) 0)+l.getD (j+9) 0+Sha.sg1 (l.getD (j+14) 0)) xB
 rw [hj] at h2
 rw [h2]
 unfold Sha.ext
 rw [hj,show 16+j-16=j by omega,show 16+j-15=j+1 by omega,show 16+j-7=j+9 by omega,show 16+j-2=j+14 by omega]
theorem qE4(b:xA)(k:Nat):Sha.firsts b (k+1)=Sha.firsts b k++ [Sha.word b k]:=by simp [Sha.firsts,zA]
theorem qOg(l:List UInt32)(h:l.length=64):qEw l=l.map W32:=by simp [qEw,h]
theorem qW6(l:List UInt32):(l.map W32).all Value.oneCell'=true:=by simp [Value.oneCell']
theorem getB{b:xA}{j:Nat}(h:j<b.length):b[j]?=some (b.getD j 0):=by rw [jB,jC h];rfl
theorem qLz(F:Hp)(A:Option Addr)(n c:Nat)(b:xA)(hl:Sl F 1 A n c (qAh b))(h64:64≤n):
    Cz prog 283 [.slice A n c] F (.agg ((Sha.sched b).map W32).toArray):=by
  have hn:b.length=n:=by have:=hl.1;simpa [qAh] using this
  have hb: ∀j,j<n→b[j]?=some (b.getD j 0):=λj hj=>getB xB
  refine Ct.walk func283 O ntmps283 O (λw0 hw0=>?_)
  refine J.f λ_ j1=>J.k (qAJ O zeroValue403 O) O λg2 _=>J.c j1 ?_
  refine J.f λ_ j2=>J.k (qAJ O zeroValue403 O) O λg3 _=>J.c j2 ?_
  refine J.q λ_ j3=>J.f λ_ j4=>J.b O<|J.c j4 ?_
  refine J.T<|J.b8 (λk:Nat=> [(0,.slice A n c),(2,Ptr g2),(3,Ptr g3),(10,I k)]) (λk=> [F,blk g2 (List.replicate 64 (.int .u32 0)) 403,blk g3 (qEw (Sha.firsts b k)) 403]) (λk=>k≤16) (λk=>16-k) 0 (jG _) ⟨O,O,O,O,trivial⟩ (λ_ h=>h) ?_
  intro k hk I0 hI0
  refine J.f λ_ j5=>J.g (qAS O O O) O<|J.c j5 ?_
  refine J.q λ_ j6=>J.Z O (λh11=>?_) (λh11=>?_)
  ·
    refine J.M j6 ?_
    refine J.q λ_ j7=>J.T<|J.f λ_ j8=>J.j 2 O<|J.c j8 ?_
    refine J.b2 [F] [35] (.y 0 (.y 1 (.y 2 (.y 3 (.y 4 (.y 5 (.y 6 (.y 7 (.y 8 (.y 9 (.y 10 (.y 11 (.y 12 (.y 13 (.y 14 (.y 15 (.y 16 (.y 17 (.y 18 (.y 19 (.y 20 (.y 21 (.y 22 (.y 23 (.y 24 (.y 25 (.y 26 (.y 27 (.y 28 (.y 29 (.y 30 (.y 31 (.y 32 (.y 33 (.y 34 (.e 35 .nil)))))))))))))))))))))))))))))))))))) Tryz.wide xF xD ?_
    iterate 3 refine J.G ?_
    refine J.p O ((qDj O O O xB).nat (4*k) xB) O O<|J.p O (qAE O O O qBy z5_ hl xB) O O<|J.p O (qAL O O b5_ (m:=F) xD (hl.elem (qBo (hb (4*k) xB)))) O O<|J.p O (qCx O O u5_ qJ3) O O<|J.p O (qGS O O O) O O<|J.G ?_
    refine J.G ?_
    refine J.p O ((qDj O O O xB).nat (4*k) xB) O O<|J.p O ((qAR O O O xB).nat (4*k+1) xB) O O<|J.p O (qAE O O O qBy z5_ hl xB) O O<|J.p O (qAL O O b5_ (m:=F) xD (hl.elem (qBo (hb (4*k+1) xB)))) O O<|J.p O (qCx O O u5_ qJ3) O O<|J.p O (qGS O O O) O O<|J.p O (qJG O O O) O O<|J.G ?_
    refine J.G ?_
    refine J.p O ((qDj O O O xB).nat (4*k) xB) O O<|J.p O ((qAR O O O xB).nat (4*k+2) xB) O O<|J.p O (qAE O O O qBy z5_ hl xB) O O<|J.p O (qAL O O b5_ (m:=F) xD (hl.elem (qBo (hb (4*k+2) xB)))) O O<|J.p O (qCx O O u5_ qJ3) O O<|J.p O (qGS O O O) O O<|J.p O (qJG O O O) O O<|J.G ?_
    refine J.G ?_
    refine J.p O ((qDj O O O xB).nat (4*k) xB) O O<|J.p O ((qAR O O O xB).nat (4*k+3) xB) O O<|J.p O (qAE O O O qBy z5_ hl xB) O O<|J.p O (qAL O O b5_ (m:=F) xD (hl.elem (qBo (hb (4*k+3) xB)))) O O<|J.p O (qCx O O u5_ qJ3) O O<|J.p O (qJG O O O) O O<|J.p O (qAo (i:=k) (j:=k) O O O qJ2 qCG xB xB) O O<|J.c1 O (qAa (i:=2) O O O O O qCG O (by rw [qHI (Sha.firsts b k) (by rw [Sha.firsts_length];omega)];show k+1≤_;omega)) O O O λ_ _=>J.b1<|J.a4<|J.u (J.D j7 ?_)
    exact J.L<|J.g (qAR O O O xB) O<|J.b O<|J.a5<|J.u<|J.b0 (k+1) (λx (hx:x≤16∧16-x<16-k)=>hI0 x hx.1 hx.2) ⟨xB,xB⟩ ⟨O,O,O,O,trivial⟩ (λ_ h=>by rw [qE4,←qIK _ _ (by rw [Sha.firsts_length];omega),Sha.firsts_length];exact h)
  refine J.b5<|J.a0<|J.a0<|J.b6 ?_
  refine J.u (J.D j3 ?_)
  refine J.q λ_ j9=>J.f λ_ j10=>J.b O<|J.c j10 ?_
  refine J.T<|J.b8 (λj:Nat=> [(2,Ptr g2),(3,Ptr g3),(5,I (16+j:Nat))]) (λj=> [F,blk g2 (List.replicate 64 (.int .u32 0)) 403,blk g3 (qEw (Sha.exts j (Sha.firsts b 16))) 403]) (λj=>j≤48) (λj=>48-j) 0 (jG _) ⟨O,O,O,trivial⟩ (λ_ h=>by rw [show k=16 by omega] at h;exact h) ?_
  intro j hj I1 hI1
  have hlj:(Sha.exts j (Sha.firsts b 16)).length=16+j:=by rw [Sha.exts_length,Sha.firsts_length]
  refine J.q λ_ j11=>J.f λ_ j12=>J.b O<|J.g (qAS O O O) O<|J.c j12 ?_
  refine J.Z O (λh50=>?_) (λh50=>?_)
  ·
    refine J.M j11 ?_
    refine J.q λ_ j13=>J.T<|J.q λ_ j14=>J.b2 [blk g3 (qEw (Sha.exts j (Sha.firsts b 16))) 403] [] (.y 0 (.y 1 (.y 2 (.y 3 (.y 4 (.y 5 (.y 6 (.y 7 (.y 8 (.y 9 .nil)))))))))) Tryz.wide xF xD ?_
    refine J.G ?_
    refine J.p O ((qA8 O O O xB).nat (j+1) xB) O O<|J.p O (qAo (i:=j+1) (j:=j+1) O O O qJ2 qCG xB xB) O O<|J.p O (qAC 0 O O O qDJ (qFK (Sha.exts j (Sha.firsts b 16)) (j+1) xB)) O O<|J.G ?_
    refine J.p O ((qA8 O O O xB).nat (j+14) xB) O O<|J.p O (qAo (i:=j+14) (j:=j+14) O O O qJ2 qCG xB xB) O O<|J.p O (qAC 0 O O O qDJ (qFK (Sha.exts j (Sha.firsts b 16)) (j+14) xB)) O O<|J.b7 ?_
    refine J.b7 ?_
    refine J.b1<|J.u (J.D j14 ?_)
    refine J.f λ_ j15=>J.b O<|J.k (qAY O O (λF' _=>qEl F' _ 7 xC xC)) O λg62 _=>J.b O<|J.k (qAY O O (λF' _=>qEl F' _ 18 xC xC)) O λg64 _=>J.g (qB0 O O O) O<|J.b O<|J.g (qJE O O O) O<|J.g (qB0 O O O) O<|J.b O<|J.c j15 ?_
    refine J.f λ_ j16=>J.b O<|J.k (qAY O O (λF' _=>qEl F' _ 17 xC xC)) O λg70 _=>J.b O<|J.k (qAY O O (λF' _=>qEl F' _ 19 xC xC)) O λg72 _=>J.g (qB0 O O O) O<|J.b O<|J.g (qJE O O O) O<|J.g (qB0 O O O) O<|J.b O<|J.c j16 ?_
    refine J.b2 [blk g3 (qEw (Sha.exts j (Sha.firsts b 16))) 403] [15] (.y 0 (.y 1 (.y 2 (.y 3 (.y 4 (.y 5 (.y 6 (.y 7 (.y 8 (.y 9 (.y 10 (.y 11 (.y 12 (.y 13 (.y 14 (.e 15 .nil)))))))))))))))) Tryz.wide xF xD ?_
    refine J.G ?_
    refine J.G ?_
    refine J.p O ((qA8 O O O xB).nat (j) xB) O O<|J.p O (qAo (i:=j) (j:=j) O O O qJ2 qCG xB xB) O O<|J.p O (qAC 0 O O O qDJ (qFK (Sha.exts j (Sha.firsts b 16)) (j) xB)) O O<|J.G ?_
    refine J.p O (qB2 O O O) O O<|J.G ?_
    refine J.p O ((qA8 O O O xB).nat (j+9) xB) O O<|J.p O (qAo (i:=j+9) (j:=j+9) O O O qJ2 qCG xB xB) O O<|J.p O (qAC 0 O O O qDJ (qFK (Sha.exts j (Sha.firsts b 16)) (j+9) xB)) O O<|J.p O (qB2 O O O) O O<|J.G ?_
    refine J.p O (qB2 O O O) O O<|J.p O (qAo (i:=16+j) (j:=16+j) O O O qJ2 qCG xB xB) O O<|J.c1 O (qAa (i:=2) O O O O O qCG O (by rw [qHI (Sha.exts j (Sha.firsts b 16)) xB];show 16+j+1≤_;omega)) O O O λ_ _=>J.b1<|J.a4<|J.u (J.D j13 ?_)
    exact J.L<|J.b O<|J.g (qAR O O O xB) O<|J.b O<|J.a5<|J.u<|J.b0 (j+1) (λx (hx:x≤48∧48-x<48-j)=>hI1 x hx.1 hx.2) ⟨xB,xB⟩ ⟨O,O,O,trivial⟩ (λ_ h=>by rw [Sha.exts,←qQc _ j hlj xB];exact h)
  refine J.b5<|J.a0<|J.a0<|J.b6 ?_
  refine J.u (J.D j9 ?_)
  refine J.q λ_ j17=>?_
  have hj48:j=48:=xB
  subst hj48
  refine J.L<|J.g (qAW 2 O O O isAgg403 sizeOf403 (qHI (Sha.exts 48 (Sha.firsts b 16)) (by rw [Sha.exts_length,Sha.firsts_length];decide))) O<|J.a8 (qAD (i:=1) (vs:=(Sha.sched b).map W32) O O O O (by show Array.mk _=_;exact congrArg _ (qOg _ (Sha.sched_length b))) (λw=>by rw [jQ,Sha.sched_length];exact sizeOf403 w) (qW6 _) (by rw [jQ,Sha.sched_length];rfl)) O O λ_ _=>?_
  change J _ _ _ [F,blk g2 ((Sha.sched b).map W32) 403,_] _
  refine J.c j17 ?_
  exact J.A<|J.a9 hw0 (λ_ _ h=>h) (rv1 O (RV.blkA 1 O O isAgg403 (λw=>by rw [jQ,Sha.sched_length];exact sizeOf403 w))) (qAi () O trivial [0] O xC)
theorem Sha.rnds_succ(ws:List UInt32)(s:Sha.St8)(i:Nat):Sha.rnds ws s (i+1)=Sha.rnd (ws.getD i 0) (Sha.K.getD i 0) (Sha.rnds ws s i):=rfl
theorem Sha.mix_eq(s:Sha.St8)(b:xA):Sha.mix s b=s.add (Sha.rnds (Sha.sched b) s 64):=rfl
theorem Sha.rnds_zero(ws:List UInt32)(s:Sha.St8):Sha.rnds ws s 0=s:=rfl
attribute [local irreducible] Sha.rnds Sha.sched Sha.mix
theorem qXw{m:Hp}{g off:Nat}{vs:List Value}{i:Nat}{v:Value}(h:qAG m ⟨g,off,none⟩ vs)(hi:vs[i]?=some v):qAG m ⟨g,off+i,none⟩ [v]:=by
 have:=h.sub i 1
 rw [Addr.add_lit] at this
 obtain ⟨hk,rfl⟩:=List.getElem?_eq_some_iff.1 hi
 rw [zD hk] at this
 exact this
theorem getW{l:List UInt32}{i:Nat}(h:i<l.length):(l.map W32)[i]?=some (W32 (l.getD i 0)):=by
 rw [jO,jC h,jB,jC h];rfl
def Sha.St8.adds(s t:Sha.St8)(k:Nat):List UInt32:=(s.add t).list.take k++s.list.drop k
theorem qU2(s t:Sha.St8)(k:Nat)(hk:k≤8):(s.adds t k).length=8:=by simp [Sha.St8.adds,Sha.St8.list];omega
theorem qU3(s t:Sha.St8): ∀k,k<8→(s.adds t k)[k]?=some (s.list.getD k 0)
 |0,_=>rfl|1,_=>rfl|2,_=>rfl|3,_=>rfl|4,_=>rfl|5,_=>rfl|6,_=>rfl|7,_=>rfl
 |n+8,h=>by omega
theorem qU1(s t:Sha.St8): ∀k,k<8→qBE ((s.adds t k).map W32) k [W32 (s.list.getD k 0+t.list.getD k 0)]=(s.adds t (k+1)).map W32
 |0,_=>rfl|1,_=>rfl|2,_=>rfl|3,_=>rfl|4,_=>rfl|5,_=>rfl|6,_=>rfl|7,_=>rfl
 |n+8,h=>by omega
theorem qU4(s t:Sha.St8):s.adds t 8=(s.add t).list:=rfl
theorem qNh(t:Sha.St8): ∀k,k<8→(t.list.map W32)[k]?=some (W32 (t.list.getD k 0))
 |0,_=>rfl|1,_=>rfl|2,_=>rfl|3,_=>rfl|4,_=>rfl|5,_=>rfl|6,_=>rfl|7,_=>rfl
 |n+8,h=>by omega
theorem qYq(F:Hp)(hK:qAG F ⟨3,0,none⟩ (Sha.K.map W32))(g:Nat)(s:Sha.St8)(A:Option Addr)(n c:Nat)(b:xA)(hl:Sl F 1 A n c (qAh b))(h64:64≤n):
    Ct prog 250 [Ptr g,.slice A n c] [blk g (s.list.map W32) 357,F] (λ_:Unit=> .tuple #[]) (λ_=>True) (λ_=> [blk g ((Sha.mix s b).list.map W32) 357,F]):=by
  refine Ct.walk func250 O ntmps250 O (λw0 hw0=>?_)
  refine J.f λ_ j1=>J.b O<|J.k (qAY O O (λF' hF=>qLz F' A n c b (hl.mono (Fa hF)) h64)) O λg21 _=>J.k (qAJ O zeroValue403 O) O λg4 _=>J.a8 (qAD (i:=2) (vs:=(Sha.sched b).map W32) O O O O O (λw=>by rw [jQ,Sha.sched_length];exact sizeOf403 w) (qW6 _) (by rw [jQ,Sha.sched_length];rfl)) O O λ_ _=>J.c j1 ?_
  refine J.q λ_ j2=>J.b2 [blk g (s.list.map W32) 357] [] (.y 0 (.y 1 (.y 2 (.y 3 (.y 4 (.y 5 (.y 6 (.y 7 (.y 8 (.y 9 (.y 10 (.y 11 (.y 12 (.y 13 (.y 14 (.y 15 (.y 16 (.y 17 (.y 18 (.y 19 (.y 20 (.y 21 (.y 22 (.y 23 (.y 24 (.y 25 (.y 26 (.y 27 (.y 28 (.y 29 (.y 30 (.y 31 (.y 32 (.y 33 (.y 34 (.y 35 (.y 36 (.y 37 (.y 38 (.y 39 .nil)))))))))))))))))))))))))))))))))))))))) Tryz.wide xF xD ?_
  refine J.G ?_
  refine J.p O (qAB O O) O O<|J.p O (qAo O O O qGK qCG xC O) O O<|J.p O (qAC 0 O O O qDJ O) O O<|J.G ?_
  refine J.p O (qAB O O) O O<|J.p O (qAo O O O qGK qCG xC O) O O<|J.p O (qAC 0 O O O qDJ O) O O<|J.G ?_
  refine J.p O (qAB O O) O O<|J.p O (qAo O O O qGK qCG xC O) O O<|J.p O (qAC 0 O O O qDJ O) O O<|J.G ?_
  refine J.p O (qAB O O) O O<|J.p O (qAo O O O qGK qCG xC O) O O<|J.p O (qAC 0 O O O qDJ O) O O<|J.G ?_
  refine J.p O (qAB O O) O O<|J.p O (qAo O O O qGK qCG xC O) O O<|J.p O (qAC 0 O O O qDJ O) O O<|J.G ?_
  refine J.p O (qAB O O) O O<|J.p O (qAo O O O qGK qCG xC O) O O<|J.p O (qAC 0 O O O qDJ O) O O<|J.G ?_
  refine J.p O (qAB O O) O O<|J.p O (qAo O O O qGK qCG xC O) O O<|J.p O (qAC 0 O O O qDJ O) O O<|J.G ?_
  refine J.p O (qAB O O) O O<|J.p O (qAo O O O qGK qCG xC O) O O<|J.p O (qAC 0 O O O qDJ O) O O<|J.b7 ?_
  iterate 7 refine J.b7 ?_
  refine J.b1<|J.u (J.D j2 ?_)
  refine J.q λ_ j3=>J.f λ_ j4=>J.b O<|J.c j4 ?_
  refine J.T<|J.b8 (λi:Nat=> [(0,Ptr g),(4,Ptr g4),(5,W32 (Sha.rnds (Sha.sched b) s i).a),(6,W32 (Sha.rnds (Sha.sched b) s i).b),(7,W32 (Sha.rnds (Sha.sched b) s i).c),(8,W32 (Sha.rnds (Sha.sched b) s i).d),(9,W32 (Sha.rnds (Sha.sched b) s i).e),(10,W32 (Sha.rnds (Sha.sched b) s i).f),(11,W32 (Sha.rnds (Sha.sched b) s i).g),(12,W32 (Sha.rnds (Sha.sched b) s i).h),(54,I i)]) (λ_=> [blk g (s.list.map W32) 357,F,blk g4 ((Sha.sched b).map W32) 403]) (λi=>i≤64) (λi=>64-i) 0 (jG _) ⟨O,O,by rw [Sha.rnds_zero];rfl,by rw [Sha.rnds_zero];rfl,by rw [Sha.rnds_zero];rfl,by rw [Sha.rnds_zero];rfl,by rw [Sha.rnds_zero];rfl,by rw [Sha.rnds_zero];rfl,by rw [Sha.rnds_zero];rfl,by rw [Sha.rnds_zero];rfl,O,trivial⟩ (λ_ h=>h) ?_
  intro i hi I0 hI0
  refine J.f λ_ j5=>J.g (qAS O O O) O<|J.c j5 ?_
  refine J.q λ_ j6=>J.Z O (λh55=>?_) (λh55=>?_)
  ·
    refine J.M j6 ?_
    refine J.q λ_ j7=>J.T<|J.f λ_ j8=>J.j 2 O<|J.c j8 ?_
    refine J.f λ_ j9=>J.b O<|J.k (qAY O O (λF' _=>qEl F' _ 6 xC xC)) O λg58 _=>J.b O<|J.k (qAY O O (λF' _=>qEl F' _ 11 xC xC)) O λg60 _=>J.g (qB0 O O O) O<|J.b O<|J.k (qAY O O (λF' _=>qEl F' _ 25 xC xC)) O λg63 _=>J.g (qB0 O O O) O<|J.b O<|J.c j9 ?_
    refine J.q λ_ j10=>?_
    have hiK:i<Sha.K.length:=by show i<64;omega
    refine J.b2 [blk g (s.list.map W32) 357,F,blk g4 ((Sha.sched b).map W32) 403] [] (.y 0 (.y 1 (.y 2 (.y 3 (.y 4 (.y 5 (.y 6 (.y 7 (.y 8 (.y 9 (.y 10 (.y 11 (.y 12 (.y 13 (.y 14 (.y 15 (.y 16 (.y 17 (.y 18 (.y 19 (.y 20 .nil))))))))))))))))))))) Tryz.wide xF xD ?_
    refine J.G ?_
    refine J.G ?_
    refine J.p O (qB2 O O O) O O<|J.G ?_
    refine J.G ?_
    refine J.p O (qFS O O O) O O<|J.G ?_
    refine J.p O (qTn O O) O O<|J.G ?_
    refine J.p O (qFS O O O) O O<|J.p O (qB0 O O O) O O<|J.p O (qB2 O O O) O O<|J.G ?_
    refine J.p O (qAo (i:=i) (j:=i) O O O qJ2 qCG xB xB) O O<|J.p O (qTl 1 O O qDJ O (by have h:=qXw hK (getW (l:=Sha.K) (i:=i) hiK);rw [jj] at h;exact h)) O O<|J.p O (qB2 O O O) O O<|J.G ?_
    refine J.p O (qAo (i:=i) (j:=i) O O O qJ2 qCG xB xB) O O<|J.p O (qAC 2 O O O qDJ (getW (l:=Sha.sched b) (i:=i) (by rw [Sha.sched_length];omega))) O O<|J.p O (qB2 O O O) O O<|J.b7 ?_
    refine J.b1<|J.u (J.D j10 ?_)
    refine J.f λ_ j11=>J.b O<|J.k (qAY O O (λF' _=>qEl F' _ 2 xC xC)) O λg86 _=>J.b O<|J.k (qAY O O (λF' _=>qEl F' _ 13 xC xC)) O λg88 _=>J.g (qB0 O O O) O<|J.b O<|J.k (qAY O O (λF' _=>qEl F' _ 22 xC xC)) O λg91 _=>J.g (qB0 O O O) O<|J.b O<|J.c j11 ?_
    refine J.f λ_ j12=>J.j 3 O<|J.g (qFS O O O) O<|J.j 2 O<|J.g (qFS O O O) O<|J.g (qB0 O O O) O<|J.j 2 O<|J.g (qFS O O O) O<|J.g (qB0 O O O) O<|J.g (qB2 O O O) O<|J.b O<|J.c j12 ?_
    refine J.L<|J.j 5 O<|J.g (qB2 O O O) O<|J.j 5 O<|J.g (qB2 O O O) O<|J.j 8 O<|J.a5<|J.a4<|J.u (J.D j7 ?_)
    exact J.L<|J.g (qAR O O O xB) O<|J.b O<|J.a5<|J.u<|J.b0 (i+1) (λx (hx:x≤64∧64-x<64-i)=>hI0 x hx.1 hx.2) ⟨xB,xB⟩ ⟨O,O,by rw [Sha.rnds_succ];rfl,by rw [Sha.rnds_succ];rfl,by rw [Sha.rnds_succ];rfl,by rw [Sha.rnds_succ];rfl,by rw [Sha.rnds_succ];rfl,by rw [Sha.rnds_succ];rfl,by rw [Sha.rnds_succ];rfl,by rw [Sha.rnds_succ];rfl,O,trivial⟩ (λ_ h=>h)
  refine J.b5<|J.a0<|J.a0<|J.b6 ?_
  refine J.u (J.D j3 ?_)
  refine J.q λ_ j13=>?_
  have hi64:i=64:=xB
  subst hi64
  refine J.L<|J.j 8 O<|J.g (qEx (l:= [.tmp 119,.tmp 120,.tmp 121,.tmp 122,.tmp 123,.tmp 124,.tmp 125,.tmp 126]) O O O underlying356 el302 zeroValue356 O O (by simp [Value.cells]) (r:=(Sha.rnds (Sha.sched b) s 64).list.map W32) O) O<|J.b O<|J.c j13 ?_
  refine J.T<|J.b8 (λk:Nat=> [(0,Ptr g),(127,.agg ((Sha.rnds (Sha.sched b) s 64).list.map W32).toArray),(128,I k)]) (λk=> [blk g ((s.adds (Sha.rnds (Sha.sched b) s 64) k).map W32) 357,F,blk g4 ((Sha.sched b).map W32) 403]) (λk=>k≤8) (λk=>8-k) 0 (jG _) ⟨O,O,O,trivial⟩ (λ_ h=>h) ?_
  intro k hk I2 hI2
  refine J.f λ_ j14=>J.g (qAS O O O) O<|J.c j14 ?_
  refine J.q λ_ j15=>J.Z O (λh129=>?_) (λh129=>?_)
  ·
    refine J.M j15 ?_
    refine J.q λ_ j16=>J.T<|J.f λ_ j17=>J.b O<|J.g (qJI O O O underlying356 qCG qDJ xB (by rw [Nat.mul_one,zF];exact qNh _ k xB)) O ?_
    refine J.j 2 O<|J.c j17 ?_
    refine J.b2 [blk g ((s.adds (Sha.rnds (Sha.sched b) s 64) k).map W32) 357] [9] (.y 0 (.y 1 (.y 2 (.y 3 (.y 4 (.y 5 (.y 6 (.y 7 (.y 8 (.e 9 .nil)))))))))) Tryz.wide xF xD ?_
    refine J.G ?_
    refine J.G ?_
    refine J.p O (qAB O O) O O<|J.p O (qAo (i:=k) (j:=k) O O O qGK qCG xB xB) O O<|J.p O (qAC 0 O O O qDJ (by rw [jO,qU3 s (Sha.rnds (Sha.sched b) s 64) k xB];rfl)) O O ?_
    refine J.G ?_
    refine J.p O (qB2 O O O) O O<|J.p O (qAB O O) O O<|J.p O (qAo (i:=k) (j:=k) O O O qGK qCG xB xB) O O<|J.c1 O (qAa (i:=0) O O O O O qCG O (by rw [jQ,qU2 s (Sha.rnds (Sha.sched b) s 64) k xB];show k+1≤_;omega)) O O O λ_ _=>J.b1<|J.a4<|J.u (J.D j16 ?_)
    exact J.L<|J.g (qAR O O O xB) O<|J.b O<|J.a5<|J.u<|J.b0 (k+1) (λx (hx:x≤8∧8-x<8-k)=>hI2 x hx.1 hx.2) ⟨xB,xB⟩ ⟨O,O,O,trivial⟩ (λ_ h=>by rw [←qU1 s (Sha.rnds (Sha.sched b) s 64) k xB];exact h)
  refine J.b5<|J.a0<|J.a0<|J.b6 ?_
  have hk8:k=8:=xB
  subst hk8
  exact J.d3 hw0 (λ_ _ h=>h) (qII O) (qAi () O trivial [0,1] (by rw [qU4,←Sha.mix_eq];rfl) xC)
end Go.Proofs.YtmemgokiolfdoaaGreatDoor
namespace Go.Proofs.YtmemgokiolfdoaaGreatDoor
open Go Go.Fw Go.Proofs.Tryz
theorem qUN(F:Hp)(A:Option Addr)(n c:Nat)(ls:List xA)(hl:Sl F 1 A n c (qAH ls))(htot:ls.flatten.length≤35184372088832)(hn47:n≤70368744177664):
    Cz prog 248 [.slice A n c,Str []] F (Str ls.flatten):=by
  have h:=qXV F A n c ls [] hl (by rw [qKv];exact htot) hn47
  rw [qKv] at h;exact h
theorem qEU(a b:xA):qAh (a++b)=qAh a++qAh b:=by simp [qAh]
theorem qIk(a:xA):(qAh a).all (λx=>x.all Value.oneCell')=true:=by simp [qAh,Value.oneCell']
theorem qPB(p:xA)(k N:Nat)(hN:p.length=N):((qAh (p.drop (64*k))).take (N-64*k)).drop 64=qAh (p.drop (64*(k+1))):=by
 rw [jY (by simp [qAh,hN])]
 unfold qAh
 rw [←List.map_drop,zi,Nat.mul_add]
def Sha.outs(t:Sha.St8)(k:Nat):xA:=(t.list.take k).flatMap λx=>Sha.numB x.toUInt64 4
theorem qHL(t:Sha.St8): ∀k,k<8→Sha.outs t (k+1)=Sha.outs t k++Sha.numB (t.list.getD k 0).toUInt64 4
 |0,_=>rfl|1,_=>rfl|2,_=>rfl|3,_=>rfl|4,_=>rfl|5,_=>rfl|6,_=>rfl|7,_=>rfl
 |n+8,h=>by omega
attribute [local irreducible] Sha.sum Sha.pad Sha.mixes Sha.numB
theorem qVE(F:Hp)(hK:qAG F ⟨3,0,none⟩ (Sha.K.map W32))(A:Option Addr)(n c:Nat)(ls:List xA)(hl:Sl F 1 A n c (qAH ls))(htot:ls.flatten.length≤17592186044416)(hn47:n≤70368744177664):
    Cz prog 190 [.slice A n c] F (Str (Sha.sum ls.flatten)):=by
  obtain ⟨l,hL⟩: ∃l,l=ls.flatten:=⟨_,rfl⟩
  have hJ:=qUN F A n c ls hl xB hn47
  rw [←hL] at hJ htot⊢
  have hpad:=Sha.pad_length l
  have hpm:=Sha.pad_mod l
  obtain ⟨p,hp⟩: ∃p,p=Sha.pad l:=⟨_,rfl⟩
  rw [←hp] at hpad hpm
  have hsum:Sha.sum l=Sha.out (Sha.mixes Sha.init p (p.length/64)):=by rw [hp];unfold Sha.sum;rfl
  have hpd:p=l++ [128]++List.replicate ((119-l.length%64)%64) 0++Sha.numB (8*UInt64.ofNat l.length) 8:=by rw [hp];unfold Sha.pad;rfl
  refine Ct.walk func190 O ntmps190 O (λw0 hw0=>?_)
  refine J.f λ_ j1=>J.b O<|J.c j1<|J.f λ_ j2=>J.b O<|J.k (qAI O O ent hJ) O λg10 _=>J.k (qIL O O u9_ qBy u5_) O ?_
  rintro⟨g11,c11,m11⟩ h11
  try dsimp only at h11
  refine J.b O<|J.c j2<|J.f λ_ j3=>J.b O<|J.g (qAQ qBy O O) O<|J.g (qAx O O u3_ qEp xB) O<|J.b O<|J.c j3<|J.f λ_ j4=>J.b O<|J.k (qAF (l:= [.const ((Value.int IntKind.u8 128))]) (xs:= [[B8 128]]) O O O O qBy el5 O xC xC xD) O λg16 _=>J.k (qAc (i:=1) (m2:=blk g16 [B8 128] 5) O O O qBy qBy el5 O h11 xD (qAp (q:=True) (xs:= [[B8 128]]) O xD).sl O xB xB) O ?_
  rintro⟨A17,c17,m17⟩ h17
  try dsimp only at h17
  rw [show [[B8 128]]=qAh [128] from rfl,←qEU] at h17
  refine J.c4 [0,1] [F,m17] O xC<|J.b O<|J.c j4<|J.q λ_ j5=>J.T<|J.b8 (X:=Nat×Option Addr×Nat×Hp) (λx=> [(3,.slice x.2.1 (l.length+1+x.1) x.2.2.1),(4,W64 (UInt64.ofNat l.length))]) (λx=> [F,x.2.2.2]) (λx=>x.1≤(119-l.length%64)%64∧Row x.2.2.2 5 1 x.2.1 (l.length+1+x.1) x.2.2.1 (qAh (l++ [128]++List.replicate x.1 0))) (λx=>(119-l.length%64)%64-x.1) (0,A17,c17,m17) (⟨jG _,by simpa using h17⟩) ⟨O,O,trivial⟩ (λ_ h=>h) ?_
  rintro⟨k,A1,c1,m⟩ ⟨hk,hrow⟩ I0 hI0
  dsimp only at hk hrow⊢
  refine J.q λ_ j6=>J.f λ_ j7=>J.b O<|J.g (qAQ qBy O O) O<|J.g (qKa O O O xB) O<|J.g (qAf O O O) O<|J.c j7<|J.Z O (λh21=>?_) (λh21=>?_)
  ·
    refine J.M j6<|J.T<|J.L<|J.b O<|J.k (qAF (l:= [.const ((Value.int IntKind.u8 0))]) (xs:= [[B8 0]]) O O O O qBy el5 O xC xC xD) O λg23 _=>J.k (qAc (i:=1) (m2:=blk g23 [B8 0] 5) O O O qBy qBy el5 O hrow xD (qAp (q:=True) (xs:= [[B8 0]]) O xD).sl O xB xB) O ?_
    rintro⟨A24,c24,m24⟩ h24
    try dsimp only at h24
    rw [show [[B8 0]]=qAh [0] from rfl,←qEU] at h24
    refine J.c4 [0,1] [F,m24] O xC<|J.b O<|J.a5<|J.a4<|J.u<|J.b0 (k+1,A24,c24,m24) (λx (hx:_∧(119-l.length%64)%64-x.1<(119-l.length%64)%64-k)=>hI0 x hx.1 hx.2) ⟨⟨by dsimp only;omega,by rw [List.replicate_succ',←jV];exact h24⟩,by dsimp only;omega⟩ ⟨O,O,trivial⟩ (λ_ h=>h)
  refine J.b5<|J.a0<|J.a0<|J.b6 ?_
  refine J.u (J.D j5 ?_)
  refine J.q λ_ j8=>?_
  have hkz:k=(119-l.length%64)%64:=xB
  refine J.L<|J.j 2 O<|J.g (qNT (a:=8) O O O) O<|J.k (qBP O O (λF' _=>qFU F' _ 8 xC)) O ?_
  rintro⟨A28,c28,m28⟩ h28
  try dsimp only at h28
  refine J.k (qAc (i:=1) (m2:=m28) O O O qBy qBy el5 O hrow xD h28.sl (qIk _) xB xB) O ?_
  rintro⟨A29,c29,m29⟩ h29
  try dsimp only at h29
  rw [←qEU] at h29
  refine J.c4 [0,1] [F,m29] O xC<|J.b O<|J.c j8<|J.q λ_ j9=>?_
  rw [hkz,←hpd] at h29
  rw [hkz,show l.length+1+(119-l.length%64)%64+8=p.length by omega] at*
  refine J.L<|J.k (qAY O O (λF' _=>qUX F')) O λg30 _=>J.k (qAJ O zeroValue357 O) O λg5 _=>J.a8 (qAD (i:=2) (vs:=Sha.init.list.map W32) O O O O O sizeOf357 (qW6 _) (by rfl)) O O λ_ _=>J.c j9<|J.q λ_ j10=>J.T<|J.b8 (X:=Nat×Option Addr×Nat) (λx=> [(3,.slice x.2.1 (p.length-64*x.1) x.2.2),(5,Ptr g5)]) (λx=> [F,m29,blk g5 ((Sha.mixes Sha.init p x.1).list.map W32) 357]) (λx=>64*x.1≤p.length∧Sl m29 1 x.2.1 (p.length-64*x.1) x.2.2 (qAh (p.drop (64*x.1)))) (λx=>p.length-64*x.1) (0,A29,c29) (⟨jG _,h29.sl⟩) ⟨O,O,trivial⟩ (λ_ h=>by unfold Sha.mixes;exact h) ?_
  rintro⟨k,A2,c2⟩ ⟨hk,hsl⟩ I2 hI2
  dsimp only at hk hsl⊢
  refine J.q λ_ j11=>J.f λ_ j12=>J.b O<|J.g (qAQ qBy O O) O<|J.g (qA7 O O O) O<|J.c j12<|J.Z O (λh33=>?_) (λh33=>?_)
  ·
    refine J.M j11<|J.q λ_ j13=>J.T ?_
    have hN:64≤p.length-64*k:=xB
    have hc2:=hsl.2.1
    refine J.L<|J.b O<|J.k (qAI O O ent (Ct.use1 2 O (λF' hF=>qYq F' (hK.mono (Fa hF)) g5 _ A2 (p.length-64*k) c2 (p.drop (64*k)) (hsl.mono (Fa hF)) xB))) O λg37 _=>J.a5<|J.a4<|J.u (J.D j13 ?_)
    refine J.L<|J.b O<|J.g (qCu (l:=64) (h:=p.length-64*k) O O qBy z5_ O O xB) O<|J.b O<|J.a5<|J.u ?_
    have hcut:=hsl.cut (lo:=64) (hi:=p.length-64*k) (mx:=c2) hN (jK _) hsl.2.1
    rw [qPB p k _ rfl] at hcut
    have hNN:p.length-64*k-64=p.length-64*(k+1):=xB
    refine J.b0 (k+1,_,c2-64) (λx (hx:_∧p.length-64*x.1<p.length-64*k)=>hI2 x hx.1 hx.2) ⟨⟨by dsimp only;omega,by rw [←hNN];exact hcut⟩,by dsimp only;omega⟩ ⟨by rw [←hNN];rfl,O,trivial⟩ (λ_ h=>by unfold Sha.mixes;exact h)
  refine J.b5<|J.a0<|J.a0<|J.b6 ?_
  refine J.u (J.D j10 ?_)
  refine J.q λ_ j14=>?_
  have hk64:k=p.length/64:=xB
  rw [←hk64] at hsum
  generalize Sha.mixes Sha.init p k=t at hsum⊢
  refine J.L<|J.b O<|J.c j14<|J.q λ_ j15=>J.f λ_ j16=>J.b9 2 isAgg357 sizeOf357 O O O O O<|J.c7 [0,3] [F,(λ_=>none)] O xC<|J.b O<|J.c j16<|J.T<|J.b8 (X:=Nat×Option Addr×Nat×Hp) (λx=> [(6,.slice x.2.1 (4*x.1) x.2.2.1),(38,.agg (t.list.map W32).toArray),(39,I x.1)]) (λx=> [F,x.2.2.2]) (λx=>x.1≤8∧Row x.2.2.2 5 1 x.2.1 (4*x.1) x.2.2.1 (qAh (Sha.outs t x.1))) (λx=>8-x.1) (0,none,0,λ_=>none) (⟨jG _,qBc.nil⟩) ⟨O,O,O,trivial⟩ (λ_ h=>h) ?_
  rintro⟨k,A3,c3,m⟩ ⟨hk,hrow⟩ I4 hI4
  dsimp only at hk hrow⊢
  refine J.f λ_ j17=>J.g (qAS O O O) O<|J.c j17<|J.q λ_ j18=>J.Z O (λh40=>?_) (λh40=>?_)
  ·
    refine J.M j18<|J.q λ_ j19=>J.T<|J.f λ_ j20=>J.g (qJI O O O qGK qCG qDJ xB (by rw [Nat.mul_one,zF];exact qNh _ k xB)) O ?_
    refine J.b O<|J.c j20<|J.L<|J.j 2 O<|J.g (qJK O O qJ3 qEp) O<|J.k (qBP O O (λF' _=>qFU F' _ 4 xC)) O ?_
    rintro⟨A45,c45,m45⟩ h45
    try dsimp only at h45
    refine J.k (qAc (i:=1) (m2:=m45) O O O qBy qBy el5 O hrow xD h45.sl (qIk _) xB xB) O ?_
    rintro⟨A46,c46,m46⟩ h46
    try dsimp only at h46
    rw [←qEU,←qHL t k xB] at h46
    refine J.c4 [0,1] [F,m46] O xC<|J.b O<|J.a5<|J.a4<|J.u (J.D j19 ?_)
    refine J.L<|J.g (qAR O O O xB) O<|J.b O<|J.a5<|J.u<|J.b0 (k+1,A46,c46,m46) (λx (hx:_∧8-x.1<8-k)=>hI4 x hx.1 hx.2) ⟨⟨by dsimp only;omega,h46⟩,by dsimp only;omega⟩ ⟨O,O,O,trivial⟩ (λ_ h=>h)
  refine J.b5<|J.a0<|J.a0<|J.b6 ?_
  refine J.u (J.D j15 ?_)
  refine J.q λ_ j21=>?_
  have hk8:k=8:=xB
  subst hk8
  exact J.L<|J.b O<|J.g (qB1 O O qBy u5_ u9_ (m:=m) xD hrow.sl) O<|J.b O<|J.c j21<|J.A<|J.E hw0 O () (by rw [hsum];rfl) trivial [0] O xC
namespace Sha
def tagParts(tag:UInt8)(ls:List xA)(k:Nat):List xA:= [[tag]]++(ls.take k).flatMap λs=> [numB (UInt64.ofNat s.length) 4,s]
def tagB(tag:UInt8)(ls:List xA):xA:= [tag]++ls.flatMap λs=>numB (UInt64.ofNat s.length) 4++s
def tagged(tag:UInt8)(ls:List xA):xA:=(sum (tagB tag ls)).take 16
theorem tagParts_succ(tag:UInt8)(ls:List xA)(k:Nat){s:xA}(h:ls[k]?=some s):tagParts tag ls (k+1)=tagParts tag ls k++ [numB (UInt64.ofNat s.length) 4,s]:=by
 obtain ⟨hk,rfl⟩:=List.getElem?_eq_some_iff.1 h
 unfold tagParts
 rw [jL hk,List.flatMap_append,←jV]
 simp
theorem tagParts_flat(tag:UInt8)(ls:List xA):(tagParts tag ls ls.length).flatten=tagB tag ls:=by
 unfold tagParts tagB
 rw [jo,zK]
 congr 1
 induction ls with
 |nil=>rfl
 |cons a l ih=>rw [List.flatMap_cons,List.flatMap_cons,zK,ih];simp
theorem tagB_length(tag:UInt8)(ls:List xA):(tagB tag ls).length=1+4*ls.length+ls.flatten.length:=by
 unfold tagB
 rw [jA]
 induction ls with
 |nil=>rfl
 |cons a l ih=>simp only [List.flatMap_cons,jA,numB_length,jD,jb,jF] at ih⊢;omega
theorem tagged_length(tag:UInt8)(ls:List xA):(tagged tag ls).length=16:=by rw [tagged,jE,sum_length];rfl
def hi(b:UInt8):UInt8:=UInt8.ofNat (b.toNat/2^min 4 8)
end Sha
theorem qCI(a b:List xA):qAH (a++b)=qAH a++qAH b:=by simp [qAH]
theorem qT9{ls:List xA}{k:Nat}{s:xA}(h:ls[k]?=some s):s.length≤ls.flatten.length:=by
 have:s∈ls:=jM h
 induction ls generalizing k with
 |nil=>cases this
 |cons a l ih=>
  cases k with
  |zero=>simp at h;subst h;simp
  |succ k=>simp only [jb,jA];simp only [List.getElem?_cons_succ] at h;have:=ih h (jM h);omega
attribute [local irreducible] Sha.tagParts Sha.tagB
theorem qA5(F:Hp)(hK:qAG F ⟨3,0,none⟩ (Sha.K.map W32))(tag:UInt8)(A:Option Addr)(n c:Nat)(ls:List xA)(hl:Sl F 1 A n c (qAH ls))(htot:ls.flatten.length≤8796093022208)(hn:n≤1099511627776):
    Cz prog 106 [B8 tag,.slice A n c] F (Str (Sha.tagged tag ls)):=by
  have hlen:ls.length=n:=by have:=hl.1;simpa [qAH] using this
  have htl:=Sha.tagB_length tag ls
  have hfl:=Sha.tagParts_flat tag ls
  rw [hlen] at hfl htl
  refine Ct.walk func106 O ntmps106 O (λw0 hw0=>?_)
  refine J.f λ_ j1=>J.b O<|J.c j1<|J.f λ_ j2=>J.b O<|J.k (qAF (l:= [.tmp 8]) (xs:= [[B8 tag]]) O O O O qBy el5 O xC xC xD) O λg9 _=>J.g (qB1 (l:= [tag]) O O qBy u5_ u9_ (m:=blk g9 [B8 tag] 5) xD (qAp (q:=True) (xs:= [[B8 tag]]) O xD).sl) O<|J.k (qAF (l:= [.tmp 10]) (xs:= [[Str [tag]]]) O O O O qAm el9 O xC xC xD) O λg11 _=>J.c4 [0,2] [F,blk g11 [Str [tag]] 9] O xC<|J.b O<|J.c j2<|J.q λ_ j3=>J.f λ_ j4=>J.b O<|J.g (qAQ qAm O O) O<|J.b O<|J.c j4<|J.T<|J.b8 (X:=Nat×Option Addr×Nat×Hp) (λx=> [(5,.slice x.2.1 (2*x.1+1) x.2.2.1),(12,.slice A n c),(13,I n),(14,I x.1)]) (λx=> [F,x.2.2.2]) (λx=>x.1≤n∧Row x.2.2.2 9 1 x.2.1 (2*x.1+1) x.2.2.1 (qAH (Sha.tagParts tag ls x.1))) (λx=>n-x.1) (0,some ⟨g11,0,none⟩,1,blk g11 [Str [tag]] 9) (⟨jG _,by unfold Sha.tagParts;exact qAp (xs:=qAH [[tag]]) O (by simp [qAH])⟩) ⟨O,O,O,O,trivial⟩ (λ_ h=>h) ?_
  rintro⟨k,A1,c1,m⟩ ⟨hk,hrow⟩ I0 hI0
  dsimp only at hk hrow⊢
  refine J.f λ_ j5=>J.g (qAS O O O) O<|J.c j5<|J.q λ_ j6=>J.Z O (λh15=>?_) (λh15=>?_)
  ·
    refine J.M j6<|J.q λ_ j7=>J.T<|J.q λ_ j8=>?_
    have hkn:k<n:=xB
    obtain ⟨s,hs⟩: ∃s,ls[k]?=some s:=⟨_,jC xB⟩
    have hsl:=qT9 hs
    refine J.L<|J.g (qAE O O O qAm z9_ hl xB) O<|J.g (qAL O O b9_ xD (hl.elem (qAe hs))) O<|J.b O<|J.c j8<|J.L<|J.j 2 O<|J.g (qAv u9_ O O) O<|J.g (qAx O O u3_ qEp xB) O<|J.k (qBP O O (λF' _=>qFU F' _ 4 xC)) O ?_
    rintro⟨A22,c22,m22⟩ h22
    try dsimp only at h22
    refine J.g (qB1 O O qBy u5_ u9_ (m:=m22) xD h22.sl) O<|J.b O<|J.k (qAF (l:= [.tmp 23,.tmp 24]) (xs:= [[Str (Sha.numB (UInt64.ofNat s.length) 4)],[Str s]]) O O O O qAm el9 O xC xC xD) O λg25 _=>J.k (qAc (i:=1) (m2:=blk g25 [Str (Sha.numB (UInt64.ofNat s.length) 4),Str s] 9) O O O qAm qAm el9 O hrow xD (qAp (q:=True) (xs:=qAH [(Sha.numB (UInt64.ofNat s.length) 4),s]) O (by simp [qAH])).sl (by simp [qAH,Value.oneCell']) xB xB) O ?_
    rintro⟨A26,c26,m26⟩ h26
    try dsimp only at h26
    rw [←qCI,←Sha.tagParts_succ tag ls k hs] at h26
    refine J.c4 [0,1] [F,m26] O xC<|J.b O<|J.a5<|J.a4<|J.u (J.D j7 ?_)
    refine J.L<|J.g (qAR O O O xB) O<|J.b O<|J.a5<|J.u<|J.b0 (k+1,A26,c26,m26) (λx (hx:_∧n-x.1<n-k)=>hI0 x hx.1 hx.2) ⟨⟨by dsimp only;omega,h26⟩,by dsimp only;omega⟩ ⟨O,O,O,O,trivial⟩ (λ_ h=>h)
  refine J.b5<|J.a0<|J.a0<|J.b6 ?_
  refine J.u (J.D j3 ?_)
  refine J.q λ_ j9=>?_
  have hkn:n=k:=xB
  subst hkn
  exact J.L<|J.b O<|J.k (qAY O O (λF' hF=>qVE F' (hK.mono (Fa hF)) A1 (2*n+1) c1 (Sha.tagParts tag ls n) (hrow.sl.mono (Fa hF)) (by rw [hfl];omega) xB)) O λg29 _=>J.g (qBC (l:=0) (h:=16) u9_ O O O O (by rw [Sha.sum_length];omega)) O<|J.b O<|J.c j9<|J.A<|J.E hw0 O () (by rw [hfl];rfl) trivial [0] O xC
end Go.Proofs.YtmemgokiolfdoaaGreatDoor
namespace Go.Proofs.YtmemgokiolfdoaaGreatDoor
open Go Go.Fw Go.Proofs.Tryz
section
variable{P:Program}{env:Env}{rs:List Hp}{o:Oper}{t t':TypeId}{x y:Operand}{a b:UInt32}
end
attribute [local irreducible] Sha.rnds Sha.sched Sha.mix Sha.rotr Sha.exts
end Go.Proofs.YtmemgokiolfdoaaGreatDoor
namespace Go.Proofs.YtmemgokiolfdoaaGreatDoor
open Go Go.Fw Go.Proofs.Tryz
def qCR(ok:Bool)(e bad:Int):Int:=if ok=false∧bad=0 then e else bad
def qHn(ok:Bool)(e bad:Int)(l:List Value):List Value:=if ok=false∧bad=0 then qBE l 2 [I e] else l
theorem qJb{ok:Bool}{e bad:Int}{l:List Value}(hl:l.length=3):(qHn ok e bad l).length=3:=by
 unfold qHn
 split
 · rw [qDC xB];exact hl
 · exact hl
theorem qJd{ok:Bool}{e bad:Int}{l:List Value}(hl:l.length=3)(hb:l[2]?=some (I bad)):(qHn ok e bad l)[2]?=some (I (qCR ok e bad)):=by
 unfold qHn qCR
 split
 · exact qDD xB
 · exact hb
theorem qJc{ok:Bool}{e bad:Int}{g:Nat}{l:List Value}{mr:Hp}{bs:xA}{A:Option Addr}{c:Nat}{p:Option Addr}(hl:l.length=3)(hb:Bld g 0 l mr bs A c p):Bld g 0 (qHn ok e bad l) mr bs A c p:=by
 unfold qHn
 split
 · exact⟨(qBz xB xC).trans hb.a0,hb.self,(qBz xB xC).trans hb.a1,hb.row,hb.cap⟩
 · exact hb
theorem qRj(F:Hp)(g:Nat)(l:List Value)(hl:l.length=3)(bad:Int)(hb:l[2]?=some (I bad))(e:Int):
    Ct prog 134 [Ptr g,.bool true,I e] [blk g l 148,F] (λ_:Unit=> .bool (decide (qCR true e bad=0))) (λ_=>True) (λ_=> [blk g (qHn true e bad l) 148,F]):=by
  refine Ct.walk func134 O ntmps134 O (λw0 hw0=>?_)
  refine J.f λ_ j1=>J.b O<|J.c j1<|J.q λ_ j2=>J.f λ_ j3=>J.b O<|J.g (qAq O O) O<|J.j 7 O<|J.c j3<|J.a3 ?_
  exact J.M j2<|J.f λ_ j4=>J.b O<|J.g (qAB O O) O<|J.V 2 qG0 qLa O O O O O<|J.g (qAC 0 O O O qMk (by first|exact hb|exact qDD xB)) O<|J.g (qAU O O O) O<|J.b O<|J.c j4<|J.A<|J.E hw0 O () (congrArg Value.bool (decide_eq_decide.2 (by unfold qCR;rw [if_neg (show¬(true=false∧bad=0) from λh=>by cases h.1)]))) trivial [0,1] (by show [blk g _ _,F]= [blk g (qHn true e bad l) _,F];unfold qHn;rw [if_neg (show¬(true=false∧bad=0) from λh=>by cases h.1)]) xC
theorem qO7(F:Hp)(g:Nat)(l:List Value)(hl:l.length=3)(bad:Int)(hb:l[2]?=some (I bad))(e:Int):
    Ct prog 134 [Ptr g,.bool false,I e] [blk g l 148,F] (λ_:Unit=> .bool (decide (qCR false e bad=0))) (λ_=>True) (λ_=> [blk g (qHn false e bad l) 148,F]):=by
  refine Ct.walk func134 O ntmps134 O (λw0 hw0=>?_)
  refine J.f λ_ j1=>J.b O<|J.c j1<|J.q λ_ j2=>J.f λ_ j3=>J.b O<|J.g (qAq O O) O<|J.j 2 O<|J.H (qAB O O) O<|J.H (qAA O O qG0 O qLa O) O<|J.H (qAC 0 O O O qMk hb) O<|J.H (qAU O O O) O<|J.b O<|J.c j3<|J.Z O (λh15=>?_) (λh15=>?_)
  ·
    exact J.L<|J.j 2 O<|J.g (qAB O O) O<|J.V 2 qG0 qLa O O O O O<|J.a8 (qAa (i:=0) O O O O O qLa O (by rw [hl];exact jK 3)) O O λ_ _=>J.c j2<|J.f λ_ j4=>J.b O<|J.g (qAB O O) O<|J.V 2 qG0 qLa O O O O O<|J.g (qAC 0 O O O qMk (by first|exact hb|exact qDD xB)) O<|J.g (qAU O O O) O<|J.b O<|J.c j4<|J.A<|J.E hw0 O () (congrArg Value.bool (decide_eq_decide.2 (by unfold qCR;rw [if_pos (show false=false∧bad=0 from⟨O,xB⟩)]))) trivial [0,1] (by show [blk g _ _,F]= [blk g (qHn false e bad l) _,F];unfold qHn;rw [if_pos (show false=false∧bad=0 from⟨O,xB⟩)]) xC
  exact J.M j2<|J.f λ_ j5=>J.b O<|J.g (qAB O O) O<|J.V 2 qG0 qLa O O O O O<|J.g (qAC 0 O O O qMk (by first|exact hb|exact qDD xB)) O<|J.g (qAU O O O) O<|J.b O<|J.c j5<|J.A<|J.E hw0 O () (congrArg Value.bool (decide_eq_decide.2 (by unfold qCR;rw [if_neg (show¬(false=false∧bad=0) from λh=>h15 h.2)]))) trivial [0,1] (by show [blk g _ _,F]= [blk g (qHn false e bad l) _,F];unfold qHn;rw [if_neg (show¬(false=false∧bad=0) from λh=>h15 h.2)]) xC
theorem qMX(F:Hp)(g:Nat)(l:List Value)(hl:l.length=3)(bad:Int)(hb:l[2]?=some (I bad))(ok:Bool)(e:Int):
    Ct prog 134 [Ptr g,.bool ok,I e] [blk g l 148,F] (λ_:Unit=> .bool (decide (qCR ok e bad=0))) (λ_=>True) (λ_=> [blk g (qHn ok e bad l) 148,F]):=by
  cases ok
  · exact qO7 F g l hl bad hb e
  · exact qRj F g l hl bad hb e
def Wtr(m:Hp)(g:Nat)(bs:xA)(bad:Int):Prop:= ∃l mr A c p,m=U [blk g l 148,mr]∧Dj (blk g l 148) mr∧l.length=3∧Bld g 0 l mr bs A c p∧l[2]?=some (I bad)
theorem lies(l:List Value)(hl:l.length=3):liesAt prog prog.depth 148 (l.length/prog.cellsOf 148) 0 146 1=true:=by rw [hl];kernel_rfl
def okN(n:UInt64)(size:Nat):Bool:=decide (n.toNat<2^(8*size))
def qLi(n:UInt64)(size:Nat)(bs:xA)(bad:Int):xA:=if qCR (okN n size) 10 bad=0 then bs++Sha.numB n size else bs
def okF(s:xA)(size:Nat):Bool:=decide (s.length=size)
def qLk(s:xA)(size:Nat)(bs:xA)(bad:Int):xA:=if qCR (okF s size) 10 bad=0 then bs++s else bs
theorem qQy(n:UInt64)(size t:Nat)(h:t<size):(Sha.numB n size).take (t+1)=(Sha.numB n size).take t++ [(UInt64.ofNat (n.toNat/2^min (8*(size-1-t)) 64)).toUInt8]:=by
 rw [jL (by rw [Sha.numB_length];exact h)]
 congr 2
 simp [Sha.numB]
theorem qTJ(n:UInt64)(size:Nat)(h:size<8):(((UInt64.ofNat (n.toNat/2^min (8*size) 64)).toNat:Int)=0)↔n.toNat<2^(8*size):=by
  have hn:=n.toNat_lt
  rw [zf,je (zP (zr _ _) hn),jn xB]
  have hp:=jz (8*size)
  constructor
  · intro h0
    have h1:n.toNat/2^(8*size)=0:=xB
    rcases Nat.div_eq_zero_iff.1 h1 with h2|h2
    · omega
    · exact h2
  · intro h0
    rw [zJ h0];rfl
theorem qD2(F m:Hp)(g:Nat)(bs:xA)(bad:Int)(hw:Wtr m g bs bad)(hlen:bs.length≤1099511627776)(n:UInt64)(size:Nat)(h1:1≤size)(h8:size<8):
    Ct prog 133 [Ptr g,W64 n,I size] [m,F] (λ_:Hp=>Ptr g) (λm'=>Wtr m' g (qLi n size bs bad) (qCR (okN n size) 10 bad)) (λm'=> [m',F]):=by
  obtain ⟨l,mr,A,c,p,rfl,hd,hl,hb,hbad⟩:=hw
  have hfl:=qJb (ok:=(okN n size)) (e:=10) (bad:=bad) hl
  have hfb:=qJc (ok:=(okN n size)) (e:=10) (bad:=bad) hl hb
  have hf2:=qJd (ok:=(okN n size)) (e:=10) hl hbad
  refine Ct.walk func133 O ntmps133 O (λw0 hw0=>?_)
  refine J.e7 hd ?_
  refine J.f λ_ j1=>J.b O<|J.c j1<|J.q λ_ j2=>J.f λ_ j3=>J.b O<|J.g ((qA4 underlying149 O O O).as (v':= .bool false) O) O<|J.j 3 O<|J.H ((qBI O O O).yes xB) O<|J.j 2 O<|J.H ((qCV O O O).yes xB) O<|J.j 3 O<|J.H ((qAU O O O).no xB) O<|J.j 3 O<|J.H ((qDj O O O xB).nat (8*size) xB) O<|J.H (qGR O O O) O<|J.H ((qAU O O O).as (v':= .bool (okN n size)) (congrArg Value.bool (by unfold okN;exact decide_eq_decide.2 (qTJ n size h8)))) O<|J.j 2 O<|J.d0 (qAI O O ent (Ct.use1 0 O (λF' _=>qMX F' g l hl bad hbad (okN n size) 10))) O λg29 _=>J.H (qFt O O) O<|J.b O<|J.c j3<|J.Z O (λh31=>?_) (λh31=>?_)
  ·
    exact J.f λ_ j4=>J.j 2 O<|J.c j4<|J.A<|J.W<|J.a9 hw0 (λ_ _ h=>h) (qKP O O) (qCU (U [blk g (qHn (okN n size) 10 bad l) 148,mr]) O (λhd=>⟨_,mr,A,c,p,O,hd,hfl,by unfold qLi;rw [if_neg xB];exact hfb,hf2⟩) [0,1,2] O O xC)
  refine J.M j2<|J.q λ_ j5=>J.q λ_ j6=>?_
  have hok:qCR (okN n size) 10 bad=0:=xB
  refine J.L<|J.b O<|J.g ((qA8 O O O xB).as (v':=I ((size:Int)-1-((0:Nat):Int))) (congrArg I xB)) O<|J.b O<|J.c j6<|J.T<|J.b8 (X:=Nat×List Value×Hp) (λx=> [(0,Ptr g),(1,W64 n),(7,I ((size:Int)-1-(x.1:Int)))]) (λx=> [blk g x.2.1 148,x.2.2,F]) (λx=>x.1≤size∧x.2.1.length=3∧x.2.1[2]?=some (I (qCR (okN n size) 10 bad))∧ ∃A c p,Bld g 0 x.2.1 x.2.2 (bs++(Sha.numB n size).take x.1) A c p) (λx=>size-x.1) (0,(qHn (okN n size) 10 bad l),mr) (⟨jG _,hfl,hf2,A,c,p,by rw [zd,jP];exact hfb⟩) ⟨O,O,O,trivial⟩ (λ_ h=>h) ?_
  rintro⟨t,l2,mr2⟩ ⟨ht,hl2,hbad2,A2,c2,p2,hb2⟩ I0 hI0
  dsimp only at ht hl2 hbad2 hb2⊢
  refine J.q λ_ j7=>J.f λ_ j8=>J.b O<|J.g (qBI O O O) O<|J.c j8<|J.Z O (λh36=>?_) (λh36=>?_)
  ·
    refine J.M j7<|J.q λ_ j9=>J.T<|J.b2 [] [] (.y 0 (.y 1 (.y 2 (.y 3 (.y 4 (.y 5 (.y 6 (.y 7 (.e 8 .nil))))))))) Tryz.wide xF xD ?_
    refine J.G ?_
    refine J.p O (qAB O O) O O<|J.p O (qAA O O qG0 O sizeOf146 O) O O<|J.G ?_
    refine J.p O ((qAb O O).nat (size-1-t) xB) O O<|J.p O ((qDj O O O xB).nat (8*(size-1-t)) xB) O O<|J.p O (qGR O O O) O O<|J.p O (qGC O O qEp u5_) O O<|J.a1 O (qAI O O ent (Ct.useA [blk g l2 148,mr2] [F] (A':=λx:List Value×Hp=> [blk g x.1 148,x.2]) (new:=λ_=> []) (λF' _=>qJy F' mr2 g 148 0 l2 (bs++(Sha.numB n size).take t) A2 c2 p2 hb2 (lies l2 hl2) ((UInt64.ofNat (n.toNat/2^min (8*(size-1-t)) 64)).toUInt8) (by rw [jA,jE,Sha.numB_length];omega)))) O xD ?_
    rintro⟨l3,mr3⟩ ⟨A3,c3,hb3,hu3⟩
    dsimp only at hb3 hu3
    rw [jV,←qQy n size t xB] at hb3
    refine J.b1<|J.a4<|J.u (J.D j9 ?_)
    exact J.L<|J.b O<|J.g ((qA8 O O O xB).as (v':=I ((size:Int)-1-((t+1:Nat):Int))) (congrArg I xB)) O<|J.b O<|J.a5<|J.u<|J.b0 (t+1,l3,mr3) (λx (hx:_∧size-x.1<size-t)=>hI0 x hx.1 hx.2) ⟨⟨by dsimp only;omega,hu3.1.trans hl2,(hu3.2 2 xC xC).trans hbad2,A3,c3,_,hb3⟩,by dsimp only;omega⟩ ⟨O,O,O,trivial⟩ (λ_ h=>h)
  refine J.b5<|J.a0<|J.a0<|J.b6 ?_
  refine J.u (J.D j5 ?_)
  refine J.q λ_ j10=>?_
  have hts:t=size:=xB
  subst hts
  rw [jY (by rw [Sha.numB_length];exact jK _)] at hb2
  exact J.L<|J.j 2 O<|J.c j10<|J.A<|J.a9 hw0 (λ_ _ h=>h) (qKP O O) (qCU (U [blk g l2 148,mr2]) O (λhd=>⟨l2,mr2,A2,c2,p2,O,hd,hl2,by unfold qLi;rw [if_pos hok];exact hb2,hbad2⟩) [0,1,2] O O xC)
theorem qDc(F m:Hp)(g:Nat)(bs:xA)(bad:Int)(hw:Wtr m g bs bad)(hlen:bs.length≤1099511627776)(s:xA)(hs:s.length≤1099511627776)(size:Nat):
    Ct prog 60 [Ptr g,Str s,I size] [m,F] (λ_:Hp=>Ptr g) (λm'=>Wtr m' g (qLk s size bs bad) (qCR (okF s size) 10 bad)) (λm'=> [m',F]):=by
  obtain ⟨l,mr,A,c,p,rfl,hd,hl,hb,hbad⟩:=hw
  have hfl:=qJb (ok:=(okF s size)) (e:=10) (bad:=bad) hl
  have hfb:=qJc (ok:=(okF s size)) (e:=10) (bad:=bad) hl hb
  have hf2:=qJd (ok:=(okF s size)) (e:=10) hl hbad
  refine Ct.walk func60 O ntmps60 O (λw0 hw0=>?_)
  refine J.e7 hd ?_
  refine J.f λ_ j1=>J.b O<|J.c j1<|J.q λ_ j2=>J.f λ_ j3=>J.b O<|J.g ((qQn underlying149 O O O).as (v':= .bool true) O) O<|J.j 3 O<|J.H (qAv u9_ O O) O<|J.b O<|J.H ((qAU O O O).as (v':= .bool (okF s size)) (congrArg Value.bool (by unfold okF;exact decide_eq_decide.2 xB))) O<|J.d0 (qAI O O ent (Ct.use1 0 O (λF' _=>qMX F' g l hl bad hbad (okF s size) 10))) O λg15 _=>J.b O<|J.c j3<|J.Z O (λh16=>?_) (λh16=>?_)
  ·
    refine J.L<|J.b O<|J.g (qAB O O) O<|J.V 0 qG0 sizeOf146 O O O O O<|J.b O<|J.k (qAI O O ent (Ct.useA [blk g (qHn (okF s size) 10 bad l) 148,mr] [F] (A':=λx:List Value×Hp=> [blk g x.1 148,x.2]) (new:=λ_=> []) (λF' _=>qBU F' mr g 148 0 (qHn (okF s size) 10 bad l) bs A c p hfb (lies _ hfl) s xB))) O ?_
    rintro⟨l3,mr3⟩ ⟨A3,c3,hb3,hu3⟩
    dsimp only at hb3 hu3
    exact J.c j2<|J.f λ_ j4=>J.j 2 O<|J.c j4<|J.A<|J.a9 hw0 (λ_ _ h=>h) (qKP O O) (qCU (U [blk g l3 148,mr3]) O (λhd=>⟨l3,mr3,A3,c3,_,O,hd,hu3.1.trans hfl,by unfold qLk;rw [if_pos xG];exact hb3,(hu3.2 2 xC xC).trans hf2⟩) [0,1,2] O O xC)
  exact J.M j2<|J.f λ_ j5=>J.j 2 O<|J.c j5<|J.A<|J.a9 hw0 (λ_ _ h=>h) (qKP O O) (qCU (U [blk g (qHn (okF s size) 10 bad l) 148,mr]) O (λhd=>⟨_,mr,A,c,p,O,hd,hfl,by unfold qLk;rw [if_neg xG];exact hfb,hf2⟩) [0,1,2] O O xC)
theorem qN0{P:Program}{X:Type}{f:FuncId}{vs:List Value}{a b:Hp}{r:List Hp}{val:X→Value}{φ:X→Prop}{A B:X→Hp}{ψ:Hp→Prop}{v:Value}(hd:Dj a b)(hv: ∀x,φ x→val x=v)(hp: ∀x,φ x→Dj (A x) (B x)→ψ (U [A x,B x]))(h:Ct P f vs (a::b::r) val φ (λx=>A x::B x::r)):Ct P f vs (U [a,b]::r) (λ_:Hp=>v) ψ (λm=>m::r):=
 λw0 w hs=>(h w0 w (hs.splitU hd)).mono λe w' ⟨x,he,hx,hs'⟩=>⟨U [A x,B x],by rw [he,hv x hx],hp x hx hs'.dj2,hs'.joinU⟩
theorem failW(F m:Hp)(g:Nat)(bs:xA)(bad:Int)(hw:Wtr m g bs bad)(hlen:bs.length≤1099511627776)(ok:Bool)(e:Int):
    Ct prog 134 [Ptr g,.bool ok,I e] [m,F] (λ_:Hp=> .bool (decide (qCR ok e bad=0))) (λm'=>Wtr m' g bs (qCR ok e bad)) (λm'=> [m',F]):=by
  obtain ⟨l,mr,A,c,p,rfl,hd,hl,hb,hbad⟩:=hw
  exact qN0 (A:=λ_:Unit=>blk g (qHn ok e bad l) 148) (B:=λ_=>mr) hd (λ_ _=>rfl) (λ_ _ hd'=>⟨_,mr,A,c,p,O,hd',qJb hl,qJc hl hb,qJd hl hbad⟩) (Ct.use1 0 (m':=λ_:Unit=>blk g (qHn ok e bad l) 148) (new:=λ_=> []) O (λF' _=>qMX F' g l hl bad hbad ok e))
theorem qJx(F m:Hp)(g:Nat)(bs:xA)(bad:Int)(hw:Wtr m g bs bad)(hlen:bs.length≤2199023255552)(s:xA)(hs:s.length≤1099511627776):
    Ct prog 111 [.pointer (some ⟨g,0,none⟩),Str s] [m,F] (λ_:Hp=> .tuple #[I s.length,.nilIface]) (λm'=>Wtr m' g (bs++s) bad) (λm'=> [m',F]):=by
  obtain ⟨l,mr,A,c,p,rfl,hd,hl,hb,hbad⟩:=hw
  exact qN0 (A:=λx:List Value×Hp=>blk g x.1 148) (B:=λx=>x.2) hd (λ_ _=>rfl) (λx hx hd'=>by obtain ⟨A3,c3,hb3,hu3⟩:=hx;exact⟨x.1,x.2,A3,c3,_,O,hd',hu3.1.trans hl,hb3,(hu3.2 2 xC xC).trans hbad⟩) (qBU F mr g 148 0 l bs A c p hb (lies l hl) s xB)
def okT(s:xA):Bool:=decide (s.length≤4096)
def qLf(s:xA)(bs:xA)(bad:Int):xA:=if qCR (okT s) 2 bad=0 then bs++Sha.numB (UInt64.ofNat s.length) 2++s else bs
theorem qV1{s:xA}{bad:Int}(h:qCR (okT s) 2 bad=0):s.length≤4096∧bad=0:=by
  unfold qCR okT at h
  split at h
  · omega
  · rename_i h1
    refine⟨?_,h⟩
    simp only [decide_eq_false_iff_not] at h1
    omega
theorem qQu{n:Nat}(h:n≤4096):okN (UInt64.ofNat n) 2=true:=by
 unfold okN
 rw [decide_eq_true_iff,zf,je xB]
 omega
theorem qCj{n:UInt64}{size:Nat}{bs:xA}(h:okN n size=true):qLi n size bs 0=bs++Sha.numB n size:=by
 unfold qLi qCR
 rw [h];rfl
theorem qPq(F m:Hp)(g:Nat)(bs:xA)(bad:Int)(hw:Wtr m g bs bad)(hlen:bs.length≤1099511627776)(s:xA)(hs:s.length≤1099511627776):
    Ct prog 59 [Ptr g,Str s] [m,F] (λ_:Hp=>Ptr g) (λm'=>Wtr m' g (qLf s bs bad) (qCR (okT s) 2 bad)) (λm'=> [m',F]):=by
  refine Ct.walk func59 O ntmps59 O (λw0 hw0=>?_)
  refine J.f λ_ j1=>J.b O<|J.c j1<|J.q λ_ j2=>J.f λ_ j3=>J.b O<|J.g ((qA4 underlying149 O O O).as (v':= .bool false) O) O<|J.j 3 O<|J.H (qAv u9_ O O) O<|J.H ((qCV O O O).as (v':= .bool (okT s)) (congrArg Value.bool (by unfold okT;exact decide_eq_decide.2 xB))) O<|J.d0 (qAI O O ent (failW F m g bs bad hw hlen (okT s) 2)) O ?_
  rintro m1 hw1
  refine J.H (qFt O O) O<|J.b O<|J.c j3<|J.Z O (λh14=>?_) (λh14=>?_)
  ·
    exact J.f λ_ j4=>J.j 2 O<|J.c j4<|J.A<|J.W<|J.E hw0 O m1 O (by unfold qLf;rw [if_neg xB];exact hw1) [0,1] O xC
  refine J.M j2<|J.q λ_ j5=>?_
  have hok:qCR (okT s) 2 bad=0:=xB
  have hs4:=(qV1 hok).1
  rw [hok] at hw1
  refine J.L<|J.j 2 O<|J.g (qAv u9_ O O) O<|J.g (qAx O O u3_ qEp xB) O<|J.k (qAI O O ent ((qD2 F m1 g bs 0 hw1 hlen (UInt64.ofNat s.length) 2 xB xB))) O ?_
  rintro m2 hw2
  rw [qCj (qQu hs4),qQu hs4] at hw2
  refine J.c j5<|J.f λ_ j6=>J.b O<|J.g (qAB O O) O<|J.V 0 qG0 sizeOf146 O O O O O<|J.b O<|J.k (qAI O O ent (qJx F m2 g (bs++Sha.numB (UInt64.ofNat s.length) 2) 0 hw2 (by rw [jA,Sha.numB_length];omega) s hs)) O ?_
  rintro m3 hw3
  exact J.c j6<|J.f λ_ j7=>J.j 2 O<|J.c j7<|J.A<|J.E hw0 O m3 O (by unfold qLf;rw [if_pos hok,hok];exact hw3) [0,1] O xC
theorem qDe(F m:Hp)(g:Nat)(bs:xA)(bad:Int)(hw:Wtr m g bs bad)(hlen:bs.length≤2199023255552):
    Ct prog 61 [Ptr g] [m,F] (λ_:Hp=> .tuple #[Str (if bad=0 then bs else []),I bad]) (λm'=>Wtr m' g bs bad) (λm'=> [m',F]):=by
  obtain ⟨l,mr,A,c,p,rfl,hd,hl,hb,hbad⟩:=hw
  refine Ct.walk func61 O ntmps61 O (λw0 hw0=>?_)
  refine J.e7 hd ?_
  refine J.f λ_ j1=>J.j 2 O<|J.c j1<|J.q λ_ j2=>J.T<|J.f λ_ j3=>J.b O<|J.g ((qA4 underlying149 O O O).as (v':= .bool false) O) O<|J.b O<|J.c j3<|J.a3 ?_
  refine J.f λ_ j4=>J.b O<|J.g (qAB O O) O<|J.V 2 qG0 qLa O O O O O<|J.g (qAC 0 O O O qMk hbad) O<|J.g (qAf O O O) O<|J.b O<|J.c j4<|J.Z O (λh7=>?_) (λh7=>?_)
  ·
    refine J.q λ_ j5=>J.b2 [blk g l 148,mr,F] [] (.y 0 (.y 1 (.y 2 (.y 3 (.y 4 (.y 5 .nil)))))) Tryz.wide xF xD ?_
    refine J.G ?_
    refine J.p O (qAB O O) O O<|J.p O (qAA O O qG0 O qLa O) O O<|J.p O (qAC 0 O O O qMk hbad) O O<|J.b7 ?_
    refine J.b7 ?_
    refine J.b1<|J.u (J.D j5 ?_)
    exact J.A<|J.a7<|J.W<|J.a9 hw0 (λ_ _ h=>h) (qBs O O O) (qCU (U [blk g l 148,mr]) (by rw [if_neg xB]) (λhd=>⟨l,mr,A,c,p,O,hd,hl,hb,hbad⟩) [0,1,2] O O xC)
  refine J.b3<|J.a4<|J.u (J.D j2 ?_)
  refine J.q λ_ j6=>?_
  have hz:bad=0:=xB
  subst hz
  refine J.L<|J.b O<|J.g (qAB O O) O<|J.V 0 qG0 sizeOf146 O O O O O<|J.k (qAI O O ent (Ct.useA [blk g l 148,mr] [F] (A':=λx:Hp=> [blk g l 148,x]) (new:=λ_=> []) (λF' _=>qEV F' mr g 148 0 l bs A c p hb xB))) O ?_
  rintro mr2 hb2
  exact J.j 2 O<|J.c j6<|J.A<|J.a9 hw0 (λ_ _ h=>h) (qBs O O O) (qCU (U [blk g l 148,mr2]) (O) (λhd=>⟨l,mr2,A,c,p,O,hd,hl,hb2,hbad⟩) [0,1,2] O O xC)
structure RS where
 s:xA
 bad:Int
def RS.can(st:RS)(size:Nat):Bool:=decide (st.bad=0∧size≤st.s.length)
def RS.out(st:RS)(size:Nat):xA:=if st.bad=0∧size≤st.s.length then st.s.take size else []
def RS.take(st:RS)(size:Nat):RS:=if st.bad=0 then(if size≤st.s.length then⟨st.s.drop size,0⟩ else⟨st.s,3⟩) else st
def RS.form(st:RS):RS:=if st.bad=0 then⟨st.s,4⟩ else st
def qFv(l:xA):Nat:=l.foldl (λn c=>n*256+c.toNat) 0
theorem qQ6(l:xA)(t:Nat)(ht:t<l.length):qFv (l.take (t+1))=qFv (l.take t)*256+(l[t]'ht).toNat:=by
 rw [jL ht,qFv,List.foldl_append];rfl
theorem qQ7(l:xA)(c:UInt8):qFv (l++ [c])=qFv l*256+c.toNat:=by
 rw [qFv,List.foldl_append];rfl
theorem qTz(l:xA):qFv l.reverse<256^l.length:=by
 induction l with
 |nil=>decide
 |cons c l ih=>
  rw [List.reverse_cons,qQ7,jD,jx]
  have:=c.toNat_lt
  omega
theorem qMJ(l:xA):qFv l<256^l.length:=by
 have:=qTz l.reverse
 rwa [List.reverse_reverse,List.length_reverse] at this
theorem RS.out_len(st:RS)(size:Nat):(st.out size).length≤size:=by
 unfold RS.out
 split
 · rw [jE];omega
 · exact jG _
theorem qXH(l:xA)(n t:Nat)(h:l.length≤n)(hn:n≤8)(ht:t<l.length):qFv (l.take t)<72057594037927936:=
 zb (qMJ _) (jX (jm xB (show(l.take t).length≤7 by rw [jE];omega)) xC)
def RSb(g:Nat)(st:RS):Hp:=blk g [Str st.s,I st.bad] 314
theorem qWu{P:Program}{env:Env}{rs:List Hp}{o:Oper}{t t':TypeId}{x y:Operand}{a m:Nat}{yk:IntKind}(ho:o.op= .binOp .shl t x y t')(hx:ev env x=some (N64 a))(hy:ev env y=some (.int yk (m:Nat)))(hm:m≤64)(hr:a<18446744073709551616∧a*2^m<18446744073709551616):YOp P env rs o (N64 (a*2^m)):=by
 rw [N_W hr.1] at hx
 exact(qNQ ho hx hy).as (by show Value.int .u64 _=Value.int .u64 _;rw [qBF hr.1,jn hm,qBF hr.2])
theorem qYk{P:Program}{env:Env}{rs:List Hp}{o:Oper}{t t':TypeId}{x y:Operand}{a b:Nat}(ho:o.op= .binOp .or t x y t')(hx:ev env x=some (N64 a))(hy:ev env y=some (N64 b))(hr:a<18446744073709551616∧b<18446744073709551616):YOp P env rs o (N64 (a|||b)):=by
 rw [N_W hr.1] at hx
 rw [N_W hr.2] at hy
 exact(qQo ho hx hy).as (by show Value.int .u64 _=Value.int .u64 _;rw [UInt64.toNat_or,qBF hr.1,qBF hr.2])
theorem qYj(a b:Nat)(h:b<256):a*2^8|||b=a*256+b:=by
 rw [z6,←Nat.two_pow_add_eq_or_of_lt (i:=8) h]
theorem qWc(F:Hp)(s:xA):
    Ct prog 122 [Str s] [F] Ptr (λ_=>True) (λg=> [RSb g ⟨s,0⟩,F]):=by
  refine Ct.walk func122 O ntmps122 O (λw0 hw0=>?_)
  refine J.f λ_ j1=>J.b O<|J.c j1<|J.f λ_ j2=>J.b O<|J.g (qAM (places:= [(0,1),(1,1)]) (r:= [Str s,I 0]) O O O qLo zeroValue314 (λ_=>xH) O) O<|J.k (qAd O O O) O ?_
  rintro g5 _
  exact J.b O<|J.c j2<|J.A<|J.E hw0 O g5 O trivial [1,0] O xC
theorem qPs(F:Hp)(g:Nat)(st:RS)(size:Nat):
    Ct prog 201 [Ptr g,I size] [RSb g st,F] (λ_:Unit=> .tuple #[Str (st.out size),.bool (st.can size)]) (λ_=>True) (λ_=> [RSb g (st.take size),F]):=by
  obtain ⟨s,bad⟩:=st
  change Ct _ _ _ [blk g [Str s,I bad] 314,F] _ _ _
  refine Ct.walk func201 O ntmps201 O (λw0 hw0=>?_)
  refine J.f λ_ j1=>J.j 2 O<|J.c j1<|J.q λ_ j2=>J.f λ_ j3=>J.b O<|J.g ((qA4 underlying247 O O O).as (v':= .bool false) O) O<|J.j 2 O<|J.H (qAB O O) O<|J.H (qAA O O qLo O qLa O) O<|J.H (qAC 0 O O O qMk O) O<|J.H (qAf O O O) O<|J.b O<|J.c j3<|J.Z O (λh15=>?_) (λh15=>?_)
  ·
    exact J.f λ_ j4=>J.j 2 O<|J.c j4<|J.A<|J.W<|J.a9 hw0 (λ_ _ h=>h) (qBs O O O) (qAi () (by unfold RS.out RS.can;simp only [h15,false_and,if_false,decide_false]) trivial [0,1] (by unfold RS.take RSb;simp only [if_neg h15];rfl) xC)
  refine J.M j2<|J.q λ_ j5=>J.f λ_ j6=>J.j 2 O<|J.g (qAB O O) O<|J.V 0 qLo z9_ O O O O O<|J.a6 0 b9_ O O O O O<|J.g (qAv u9_ O O) O<|J.g (qA7 O O O) O<|J.c j6<|J.Z O (λh22=>?_) (λh22=>?_)
  ·
    exact J.f λ_ j7=>J.b O<|J.g (qAB O O) O<|J.V 1 qLo qLa O O O O O<|J.a8 (qAa (i:=0) O O O O O qLa O xD) O O λ_ _=>J.c j7<|J.f λ_ j8=>J.j 2 O<|J.c j8<|J.A<|J.W<|J.a9 hw0 (λ_ _ h=>h) (qBs O O O) (qAi () (by unfold RS.out RS.can;simp only [show¬size≤s.length by omega,and_false,if_false,decide_false]) trivial [0,1] (by unfold RS.take RSb;simp only [show bad=0 by omega,if_true,if_neg (show¬size≤s.length by omega)];rfl) xC)
  exact J.M j5<|J.f λ_ j9=>J.b O<|J.g (qAB O O) O<|J.V 0 qLo z9_ O O O O O<|J.a6 0 b9_ O O O O O<|J.b O<|J.g ((qBC u9_ O O O O ⟨xB,xB⟩).as (v':=Str (s.take size)) (congrArg Str zk)) O<|J.b O<|J.c j9<|J.f λ_ j10=>J.j 2 O<|J.g (qAB O O) O<|J.V 0 qLo z9_ O O O O O<|J.a6 0 b9_ O O O O O<|J.b O<|J.g ((qBC u9_ O O O O ⟨xB,xB⟩).as (v':=Str (s.drop size)) (by rw [jo])) O<|J.g (qAB O O) O<|J.V 0 qLo z9_ O O O O O<|J.a8 (qAa (i:=0) O O O O O z9_ O xD) O O λ_ _=>J.c j10<|J.f λ_ j11=>J.j 3 O<|J.c j11<|J.A<|J.a9 hw0 (λ_ _ h=>h) (qBs O O O) (qAi () (by unfold RS.out RS.can;simp only [show bad=0 by omega,show size≤s.length by omega,and_self,if_true,decide_true]) trivial [0,1] (by unfold RS.take RSb;simp only [show bad=0 by omega,if_true,if_pos (show size≤s.length by omega)];rfl) xC)
theorem qHA(F:Hp)(g:Nat)(st:RS)(size:Nat)(h1:1≤size)(h8:size≤8):
    Ct prog 123 [Ptr g,I size] [RSb g st,F] (λ_:Unit=>N64 (qFv (st.out size))) (λ_=>True) (λ_=> [RSb g (st.take size),F]):=by
  have hol:=st.out_len size
  have hlt:=qMJ (st.out size)
  refine Ct.walk func123 O ntmps123 O (λw0 hw0=>?_)
  refine J.f λ_ j1=>J.b O<|J.c j1<|J.q λ_ j2=>J.f λ_ j3=>J.b O<|J.g ((qAS O O O).no xB) O<|J.j 2 O<|J.H ((qA7 O O O).no xB) O<|J.b O<|J.c j3<|J.a3 ?_
  refine J.M j2<|J.f λ_ j4=>J.j 2 O<|J.k (qAI O O ent (Ct.use1 0 O (λF' _=>qPs F' g st size))) O λg20 _=>J.b O<|J.g (qAV O O O) O<|J.g (qAV O O O) O<|J.j 2 O<|J.c j4<|J.f λ_ j5=>J.b O<|J.c j5<|J.q λ_ j6=>J.f λ_ j7=>J.b O<|J.g (qAv u9_ O O) O<|J.b O<|J.c j7<|J.T<|J.b8 (X:=Nat) (λt=> [(5,Str (st.out size)),(7,N64 (qFv ((st.out size).take t))),(24,I (st.out size).length),(25,I t)]) (λ_=> [RSb g (st.take size),F]) (λt=>t≤(st.out size).length) (λt=>(st.out size).length-t) 0 (jG _) ⟨O,O,O,O,trivial⟩ (λ_ h=>h) ?_
  intro t ht I0 hI0
  refine J.f λ_ j8=>J.g (qAS O O O) O<|J.c j8<|J.q λ_ j9=>J.Z O (λh26=>?_) (λh26=>?_)
  ·
    refine J.M j9<|J.q λ_ j10=>J.T<|J.q λ_ j11=>?_
    have ht1:t<(st.out size).length:=xB
    have hnt:=qXH (st.out size) size t hol h8 ht1
    refine J.L<|J.j 2 O<|J.c j11<|J.L<|J.b O<|J.g (qWu (m:=8) O O O xB xB) O<|J.j 2 O<|J.g (qBk u9_ O O O (jC ht1)) O ?_
    refine J.g (qQp O O u5_ qEp) O<|J.g ((qYk O O O (by have:=(UInt8.toNat_lt ((st.out size)[t]'ht1));omega)).as (v':=N64 (qFv ((st.out size).take (t+1)))) (congrArg N64 ((qYj _ _ (UInt8.toNat_lt ((st.out size)[t]'ht1))).trans (qQ6 _ t ht1).symm))) O<|J.b O<|J.a5<|J.a4<|J.u (J.D j10 ?_)
    exact J.L<|J.g (qAR O O O xB) O<|J.b O<|J.a5<|J.u<|J.b0 (t+1) (λx (hx:_∧(st.out size).length-x<(st.out size).length-t)=>hI0 x hx.1 hx.2) ⟨xB,xB⟩ ⟨O,O,O,O,trivial⟩ (λ_ h=>h)
  refine J.b5<|J.a0<|J.a0<|J.b6 ?_
  refine J.u (J.D j6 ?_)
  refine J.q λ_ j12=>?_
  have hte:t=(st.out size).length:=xB
  subst hte
  exact J.L<|J.j 2 O<|J.c j12<|J.A<|J.E hw0 O () (by rw [jo]) trivial [0,1] O xC
theorem qKO(F:Hp)(g:Nat)(st:RS)(size:Nat):
    Ct prog 204 [Ptr g,I size] [RSb g st,F] (λ_:Unit=>Str (st.out size)) (λ_=>True) (λ_=> [RSb g (st.take size),F]):=by
  refine Ct.walk func204 O ntmps204 O (λw0 hw0=>?_)
  refine J.f λ_ j1=>J.b O<|J.c j1<|J.q λ_ j2=>J.f λ_ j3=>J.b O<|J.g ((qAS O O O).no xB) O<|J.c j3<|J.a3 ?_
  exact J.M j2<|J.f λ_ j4=>J.j 2 O<|J.k (qAI O O ent (Ct.use1 0 O (λF' _=>qPs F' g st size))) O λg14 _=>J.b O<|J.g (qAV O O O) O<|J.g (qAV O O O) O<|J.j 2 O<|J.c j4<|J.f λ_ j5=>J.j 2 O<|J.c j5<|J.A<|J.E hw0 O () O trivial [0,1] O xC
def RS.textR(st:RS):RS:=if 4096<qFv (st.out 2) then(st.take 2).form else(st.take 2).take (qFv (st.out 2))
def RS.last(st:RS):Int:=if st.bad=0 then(if st.s= [] then 0 else 2) else st.bad
theorem qGr(g:Nat):Wtr (blk g [.pointer none,.slice none 0 0,I 0] 148) g [] 0:=
 ⟨[.pointer none,.slice none 0 0,I 0],λ_=>none,none,0,none,by funext k;simp only [U];cases blk g [.pointer none,.slice none 0 0,I 0] 148 k<;>rfl,λ_=> .inr O,O,⟨O,.inl O,O,qBc.nil,.inl O⟩,O⟩
theorem qEF(s:xA)(n:Nat)(bs:xA)(bad:Int):(qLk s n bs bad).length≤bs.length+n:=by
 unfold qLk qCR okF
 by_cases h1:s.length=n<;>by_cases h2:bad=0<;>simp [h1,h2]
theorem qSm(n:UInt64)(size:Nat)(bs:xA)(bad:Int):(qLi n size bs bad).length≤bs.length+size:=by
 unfold qLi
 split
 · rw [jA,Sha.numB_length];omega
 · omega
theorem qME{s:xA}{n:Nat}(h:s.length=n):okF s n=true:=decide_eq_true h
theorem okF_f{s:xA}{n:Nat}(h: ¬s.length=n):okF s n=false:=decide_eq_false h
theorem qB8(e bad:Int):qCR true e bad=bad:=by simp [qCR]
theorem qGx{s:xA}{n:Nat}(h:s.length=n)(bs:xA):qLk s n bs 0=bs++s:=by
 unfold qLk;rw [qME h,qB8];simp
def qHD(o r:xA)(h:Int):Prop:=0≤h∧h≤6∧o.length=16∧r.length=16
instance (o r:xA) (h:Int):Decidable (qHD o r h):=by unfold qHD;infer_instance
def qBM(o r:xA)(h:Int):xA:=if qHD o r h then o++r++ [UInt8.ofNat h.toNat] else []
def qBL(o r:xA)(h:Int):Int:=if qHD o r h then 0 else 10
theorem numB1: ∀k,k<7→Sha.numB (UInt64.ofNat k) 1= [UInt8.ofNat k]:=by decide
theorem okN1: ∀k,k<7→okN (UInt64.ofNat k) 1=true:=by decide
def qOf(o r:xA):Int:=qCR (okF r 16) 10 (qCR (okF o 16) 10 0)
def pbs(o r:xA):xA:=qLk r 16 (qLk o 16 [] 0) (qCR (okF o 16) 10 0)
theorem qQN(o r:xA)(k:Nat)(hk:k≤6):qCR (okN (UInt64.ofNat k) 1) 10 (qOf o r)=qBL o r k:=by
 rw [okN1 k xB,qB8]
 unfold qOf qBL qHD okF qCR
 by_cases h1:o.length=16<;>by_cases h2:r.length=16<;>simp [h1,h2]<;>omega
theorem qYd(o r:xA)(k:Nat)(hk:k≤6)(h:qBL o r k=0):qLi (UInt64.ofNat k) 1 (pbs o r) (qOf o r)=qBM o r k:=by
  have hb:=qQN o r k hk
  unfold qLi qBM
  rw [hb,h,if_pos rfl,numB1 k xB]
  unfold qBL at h
  split at h
  · rename_i h1
    rw [if_pos h1]
    have h2:=h1
    unfold qHD at h2
    unfold pbs
    rw [qGx h2.2.2.1,qME h2.2.2.1,qB8,qGx h2.2.2.2];simp
  · omega
theorem qWj{o r:xA}{h:Int}(hn: ¬qBL o r h=0):qBM o r h= []:=by
 unfold qBL at hn;unfold qBM
 split at hn
 · omega
 · rename_i h1;rw [if_neg h1]
theorem qVI{o r:xA}{h:Int}(hn:h<0∨6<h):Value.tuple #[Str [],I 10]= .tuple #[Str (qBM o r h),I (qBL o r h)]:=by
 have h1: ¬qHD o r h:=by unfold qHD;omega
 unfold qBM qBL
 rw [if_neg h1,if_neg h1]
theorem qWi(o r:xA)(k:Nat)(hk:k≤6):Value.tuple #[Str (if qCR (okN (UInt64.ofNat k) 1) 10 (qOf o r)=0 then qLi (UInt64.ofNat k) 1 (pbs o r) (qOf o r) else []),I (qCR (okN (UInt64.ofNat k) 1) 10 (qOf o r))]= .tuple #[Str (qBM o r k),I (qBL o r k)]:=by
 rw [qQN o r k hk]
 by_cases h:qBL o r k=0
 · rw [if_pos h,qYd o r k hk h]
 · rw [if_neg h,qWj h]
theorem qEN(F:Hp)(o r:xA)(h:Int)(ho:o.length≤1048576)(hr:r.length≤1048576):
    Cz prog 58 [.agg #[Str o,Str r,I h]] F (.tuple #[Str (qBM o r h),I (qBL o r h)]):=by
  refine Ct.walk func58 O ntmps58 O (λw0 hw0=>?_)
  refine J.f λ_ j1=>J.k (qAd O O O) O λg1 _=>J.j 2 O<|J.c j1<|J.q λ_ j2=>J.f λ_ j3=>J.V 2 qLd z3_ O O O O O<|J.a6 1 b3_ O O O O O<|J.g (qAS O O O) O<|J.b O<|J.c0 (d:=8) O (λh8=>?_) (λh8=>?_)
  ·
    refine J.j 4 O<|J.c j3<|J.c2 ?_
    exact J.f λ_ j4=>J.j 2 O<|J.c j4<|J.A<|J.W<|J.a9 hw0 (λ_ _ h=>h) (qBs O O O) (qAi () (qVI xB) trivial [0] O xC)
  refine J.H (qAA O O qLd O z3_ O) O<|J.H (qAC 1 O O O b3_ O) O<|J.H (qA7 O O O) O<|J.b O<|J.c j3<|J.Z O (λh12=>?_) (λh12=>?_)
  ·
    exact J.f λ_ j5=>J.j 2 O<|J.c j5<|J.A<|J.W<|J.a9 hw0 (λ_ _ h=>h) (qBs O O O) (qAi () (qVI xB) trivial [0] O xC)
  refine J.M j2<|J.q λ_ j6=>?_
  obtain ⟨k,hk⟩:=zx (show 0≤h by omega)
  have hk6:k≤6:=xB
  refine J.L<|J.k (qAJ O qLA O) O λg4 _=>J.c j6<|J.q λ_ j7=>J.b2 [blk g1 [Str o,Str r,I h] 32] [] (.y 0 (.y 1 (.y 3 (.y 4 (.y 6 (.y 7 (.y 8 (.e 2 (.e 5 (.e 9 (.e 10 (.y 11 (.y 12 (.y 13 (.y 14 .nil))))))))))))))) Tryz.wide xF xD ?_
  refine J.p O (qAA O O qLd O z9_ O) O O<|J.p O (qAC 0 O O O b9_ O) O O<|J.p O (qAA O O qLd O z9_ O) O O<|J.p O (qAC 0 O O O b9_ O) O O<|J.p O (qAA O O qLd O z3_ O) O O<|J.p O (qAC 0 O O O b3_ O) O O<|J.p O ((qCE O O u3_ qEp).as (v':=W64 (UInt64.ofNat k)) (by rw [show(h%18446744073709551616).toNat=k by omega])) O O<|J.a1 O (qAI O O ent (Ct.use1 2 O (λF' _=>qDc F' (blk g4 [.pointer none,.slice none 0 0,I 0] 148) g4 [] 0 (qGr g4) xC o xB 16))) O xD ?_
  rintro m15 hw15
  refine J.a1 O (qAI O O ent (Ct.use1 2 O (λF' _=>qDc F' m15 g4 (qLk o 16 [] 0) (qCR (okF o 16) 10 0) hw15 (by have:=qEF o 16 [] 0;simp only [jF] at this;omega) r xB 16))) O xD ?_
  rintro m18 hw18
  refine J.a1 O (qAI O O ent (Ct.use1 2 O (λF' _=>qD2 F' m18 g4 (pbs o r) (qOf o r) hw18 (by have:=qEF o 16 [] 0;have h2:=qEF r 16 (qLk o 16 [] 0) (qCR (okF o 16) 10 0);simp only [jF] at this;unfold pbs;omega) (UInt64.ofNat k) 1 xB xB))) O xD ?_
  rintro m22 hw22
  refine J.a1 O (qAI O O ent (Ct.use1 2 O (λF' _=>qDe F' m22 g4 (qLi (UInt64.ofNat k) 1 (pbs o r) (qOf o r)) (qCR (okN (UInt64.ofNat k) 1) 10 (qOf o r)) hw22 (by have:=qEF o 16 [] 0;have h2:=qEF r 16 (qLk o 16 [] 0) (qCR (okF o 16) 10 0);have h3:=qSm (UInt64.ofNat k) 1 (pbs o r) (qOf o r);simp only [jF] at this;unfold pbs at h3⊢;omega)))) O xD ?_
  rintro m23 hw23
  refine J.c6 (Str (if qCR (okN (UInt64.ofNat k) 1) 10 (qOf o r)=0 then qLi (UInt64.ofNat k) 1 (pbs o r) (qOf o r) else [])) ?_
  refine J.c6 (I (qCR (okN (UInt64.ofNat k) 1) 10 (qOf o r))) ?_
  refine J.b7 ?_
  refine J.b7 ?_
  refine J.b1<|J.u (J.D j7 ?_)
  exact J.A<|J.a9 hw0 (λ_ _ h=>h) (qBs O O O) (qAi () (by subst hk;exact qWi o r k hk6) trivial [0] O xC)
theorem qZB(d:Nat)(o r o' r':xA)(h h':Int)(w:World):(Op.equalIn (d+2) 32 (.agg #[Str o,Str r,I h]) (.agg #[Str o',Str r',I h'])).run prog w= .ok (decide (o=o'∧r=r'∧h=h')) w:=by
 have u3:=u3_
 have a3:=b3_
 have us:=u9_
 have ag:=b9_
 have hS:prog.underlying 32=some (.struct (prog.fieldsOf 32)):=xH
 have hp:prog.stoodInHeld 32=false:=xH
 rw [show d+2=(d+1)+1 from rfl,run_equalIn_struct w (d+1) 32 _ _ hS hp]
 simp only [Program.fieldsOf,qLd]
 have hi: ∀(a b:Int) (w:World),(Op.equalIn (d+1) 3 (.int .i64 a) (.int .i64 b)).run prog w= .ok (a==b) w:=λa b w=>run_equalIn_int w d 3 .i64 .i64 a b u3
 have hs: ∀(a b:xA) (w:World),(Op.equalIn (d+1) 9 (Str a) (Str b)).run prog w= .ok (decide (a=b)) w:=λa b w=>by rw [run_equalIn_string w d 9 _ _ us,qFg]
 simp only [Op.eqFields]
 simp [part,a3,ag,hi,hs]
 by_cases h1:o=o'<;>by_cases h2:r=r'<;>by_cases h3:h=h'<;>simp [h1,h2,h3]
theorem qFq{o r:xA}{h:Int}(he:qBL o r h=0):(qBM o r h).length=33:=by
  unfold qBL at he;unfold qBM
  split at he
  · rename_i h1
    rw [if_pos h1]
    have h2:=h1
    unfold qHD at h2
    simp only [jA,jJ]
    omega
  · omega
theorem qMF(F m:Hp)(g:Nat)(bs:xA)(bad:Int)(hw:Wtr m g bs bad)(hlen:bs.length≤1099511627776)(n:Nat)(hn:n<18446744073709551616)(size:Nat)(h1:1≤size)(h8:size<8):
    Ct prog 133 [Ptr g,N64 n,I size] [m,F] (λ_:Hp=>Ptr g) (λm'=>Wtr m' g (qLi (UInt64.ofNat n) size bs bad) (qCR (okN (UInt64.ofNat n) size) 10 bad)) (λm'=> [m',F]):=by
  rw [N_W hn]
  exact qD2 F m g bs bad hw hlen (UInt64.ofNat n) size h1 h8
theorem qHx{n size:Nat}(hn:n<18446744073709551616)(h:n<2^(8*size)):okN (UInt64.ofNat n) size=true:=by
 unfold okN
 rw [qBF hn]
 exact decide_eq_true h
def qAj:xA:=List.replicate 16 0
def tb(s:xA):xA:=Sha.numB (UInt64.ofNat s.length) 2++s
def RS.after:RS→Nat→RS
 |st,0=>st
 |st,k+1=>(st.after k).textR
theorem qF7(s:xA):(tb s).length=2+s.length:=by unfold tb;rw [jA,Sha.numB_length]
theorem wtrN(g:Nat):Wtr (blk g [.pointer none,.slice none 0 0,I 0] 148) g [] 0:=
 ⟨[.pointer none,.slice none 0 0,I 0],λ_=>none,none,0,none,by funext k;simp only [U];cases blk g [.pointer none,.slice none 0 0,I 0] 148 k<;>rfl,λ_=> .inr O,O,⟨O,.inl O,O,qBc.nil,.inl O⟩,O⟩
theorem qMW(e:Int):qCR true e 0=0:=by unfold qCR;rw [if_neg xD]
theorem qQx(F m:Hp)(g:Nat)(bs:xA)(hw:Wtr m g bs 0)(hlen:bs.length≤1099511627776)(k size:Nat)(h1:1≤size)(h8:size<8)(hk:k<2^(8*size)):
    Ct prog 133 [Ptr g,N64 k,I size] [m,F] (λ_:Hp=>Ptr g) (λm'=>Wtr m' g (bs++Sha.numB (UInt64.ofNat k) size) 0) (λm'=> [m',F]):=by
  have hlt:k<18446744073709551616:=zb hk (jX (jm xC (show 8*size≤64 by omega)) xC)
  have hn:(UInt64.ofNat k).toNat=k:=qBF hlt
  have e:okN (UInt64.ofNat k) size=true:=by unfold okN;rw [hn];exact decide_eq_true hk
  have h:=qD2 F m g bs 0 hw hlen (UInt64.ofNat k) size h1 h8
  rw [qCj e,e,qMW] at h
  rw [N_W hlt];exact h
theorem qIw(F m:Hp)(g:Nat)(bs:xA)(hw:Wtr m g bs 0)(hlen:bs.length≤1099511627776)(s:xA)(hs:s.length≤4096):
    Ct prog 59 [Ptr g,Str s] [m,F] (λ_:Hp=>Ptr g) (λm'=>Wtr m' g (bs++tb s) 0) (λm'=> [m',F]):=by
  have h:=qPq F m g bs 0 hw hlen s xB
  have e:okT s=true:=decide_eq_true hs
  have e2:qLf s bs 0=bs++tb s:=by unfold qLf tb;rw [e,qMW,if_pos rfl,jV]
  rw [e2,e,qMW] at h;exact h
theorem qLJ(F m:Hp)(g:Nat)(bs:xA)(hw:Wtr m g bs 0)(hlen:bs.length≤1099511627776):
    Ct prog 61 [Ptr g] [m,F] (λ_:Hp=> .tuple #[Str bs,I (0:Nat)]) (λm'=>Wtr m' g bs 0) (λm'=> [m',F]):=by
  have h:=qDe F m g bs 0 hw xB
  rw [if_pos rfl] at h;exact h
theorem qHN{P:Program}{env:Env}{rs:List Hp}{o:Oper}{t t':TypeId}{x y:Operand}{a m:Nat}{yk:IntKind}(ho:o.op= .binOp .shr t x y t')(hx:ev env x=some (N64 a))(hy:ev env y=some (.int yk (m:Nat)))(hr:m≤64∧a<18446744073709551616):YOp P env rs o (N64 (a/2^m)):=by
 rw [N_W hr.2] at hx
 exact(qGR ho hx hy).as (by show Value.int .u64 _=Value.int .u64 _;rw [qBF hr.2,jn hr.1,qBF (zP (zr _ _) hr.2)])
theorem qW0{P:Program}{env:Env}{rs:List Hp}{o:Oper}{t u v x y z k a b c}(ho:o.op= .call {callee:= .builtin .min,args:= #[x,y,z],argTypes:= #[t,u,v]})(hx:ev env x=some (.int k a))(hy:ev env y=some (.int k b))(hz:ev env z=some (.int k c)):YOp P env rs o (.int k (min (min a b) c)):=λn ac w hk _=>by
 by_cases h:b<a<;>by_cases h2:c<(if b<a then b else a)<;>simp [execOp,ho,hk.ev hx,hk.ev hy,hk.ev hz,resolve,invoke,builtin,Builtin.min_,Builtin.min2,h] at h2⊢
 all_goals first|rw [if_pos xB]|rw [if_neg xB]
 all_goals omega
theorem and32{n:Nat}(h:n<4294967296):n&&&4294967295=n:=by
 have:=Nat.and_two_pow_sub_one_eq_mod n 32
 rw [show(2^32-1:Nat)=4294967295 from rfl] at this
 rw [this];exact je h
theorem qT0(F:Hp)(n:Nat)(hn:n<4294967296):
    Cz prog 192 [N64 1,N64 n] F (.tuple #[N64 0,N64 n]):=by
  refine Ct.walk func192 O ntmps192 O (λw0 hw0=>?_)
  exact J.f λ_ j1=>J.j 2 O<|J.c j1<|J.f λ_ j2=>J.b O<|J.g ((qMA (a:=1) (b:=4294967295) O O O xB).as (v':=N64 1) O) O<|J.b O<|J.c j2<|J.f λ_ j3=>J.b O<|J.g ((qHN (a:=1) (m:=32) O O O xB).as (v':=N64 0) O) O<|J.b O<|J.c j3<|J.f λ_ j4=>J.b O<|J.g ((qMA O O O xB).as (v':=N64 n) (congrArg N64 (and32 hn))) O<|J.b O<|J.c j4<|J.f λ_ j5=>J.b O<|J.g ((qHN (a:=n) (m:=32) O O O xB).as (v':=N64 0) (congrArg N64 (zJ xB))) O<|J.b O<|J.c j5<|J.f λ_ j6=>J.j 2 O<|J.g ((qHO O O O xB).as (v':=N64 n) (congrArg N64 (Nat.one_mul n))) O<|J.b O<|J.c j6<|J.f λ_ j7=>J.j 2 O<|J.g ((qHO O O O xB).as (v':=N64 0) (congrArg N64 (Nat.zero_mul n))) O<|J.b O<|J.g ((qHN (a:=n) (m:=32) O O O xB).as (v':=N64 0) (congrArg N64 (zJ xB))) O<|J.g ((qHQ O O O xB).as (v':=N64 0) O) O<|J.b O<|J.c j7<|J.f λ_ j8=>J.b O<|J.g ((qMA (a:=0) (b:=4294967295) O O O xB).as (v':=N64 0) O) O<|J.b O<|J.c j8<|J.f λ_ j9=>J.b O<|J.g ((qHN (a:=0) (m:=32) O O O xB).as (v':=N64 0) O) O<|J.b O<|J.c j9<|J.f λ_ j10=>J.j 3 O<|J.g ((qHO O O O xB).as (v':=N64 0) O) O<|J.g ((qHQ O O O xB).as (v':=N64 0) O) O<|J.b O<|J.c j10<|J.f λ_ j11=>J.j 2 O<|J.g ((qHO O O O xB).as (v':=N64 0) O) O<|J.b O<|J.g ((qHQ O O O xB).as (v':=N64 0) O) O<|J.b O<|J.g ((qHN (a:=0) (m:=32) O O O xB).as (v':=N64 0) O) O<|J.g ((qHQ O O O xB).as (v':=N64 0) O) O<|J.b O<|J.c j11<|J.f λ_ j12=>J.j 2 O<|J.g ((qHO O O O xB).as (v':=N64 n) (congrArg N64 (Nat.one_mul n))) O<|J.b O<|J.c j12<|J.A<|J.a9 hw0 (λ_ _ h=>h) (qBs O O O) (qAi () O trivial [0] O xC)
theorem qX1(F:Hp)(n:Nat)(hn:n<4294967296):
    Cz prog 108 [N64 1,N64 n] F (.tuple #[N64 0,N64 n]):=by
  refine Ct.walk func108 O ntmps108 O (λw0 hw0=>?_)
  refine J.f λ_ j1=>J.j 2 O<|J.c j1<|J.q λ_ j2=>J.a3 ?_
  exact J.M j2<|J.f λ_ j3=>J.j 2 O<|J.k (qAY O O (λF' hF=>qT0 F' n hn)) O λg25 _=>J.j 5 O<|J.c j3<|J.f λ_ j4=>J.j 4 O<|J.c j4<|J.A<|J.a9 hw0 (λ_ _ h=>h) (qBs O O O) (qAi () O trivial [0] O xC)
theorem qMi(F mr:Hp)(g:Nat)(l:List Value)(bs:xA)(A:Option Addr)(c:Nat)(p:Option Addr)(hb:Bld g 0 l mr bs A c p):
    Ct prog 112 [Ptr g] [blk g l 146,F] (λ_:Unit=>I bs.length) (λ_=>True) (λ_=> [blk g l 146,F]):=by
  refine Ct.walk func112 O ntmps112 O (λw0 hw0=>?_)
  exact J.f λ_ j1=>J.b O<|J.c j1<|J.f λ_ j2=>J.b O<|J.g (qAB O O) O<|J.V 1 qDl qJr O O O O O<|J.g (qAC 0 O O O qPL hb.a1) O<|J.g (qAQ qBy O O) O<|J.b O<|J.c j2<|J.A<|J.E hw0 O () O trivial [0,1] O xC
theorem qHB(F:Hp)(n:Nat)(h2:2≤n)(h3:n≤8192):
    Cz prog 43 [Str [0],I n] F (Str (List.replicate n 0)):=by
  refine Ct.walk func43 O ntmps43 O (λw0 hw0=>?_)
  refine J.f λ_ j1=>J.b O<|J.c j1<|J.q λ_ j2=>J.f λ_ j3=>J.b O<|J.c j3<|J.T<|J.f λ_ j4=>J.g ((qAU O O O).no xB) O<|J.b O<|J.c j4<|J.a3 ?_
  refine J.f λ_ j5=>J.g ((qAU O O O).no xB) O<|J.b O<|J.c j5<|J.a3 ?_
  refine J.b3<|J.a4<|J.u (J.D j2 ?_)
  refine J.q λ_ j6=>J.f λ_ j7=>J.b O<|J.g ((qAS O O O).no xB) O<|J.c j7<|J.a3 ?_
  refine J.M j6<|J.f λ_ j8=>J.b O<|J.g (qAv u9_ O O) O<|J.g ((qAx O O u3_ qIu xB).as (v':=N64 1) (N_W xB).symm) O<|J.b O<|J.g ((qAx O O u3_ qIu xB).as (v':=N64 n) (N_W xB).symm) O<|J.k (qAY O O (λF' hF=>qX1 F' n xB)) O λg26 _=>J.j 5 O<|J.c j8<|J.q λ_ j9=>J.f λ_ j10=>J.b O<|J.g ((qA7 O O O).no xC) O<|J.j 2 O<|J.H ((qA7 O O O).no xB) O<|J.b O<|J.c j10<|J.a3 ?_
  refine J.M j9<|J.f λ_ j11=>J.b O<|J.g (qEO O O qIu u3_ xB) O<|J.b O<|J.c j11<|J.q λ_ j12=>J.f λ_ j13=>J.b O<|J.g (qAv u9_ O O) O<|J.g ((qAU O O O).no xC) O<|J.c j13<|J.a3 ?_
  refine J.M j12<|J.q λ_ j14=>J.f λ_ j15=>J.b O<|J.g (qBk u9_ O O O O) O<|J.c j15<|J.T<|J.q λ_ j16=>J.f λ_ j17=>J.g ((qAU O O O).no xC) O<|J.b O<|J.c j17<|J.a3 ?_
  refine J.f λ_ j18=>J.g ((qAU O O O).no xC) O<|J.b O<|J.c j18<|J.a3 ?_
  refine J.f λ_ j19=>J.g ((qAU O O O).no xC) O<|J.b O<|J.c j19<|J.a3 ?_
  refine J.f λ_ j20=>J.g ((qAU O O O).no xC) O<|J.b O<|J.c j20<|J.a3 ?_
  refine J.L<|J.g ((qAU O O O).no xC) O<|J.b O<|J.c j16<|J.a3 ?_
  refine J.b3<|J.a4<|J.u (J.D j14 ?_)
  refine J.f λ_ j21=>J.j 2 O<|J.c j21<|J.q λ_ j22=>J.f λ_ j23=>J.b O<|J.g ((qA7 O O O).no xB) O<|J.c j23<|J.a3 ?_
  refine J.M j22<|J.f λ_ j24=>J.k (qAJ O zeroValue146 O) O λg9 _=>J.c7 [1,2,0] [blk g9 [.pointer none,.slice none 0 0] 146,λ_=>none,F] O xC<|J.c j24<|J.f λ_ j25=>J.b O<|J.k (qAI O O ent (qN9 F g9 146 0 [.pointer none,.slice none 0 0] none ⟨O,.inl O,O,qBc.nil,.inl O⟩ qML n xB)) O ?_
  rintro⟨l57,m57⟩ ⟨A57,c57,hb57,hu57⟩
  dsimp only at hb57 hu57
  refine J.c j25<|J.f λ_ j26=>J.b O<|J.k (qAI O O ent (qBU F m57 g9 146 0 l57 [] A57 c57 _ hb57 (by rw [hu57.1];exact qML) [0] xC)) O ?_
  rintro⟨l61,m61⟩ ⟨A61,c61,hb61,hu61⟩
  dsimp only at hb61 hu61
  refine J.c j26<|J.q λ_ j27=>J.T<|J.b8 (X:=Nat×List Value×Hp×Option Addr×Nat) (λx=> [(7,I n),(8,I n),(9,Ptr g9)]) (λx=> [blk g9 x.2.1 146,x.2.2.1,F]) (λx=>1≤x.1∧x.1≤n∧x.2.1.length=2∧Bld g9 0 x.2.1 x.2.2.1 (List.replicate x.1 (0:UInt8)) x.2.2.2.1 x.2.2.2.2 (some ⟨g9,0,none⟩)) (λx=>n-x.1) (1,l61,m61,A61,c61) (⟨xB,xB,by rw [hu61.1,hu57.1];rfl,hb61⟩) ⟨O,O,O,trivial⟩ (λ_ h=>h) ?_
  rintro⟨k,l,m,A1,c1⟩ ⟨hk1,hkn,hll,hb⟩ I3 hI3
  dsimp only at hk1 hkn hll hb⊢
  refine J.q λ_ j28=>J.f λ_ j29=>J.k (qAI O O ent (Ct.use1 0 O (λF' _=>qMi F' m g9 l (List.replicate k (0:UInt8)) A1 c1 _ hb))) O λg111 _=>J.b O<|J.g ((qAS O O O).as (v':= .bool (decide (k<n))) (congrArg Value.bool (decide_eq_decide.2 (by rw [jI];omega)))) O<|J.c j29<|J.Z O (λh113=>?_) (λh113=>?_)
  ·
    refine J.M j28<|J.T<|J.f λ_ j30=>J.b O<|J.k (qAI O O ent (Ct.use1 0 O (λF' _=>qMi F' m g9 l (List.replicate k (0:UInt8)) A1 c1 _ hb))) O λg115 _=>J.g ((qA8 O O O (by rw [jI];omega)).as (v':=I (n-k:Nat)) (congrArg I (by rw [jI];omega))) O<|J.k (qAI O O ent (Ct.use1 0 O (λF' _=>qMi F' m g9 l (List.replicate k (0:UInt8)) A1 c1 _ hb))) O λg117 _=>J.b O<|J.g ((qW0 O O O O).as (v':=I (min (n-k) k:Nat)) (congrArg I (by rw [jI];omega))) O<|J.b O<|J.c j30<|J.L<|J.k (qAI O O ent (qEV F m g9 146 0 l (List.replicate k (0:UInt8)) A1 c1 _ hb (by rw [jI];omega))) O ?_
    rintro m20 hb20
    refine J.b O<|J.g ((qBC u9_ O O O O ⟨xB,by rw [jI];omega⟩).as (v':=Str (List.replicate (min (n-k) k) (0:UInt8))) (by rw [zk,List.take_replicate];congr 2;omega)) O<|J.k (qAI O O ent (qBU F m20 g9 146 0 l (List.replicate k (0:UInt8)) A1 c1 _ hb20 (by rw [hll];exact qML) (List.replicate (min (n-k) k) (0:UInt8)) (by simp only [jI];omega))) O ?_
    rintro⟨l23,m23⟩ ⟨A23,c23,hb23,hu23⟩
    dsimp only at hb23 hu23
    rw [List.replicate_append_replicate] at hb23
    exact J.a5<|J.a4<|J.u<|J.b0 (k+min (n-k) k,l23,m23,A23,c23) (λx (hx:_∧n-x.1<n-k)=>hI3 x hx.1 hx.2) ⟨⟨by dsimp only;omega,by dsimp only;omega,by rw [hu23.1];exact hll,hb23⟩,by dsimp only;omega⟩ ⟨O,O,O,trivial⟩ (λ_ h=>h)
  refine J.b5<|J.a0<|J.a0<|J.b6 ?_
  refine J.u (J.D j27 ?_)
  refine J.q λ_ j31=>?_
  have hkn2:k=n:=xB
  subst hkn2
  refine J.L<|J.k (qAI O O ent (qEV F m g9 146 0 l (List.replicate k (0:UInt8)) A1 c1 _ hb (by rw [jI];omega))) O ?_
  rintro m24 _
  exact J.b O<|J.c j31<|J.A<|J.E hw0 O () O trivial [2] O xC
theorem qTY(F:Hp):Cz prog 43 [Str [0],I 0] F (Str []):=by
 refine Ct.walk func43 O ntmps43 O (λw0 hw0=>?_)
 refine J.f λ_ j1=>J.b O<|J.c j1<|J.q λ_ j2=>J.f λ_ j3=>J.b O<|J.c j3<|J.T<|J.f λ_ j4=>J.g ((qAU O O O).yes xB) O<|J.b O<|J.c j4<|J.c2 ?_
 exact J.f λ_ j5=>J.b O<|J.c j5<|J.A<|J.a7<|J.W<|J.E hw0 O () O trivial [0] O xC
theorem qTX(F:Hp):Cz prog 43 [Str [0],I 1] F (Str [0]):=by
 refine Ct.walk func43 O ntmps43 O (λw0 hw0=>?_)
 refine J.f λ_ j1=>J.b O<|J.c j1<|J.q λ_ j2=>J.f λ_ j3=>J.b O<|J.c j3<|J.T<|J.f λ_ j4=>J.g ((qAU O O O).no xB) O<|J.b O<|J.c j4<|J.a3 ?_
 refine J.f λ_ j5=>J.g ((qAU O O O).yes xB) O<|J.b O<|J.c j5<|J.c2 ?_
 exact J.f λ_ j6=>J.j 2 O<|J.c j6<|J.A<|J.a7<|J.W<|J.E hw0 O () O trivial [0] O xC
theorem qFp(F:Hp)(n:Nat)(h3:n≤8192):
    Cz prog 43 [Str [0],I n] F (Str (List.replicate n 0)):=by
  match n,h3 with
  |0,_=>exact qTY F
  |1,_=>exact qTX F
  |n+2,h3=>exact qHB F (n+2) xB h3
namespace Sha
end Sha
attribute [local irreducible] Sha.tagB
end Go.Proofs.YtmemgokiolfdoaaGreatDoor