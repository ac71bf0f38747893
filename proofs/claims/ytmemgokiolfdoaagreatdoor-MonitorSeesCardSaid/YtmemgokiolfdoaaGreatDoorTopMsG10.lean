/- A part of the proof. -/
import Derived.Test.YtmemgokiolfdoaaGreatDoorTopMsG8
import Derived.Test.YtmemgokiolfdoaaGreatDoorTopMsG9
set_option maxRecDepth 100000
set_option maxHeartbeats 1000000
set_option linter.unusedSimpArgs false
set_option linter.unusedVariables false
namespace Go.Proofs.YtmemgokiolfdoaaGreatDoor
open Go Go.Fw Go.Proofs.Tryz
theorem qWt: ∀r:Fin 32,1≤r.val→((UInt64.ofNat (18446744073709551616-r.val)).toNat&&&31)=32-r.val:=by decide+kernel
theorem qZy(n:UInt64)(size:Nat)(j:Nat)(hj:j<size):(Sha.numB n size)[j]?=some (UInt64.ofNat (n.toNat/2^min (8*(size-1-j)) 64)).toUInt8:=by
 simp [Sha.numB,hj]
def qHu(l:xA)(k:Nat):List Value:=(l.take k).map B8++List.replicate (l.length-k) (.int .u8 0)
theorem qOo(l:xA)(size:Nat)(h:l.length=size):(List.replicate size [Value.int .u8 0]).flatten=qHu l 0:=by
 subst h
 unfold qHu
 induction l with
 |nil=>rfl
 |cons a l ih=>simp only [jD,yI,ji];rw [ih];simp [yI]
theorem qQx(l:xA)(k:Nat)(h:k≤l.length):(qHu l k).length=l.length:=by simp [qHu];omega
theorem qL7{α:Type}(a:List α)(v:α)(n:Nat)(x:α):(a++List.replicate (n+1) v).take a.length++ [x]++(a++List.replicate (n+1) v).drop (a.length+1)=(a++ [x])++List.replicate n v:=by
 rw [List.take_left,List.drop_append]
 simp [yI]
theorem qOp(l:xA)(k:Nat)(v:UInt8)(h:l[k]?=some v):qBD (qHu l k) k [B8 v]=qHu l (k+1):=by
 obtain ⟨hk,rfl⟩:=List.getElem?_eq_some_iff.1 h
 have e:l.length-k=(l.length-(k+1))+1:=xB
 have h2:=qL7 ((l.take k).map B8) (Value.int .u8 0) (l.length-(k+1)) (B8 l[k])
 have h3:((l.take k).map B8).length=k:=by simp;omega
 rw [h3] at h2
 unfold qBD qHu
 rw [e,jH,h2,jK hk,jO]
 rfl
theorem qQy(l:xA)(k:Nat)(h:l.length≤k):qHu l k=(qAf l).flatten:=by
 unfold qHu qAf
 rw [qBR,jV h,show l.length-k=0 by omega];simp
theorem el302:qCY prog 302 [.int .u32 0] 4:=qCY.of xI O
theorem qFI(F:Hp)(n:UInt64)(size:Nat)(hs:size≤8):
    Ct prog 189 [W64 n,I size] [F] (λx:Option Addr×Nat×Hp=> .slice x.1 size x.2.1) (λx=>Row x.2.2 5 1 x.1 size x.2.1 (qAf (Sha.numB n size))) (λx=> [F,x.2.2]):=by
  have hlen:=Sha.numB_length n size
  refine Ct.walk func189 O ntmps189 O (λw0 hw0=>?_)
  refine J.f λ_ j1=>J.b O<|J.c j1 ?_
  refine J.f λ_ j2=>J.b O<|J.q (qBx O O qBu el5 xB xB) O λg8 _=>J.b O<|J.c j2 ?_
  refine J.k λ_ j3=>J.f λ_ j4=>J.b O<|J.g (qAO qBu O O) O<|J.b O<|J.c j4 ?_
  refine J.T<|J.b5 (λk:Nat=> [(0,W64 n),(1,I size),(5,.slice (some ⟨g8,0,none⟩) size size),(10,I size),(11,I k)]) (λk=> [F,blk g8 (qHu (Sha.numB n size) k) 5]) (λk=>k≤size) (λk=>size-k) 0 (jE _) ⟨O,O,O,O,O,trivial⟩ (λ_ h=>by rw [←qOo _ size hlen];exact h) ?_
  intro k hk I0 hI0
  refine J.f λ_ j5=>J.g (qAS O O O) O<|J.c j5 ?_
  refine J.k λ_ j6=>J.Z O (λh12=>?_) (λh12=>?_)
  ·
    refine J.M j6 ?_
    refine J.k λ_ j7=>J.T<|J.f λ_ j8=>J.p 2 O<|J.c j8 ?_
    refine J.H<|J.p 4 O<|J.g (qA4 O O O xB) O<|J.b O<|J.g (qA4 O O O xB) O<|J.g (qDj O O O xB) O<|J.g (qGL (m:=8*(size-1-k)) O O (by show some _=some _;congr 2;omega)) O<|J.g (qF6 O O qEV u5_) O<|J.g (qAh (j:=k) O O O qBu z5_ xB xB) O<|J.a7 (qAW (i:=1) O O O O O z5_ O (by rw [qQx (Sha.numB n size) k xB];show k+1≤_;omega)) O O λ_ _=>J.a4<|J.a2<|J.u (J.D j7 ?_)
    exact J.H<|J.g (qAR O O O xB) O<|J.b O<|J.a4<|J.u<|J.a8 (k+1) (λx (hx:x≤size∧size-x<size-k)=>hI0 x hx.1 hx.2) ⟨xB,xB⟩ ⟨O,O,O,O,O,trivial⟩ (λ_ h=>by rw [←qOp _ k _ (qZy n size k xB)];exact h)
  refine J.b3<|J.a0<|J.a0<|J.b4 ?_
  refine J.u (J.D j3 ?_)
  refine J.f λ_ j9=>J.p 2 O<|J.c j9 ?_
  exact J.A<|J.E hw0 O (some ⟨g8,0,none⟩,size,blk g8 (qAf (Sha.numB n size)).flatten 5) O (qAm (by simp [qAf,hlen]) (by simp [qAf])) [0,1] (by rw [qQy (Sha.numB n size) k xB];rfl) xC
theorem qEb(F:Hp)(x:UInt32)(r:Nat)(h1:1≤r)(h2:r<32):
    Cz prog 284 [W32 x,I (-(r:Int))] F (W32 (Sha.rotr x r)):=by
  have hr:=qWt ⟨r,h2⟩ h1
  have e1:((-(r:Int))%18446744073709551616).toNat=18446744073709551616-r:=xB
  have e3:IntKind.u64.wrap (32-((32-r:Nat):Int))=(r:Int):=by simp [IntKind.wrap,IntKind.bits,IntKind.signed];omega
  refine Ct.walk func284 O ntmps284 O (λw0 hw0=>?_)
  refine J.f λ_ j1=>J.b O<|J.c j1 ?_
  refine J.f λ_ j2=>J.b O<|J.g ((qCH O O u3_ qIt).as (congrArg (λz=>W64 (UInt64.ofNat z)) e1)) O<|J.g ((qNb (b:=31) O O O).as (v':= .int .u64 ((32-r:Nat):Int)) (by show Value.int .u64 _=_;rw [UInt64.toNat_and];exact congrArg (λz:Nat=>Value.int .u64 (z:Int)) hr)) O<|J.b O<|J.c j2 ?_
  refine J.f λ_ j3=>J.p 2 O<|J.g (qGM O O O) O<|J.p 2 O<|J.g (qIN O O O e3.symm) O<|J.g (qJF O O O) O<|J.g (qJH O O O) O<|J.b O<|J.c j3 ?_
  exact J.A<|J.E hw0 O () O trivial [0] O xC
theorem qU3(F:Hp):Cz prog 249 [] F (.agg (Sha.init.list.map W32).toArray):=by
 refine Ct.walk func249 O ntmps249 O (λw0 hw0=>?_)
 refine J.f λ_ j1=>J.q (qAJ O zeroValue357 O) O λg0 _=>J.c j1 ?_
 refine J.f λ_ j2=>J.g (qEl (l:= [.const (.int .u32 1779033703),.const (.int .u32 3144134277),.const (.int .u32 1013904242),.const (.int .u32 2773480762),.const (.int .u32 1359893119),.const (.int .u32 2600822924),.const (.int .u32 528734635),.const (.int .u32 1541459225)]) O O O qGC el302 zeroValue357 O O (by simp [Value.cells]) (r:=Sha.init.list.map W32) O) O<|J.a7 (qAW (i:=1) O O O O O sizeOf357 O xC) O O λ_ _=>J.c j2 ?_
 exact J.A<|J.a9 hw0 (λ_ _ h=>h) (rv1 O (RV.blkA 1 O O isAgg357 sizeOf357)) (qAg () O trivial [0] O xC)
def qEk(l:List UInt32):List Value:=l.map W32++List.replicate (64-l.length) (.int .u32 0)
theorem qG4(l:List UInt32)(h:l.length≤64):(qEk l).length=64:=by simp [qEk];omega
theorem qE7(l:List UInt32)(i:Nat)(h:i<l.length):(qEk l)[i]?=some (W32 (l.getD i 0)):=by
 unfold qEk
 rw [jc (by simpa using h),jN,jC h,jB,jC h]
 rfl
theorem qII(l:List UInt32)(x:UInt32)(h:l.length<64):qBD (qEk l) l.length [W32 x]=qEk (l++ [x]):=by
 have e:64-l.length=(64-(l.length+1))+1:=xB
 have h2:=qL7 (l.map W32) (Value.int .u32 0) (64-(l.length+1)) (W32 x)
 rw [jP] at h2
 unfold qBD qEk
 rw [e,jH,h2,jO,jA]
 rfl
theorem qQw(l:List UInt32)(j:Nat)(hj:l.length=16+j)(h:j<48):qBD (qEk l) (16+j) [W32 (l.getD j 0+Sha.sg0 (l.getD (j+1) 0)+l.getD (j+9) 0+Sha.sg1 (l.getD (j+14) 0))]=qEk (Sha.ext l):=by
 have h2:=qII l (l.getD j 0+Sha.sg0 (l.getD (j+1) 0)+l.getD (j+9) 0+Sha.sg1 (l.getD (j+14) 0)) xB
 rw [hj] at h2
 rw [h2]
 unfold Sha.ext
 rw [hj,show 16+j-16=j by omega,show 16+j-15=j+1 by omega,show 16+j-7=j+9 by omega,show 16+j-2=j+14 by omega]
theorem qEs(b:xA)(k:Nat):Sha.firsts b (k+1)=Sha.firsts b k++ [Sha.word b k]:=by simp [Sha.firsts,jx]
theorem qOn(l:List UInt32)(h:l.length=64):qEk l=l.map W32:=by simp [qEk,h]
theorem qXb(l:List UInt32):(l.map W32).all Value.oneCell'=true:=by simp [Value.oneCell']
theorem getB{b:xA}{j:Nat}(h:j<b.length):b[j]?=some (b.getD j 0):=by rw [jB,jC h];rfl
theorem qL8(F:Hp)(A:Option Addr)(n c:Nat)(b:xA)(hl:Sl F 1 A n c (qAf b))(h64:64≤n):
    Cz prog 283 [.slice A n c] F (.agg ((Sha.sched b).map W32).toArray):=by
  have hn:b.length=n:=by have:=hl.1;simpa [qAf] using this
  have hb: ∀j,j<n→b[j]?=some (b.getD j 0):=λj hj=>getB xB
  refine Ct.walk func283 O ntmps283 O (λw0 hw0=>?_)
  refine J.f λ_ j1=>J.q (qAJ O zeroValue403 O) O λg2 _=>J.c j1 ?_
  refine J.f λ_ j2=>J.q (qAJ O zeroValue403 O) O λg3 _=>J.c j2 ?_
  refine J.k λ_ j3=>J.f λ_ j4=>J.b O<|J.c j4 ?_
  refine J.T<|J.b5 (λk:Nat=> [(0,.slice A n c),(2,Ptr g2),(3,Ptr g3),(10,I k)]) (λk=> [F,blk g2 (List.replicate 64 (.int .u32 0)) 403,blk g3 (qEk (Sha.firsts b k)) 403]) (λk=>k≤16) (λk=>16-k) 0 (jE _) ⟨O,O,O,O,trivial⟩ (λ_ h=>h) ?_
  intro k hk I0 hI0
  refine J.f λ_ j5=>J.g (qAS O O O) O<|J.c j5 ?_
  refine J.k λ_ j6=>J.Z O (λh11=>?_) (λh11=>?_)
  ·
    refine J.M j6 ?_
    refine J.k λ_ j7=>J.T<|J.f λ_ j8=>J.p 2 O<|J.c j8 ?_
    refine J.b1 [F] [35] (.y 0 (.y 1 (.y 2 (.y 3 (.y 4 (.y 5 (.y 6 (.y 7 (.y 8 (.y 9 (.y 10 (.y 11 (.y 12 (.y 13 (.y 14 (.y 15 (.y 16 (.y 17 (.y 18 (.y 19 (.y 20 (.y 21 (.y 22 (.y 23 (.y 24 (.y 25 (.y 26 (.y 27 (.y 28 (.y 29 (.y 30 (.y 31 (.y 32 (.y 33 (.y 34 (.e 35 .nil)))))))))))))))))))))))))))))))))))) Tryz.wide xF xD ?_
    iterate 3 refine J.L ?_
    refine J.j O ((qDj O O O xB).nat (4*k) xB) O O<|J.j O (qAF O O O qBu z5_ hl xB) O O<|J.j O (qAI O O b5_ (m:=F) xD (hl.elem (qBh (hb (4*k) xB)))) O O<|J.j O (qC3 O O u5_ qJ6) O O<|J.j O (qGM O O O) O O<|J.L ?_
    refine J.L ?_
    refine J.j O ((qDj O O O xB).nat (4*k) xB) O O<|J.j O ((qAR O O O xB).nat (4*k+1) xB) O O<|J.j O (qAF O O O qBu z5_ hl xB) O O<|J.j O (qAI O O b5_ (m:=F) xD (hl.elem (qBh (hb (4*k+1) xB)))) O O<|J.j O (qC3 O O u5_ qJ6) O O<|J.j O (qGM O O O) O O<|J.j O (qJH O O O) O O<|J.L ?_
    refine J.L ?_
    refine J.j O ((qDj O O O xB).nat (4*k) xB) O O<|J.j O ((qAR O O O xB).nat (4*k+2) xB) O O<|J.j O (qAF O O O qBu z5_ hl xB) O O<|J.j O (qAI O O b5_ (m:=F) xD (hl.elem (qBh (hb (4*k+2) xB)))) O O<|J.j O (qC3 O O u5_ qJ6) O O<|J.j O (qGM O O O) O O<|J.j O (qJH O O O) O O<|J.L ?_
    refine J.L ?_
    refine J.j O ((qDj O O O xB).nat (4*k) xB) O O<|J.j O ((qAR O O O xB).nat (4*k+3) xB) O O<|J.j O (qAF O O O qBu z5_ hl xB) O O<|J.j O (qAI O O b5_ (m:=F) xD (hl.elem (qBh (hb (4*k+3) xB)))) O O<|J.j O (qC3 O O u5_ qJ6) O O<|J.j O (qJH O O O) O O<|J.j O (qAp (i:=k) (j:=k) O O O qJ5 qCI xB xB) O O<|J.c1 O (qAW (i:=2) O O O O O qCI O (by rw [qG4 (Sha.firsts b k) (by rw [Sha.firsts_length];omega)];show k+1≤_;omega)) O O O λ_ _=>J.b0<|J.a2<|J.u (J.D j7 ?_)
    exact J.H<|J.g (qAR O O O xB) O<|J.b O<|J.a4<|J.u<|J.a8 (k+1) (λx (hx:x≤16∧16-x<16-k)=>hI0 x hx.1 hx.2) ⟨xB,xB⟩ ⟨O,O,O,O,trivial⟩ (λ_ h=>by rw [qEs,←qII _ _ (by rw [Sha.firsts_length];omega),Sha.firsts_length];exact h)
  refine J.b3<|J.a0<|J.a0<|J.b4 ?_
  refine J.u (J.D j3 ?_)
  refine J.k λ_ j9=>J.f λ_ j10=>J.b O<|J.c j10 ?_
  refine J.T<|J.b5 (λj:Nat=> [(2,Ptr g2),(3,Ptr g3),(5,I (16+j:Nat))]) (λj=> [F,blk g2 (List.replicate 64 (.int .u32 0)) 403,blk g3 (qEk (Sha.exts j (Sha.firsts b 16))) 403]) (λj=>j≤48) (λj=>48-j) 0 (jE _) ⟨O,O,O,trivial⟩ (λ_ h=>by rw [show k=16 by omega] at h;exact h) ?_
  intro j hj I1 hI1
  have hlj:(Sha.exts j (Sha.firsts b 16)).length=16+j:=by rw [Sha.exts_length,Sha.firsts_length]
  refine J.k λ_ j11=>J.f λ_ j12=>J.b O<|J.g (qAS O O O) O<|J.c j12 ?_
  refine J.Z O (λh50=>?_) (λh50=>?_)
  ·
    refine J.M j11 ?_
    refine J.k λ_ j13=>J.T<|J.k λ_ j14=>J.b1 [blk g3 (qEk (Sha.exts j (Sha.firsts b 16))) 403] [] (.y 0 (.y 1 (.y 2 (.y 3 (.y 4 (.y 5 (.y 6 (.y 7 (.y 8 (.y 9 .nil)))))))))) Tryz.wide xF xD ?_
    refine J.L ?_
    refine J.j O ((qA4 O O O xB).nat (j+1) xB) O O<|J.j O (qAp (i:=j+1) (j:=j+1) O O O qJ5 qCI xB xB) O O<|J.j O (qAD 0 O O O qDO (qE7 (Sha.exts j (Sha.firsts b 16)) (j+1) xB)) O O<|J.L ?_
    refine J.j O ((qA4 O O O xB).nat (j+14) xB) O O<|J.j O (qAp (i:=j+14) (j:=j+14) O O O qJ5 qCI xB xB) O O<|J.j O (qAD 0 O O O qDO (qE7 (Sha.exts j (Sha.firsts b 16)) (j+14) xB)) O O<|J.b7 ?_
    refine J.b7 ?_
    refine J.b0<|J.u (J.D j14 ?_)
    refine J.f λ_ j15=>J.b O<|J.q (qAZ O O (λF' _=>qEb F' _ 7 xC xC)) O λg62 _=>J.b O<|J.q (qAZ O O (λF' _=>qEb F' _ 18 xC xC)) O λg64 _=>J.g (qB2 O O O) O<|J.b O<|J.g (qJF O O O) O<|J.g (qB2 O O O) O<|J.b O<|J.c j15 ?_
    refine J.f λ_ j16=>J.b O<|J.q (qAZ O O (λF' _=>qEb F' _ 17 xC xC)) O λg70 _=>J.b O<|J.q (qAZ O O (λF' _=>qEb F' _ 19 xC xC)) O λg72 _=>J.g (qB2 O O O) O<|J.b O<|J.g (qJF O O O) O<|J.g (qB2 O O O) O<|J.b O<|J.c j16 ?_
    refine J.b1 [blk g3 (qEk (Sha.exts j (Sha.firsts b 16))) 403] [15] (.y 0 (.y 1 (.y 2 (.y 3 (.y 4 (.y 5 (.y 6 (.y 7 (.y 8 (.y 9 (.y 10 (.y 11 (.y 12 (.y 13 (.y 14 (.e 15 .nil)))))))))))))))) Tryz.wide xF xD ?_
    refine J.L ?_
    refine J.L ?_
    refine J.j O ((qA4 O O O xB).nat (j) xB) O O<|J.j O (qAp (i:=j) (j:=j) O O O qJ5 qCI xB xB) O O<|J.j O (qAD 0 O O O qDO (qE7 (Sha.exts j (Sha.firsts b 16)) (j) xB)) O O<|J.L ?_
    refine J.j O (qB4 O O O) O O<|J.L ?_
    refine J.j O ((qA4 O O O xB).nat (j+9) xB) O O<|J.j O (qAp (i:=j+9) (j:=j+9) O O O qJ5 qCI xB xB) O O<|J.j O (qAD 0 O O O qDO (qE7 (Sha.exts j (Sha.firsts b 16)) (j+9) xB)) O O<|J.j O (qB4 O O O) O O<|J.L ?_
    refine J.j O (qB4 O O O) O O<|J.j O (qAp (i:=16+j) (j:=16+j) O O O qJ5 qCI xB xB) O O<|J.c1 O (qAW (i:=2) O O O O O qCI O (by rw [qG4 (Sha.exts j (Sha.firsts b 16)) xB];show 16+j+1≤_;omega)) O O O λ_ _=>J.b0<|J.a2<|J.u (J.D j13 ?_)
    exact J.H<|J.b O<|J.g (qAR O O O xB) O<|J.b O<|J.a4<|J.u<|J.a8 (j+1) (λx (hx:x≤48∧48-x<48-j)=>hI1 x hx.1 hx.2) ⟨xB,xB⟩ ⟨O,O,O,trivial⟩ (λ_ h=>by rw [Sha.exts,←qQw _ j hlj xB];exact h)
  refine J.b3<|J.a0<|J.a0<|J.b4 ?_
  refine J.u (J.D j9 ?_)
  refine J.k λ_ j17=>?_
  have hj48:j=48:=xB
  subst hj48
  refine J.H<|J.g (qAU 2 O O O isAgg403 sizeOf403 (qG4 (Sha.exts 48 (Sha.firsts b 16)) (by rw [Sha.exts_length,Sha.firsts_length];decide))) O<|J.a7 (qAC (i:=1) (vs:=(Sha.sched b).map W32) O O O O (by show Array.mk _=_;exact congrArg _ (qOn _ (Sha.sched_length b))) (λw=>by rw [jP,Sha.sched_length];exact sizeOf403 w) (qXb _) (by rw [jP,Sha.sched_length];rfl)) O O λ_ _=>?_
  change J _ _ _ [F,blk g2 ((Sha.sched b).map W32) 403,_] _
  refine J.c j17 ?_
  exact J.A<|J.a9 hw0 (λ_ _ h=>h) (rv1 O (RV.blkA 1 O O isAgg403 (λw=>by rw [jP,Sha.sched_length];exact sizeOf403 w))) (qAg () O trivial [0] O xC)
theorem Sha.rnds_succ(ws:List UInt32)(s:Sha.St8)(i:Nat):Sha.rnds ws s (i+1)=Sha.rnd (ws.getD i 0) (Sha.K.getD i 0) (Sha.rnds ws s i):=rfl
theorem Sha.mix_eq(s:Sha.St8)(b:xA):Sha.mix s b=s.add (Sha.rnds (Sha.sched b) s 64):=rfl
theorem Sha.rnds_zero(ws:List UInt32)(s:Sha.St8):Sha.rnds ws s 0=s:=rfl
attribute [local irreducible] Sha.rnds Sha.sched Sha.mix
theorem qYL{m:Hp}{g off:Nat}{vs:List Value}{i:Nat}{v:Value}(h:qAG m ⟨g,off,none⟩ vs)(hi:vs[i]?=some v):qAG m ⟨g,off+i,none⟩ [v]:=by
 have:=h.sub i 1
 rw [Addr.add_lit] at this
 obtain ⟨hk,rfl⟩:=List.getElem?_eq_some_iff.1 hi
 rw [zD hk] at this
 exact this
theorem getW{l:List UInt32}{i:Nat}(h:i<l.length):(l.map W32)[i]?=some (W32 (l.getD i 0)):=by
 rw [jN,jC h,jB,jC h];rfl
def Sha.St8.adds(s t:Sha.St8)(k:Nat):List UInt32:=(s.add t).list.take k++s.list.drop k
theorem qVW(s t:Sha.St8)(k:Nat)(hk:k≤8):(s.adds t k).length=8:=by simp [Sha.St8.adds,Sha.St8.list];omega
theorem qVX(s t:Sha.St8): ∀k,k<8→(s.adds t k)[k]?=some (s.list.getD k 0)
 |0,_=>rfl|1,_=>rfl|2,_=>rfl|3,_=>rfl|4,_=>rfl|5,_=>rfl|6,_=>rfl|7,_=>rfl
 |n+8,h=>by omega
theorem qVV(s t:Sha.St8): ∀k,k<8→qBD ((s.adds t k).map W32) k [W32 (s.list.getD k 0+t.list.getD k 0)]=(s.adds t (k+1)).map W32
 |0,_=>rfl|1,_=>rfl|2,_=>rfl|3,_=>rfl|4,_=>rfl|5,_=>rfl|6,_=>rfl|7,_=>rfl
 |n+8,h=>by omega
theorem qVY(s t:Sha.St8):s.adds t 8=(s.add t).list:=rfl
theorem qNl(t:Sha.St8): ∀k,k<8→(t.list.map W32)[k]?=some (W32 (t.list.getD k 0))
 |0,_=>rfl|1,_=>rfl|2,_=>rfl|3,_=>rfl|4,_=>rfl|5,_=>rfl|6,_=>rfl|7,_=>rfl
 |n+8,h=>by omega
theorem qZR(F:Hp)(hK:qAG F ⟨3,0,none⟩ (Sha.K.map W32))(g:Nat)(s:Sha.St8)(A:Option Addr)(n c:Nat)(b:xA)(hl:Sl F 1 A n c (qAf b))(h64:64≤n):
    Ct prog 250 [Ptr g,.slice A n c] [blk g (s.list.map W32) 357,F] (λ_:Unit=> .tuple #[]) (λ_=>True) (λ_=> [blk g ((Sha.mix s b).list.map W32) 357,F]):=by
  refine Ct.walk func250 O ntmps250 O (λw0 hw0=>?_)
  refine J.f λ_ j1=>J.b O<|J.q (qAZ O O (λF' hF=>qL8 F' A n c b (hl.mono (Fa hF)) h64)) O λg21 _=>J.q (qAJ O zeroValue403 O) O λg4 _=>J.a7 (qAC (i:=2) (vs:=(Sha.sched b).map W32) O O O O O (λw=>by rw [jP,Sha.sched_length];exact sizeOf403 w) (qXb _) (by rw [jP,Sha.sched_length];rfl)) O O λ_ _=>J.c j1 ?_
  refine J.k λ_ j2=>J.b1 [blk g (s.list.map W32) 357] [] (.y 0 (.y 1 (.y 2 (.y 3 (.y 4 (.y 5 (.y 6 (.y 7 (.y 8 (.y 9 (.y 10 (.y 11 (.y 12 (.y 13 (.y 14 (.y 15 (.y 16 (.y 17 (.y 18 (.y 19 (.y 20 (.y 21 (.y 22 (.y 23 (.y 24 (.y 25 (.y 26 (.y 27 (.y 28 (.y 29 (.y 30 (.y 31 (.y 32 (.y 33 (.y 34 (.y 35 (.y 36 (.y 37 (.y 38 (.y 39 .nil)))))))))))))))))))))))))))))))))))))))) Tryz.wide xF xD ?_
  refine J.L ?_
  refine J.j O (qAB O O) O O<|J.j O (qAp O O O qGC qCI xC O) O O<|J.j O (qAD 0 O O O qDO O) O O<|J.L ?_
  refine J.j O (qAB O O) O O<|J.j O (qAp O O O qGC qCI xC O) O O<|J.j O (qAD 0 O O O qDO O) O O<|J.L ?_
  refine J.j O (qAB O O) O O<|J.j O (qAp O O O qGC qCI xC O) O O<|J.j O (qAD 0 O O O qDO O) O O<|J.L ?_
  refine J.j O (qAB O O) O O<|J.j O (qAp O O O qGC qCI xC O) O O<|J.j O (qAD 0 O O O qDO O) O O<|J.L ?_
  refine J.j O (qAB O O) O O<|J.j O (qAp O O O qGC qCI xC O) O O<|J.j O (qAD 0 O O O qDO O) O O<|J.L ?_
  refine J.j O (qAB O O) O O<|J.j O (qAp O O O qGC qCI xC O) O O<|J.j O (qAD 0 O O O qDO O) O O<|J.L ?_
  refine J.j O (qAB O O) O O<|J.j O (qAp O O O qGC qCI xC O) O O<|J.j O (qAD 0 O O O qDO O) O O<|J.L ?_
  refine J.j O (qAB O O) O O<|J.j O (qAp O O O qGC qCI xC O) O O<|J.j O (qAD 0 O O O qDO O) O O<|J.b7 ?_
  iterate 7 refine J.b7 ?_
  refine J.b0<|J.u (J.D j2 ?_)
  refine J.k λ_ j3=>J.f λ_ j4=>J.b O<|J.c j4 ?_
  refine J.T<|J.b5 (λi:Nat=> [(0,Ptr g),(4,Ptr g4),(5,W32 (Sha.rnds (Sha.sched b) s i).a),(6,W32 (Sha.rnds (Sha.sched b) s i).b),(7,W32 (Sha.rnds (Sha.sched b) s i).c),(8,W32 (Sha.rnds (Sha.sched b) s i).d),(9,W32 (Sha.rnds (Sha.sched b) s i).e),(10,W32 (Sha.rnds (Sha.sched b) s i).f),(11,W32 (Sha.rnds (Sha.sched b) s i).g),(12,W32 (Sha.rnds (Sha.sched b) s i).h),(54,I i)]) (λ_=> [blk g (s.list.map W32) 357,F,blk g4 ((Sha.sched b).map W32) 403]) (λi=>i≤64) (λi=>64-i) 0 (jE _) ⟨O,O,by rw [Sha.rnds_zero];rfl,by rw [Sha.rnds_zero];rfl,by rw [Sha.rnds_zero];rfl,by rw [Sha.rnds_zero];rfl,by rw [Sha.rnds_zero];rfl,by rw [Sha.rnds_zero];rfl,by rw [Sha.rnds_zero];rfl,by rw [Sha.rnds_zero];rfl,O,trivial⟩ (λ_ h=>h) ?_
  intro i hi I0 hI0
  refine J.f λ_ j5=>J.g (qAS O O O) O<|J.c j5 ?_
  refine J.k λ_ j6=>J.Z O (λh55=>?_) (λh55=>?_)
  ·
    refine J.M j6 ?_
    refine J.k λ_ j7=>J.T<|J.f λ_ j8=>J.p 2 O<|J.c j8 ?_
    refine J.f λ_ j9=>J.b O<|J.q (qAZ O O (λF' _=>qEb F' _ 6 xC xC)) O λg58 _=>J.b O<|J.q (qAZ O O (λF' _=>qEb F' _ 11 xC xC)) O λg60 _=>J.g (qB2 O O O) O<|J.b O<|J.q (qAZ O O (λF' _=>qEb F' _ 25 xC xC)) O λg63 _=>J.g (qB2 O O O) O<|J.b O<|J.c j9 ?_
    refine J.k λ_ j10=>?_
    have hiK:i<Sha.K.length:=by show i<64;omega
    refine J.b1 [blk g (s.list.map W32) 357,F,blk g4 ((Sha.sched b).map W32) 403] [] (.y 0 (.y 1 (.y 2 (.y 3 (.y 4 (.y 5 (.y 6 (.y 7 (.y 8 (.y 9 (.y 10 (.y 11 (.y 12 (.y 13 (.y 14 (.y 15 (.y 16 (.y 17 (.y 18 (.y 19 (.y 20 .nil))))))))))))))))))))) Tryz.wide xF xD ?_
    refine J.L ?_
    refine J.L ?_
    refine J.j O (qB4 O O O) O O<|J.L ?_
    refine J.L ?_
    refine J.j O (qFG O O O) O O<|J.L ?_
    refine J.j O (qUG O O) O O<|J.L ?_
    refine J.j O (qFG O O O) O O<|J.j O (qB2 O O O) O O<|J.j O (qB4 O O O) O O<|J.L ?_
    refine J.j O (qAp (i:=i) (j:=i) O O O qJ5 qCI xB xB) O O<|J.j O (qUE 1 O O qDO O (by have h:=qYL hK (getW (l:=Sha.K) (i:=i) hiK);rw [jj] at h;exact h)) O O<|J.j O (qB4 O O O) O O<|J.L ?_
    refine J.j O (qAp (i:=i) (j:=i) O O O qJ5 qCI xB xB) O O<|J.j O (qAD 2 O O O qDO (getW (l:=Sha.sched b) (i:=i) (by rw [Sha.sched_length];omega))) O O<|J.j O (qB4 O O O) O O<|J.b7 ?_
    refine J.b0<|J.u (J.D j10 ?_)
    refine J.f λ_ j11=>J.b O<|J.q (qAZ O O (λF' _=>qEb F' _ 2 xC xC)) O λg86 _=>J.b O<|J.q (qAZ O O (λF' _=>qEb F' _ 13 xC xC)) O λg88 _=>J.g (qB2 O O O) O<|J.b O<|J.q (qAZ O O (λF' _=>qEb F' _ 22 xC xC)) O λg91 _=>J.g (qB2 O O O) O<|J.b O<|J.c j11 ?_
    refine J.f λ_ j12=>J.p 3 O<|J.g (qFG O O O) O<|J.p 2 O<|J.g (qFG O O O) O<|J.g (qB2 O O O) O<|J.p 2 O<|J.g (qFG O O O) O<|J.g (qB2 O O O) O<|J.g (qB4 O O O) O<|J.b O<|J.c j12 ?_
    refine J.H<|J.p 5 O<|J.g (qB4 O O O) O<|J.p 5 O<|J.g (qB4 O O O) O<|J.p 8 O<|J.a4<|J.a2<|J.u (J.D j7 ?_)
    exact J.H<|J.g (qAR O O O xB) O<|J.b O<|J.a4<|J.u<|J.a8 (i+1) (λx (hx:x≤64∧64-x<64-i)=>hI0 x hx.1 hx.2) ⟨xB,xB⟩ ⟨O,O,by rw [Sha.rnds_succ];rfl,by rw [Sha.rnds_succ];rfl,by rw [Sha.rnds_succ];rfl,by rw [Sha.rnds_succ];rfl,by rw [Sha.rnds_succ];rfl,by rw [Sha.rnds_succ];rfl,by rw [Sha.rnds_succ];rfl,by rw [Sha.rnds_succ];rfl,O,trivial⟩ (λ_ h=>h)
  refine J.b3<|J.a0<|J.a0<|J.b4 ?_
  refine J.u (J.D j3 ?_)
  refine J.k λ_ j13=>?_
  have hi64:i=64:=xB
  subst hi64
  refine J.H<|J.p 8 O<|J.g (qEl (l:= [.tmp 119,.tmp 120,.tmp 121,.tmp 122,.tmp 123,.tmp 124,.tmp 125,.tmp 126]) O O O underlying356 el302 zeroValue356 O O (by simp [Value.cells]) (r:=(Sha.rnds (Sha.sched b) s 64).list.map W32) O) O<|J.b O<|J.c j13 ?_
  refine J.T<|J.b5 (λk:Nat=> [(0,Ptr g),(127,.agg ((Sha.rnds (Sha.sched b) s 64).list.map W32).toArray),(128,I k)]) (λk=> [blk g ((s.adds (Sha.rnds (Sha.sched b) s 64) k).map W32) 357,F,blk g4 ((Sha.sched b).map W32) 403]) (λk=>k≤8) (λk=>8-k) 0 (jE _) ⟨O,O,O,trivial⟩ (λ_ h=>h) ?_
  intro k hk I2 hI2
  refine J.f λ_ j14=>J.g (qAS O O O) O<|J.c j14 ?_
  refine J.k λ_ j15=>J.Z O (λh129=>?_) (λh129=>?_)
  ·
    refine J.M j15 ?_
    refine J.k λ_ j16=>J.T<|J.f λ_ j17=>J.b O<|J.g (qJK O O O underlying356 qCI qDO xB (by rw [Nat.mul_one,zF];exact qNl _ k xB)) O ?_
    refine J.p 2 O<|J.c j17 ?_
    refine J.b1 [blk g ((s.adds (Sha.rnds (Sha.sched b) s 64) k).map W32) 357] [9] (.y 0 (.y 1 (.y 2 (.y 3 (.y 4 (.y 5 (.y 6 (.y 7 (.y 8 (.e 9 .nil)))))))))) Tryz.wide xF xD ?_
    refine J.L ?_
    refine J.L ?_
    refine J.j O (qAB O O) O O<|J.j O (qAp (i:=k) (j:=k) O O O qGC qCI xB xB) O O<|J.j O (qAD 0 O O O qDO (by rw [jN,qVX s (Sha.rnds (Sha.sched b) s 64) k xB];rfl)) O O ?_
    refine J.L ?_
    refine J.j O (qB4 O O O) O O<|J.j O (qAB O O) O O<|J.j O (qAp (i:=k) (j:=k) O O O qGC qCI xB xB) O O<|J.c1 O (qAW (i:=0) O O O O O qCI O (by rw [jP,qVW s (Sha.rnds (Sha.sched b) s 64) k xB];show k+1≤_;omega)) O O O λ_ _=>J.b0<|J.a2<|J.u (J.D j16 ?_)
    exact J.H<|J.g (qAR O O O xB) O<|J.b O<|J.a4<|J.u<|J.a8 (k+1) (λx (hx:x≤8∧8-x<8-k)=>hI2 x hx.1 hx.2) ⟨xB,xB⟩ ⟨O,O,O,trivial⟩ (λ_ h=>by rw [←qVV s (Sha.rnds (Sha.sched b) s 64) k xB];exact h)
  refine J.b3<|J.a0<|J.a0<|J.b4 ?_
  have hk8:k=8:=xB
  subst hk8
  exact J.d3 hw0 (λ_ _ h=>h) (qI7 O) (qAg () O trivial [0,1] (by rw [qVY,←Sha.mix_eq];rfl) xC)
end Go.Proofs.YtmemgokiolfdoaaGreatDoor
namespace Go.Proofs.YtmemgokiolfdoaaGreatDoor
open Go Go.Fw Go.Proofs.Tryz
theorem qUt(F:Hp)(A:Option Addr)(n c:Nat)(ls:List xA)(hl:Sl F 1 A n c (qAH ls))(htot:ls.flatten.length≤35184372088832)(hn47:n≤70368744177664):
    Cz prog 248 [.slice A n c,Str []] F (Str ls.flatten):=by
  have h:=qXx F A n c ls [] hl (by rw [qK5];exact htot) hn47
  rw [qK5] at h;exact h
theorem qET(a b:xA):qAf (a++b)=qAf a++qAf b:=by simp [qAf]
theorem qIj(a:xA):(qAf a).all (λx=>x.all Value.oneCell')=true:=by simp [qAf,Value.oneCell']
theorem qPK(p:xA)(k N:Nat)(hN:p.length=N):((qAf (p.drop (64*k))).take (N-64*k)).drop 64=qAf (p.drop (64*(k+1))):=by
 rw [jV (by simp [qAf,hN])]
 unfold qAf
 rw [←List.map_drop,zk,Nat.mul_add]
def Sha.outs(t:Sha.St8)(k:Nat):xA:=(t.list.take k).flatMap λx=>Sha.numB x.toUInt64 4
theorem qG8(t:Sha.St8): ∀k,k<8→Sha.outs t (k+1)=Sha.outs t k++Sha.numB (t.list.getD k 0).toUInt64 4
 |0,_=>rfl|1,_=>rfl|2,_=>rfl|3,_=>rfl|4,_=>rfl|5,_=>rfl|6,_=>rfl|7,_=>rfl
 |n+8,h=>by omega
attribute [local irreducible] Sha.sum Sha.pad Sha.mixes Sha.numB
theorem qVi(F:Hp)(hK:qAG F ⟨3,0,none⟩ (Sha.K.map W32))(A:Option Addr)(n c:Nat)(ls:List xA)(hl:Sl F 1 A n c (qAH ls))(htot:ls.flatten.length≤17592186044416)(hn47:n≤70368744177664):
    Cz prog 190 [.slice A n c] F (Str (Sha.sum ls.flatten)):=by
  obtain ⟨l,hL⟩: ∃l,l=ls.flatten:=⟨_,rfl⟩
  have hJ:=qUt F A n c ls hl xB hn47
  rw [←hL] at hJ htot⊢
  have hpad:=Sha.pad_length l
  have hpm:=Sha.pad_mod l
  obtain ⟨p,hp⟩: ∃p,p=Sha.pad l:=⟨_,rfl⟩
  rw [←hp] at hpad hpm
  have hsum:Sha.sum l=Sha.out (Sha.mixes Sha.init p (p.length/64)):=by rw [hp];unfold Sha.sum;rfl
  have hpd:p=l++ [128]++List.replicate ((119-l.length%64)%64) 0++Sha.numB (8*UInt64.ofNat l.length) 8:=by rw [hp];unfold Sha.pad;rfl
  refine Ct.walk func190 O ntmps190 O (λw0 hw0=>?_)
  refine J.f λ_ j1=>J.b O<|J.c j1<|J.f λ_ j2=>J.b O<|J.q (qAK O O ent hJ) O λg10 _=>J.q (qIJ O O u9_ qBu u5_) O ?_
  rintro⟨g11,c11,m11⟩ h11
  try dsimp only at h11
  refine J.b O<|J.c j2<|J.f λ_ j3=>J.b O<|J.g (qAO qBu O O) O<|J.g (qAw O O u3_ qEV xB) O<|J.b O<|J.c j3<|J.f λ_ j4=>J.b O<|J.q (qAE (l:= [.const ((Value.int IntKind.u8 128))]) (xs:= [[B8 128]]) O O O O qBu el5 O xC xC xD) O λg16 _=>J.q (qAX (i:=1) (m2:=blk g16 [B8 128] 5) O O O qBu qBu el5 O h11 xD (qAm (q:=True) (xs:= [[B8 128]]) O xD).sl O xB xB) O ?_
  rintro⟨A17,c17,m17⟩ h17
  try dsimp only at h17
  rw [show [[B8 128]]=qAf [128] from rfl,←qET] at h17
  refine J.c2 [0,1] [F,m17] O xC<|J.b O<|J.c j4<|J.k λ_ j5=>J.T<|J.b5 (X:=Nat×Option Addr×Nat×Hp) (λx=> [(3,.slice x.2.1 (l.length+1+x.1) x.2.2.1),(4,W64 (UInt64.ofNat l.length))]) (λx=> [F,x.2.2.2]) (λx=>x.1≤(119-l.length%64)%64∧Row x.2.2.2 5 1 x.2.1 (l.length+1+x.1) x.2.2.1 (qAf (l++ [128]++List.replicate x.1 0))) (λx=>(119-l.length%64)%64-x.1) (0,A17,c17,m17) (⟨jE _,by simpa using h17⟩) ⟨O,O,trivial⟩ (λ_ h=>h) ?_
  rintro⟨k,A1,c1,m⟩ ⟨hk,hrow⟩ I0 hI0
  dsimp only at hk hrow⊢
  refine J.k λ_ j6=>J.f λ_ j7=>J.b O<|J.g (qAO qBu O O) O<|J.g (qKk O O O xB) O<|J.g (qAV O O O) O<|J.c j7<|J.Z O (λh21=>?_) (λh21=>?_)
  ·
    refine J.M j6<|J.T<|J.H<|J.b O<|J.q (qAE (l:= [.const ((Value.int IntKind.u8 0))]) (xs:= [[B8 0]]) O O O O qBu el5 O xC xC xD) O λg23 _=>J.q (qAX (i:=1) (m2:=blk g23 [B8 0] 5) O O O qBu qBu el5 O hrow xD (qAm (q:=True) (xs:= [[B8 0]]) O xD).sl O xB xB) O ?_
    rintro⟨A24,c24,m24⟩ h24
    try dsimp only at h24
    rw [show [[B8 0]]=qAf [0] from rfl,←qET] at h24
    refine J.c2 [0,1] [F,m24] O xC<|J.b O<|J.a4<|J.a2<|J.u<|J.a8 (k+1,A24,c24,m24) (λx (hx:_∧(119-l.length%64)%64-x.1<(119-l.length%64)%64-k)=>hI0 x hx.1 hx.2) ⟨⟨by dsimp only;omega,by rw [List.replicate_succ',←jX];exact h24⟩,by dsimp only;omega⟩ ⟨O,O,trivial⟩ (λ_ h=>h)
  refine J.b3<|J.a0<|J.a0<|J.b4 ?_
  refine J.u (J.D j5 ?_)
  refine J.k λ_ j8=>?_
  have hkz:k=(119-l.length%64)%64:=xB
  refine J.H<|J.p 2 O<|J.g (qNY (a:=8) O O O) O<|J.q (qBb O O (λF' _=>qFI F' _ 8 xC)) O ?_
  rintro⟨A28,c28,m28⟩ h28
  try dsimp only at h28
  refine J.q (qAX (i:=1) (m2:=m28) O O O qBu qBu el5 O hrow xD h28.sl (qIj _) xB xB) O ?_
  rintro⟨A29,c29,m29⟩ h29
  try dsimp only at h29
  rw [←qET] at h29
  refine J.c2 [0,1] [F,m29] O xC<|J.b O<|J.c j8<|J.k λ_ j9=>?_
  rw [hkz,←hpd] at h29
  rw [hkz,show l.length+1+(119-l.length%64)%64+8=p.length by omega] at*
  refine J.H<|J.q (qAZ O O (λF' _=>qU3 F')) O λg30 _=>J.q (qAJ O zeroValue357 O) O λg5 _=>J.a7 (qAC (i:=2) (vs:=Sha.init.list.map W32) O O O O O sizeOf357 (qXb _) (by rfl)) O O λ_ _=>J.c j9<|J.k λ_ j10=>J.T<|J.b5 (X:=Nat×Option Addr×Nat) (λx=> [(3,.slice x.2.1 (p.length-64*x.1) x.2.2),(5,Ptr g5)]) (λx=> [F,m29,blk g5 ((Sha.mixes Sha.init p x.1).list.map W32) 357]) (λx=>64*x.1≤p.length∧Sl m29 1 x.2.1 (p.length-64*x.1) x.2.2 (qAf (p.drop (64*x.1)))) (λx=>p.length-64*x.1) (0,A29,c29) (⟨jE _,h29.sl⟩) ⟨O,O,trivial⟩ (λ_ h=>by unfold Sha.mixes;exact h) ?_
  rintro⟨k,A2,c2⟩ ⟨hk,hsl⟩ I2 hI2
  dsimp only at hk hsl⊢
  refine J.k λ_ j11=>J.f λ_ j12=>J.b O<|J.g (qAO qBu O O) O<|J.g (qA5 O O O) O<|J.c j12<|J.Z O (λh33=>?_) (λh33=>?_)
  ·
    refine J.M j11<|J.k λ_ j13=>J.T ?_
    have hN:64≤p.length-64*k:=xB
    have hc2:=hsl.2.1
    refine J.H<|J.b O<|J.q (qAK O O ent (Ct.use1 2 O (λF' hF=>qZR F' (hK.mono (Fa hF)) g5 _ A2 (p.length-64*k) c2 (p.drop (64*k)) (hsl.mono (Fa hF)) xB))) O λg37 _=>J.a4<|J.a2<|J.u (J.D j13 ?_)
    refine J.H<|J.b O<|J.g (qC0 (l:=64) (h:=p.length-64*k) O O qBu z5_ O O xB) O<|J.b O<|J.a4<|J.u ?_
    have hcut:=hsl.cut (lo:=64) (hi:=p.length-64*k) (mx:=c2) hN (jJ _) hsl.2.1
    rw [qPK p k _ rfl] at hcut
    have hNN:p.length-64*k-64=p.length-64*(k+1):=xB
    refine J.a8 (k+1,_,c2-64) (λx (hx:_∧p.length-64*x.1<p.length-64*k)=>hI2 x hx.1 hx.2) ⟨⟨by dsimp only;omega,by rw [←hNN];exact hcut⟩,by dsimp only;omega⟩ ⟨by rw [←hNN];rfl,O,trivial⟩ (λ_ h=>by unfold Sha.mixes;exact h)
  refine J.b3<|J.a0<|J.a0<|J.b4 ?_
  refine J.u (J.D j10 ?_)
  refine J.k λ_ j14=>?_
  have hk64:k=p.length/64:=xB
  rw [←hk64] at hsum
  generalize Sha.mixes Sha.init p k=t at hsum⊢
  refine J.H<|J.b O<|J.c j14<|J.k λ_ j15=>J.f λ_ j16=>J.c0 2 isAgg357 sizeOf357 O O O O O<|J.c6 [0,3] [F,(λ_=>none)] O xC<|J.b O<|J.c j16<|J.T<|J.b5 (X:=Nat×Option Addr×Nat×Hp) (λx=> [(6,.slice x.2.1 (4*x.1) x.2.2.1),(38,.agg (t.list.map W32).toArray),(39,I x.1)]) (λx=> [F,x.2.2.2]) (λx=>x.1≤8∧Row x.2.2.2 5 1 x.2.1 (4*x.1) x.2.2.1 (qAf (Sha.outs t x.1))) (λx=>8-x.1) (0,none,0,λ_=>none) (⟨jE _,qBZ.nil⟩) ⟨O,O,O,trivial⟩ (λ_ h=>h) ?_
  rintro⟨k,A3,c3,m⟩ ⟨hk,hrow⟩ I4 hI4
  dsimp only at hk hrow⊢
  refine J.f λ_ j17=>J.g (qAS O O O) O<|J.c j17<|J.k λ_ j18=>J.Z O (λh40=>?_) (λh40=>?_)
  ·
    refine J.M j18<|J.k λ_ j19=>J.T<|J.f λ_ j20=>J.g (qJK O O O qGC qCI qDO xB (by rw [Nat.mul_one,zF];exact qNl _ k xB)) O ?_
    refine J.b O<|J.c j20<|J.H<|J.p 2 O<|J.g (qJM O O qJ6 qEV) O<|J.q (qBb O O (λF' _=>qFI F' _ 4 xC)) O ?_
    rintro⟨A45,c45,m45⟩ h45
    try dsimp only at h45
    refine J.q (qAX (i:=1) (m2:=m45) O O O qBu qBu el5 O hrow xD h45.sl (qIj _) xB xB) O ?_
    rintro⟨A46,c46,m46⟩ h46
    try dsimp only at h46
    rw [←qET,←qG8 t k xB] at h46
    refine J.c2 [0,1] [F,m46] O xC<|J.b O<|J.a4<|J.a2<|J.u (J.D j19 ?_)
    refine J.H<|J.g (qAR O O O xB) O<|J.b O<|J.a4<|J.u<|J.a8 (k+1,A46,c46,m46) (λx (hx:_∧8-x.1<8-k)=>hI4 x hx.1 hx.2) ⟨⟨by dsimp only;omega,h46⟩,by dsimp only;omega⟩ ⟨O,O,O,trivial⟩ (λ_ h=>h)
  refine J.b3<|J.a0<|J.a0<|J.b4 ?_
  refine J.u (J.D j15 ?_)
  refine J.k λ_ j21=>?_
  have hk8:k=8:=xB
  subst hk8
  exact J.H<|J.b O<|J.g (qB3 O O qBu u5_ u9_ (m:=m) xD hrow.sl) O<|J.b O<|J.c j21<|J.A<|J.E hw0 O () (by rw [hsum];rfl) trivial [0] O xC
namespace Sha
def tagParts(tag:UInt8)(ls:List xA)(k:Nat):List xA:= [[tag]]++(ls.take k).flatMap λs=> [numB (UInt64.ofNat s.length) 4,s]
def tagB(tag:UInt8)(ls:List xA):xA:= [tag]++ls.flatMap λs=>numB (UInt64.ofNat s.length) 4++s
def tagged(tag:UInt8)(ls:List xA):xA:=(sum (tagB tag ls)).take 16
theorem tagParts_succ(tag:UInt8)(ls:List xA)(k:Nat){s:xA}(h:ls[k]?=some s):tagParts tag ls (k+1)=tagParts tag ls k++ [numB (UInt64.ofNat s.length) 4,s]:=by
 obtain ⟨hk,rfl⟩:=List.getElem?_eq_some_iff.1 h
 unfold tagParts
 rw [jK hk,List.flatMap_append,←jX]
 simp
theorem tagParts_flat(tag:UInt8)(ls:List xA):(tagParts tag ls ls.length).flatten=tagB tag ls:=by
 unfold tagParts tagB
 rw [jm,zK]
 congr 1
 induction ls with
 |nil=>rfl
 |cons a l ih=>rw [List.flatMap_cons,List.flatMap_cons,zK,ih];simp
theorem tagB_length(tag:UInt8)(ls:List xA):(tagB tag ls).length=1+4*ls.length+ls.flatten.length:=by
 unfold tagB
 rw [jA]
 induction ls with
 |nil=>rfl
 |cons a l ih=>simp only [List.flatMap_cons,jA,numB_length,jD,ji,jG] at ih⊢;omega
theorem tagged_length(tag:UInt8)(ls:List xA):(tagged tag ls).length=16:=by rw [tagged,jF,sum_length];rfl
def hi(b:UInt8):UInt8:=UInt8.ofNat (b.toNat/2^min 4 8)
end Sha
theorem qCL(a b:List xA):qAH (a++b)=qAH a++qAH b:=by simp [qAH]
theorem qUd{ls:List xA}{k:Nat}{s:xA}(h:ls[k]?=some s):s.length≤ls.flatten.length:=by
 have:s∈ls:=jM h
 induction ls generalizing k with
 |nil=>cases this
 |cons a l ih=>
  cases k with
  |zero=>simp at h;subst h;simp
  |succ k=>simp only [ji,jA];simp only [List.getElem?_cons_succ] at h;have:=ih h (jM h);omega
attribute [local irreducible] Sha.tagParts Sha.tagB
theorem qA3(F:Hp)(hK:qAG F ⟨3,0,none⟩ (Sha.K.map W32))(tag:UInt8)(A:Option Addr)(n c:Nat)(ls:List xA)(hl:Sl F 1 A n c (qAH ls))(htot:ls.flatten.length≤8796093022208)(hn:n≤1099511627776):
    Cz prog 106 [B8 tag,.slice A n c] F (Str (Sha.tagged tag ls)):=by
  have hlen:ls.length=n:=by have:=hl.1;simpa [qAH] using this
  have htl:=Sha.tagB_length tag ls
  have hfl:=Sha.tagParts_flat tag ls
  rw [hlen] at hfl htl
  refine Ct.walk func106 O ntmps106 O (λw0 hw0=>?_)
  refine J.f λ_ j1=>J.b O<|J.c j1<|J.f λ_ j2=>J.b O<|J.q (qAE (l:= [.tmp 8]) (xs:= [[B8 tag]]) O O O O qBu el5 O xC xC xD) O λg9 _=>J.g (qB3 (l:= [tag]) O O qBu u5_ u9_ (m:=blk g9 [B8 tag] 5) xD (qAm (q:=True) (xs:= [[B8 tag]]) O xD).sl) O<|J.q (qAE (l:= [.tmp 10]) (xs:= [[Str [tag]]]) O O O O qAn el9 O xC xC xD) O λg11 _=>J.c2 [0,2] [F,blk g11 [Str [tag]] 9] O xC<|J.b O<|J.c j2<|J.k λ_ j3=>J.f λ_ j4=>J.b O<|J.g (qAO qAn O O) O<|J.b O<|J.c j4<|J.T<|J.b5 (X:=Nat×Option Addr×Nat×Hp) (λx=> [(5,.slice x.2.1 (2*x.1+1) x.2.2.1),(12,.slice A n c),(13,I n),(14,I x.1)]) (λx=> [F,x.2.2.2]) (λx=>x.1≤n∧Row x.2.2.2 9 1 x.2.1 (2*x.1+1) x.2.2.1 (qAH (Sha.tagParts tag ls x.1))) (λx=>n-x.1) (0,some ⟨g11,0,none⟩,1,blk g11 [Str [tag]] 9) (⟨jE _,by unfold Sha.tagParts;exact qAm (xs:=qAH [[tag]]) O (by simp [qAH])⟩) ⟨O,O,O,O,trivial⟩ (λ_ h=>h) ?_
  rintro⟨k,A1,c1,m⟩ ⟨hk,hrow⟩ I0 hI0
  dsimp only at hk hrow⊢
  refine J.f λ_ j5=>J.g (qAS O O O) O<|J.c j5<|J.k λ_ j6=>J.Z O (λh15=>?_) (λh15=>?_)
  ·
    refine J.M j6<|J.k λ_ j7=>J.T<|J.k λ_ j8=>?_
    have hkn:k<n:=xB
    obtain ⟨s,hs⟩: ∃s,ls[k]?=some s:=⟨_,jC xB⟩
    have hsl:=qUd hs
    refine J.H<|J.g (qAF O O O qAn z9_ hl xB) O<|J.g (qAI O O b9_ xD (hl.elem (qAc hs))) O<|J.b O<|J.c j8<|J.H<|J.p 2 O<|J.g (qAu u9_ O O) O<|J.g (qAw O O u3_ qEV xB) O<|J.q (qBb O O (λF' _=>qFI F' _ 4 xC)) O ?_
    rintro⟨A22,c22,m22⟩ h22
    try dsimp only at h22
    refine J.g (qB3 O O qBu u5_ u9_ (m:=m22) xD h22.sl) O<|J.b O<|J.q (qAE (l:= [.tmp 23,.tmp 24]) (xs:= [[Str (Sha.numB (UInt64.ofNat s.length) 4)],[Str s]]) O O O O qAn el9 O xC xC xD) O λg25 _=>J.q (qAX (i:=1) (m2:=blk g25 [Str (Sha.numB (UInt64.ofNat s.length) 4),Str s] 9) O O O qAn qAn el9 O hrow xD (qAm (q:=True) (xs:=qAH [(Sha.numB (UInt64.ofNat s.length) 4),s]) O (by simp [qAH])).sl (by simp [qAH,Value.oneCell']) xB xB) O ?_
    rintro⟨A26,c26,m26⟩ h26
    try dsimp only at h26
    rw [←qCL,←Sha.tagParts_succ tag ls k hs] at h26
    refine J.c2 [0,1] [F,m26] O xC<|J.b O<|J.a4<|J.a2<|J.u (J.D j7 ?_)
    refine J.H<|J.g (qAR O O O xB) O<|J.b O<|J.a4<|J.u<|J.a8 (k+1,A26,c26,m26) (λx (hx:_∧n-x.1<n-k)=>hI0 x hx.1 hx.2) ⟨⟨by dsimp only;omega,h26⟩,by dsimp only;omega⟩ ⟨O,O,O,O,trivial⟩ (λ_ h=>h)
  refine J.b3<|J.a0<|J.a0<|J.b4 ?_
  refine J.u (J.D j3 ?_)
  refine J.k λ_ j9=>?_
  have hkn:n=k:=xB
  subst hkn
  exact J.H<|J.b O<|J.q (qAZ O O (λF' hF=>qVi F' (hK.mono (Fa hF)) A1 (2*n+1) c1 (Sha.tagParts tag ls n) (hrow.sl.mono (Fa hF)) (by rw [hfl];omega) xB)) O λg29 _=>J.g (qA9 (l:=0) (h:=16) u9_ O O O O (by rw [Sha.sum_length];omega)) O<|J.b O<|J.c j9<|J.A<|J.E hw0 O () (by rw [hfl];rfl) trivial [0] O xC
end Go.Proofs.YtmemgokiolfdoaaGreatDoor
namespace Go.Proofs.YtmemgokiolfdoaaGreatDoor
open Go Go.Fw Go.Proofs.Tryz
section
variable{P:Program}{env:Env}{rs:List Hp}{o:Oper}{t t':TypeId}{x y:Operand}{a b:UInt32}
end
attribute [local irreducible] Sha.rnds Sha.sched Sha.mix Sha.rotr Sha.exts
end Go.Proofs.YtmemgokiolfdoaaGreatDoor
namespace Go.Proofs.YtmemgokiolfdoaaGreatDoor
open Go Go.Fw Go.Proofs.Tryz
def qCV(ok:Bool)(e bad:Int):Int:=if ok=false∧bad=0 then e else bad
def qHj(ok:Bool)(e bad:Int)(l:List Value):List Value:=if ok=false∧bad=0 then qBD l 2 [I e] else l
theorem qJe{ok:Bool}{e bad:Int}{l:List Value}(hl:l.length=3):(qHj ok e bad l).length=3:=by
 unfold qHj
 split
 · rw [qDE xB];exact hl
 · exact hl
theorem qJg{ok:Bool}{e bad:Int}{l:List Value}(hl:l.length=3)(hb:l[2]?=some (I bad)):(qHj ok e bad l)[2]?=some (I (qCV ok e bad)):=by
 unfold qHj qCV
 split
 · exact qDF xB
 · exact hb
theorem qJf{ok:Bool}{e bad:Int}{g:Nat}{l:List Value}{mr:Hp}{bs:xA}{A:Option Addr}{c:Nat}{p:Option Addr}(hl:l.length=3)(hb:Bld g 0 l mr bs A c p):Bld g 0 (qHj ok e bad l) mr bs A c p:=by
 unfold qHj
 split
 · exact⟨(qB1 xB xC).trans hb.a0,hb.self,(qB1 xB xC).trans hb.a1,hb.row,hb.cap⟩
 · exact hb
theorem qR6(F:Hp)(g:Nat)(l:List Value)(hl:l.length=3)(bad:Int)(hb:l[2]?=some (I bad))(e:Int):
    Ct prog 134 [Ptr g,.bool true,I e] [blk g l 148,F] (λ_:Unit=> .bool (decide (qCV true e bad=0))) (λ_=>True) (λ_=> [blk g (qHj true e bad l) 148,F]):=by
  refine Ct.walk func134 O ntmps134 O (λw0 hw0=>?_)
  refine J.f λ_ j1=>J.b O<|J.c j1<|J.k λ_ j2=>J.f λ_ j3=>J.b O<|J.g (qAs O O) O<|J.p 7 O<|J.c j3<|J.a3 ?_
  exact J.M j2<|J.f λ_ j4=>J.b O<|J.g (qAB O O) O<|J.W 2 qGn qLk O O O O O<|J.g (qAD 0 O O O qMs (by first|exact hb|exact qDF xB)) O<|J.g (qAe O O O) O<|J.b O<|J.c j4<|J.A<|J.E hw0 O () (congrArg Value.bool (decide_eq_decide.2 (by unfold qCV;rw [if_neg (show¬(true=false∧bad=0) from λh=>by cases h.1)]))) trivial [0,1] (by show [blk g _ _,F]= [blk g (qHj true e bad l) _,F];unfold qHj;rw [if_neg (show¬(true=false∧bad=0) from λh=>by cases h.1)]) xC
theorem qPF(F:Hp)(g:Nat)(l:List Value)(hl:l.length=3)(bad:Int)(hb:l[2]?=some (I bad))(e:Int):
    Ct prog 134 [Ptr g,.bool false,I e] [blk g l 148,F] (λ_:Unit=> .bool (decide (qCV false e bad=0))) (λ_=>True) (λ_=> [blk g (qHj false e bad l) 148,F]):=by
  refine Ct.walk func134 O ntmps134 O (λw0 hw0=>?_)
  refine J.f λ_ j1=>J.b O<|J.c j1<|J.k λ_ j2=>J.f λ_ j3=>J.b O<|J.g (qAs O O) O<|J.p 2 O<|J.G (qAB O O) O<|J.G (qAA O O qGn O qLk O) O<|J.G (qAD 0 O O O qMs hb) O<|J.G (qAe O O O) O<|J.b O<|J.c j3<|J.Z O (λh15=>?_) (λh15=>?_)
  ·
    exact J.H<|J.p 2 O<|J.g (qAB O O) O<|J.W 2 qGn qLk O O O O O<|J.a7 (qAW (i:=0) O O O O O qLk O (by rw [hl];exact jJ 3)) O O λ_ _=>J.c j2<|J.f λ_ j4=>J.b O<|J.g (qAB O O) O<|J.W 2 qGn qLk O O O O O<|J.g (qAD 0 O O O qMs (by first|exact hb|exact qDF xB)) O<|J.g (qAe O O O) O<|J.b O<|J.c j4<|J.A<|J.E hw0 O () (congrArg Value.bool (decide_eq_decide.2 (by unfold qCV;rw [if_pos (show false=false∧bad=0 from⟨O,xB⟩)]))) trivial [0,1] (by show [blk g _ _,F]= [blk g (qHj false e bad l) _,F];unfold qHj;rw [if_pos (show false=false∧bad=0 from⟨O,xB⟩)]) xC
  exact J.M j2<|J.f λ_ j5=>J.b O<|J.g (qAB O O) O<|J.W 2 qGn qLk O O O O O<|J.g (qAD 0 O O O qMs (by first|exact hb|exact qDF xB)) O<|J.g (qAe O O O) O<|J.b O<|J.c j5<|J.A<|J.E hw0 O () (congrArg Value.bool (decide_eq_decide.2 (by unfold qCV;rw [if_neg (show¬(false=false∧bad=0) from λh=>h15 h.2)]))) trivial [0,1] (by show [blk g _ _,F]= [blk g (qHj false e bad l) _,F];unfold qHj;rw [if_neg (show¬(false=false∧bad=0) from λh=>h15 h.2)]) xC
theorem qMf(F:Hp)(g:Nat)(l:List Value)(hl:l.length=3)(bad:Int)(hb:l[2]?=some (I bad))(ok:Bool)(e:Int):
    Ct prog 134 [Ptr g,.bool ok,I e] [blk g l 148,F] (λ_:Unit=> .bool (decide (qCV ok e bad=0))) (λ_=>True) (λ_=> [blk g (qHj ok e bad l) 148,F]):=by
  cases ok
  · exact qPF F g l hl bad hb e
  · exact qR6 F g l hl bad hb e
def Wtr(m:Hp)(g:Nat)(bs:xA)(bad:Int):Prop:= ∃l mr A c p,m=U [blk g l 148,mr]∧Dj (blk g l 148) mr∧l.length=3∧Bld g 0 l mr bs A c p∧l[2]?=some (I bad)
theorem lies(l:List Value)(hl:l.length=3):liesAt prog prog.depth 148 (l.length/prog.cellsOf 148) 0 146 1=true:=by rw [hl];kernel_rfl
def okN(n:UInt64)(size:Nat):Bool:=decide (n.toNat<2^(8*size))
def qLs(n:UInt64)(size:Nat)(bs:xA)(bad:Int):xA:=if qCV (okN n size) 10 bad=0 then bs++Sha.numB n size else bs
def okF(s:xA)(size:Nat):Bool:=decide (s.length=size)
def qLu(s:xA)(size:Nat)(bs:xA)(bad:Int):xA:=if qCV (okF s size) 10 bad=0 then bs++s else bs
theorem qRF(n:UInt64)(size t:Nat)(h:t<size):(Sha.numB n size).take (t+1)=(Sha.numB n size).take t++ [(UInt64.ofNat (n.toNat/2^min (8*(size-1-t)) 64)).toUInt8]:=by
 rw [jK (by rw [Sha.numB_length];exact h)]
 congr 2
 simp [Sha.numB]
theorem qTh(n:UInt64)(size:Nat)(h:size<8):(((UInt64.ofNat (n.toNat/2^min (8*size) 64)).toNat:Int)=0)↔n.toNat<2^(8*size):=by
  have hn:=n.toNat_lt
  rw [zh,je (zP (zt _ _) hn),jp xB]
  have hp:=zA (8*size)
  constructor
  · intro h0
    have h1:n.toNat/2^(8*size)=0:=xB
    rcases Nat.div_eq_zero_iff.1 h1 with h2|h2
    · omega
    · exact h2
  · intro h0
    rw [zJ h0];rfl
theorem qD4(F m:Hp)(g:Nat)(bs:xA)(bad:Int)(hw:Wtr m g bs bad)(hlen:bs.length≤1099511627776)(n:UInt64)(size:Nat)(h1:1≤size)(h8:size<8):
    Ct prog 133 [Ptr g,W64 n,I size] [m,F] (λ_:Hp=>Ptr g) (λm'=>Wtr m' g (qLs n size bs bad) (qCV (okN n size) 10 bad)) (λm'=> [m',F]):=by
  obtain ⟨l,mr,A,c,p,rfl,hd,hl,hb,hbad⟩:=hw
  have hfl:=qJe (ok:=(okN n size)) (e:=10) (bad:=bad) hl
  have hfb:=qJf (ok:=(okN n size)) (e:=10) (bad:=bad) hl hb
  have hf2:=qJg (ok:=(okN n size)) (e:=10) hl hbad
  refine Ct.walk func133 O ntmps133 O (λw0 hw0=>?_)
  refine J.e7 hd ?_
  refine J.f λ_ j1=>J.b O<|J.c j1<|J.k λ_ j2=>J.f λ_ j3=>J.b O<|J.g ((qA6 underlying149 O O O).as (v':= .bool false) O) O<|J.p 3 O<|J.G ((qBI O O O).yes xB) O<|J.p 2 O<|J.G ((qCb O O O).yes xB) O<|J.p 3 O<|J.G ((qAe O O O).no xB) O<|J.p 3 O<|J.G ((qDj O O O xB).nat (8*size) xB) O<|J.G (qGL O O O) O<|J.G ((qAe O O O).as (v':= .bool (okN n size)) (congrArg Value.bool (by unfold okN;exact decide_eq_decide.2 (qTh n size h8)))) O<|J.p 2 O<|J.d0 (qAK O O ent (Ct.use1 0 O (λF' _=>qMf F' g l hl bad hbad (okN n size) 10))) O λg29 _=>J.G (qFc O O) O<|J.b O<|J.c j3<|J.Z O (λh31=>?_) (λh31=>?_)
  ·
    exact J.f λ_ j4=>J.p 2 O<|J.c j4<|J.A<|J.V<|J.a9 hw0 (λ_ _ h=>h) (qKV O O) (qCa (U [blk g (qHj (okN n size) 10 bad l) 148,mr]) O (λhd=>⟨_,mr,A,c,p,O,hd,hfl,by unfold qLs;rw [if_neg xB];exact hfb,hf2⟩) [0,1,2] O O xC)
  refine J.M j2<|J.k λ_ j5=>J.k λ_ j6=>?_
  have hok:qCV (okN n size) 10 bad=0:=xB
  refine J.H<|J.b O<|J.g ((qA4 O O O xB).as (v':=I ((size:Int)-1-((0:Nat):Int))) (congrArg I xB)) O<|J.b O<|J.c j6<|J.T<|J.b5 (X:=Nat×List Value×Hp) (λx=> [(0,Ptr g),(1,W64 n),(7,I ((size:Int)-1-(x.1:Int)))]) (λx=> [blk g x.2.1 148,x.2.2,F]) (λx=>x.1≤size∧x.2.1.length=3∧x.2.1[2]?=some (I (qCV (okN n size) 10 bad))∧ ∃A c p,Bld g 0 x.2.1 x.2.2 (bs++(Sha.numB n size).take x.1) A c p) (λx=>size-x.1) (0,(qHj (okN n size) 10 bad l),mr) (⟨jE _,hfl,hf2,A,c,p,by rw [zm,jR];exact hfb⟩) ⟨O,O,O,trivial⟩ (λ_ h=>h) ?_
  rintro⟨t,l2,mr2⟩ ⟨ht,hl2,hbad2,A2,c2,p2,hb2⟩ I0 hI0
  dsimp only at ht hl2 hbad2 hb2⊢
  refine J.k λ_ j7=>J.f λ_ j8=>J.b O<|J.g (qBI O O O) O<|J.c j8<|J.Z O (λh36=>?_) (λh36=>?_)
  ·
    refine J.M j7<|J.k λ_ j9=>J.T<|J.b1 [] [] (.y 0 (.y 1 (.y 2 (.y 3 (.y 4 (.y 5 (.y 6 (.y 7 (.e 8 .nil))))))))) Tryz.wide xF xD ?_
    refine J.L ?_
    refine J.j O (qAB O O) O O<|J.j O (qAA O O qGn O sizeOf146 O) O O<|J.L ?_
    refine J.j O ((qA2 O O).nat (size-1-t) xB) O O<|J.j O ((qDj O O O xB).nat (8*(size-1-t)) xB) O O<|J.j O (qGL O O O) O O<|J.j O (qF6 O O qEV u5_) O O<|J.a1 O (qAK O O ent (Ct.useA [blk g l2 148,mr2] [F] (A':=λx:List Value×Hp=> [blk g x.1 148,x.2]) (new:=λ_=> []) (λF' _=>qJ2 F' mr2 g 148 0 l2 (bs++(Sha.numB n size).take t) A2 c2 p2 hb2 (lies l2 hl2) ((UInt64.ofNat (n.toNat/2^min (8*(size-1-t)) 64)).toUInt8) (by rw [jA,jF,Sha.numB_length];omega)))) O xD ?_
    rintro⟨l3,mr3⟩ ⟨A3,c3,hb3,hu3⟩
    dsimp only at hb3 hu3
    rw [jX,←qRF n size t xB] at hb3
    refine J.b0<|J.a2<|J.u (J.D j9 ?_)
    exact J.H<|J.b O<|J.g ((qA4 O O O xB).as (v':=I ((size:Int)-1-((t+1:Nat):Int))) (congrArg I xB)) O<|J.b O<|J.a4<|J.u<|J.a8 (t+1,l3,mr3) (λx (hx:_∧size-x.1<size-t)=>hI0 x hx.1 hx.2) ⟨⟨by dsimp only;omega,hu3.1.trans hl2,(hu3.2 2 xC xC).trans hbad2,A3,c3,_,hb3⟩,by dsimp only;omega⟩ ⟨O,O,O,trivial⟩ (λ_ h=>h)
  refine J.b3<|J.a0<|J.a0<|J.b4 ?_
  refine J.u (J.D j5 ?_)
  refine J.k λ_ j10=>?_
  have hts:t=size:=xB
  subst hts
  rw [jV (by rw [Sha.numB_length];exact jJ _)] at hb2
  exact J.H<|J.p 2 O<|J.c j10<|J.A<|J.a9 hw0 (λ_ _ h=>h) (qKV O O) (qCa (U [blk g l2 148,mr2]) O (λhd=>⟨l2,mr2,A2,c2,p2,O,hd,hl2,by unfold qLs;rw [if_pos hok];exact hb2,hbad2⟩) [0,1,2] O O xC)
theorem qDc(F m:Hp)(g:Nat)(bs:xA)(bad:Int)(hw:Wtr m g bs bad)(hlen:bs.length≤1099511627776)(s:xA)(hs:s.length≤1099511627776)(size:Nat):
    Ct prog 60 [Ptr g,Str s,I size] [m,F] (λ_:Hp=>Ptr g) (λm'=>Wtr m' g (qLu s size bs bad) (qCV (okF s size) 10 bad)) (λm'=> [m',F]):=by
  obtain ⟨l,mr,A,c,p,rfl,hd,hl,hb,hbad⟩:=hw
  have hfl:=qJe (ok:=(okF s size)) (e:=10) (bad:=bad) hl
  have hfb:=qJf (ok:=(okF s size)) (e:=10) (bad:=bad) hl hb
  have hf2:=qJg (ok:=(okF s size)) (e:=10) hl hbad
  refine Ct.walk func60 O ntmps60 O (λw0 hw0=>?_)
  refine J.e7 hd ?_
  refine J.f λ_ j1=>J.b O<|J.c j1<|J.k λ_ j2=>J.f λ_ j3=>J.b O<|J.g ((qVp underlying149 O O O).as (v':= .bool true) O) O<|J.p 3 O<|J.G (qAu u9_ O O) O<|J.b O<|J.G ((qAe O O O).as (v':= .bool (okF s size)) (congrArg Value.bool (by unfold okF;exact decide_eq_decide.2 xB))) O<|J.d0 (qAK O O ent (Ct.use1 0 O (λF' _=>qMf F' g l hl bad hbad (okF s size) 10))) O λg15 _=>J.b O<|J.c j3<|J.Z O (λh16=>?_) (λh16=>?_)
  ·
    refine J.H<|J.b O<|J.g (qAB O O) O<|J.W 0 qGn sizeOf146 O O O O O<|J.b O<|J.q (qAK O O ent (Ct.useA [blk g (qHj (okF s size) 10 bad l) 148,mr] [F] (A':=λx:List Value×Hp=> [blk g x.1 148,x.2]) (new:=λ_=> []) (λF' _=>qBU F' mr g 148 0 (qHj (okF s size) 10 bad l) bs A c p hfb (lies _ hfl) s xB))) O ?_
    rintro⟨l3,mr3⟩ ⟨A3,c3,hb3,hu3⟩
    dsimp only at hb3 hu3
    exact J.c j2<|J.f λ_ j4=>J.p 2 O<|J.c j4<|J.A<|J.a9 hw0 (λ_ _ h=>h) (qKV O O) (qCa (U [blk g l3 148,mr3]) O (λhd=>⟨l3,mr3,A3,c3,_,O,hd,hu3.1.trans hfl,by unfold qLu;rw [if_pos xG];exact hb3,(hu3.2 2 xC xC).trans hf2⟩) [0,1,2] O O xC)
  exact J.M j2<|J.f λ_ j5=>J.p 2 O<|J.c j5<|J.A<|J.a9 hw0 (λ_ _ h=>h) (qKV O O) (qCa (U [blk g (qHj (okF s size) 10 bad l) 148,mr]) O (λhd=>⟨_,mr,A,c,p,O,hd,hfl,by unfold qLu;rw [if_neg xG];exact hfb,hf2⟩) [0,1,2] O O xC)
theorem qN3{P:Program}{X:Type}{f:FuncId}{vs:List Value}{a b:Hp}{r:List Hp}{val:X→Value}{φ:X→Prop}{A B:X→Hp}{ψ:Hp→Prop}{v:Value}(hd:Dj a b)(hv: ∀x,φ x→val x=v)(hp: ∀x,φ x→Dj (A x) (B x)→ψ (U [A x,B x]))(h:Ct P f vs (a::b::r) val φ (λx=>A x::B x::r)):Ct P f vs (U [a,b]::r) (λ_:Hp=>v) ψ (λm=>m::r):=
 λw0 w hs=>(h w0 w (hs.splitU hd)).mono λe w' ⟨x,he,hx,hs'⟩=>⟨U [A x,B x],by rw [he,hv x hx],hp x hx hs'.dj2,hs'.joinU⟩
theorem failW(F m:Hp)(g:Nat)(bs:xA)(bad:Int)(hw:Wtr m g bs bad)(hlen:bs.length≤1099511627776)(ok:Bool)(e:Int):
    Ct prog 134 [Ptr g,.bool ok,I e] [m,F] (λ_:Hp=> .bool (decide (qCV ok e bad=0))) (λm'=>Wtr m' g bs (qCV ok e bad)) (λm'=> [m',F]):=by
  obtain ⟨l,mr,A,c,p,rfl,hd,hl,hb,hbad⟩:=hw
  exact qN3 (A:=λ_:Unit=>blk g (qHj ok e bad l) 148) (B:=λ_=>mr) hd (λ_ _=>rfl) (λ_ _ hd'=>⟨_,mr,A,c,p,O,hd',qJe hl,qJf hl hb,qJg hl hbad⟩) (Ct.use1 0 (m':=λ_:Unit=>blk g (qHj ok e bad l) 148) (new:=λ_=> []) O (λF' _=>qMf F' g l hl bad hbad ok e))
theorem qJ1(F m:Hp)(g:Nat)(bs:xA)(bad:Int)(hw:Wtr m g bs bad)(hlen:bs.length≤2199023255552)(s:xA)(hs:s.length≤1099511627776):
    Ct prog 111 [.pointer (some ⟨g,0,none⟩),Str s] [m,F] (λ_:Hp=> .tuple #[I s.length,.nilIface]) (λm'=>Wtr m' g (bs++s) bad) (λm'=> [m',F]):=by
  obtain ⟨l,mr,A,c,p,rfl,hd,hl,hb,hbad⟩:=hw
  exact qN3 (A:=λx:List Value×Hp=>blk g x.1 148) (B:=λx=>x.2) hd (λ_ _=>rfl) (λx hx hd'=>by obtain ⟨A3,c3,hb3,hu3⟩:=hx;exact⟨x.1,x.2,A3,c3,_,O,hd',hu3.1.trans hl,hb3,(hu3.2 2 xC xC).trans hbad⟩) (qBU F mr g 148 0 l bs A c p hb (lies l hl) s xB)
def okT(s:xA):Bool:=decide (s.length≤4096)
def qLp(s:xA)(bs:xA)(bad:Int):xA:=if qCV (okT s) 2 bad=0 then bs++Sha.numB (UInt64.ofNat s.length) 2++s else bs
theorem qWT{s:xA}{bad:Int}(h:qCV (okT s) 2 bad=0):s.length≤4096∧bad=0:=by
  unfold qCV okT at h
  split at h
  · omega
  · rename_i h1
    refine⟨?_,h⟩
    simp only [decide_eq_false_iff_not] at h1
    omega
theorem qRB{n:Nat}(h:n≤4096):okN (UInt64.ofNat n) 2=true:=by
 unfold okN
 rw [decide_eq_true_iff,zh,je xB]
 omega
theorem qCq{n:UInt64}{size:Nat}{bs:xA}(h:okN n size=true):qLs n size bs 0=bs++Sha.numB n size:=by
 unfold qLs qCV
 rw [h];rfl
theorem qP0(F m:Hp)(g:Nat)(bs:xA)(bad:Int)(hw:Wtr m g bs bad)(hlen:bs.length≤1099511627776)(s:xA)(hs:s.length≤1099511627776):
    Ct prog 59 [Ptr g,Str s] [m,F] (λ_:Hp=>Ptr g) (λm'=>Wtr m' g (qLp s bs bad) (qCV (okT s) 2 bad)) (λm'=> [m',F]):=by
  refine Ct.walk func59 O ntmps59 O (λw0 hw0=>?_)
  refine J.f λ_ j1=>J.b O<|J.c j1<|J.k λ_ j2=>J.f λ_ j3=>J.b O<|J.g ((qA6 underlying149 O O O).as (v':= .bool false) O) O<|J.p 3 O<|J.G (qAu u9_ O O) O<|J.G ((qCb O O O).as (v':= .bool (okT s)) (congrArg Value.bool (by unfold okT;exact decide_eq_decide.2 xB))) O<|J.d0 (qAK O O ent (failW F m g bs bad hw hlen (okT s) 2)) O ?_
  rintro m1 hw1
  refine J.G (qFc O O) O<|J.b O<|J.c j3<|J.Z O (λh14=>?_) (λh14=>?_)
  ·
    exact J.f λ_ j4=>J.p 2 O<|J.c j4<|J.A<|J.V<|J.E hw0 O m1 O (by unfold qLp;rw [if_neg xB];exact hw1) [0,1] O xC
  refine J.M j2<|J.k λ_ j5=>?_
  have hok:qCV (okT s) 2 bad=0:=xB
  have hs4:=(qWT hok).1
  rw [hok] at hw1
  refine J.H<|J.p 2 O<|J.g (qAu u9_ O O) O<|J.g (qAw O O u3_ qEV xB) O<|J.q (qAK O O ent ((qD4 F m1 g bs 0 hw1 hlen (UInt64.ofNat s.length) 2 xB xB))) O ?_
  rintro m2 hw2
  rw [qCq (qRB hs4),qRB hs4] at hw2
  refine J.c j5<|J.f λ_ j6=>J.b O<|J.g (qAB O O) O<|J.W 0 qGn sizeOf146 O O O O O<|J.b O<|J.q (qAK O O ent (qJ1 F m2 g (bs++Sha.numB (UInt64.ofNat s.length) 2) 0 hw2 (by rw [jA,Sha.numB_length];omega) s hs)) O ?_
  rintro m3 hw3
  exact J.c j6<|J.f λ_ j7=>J.p 2 O<|J.c j7<|J.A<|J.E hw0 O m3 O (by unfold qLp;rw [if_pos hok,hok];exact hw3) [0,1] O xC
theorem qDf(F m:Hp)(g:Nat)(bs:xA)(bad:Int)(hw:Wtr m g bs bad)(hlen:bs.length≤2199023255552):
    Ct prog 61 [Ptr g] [m,F] (λ_:Hp=> .tuple #[Str (if bad=0 then bs else []),I bad]) (λm'=>Wtr m' g bs bad) (λm'=> [m',F]):=by
  obtain ⟨l,mr,A,c,p,rfl,hd,hl,hb,hbad⟩:=hw
  refine Ct.walk func61 O ntmps61 O (λw0 hw0=>?_)
  refine J.e7 hd ?_
  refine J.f λ_ j1=>J.p 2 O<|J.c j1<|J.k λ_ j2=>J.T<|J.f λ_ j3=>J.b O<|J.g ((qA6 underlying149 O O O).as (v':= .bool false) O) O<|J.b O<|J.c j3<|J.a3 ?_
  refine J.f λ_ j4=>J.b O<|J.g (qAB O O) O<|J.W 2 qGn qLk O O O O O<|J.g (qAD 0 O O O qMs hbad) O<|J.g (qAV O O O) O<|J.b O<|J.c j4<|J.Z O (λh7=>?_) (λh7=>?_)
  ·
    refine J.k λ_ j5=>J.b1 [blk g l 148,mr,F] [] (.y 0 (.y 1 (.y 2 (.y 3 (.y 4 (.y 5 .nil)))))) Tryz.wide xF xD ?_
    refine J.L ?_
    refine J.j O (qAB O O) O O<|J.j O (qAA O O qGn O qLk O) O O<|J.j O (qAD 0 O O O qMs hbad) O O<|J.b7 ?_
    refine J.b7 ?_
    refine J.b0<|J.u (J.D j5 ?_)
    exact J.A<|J.a5<|J.V<|J.a9 hw0 (λ_ _ h=>h) (qBw O O O) (qCa (U [blk g l 148,mr]) (by rw [if_neg xB]) (λhd=>⟨l,mr,A,c,p,O,hd,hl,hb,hbad⟩) [0,1,2] O O xC)
  refine J.b2<|J.a2<|J.u (J.D j2 ?_)
  refine J.k λ_ j6=>?_
  have hz:bad=0:=xB
  subst hz
  refine J.H<|J.b O<|J.g (qAB O O) O<|J.W 0 qGn sizeOf146 O O O O O<|J.q (qAK O O ent (Ct.useA [blk g l 148,mr] [F] (A':=λx:Hp=> [blk g l 148,x]) (new:=λ_=> []) (λF' _=>qEU F' mr g 148 0 l bs A c p hb xB))) O ?_
  rintro mr2 hb2
  exact J.p 2 O<|J.c j6<|J.A<|J.a9 hw0 (λ_ _ h=>h) (qBw O O O) (qCa (U [blk g l 148,mr2]) (O) (λhd=>⟨l,mr2,A,c,p,O,hd,hl,hb2,hbad⟩) [0,1,2] O O xC)
structure RS where
 s:xA
 bad:Int
def RS.can(st:RS)(size:Nat):Bool:=decide (st.bad=0∧size≤st.s.length)
def RS.out(st:RS)(size:Nat):xA:=if st.bad=0∧size≤st.s.length then st.s.take size else []
def RS.take(st:RS)(size:Nat):RS:=if st.bad=0 then(if size≤st.s.length then⟨st.s.drop size,0⟩ else⟨st.s,3⟩) else st
def RS.form(st:RS):RS:=if st.bad=0 then⟨st.s,4⟩ else st
def qFe(l:xA):Nat:=l.foldl (λn c=>n*256+c.toNat) 0
theorem qRM(l:xA)(t:Nat)(ht:t<l.length):qFe (l.take (t+1))=qFe (l.take t)*256+(l[t]'ht).toNat:=by
 rw [jK ht,qFe,List.foldl_append];rfl
theorem qRN(l:xA)(c:UInt8):qFe (l++ [c])=qFe l*256+c.toNat:=by
 rw [qFe,List.foldl_append];rfl
theorem qUR(l:xA):qFe l.reverse<256^l.length:=by
 induction l with
 |nil=>decide
 |cons c l ih=>
  rw [List.reverse_cons,qRN,jD,jw]
  have:=c.toNat_lt
  omega
theorem qMR(l:xA):qFe l<256^l.length:=by
 have:=qUR l.reverse
 rwa [List.reverse_reverse,List.length_reverse] at this
theorem RS.out_len(st:RS)(size:Nat):(st.out size).length≤size:=by
 unfold RS.out
 split
 · rw [jF];omega
 · exact jE _
theorem qXm(l:xA)(n t:Nat)(h:l.length≤n)(hn:n≤8)(ht:t<l.length):qFe (l.take t)<72057594037927936:=
 zc (qMR _) (jg (jn xB (show(l.take t).length≤7 by rw [jF];omega)) xC)
def RSb(g:Nat)(st:RS):Hp:=blk g [Str st.s,I st.bad] 314
theorem qXQ{P:Program}{env:Env}{rs:List Hp}{o:Oper}{t t':TypeId}{x y:Operand}{a m:Nat}{yk:IntKind}(ho:o.op= .binOp .shl t x y t')(hx:ev env x=some (N64 a))(hy:ev env y=some (.int yk (m:Nat)))(hm:m≤64)(hr:a<18446744073709551616∧a*2^m<18446744073709551616):YOp P env rs o (N64 (a*2^m)):=by
 rw [N_W hr.1] at hx
 exact(qNV ho hx hy).as (by show Value.int .u64 _=Value.int .u64 _;rw [qBE hr.1,jp hm,qBE hr.2])
theorem qZH{P:Program}{env:Env}{rs:List Hp}{o:Oper}{t t':TypeId}{x y:Operand}{a b:Nat}(ho:o.op= .binOp .or t x y t')(hx:ev env x=some (N64 a))(hy:ev env y=some (N64 b))(hr:a<18446744073709551616∧b<18446744073709551616):YOp P env rs o (N64 (a|||b)):=by
 rw [N_W hr.1] at hx
 rw [N_W hr.2] at hy
 exact(qQ5 ho hx hy).as (by show Value.int .u64 _=Value.int .u64 _;rw [UInt64.toNat_or,qBE hr.1,qBE hr.2])
theorem qZG(a b:Nat)(h:b<256):a*2^8|||b=a*256+b:=by
 rw [z7,←Nat.two_pow_add_eq_or_of_lt (i:=8) h]
theorem qW4(F:Hp)(s:xA):
    Ct prog 122 [Str s] [F] Ptr (λ_=>True) (λg=> [RSb g ⟨s,0⟩,F]):=by
  refine Ct.walk func122 O ntmps122 O (λw0 hw0=>?_)
  refine J.f λ_ j1=>J.b O<|J.c j1<|J.f λ_ j2=>J.b O<|J.g (qAL (places:= [(0,1),(1,1)]) (r:= [Str s,I 0]) O O O qLz zeroValue314 (λ_=>xI) O) O<|J.q (qAb O O O) O ?_
  rintro g5 _
  exact J.b O<|J.c j2<|J.A<|J.E hw0 O g5 O trivial [1,0] O xC
theorem qP2(F:Hp)(g:Nat)(st:RS)(size:Nat):
    Ct prog 201 [Ptr g,I size] [RSb g st,F] (λ_:Unit=> .tuple #[Str (st.out size),.bool (st.can size)]) (λ_=>True) (λ_=> [RSb g (st.take size),F]):=by
  obtain ⟨s,bad⟩:=st
  change Ct _ _ _ [blk g [Str s,I bad] 314,F] _ _ _
  refine Ct.walk func201 O ntmps201 O (λw0 hw0=>?_)
  refine J.f λ_ j1=>J.p 2 O<|J.c j1<|J.k λ_ j2=>J.f λ_ j3=>J.b O<|J.g ((qA6 underlying247 O O O).as (v':= .bool false) O) O<|J.p 2 O<|J.G (qAB O O) O<|J.G (qAA O O qLz O qLk O) O<|J.G (qAD 0 O O O qMs O) O<|J.G (qAV O O O) O<|J.b O<|J.c j3<|J.Z O (λh15=>?_) (λh15=>?_)
  ·
    exact J.f λ_ j4=>J.p 2 O<|J.c j4<|J.A<|J.V<|J.a9 hw0 (λ_ _ h=>h) (qBw O O O) (qAg () (by unfold RS.out RS.can;simp only [h15,false_and,if_false,decide_false]) trivial [0,1] (by unfold RS.take RSb;simp only [if_neg h15];rfl) xC)
  refine J.M j2<|J.k λ_ j5=>J.f λ_ j6=>J.p 2 O<|J.g (qAB O O) O<|J.W 0 qLz z9_ O O O O O<|J.a6 0 b9_ O O O O O<|J.g (qAu u9_ O O) O<|J.g (qA5 O O O) O<|J.c j6<|J.Z O (λh22=>?_) (λh22=>?_)
  ·
    exact J.f λ_ j7=>J.b O<|J.g (qAB O O) O<|J.W 1 qLz qLk O O O O O<|J.a7 (qAW (i:=0) O O O O O qLk O xD) O O λ_ _=>J.c j7<|J.f λ_ j8=>J.p 2 O<|J.c j8<|J.A<|J.V<|J.a9 hw0 (λ_ _ h=>h) (qBw O O O) (qAg () (by unfold RS.out RS.can;simp only [show¬size≤s.length by omega,and_false,if_false,decide_false]) trivial [0,1] (by unfold RS.take RSb;simp only [show bad=0 by omega,if_true,if_neg (show¬size≤s.length by omega)];rfl) xC)
  exact J.M j5<|J.f λ_ j9=>J.b O<|J.g (qAB O O) O<|J.W 0 qLz z9_ O O O O O<|J.a6 0 b9_ O O O O O<|J.b O<|J.g ((qA9 u9_ O O O O ⟨xB,xB⟩).as (v':=Str (s.take size)) (congrArg Str ze)) O<|J.b O<|J.c j9<|J.f λ_ j10=>J.p 2 O<|J.g (qAB O O) O<|J.W 0 qLz z9_ O O O O O<|J.a6 0 b9_ O O O O O<|J.b O<|J.g ((qA9 u9_ O O O O ⟨xB,xB⟩).as (v':=Str (s.drop size)) (by rw [jm])) O<|J.g (qAB O O) O<|J.W 0 qLz z9_ O O O O O<|J.a7 (qAW (i:=0) O O O O O z9_ O xD) O O λ_ _=>J.c j10<|J.f λ_ j11=>J.p 3 O<|J.c j11<|J.A<|J.a9 hw0 (λ_ _ h=>h) (qBw O O O) (qAg () (by unfold RS.out RS.can;simp only [show bad=0 by omega,show size≤s.length by omega,and_self,if_true,decide_true]) trivial [0,1] (by unfold RS.take RSb;simp only [show bad=0 by omega,if_true,if_pos (show size≤s.length by omega)];rfl) xC)
theorem qGx(F:Hp)(g:Nat)(st:RS)(size:Nat)(h1:1≤size)(h8:size≤8):
    Ct prog 123 [Ptr g,I size] [RSb g st,F] (λ_:Unit=>N64 (qFe (st.out size))) (λ_=>True) (λ_=> [RSb g (st.take size),F]):=by
  have hol:=st.out_len size
  have hlt:=qMR (st.out size)
  refine Ct.walk func123 O ntmps123 O (λw0 hw0=>?_)
  refine J.f λ_ j1=>J.b O<|J.c j1<|J.k λ_ j2=>J.f λ_ j3=>J.b O<|J.g ((qAS O O O).no xB) O<|J.p 2 O<|J.G ((qA5 O O O).no xB) O<|J.b O<|J.c j3<|J.a3 ?_
  refine J.M j2<|J.f λ_ j4=>J.p 2 O<|J.q (qAK O O ent (Ct.use1 0 O (λF' _=>qP2 F' g st size))) O λg20 _=>J.b O<|J.g (qAT O O O) O<|J.g (qAT O O O) O<|J.p 2 O<|J.c j4<|J.f λ_ j5=>J.b O<|J.c j5<|J.k λ_ j6=>J.f λ_ j7=>J.b O<|J.g (qAu u9_ O O) O<|J.b O<|J.c j7<|J.T<|J.b5 (X:=Nat) (λt=> [(5,Str (st.out size)),(7,N64 (qFe ((st.out size).take t))),(24,I (st.out size).length),(25,I t)]) (λ_=> [RSb g (st.take size),F]) (λt=>t≤(st.out size).length) (λt=>(st.out size).length-t) 0 (jE _) ⟨O,O,O,O,trivial⟩ (λ_ h=>h) ?_
  intro t ht I0 hI0
  refine J.f λ_ j8=>J.g (qAS O O O) O<|J.c j8<|J.k λ_ j9=>J.Z O (λh26=>?_) (λh26=>?_)
  ·
    refine J.M j9<|J.k λ_ j10=>J.T<|J.k λ_ j11=>?_
    have ht1:t<(st.out size).length:=xB
    have hnt:=qXm (st.out size) size t hol h8 ht1
    refine J.H<|J.p 2 O<|J.c j11<|J.H<|J.b O<|J.g (qXQ (m:=8) O O O xB xB) O<|J.p 2 O<|J.g (qBl u9_ O O O (jC ht1)) O ?_
    refine J.g (qQ6 O O u5_ qEV) O<|J.g ((qZH O O O (by have:=(UInt8.toNat_lt ((st.out size)[t]'ht1));omega)).as (v':=N64 (qFe ((st.out size).take (t+1)))) (congrArg N64 ((qZG _ _ (UInt8.toNat_lt ((st.out size)[t]'ht1))).trans (qRM _ t ht1).symm))) O<|J.b O<|J.a4<|J.a2<|J.u (J.D j10 ?_)
    exact J.H<|J.g (qAR O O O xB) O<|J.b O<|J.a4<|J.u<|J.a8 (t+1) (λx (hx:_∧(st.out size).length-x<(st.out size).length-t)=>hI0 x hx.1 hx.2) ⟨xB,xB⟩ ⟨O,O,O,O,trivial⟩ (λ_ h=>h)
  refine J.b3<|J.a0<|J.a0<|J.b4 ?_
  refine J.u (J.D j6 ?_)
  refine J.k λ_ j12=>?_
  have hte:t=(st.out size).length:=xB
  subst hte
  exact J.H<|J.p 2 O<|J.c j12<|J.A<|J.E hw0 O () (by rw [jm]) trivial [0,1] O xC
theorem qKU(F:Hp)(g:Nat)(st:RS)(size:Nat):
    Ct prog 204 [Ptr g,I size] [RSb g st,F] (λ_:Unit=>Str (st.out size)) (λ_=>True) (λ_=> [RSb g (st.take size),F]):=by
  refine Ct.walk func204 O ntmps204 O (λw0 hw0=>?_)
  refine J.f λ_ j1=>J.b O<|J.c j1<|J.k λ_ j2=>J.f λ_ j3=>J.b O<|J.g ((qAS O O O).no xB) O<|J.c j3<|J.a3 ?_
  exact J.M j2<|J.f λ_ j4=>J.p 2 O<|J.q (qAK O O ent (Ct.use1 0 O (λF' _=>qP2 F' g st size))) O λg14 _=>J.b O<|J.g (qAT O O O) O<|J.g (qAT O O O) O<|J.p 2 O<|J.c j4<|J.f λ_ j5=>J.p 2 O<|J.c j5<|J.A<|J.E hw0 O () O trivial [0,1] O xC
def RS.textR(st:RS):RS:=if 4096<qFe (st.out 2) then(st.take 2).form else(st.take 2).take (qFe (st.out 2))
theorem qGe(g:Nat):Wtr (blk g [.pointer none,.slice none 0 0,I 0] 148) g [] 0:=
 ⟨[.pointer none,.slice none 0 0,I 0],λ_=>none,none,0,none,by funext k;simp only [U];cases blk g [.pointer none,.slice none 0 0,I 0] 148 k<;>rfl,λ_=> .inr O,O,⟨O,.inl O,O,qBZ.nil,.inl O⟩,O⟩
theorem qEH(s:xA)(n:Nat)(bs:xA)(bad:Int):(qLu s n bs bad).length≤bs.length+n:=by
 unfold qLu qCV okF
 by_cases h1:s.length=n<;>by_cases h2:bad=0<;>simp [h1,h2]
theorem qS9(n:UInt64)(size:Nat)(bs:xA)(bad:Int):(qLs n size bs bad).length≤bs.length+size:=by
 unfold qLs
 split
 · rw [jA,Sha.numB_length];omega
 · omega
theorem qMM{s:xA}{n:Nat}(h:s.length=n):okF s n=true:=decide_eq_true h
theorem okF_f{s:xA}{n:Nat}(h: ¬s.length=n):okF s n=false:=decide_eq_false h
theorem qCB(e bad:Int):qCV true e bad=bad:=by simp [qCV]
theorem qGk{s:xA}{n:Nat}(h:s.length=n)(bs:xA):qLu s n bs 0=bs++s:=by
 unfold qLu;rw [qMM h,qCB];simp
def qGz(o r:xA)(h:Int):Prop:=0≤h∧h≤6∧o.length=16∧r.length=16
instance (o r:xA) (h:Int):Decidable (qGz o r h):=by unfold qGz;infer_instance
def qBd(o r:xA)(h:Int):xA:=if qGz o r h then o++r++ [UInt8.ofNat h.toNat] else []
def qBN(o r:xA)(h:Int):Int:=if qGz o r h then 0 else 10
theorem numB1: ∀k,k<7→Sha.numB (UInt64.ofNat k) 1= [UInt8.ofNat k]:=by decide
theorem okN1: ∀k,k<7→okN (UInt64.ofNat k) 1=true:=by decide
def qOm(o r:xA):Int:=qCV (okF r 16) 10 (qCV (okF o 16) 10 0)
def pbs(o r:xA):xA:=qLu r 16 (qLu o 16 [] 0) (qCV (okF o 16) 10 0)
theorem qQi(o r:xA)(k:Nat)(hk:k≤6):qCV (okN (UInt64.ofNat k) 1) 10 (qOm o r)=qBN o r k:=by
 rw [okN1 k xB,qCB]
 unfold qOm qBN qGz okF qCV
 by_cases h1:o.length=16<;>by_cases h2:r.length=16<;>simp [h1,h2]<;>omega
theorem qZA(o r:xA)(k:Nat)(hk:k≤6)(h:qBN o r k=0):qLs (UInt64.ofNat k) 1 (pbs o r) (qOm o r)=qBd o r k:=by
  have hb:=qQi o r k hk
  unfold qLs qBd
  rw [hb,h,if_pos rfl,numB1 k xB]
  unfold qBN at h
  split at h
  · rename_i h1
    rw [if_pos h1]
    have h2:=h1
    unfold qGz at h2
    unfold pbs
    rw [qGk h2.2.2.1,qMM h2.2.2.1,qCB,qGk h2.2.2.2];simp
  · omega
theorem qXB{o r:xA}{h:Int}(hn: ¬qBN o r h=0):qBd o r h= []:=by
 unfold qBN at hn;unfold qBd
 split at hn
 · omega
 · rename_i h1;rw [if_neg h1]
theorem qVo{o r:xA}{h:Int}(hn:h<0∨6<h):Value.tuple #[Str [],I 10]= .tuple #[Str (qBd o r h),I (qBN o r h)]:=by
 have h1: ¬qGz o r h:=by unfold qGz;omega
 unfold qBd qBN
 rw [if_neg h1,if_neg h1]
theorem qXA(o r:xA)(k:Nat)(hk:k≤6):Value.tuple #[Str (if qCV (okN (UInt64.ofNat k) 1) 10 (qOm o r)=0 then qLs (UInt64.ofNat k) 1 (pbs o r) (qOm o r) else []),I (qCV (okN (UInt64.ofNat k) 1) 10 (qOm o r))]= .tuple #[Str (qBd o r k),I (qBN o r k)]:=by
 rw [qQi o r k hk]
 by_cases h:qBN o r k=0
 · rw [if_pos h,qZA o r k hk h]
 · rw [if_neg h,qXB h]
theorem qEP(F:Hp)(o r:xA)(h:Int)(ho:o.length≤1048576)(hr:r.length≤1048576):
    Cz prog 58 [.agg #[Str o,Str r,I h]] F (.tuple #[Str (qBd o r h),I (qBN o r h)]):=by
  refine Ct.walk func58 O ntmps58 O (λw0 hw0=>?_)
  refine J.f λ_ j1=>J.q (qAb O O O) O λg1 _=>J.p 2 O<|J.c j1<|J.k λ_ j2=>J.f λ_ j3=>J.W 2 qLo z3_ O O O O O<|J.a6 1 b3_ O O O O O<|J.g (qAS O O O) O<|J.b O<|J.b9 (d:=8) O (λh8=>?_) (λh8=>?_)
  ·
    refine J.p 4 O<|J.c j3<|J.c3 ?_
    exact J.f λ_ j4=>J.p 2 O<|J.c j4<|J.A<|J.V<|J.a9 hw0 (λ_ _ h=>h) (qBw O O O) (qAg () (qVo xB) trivial [0] O xC)
  refine J.G (qAA O O qLo O z3_ O) O<|J.G (qAD 1 O O O b3_ O) O<|J.G (qA5 O O O) O<|J.b O<|J.c j3<|J.Z O (λh12=>?_) (λh12=>?_)
  ·
    exact J.f λ_ j5=>J.p 2 O<|J.c j5<|J.A<|J.V<|J.a9 hw0 (λ_ _ h=>h) (qBw O O O) (qAg () (qVo xB) trivial [0] O xC)
  refine J.M j2<|J.k λ_ j6=>?_
  obtain ⟨k,hk⟩:=zw (show 0≤h by omega)
  have hk6:k≤6:=xB
  refine J.H<|J.q (qAJ O qLI O) O λg4 _=>J.c j6<|J.k λ_ j7=>J.b1 [blk g1 [Str o,Str r,I h] 32] [] (.y 0 (.y 1 (.y 3 (.y 4 (.y 6 (.y 7 (.y 8 (.e 2 (.e 5 (.e 9 (.e 10 (.y 11 (.y 12 (.y 13 (.y 14 .nil))))))))))))))) Tryz.wide xF xD ?_
  refine J.j O (qAA O O qLo O z9_ O) O O<|J.j O (qAD 0 O O O b9_ O) O O<|J.j O (qAA O O qLo O z9_ O) O O<|J.j O (qAD 0 O O O b9_ O) O O<|J.j O (qAA O O qLo O z3_ O) O O<|J.j O (qAD 0 O O O b3_ O) O O<|J.j O ((qCH O O u3_ qEV).as (v':=W64 (UInt64.ofNat k)) (by rw [show(h%18446744073709551616).toNat=k by omega])) O O<|J.a1 O (qAK O O ent (Ct.use1 2 O (λF' _=>qDc F' (blk g4 [.pointer none,.slice none 0 0,I 0] 148) g4 [] 0 (qGe g4) xC o xB 16))) O xD ?_
  rintro m15 hw15
  refine J.a1 O (qAK O O ent (Ct.use1 2 O (λF' _=>qDc F' m15 g4 (qLu o 16 [] 0) (qCV (okF o 16) 10 0) hw15 (by have:=qEH o 16 [] 0;simp only [jG] at this;omega) r xB 16))) O xD ?_
  rintro m18 hw18
  refine J.a1 O (qAK O O ent (Ct.use1 2 O (λF' _=>qD4 F' m18 g4 (pbs o r) (qOm o r) hw18 (by have:=qEH o 16 [] 0;have h2:=qEH r 16 (qLu o 16 [] 0) (qCV (okF o 16) 10 0);simp only [jG] at this;unfold pbs;omega) (UInt64.ofNat k) 1 xB xB))) O xD ?_
  rintro m22 hw22
  refine J.a1 O (qAK O O ent (Ct.use1 2 O (λF' _=>qDf F' m22 g4 (qLs (UInt64.ofNat k) 1 (pbs o r) (qOm o r)) (qCV (okN (UInt64.ofNat k) 1) 10 (qOm o r)) hw22 (by have:=qEH o 16 [] 0;have h2:=qEH r 16 (qLu o 16 [] 0) (qCV (okF o 16) 10 0);have h3:=qS9 (UInt64.ofNat k) 1 (pbs o r) (qOm o r);simp only [jG] at this;unfold pbs at h3⊢;omega)))) O xD ?_
  rintro m23 hw23
  refine J.c7 (Str (if qCV (okN (UInt64.ofNat k) 1) 10 (qOm o r)=0 then qLs (UInt64.ofNat k) 1 (pbs o r) (qOm o r) else [])) ?_
  refine J.c7 (I (qCV (okN (UInt64.ofNat k) 1) 10 (qOm o r))) ?_
  refine J.b7 ?_
  refine J.b7 ?_
  refine J.b0<|J.u (J.D j7 ?_)
  exact J.A<|J.a9 hw0 (λ_ _ h=>h) (qBw O O O) (qAg () (by subst hk;exact qXA o r k hk6) trivial [0] O xC)
theorem qZn(d:Nat)(o r o' r':xA)(h h':Int)(w:World):(Op.equalIn (d+2) 32 (.agg #[Str o,Str r,I h]) (.agg #[Str o',Str r',I h'])).run prog w= .ok (decide (o=o'∧r=r'∧h=h')) w:=by
 have u3:=u3_
 have a3:=b3_
 have us:=u9_
 have ag:=b9_
 have hS:prog.underlying 32=some (.struct (prog.fieldsOf 32)):=xI
 have hp:prog.stoodInHeld 32=false:=xI
 rw [show d+2=(d+1)+1 from rfl,run_equalIn_struct w (d+1) 32 _ _ hS hp]
 simp only [Program.fieldsOf,qLo]
 have hi: ∀(a b:Int) (w:World),(Op.equalIn (d+1) 3 (.int .i64 a) (.int .i64 b)).run prog w= .ok (a==b) w:=λa b w=>run_equalIn_int w d 3 .i64 .i64 a b u3
 have hs: ∀(a b:xA) (w:World),(Op.equalIn (d+1) 9 (Str a) (Str b)).run prog w= .ok (decide (a=b)) w:=λa b w=>by rw [run_equalIn_string w d 9 _ _ us,qFR]
 simp only [Op.eqFields]
 simp [part,a3,ag,hi,hs]
 by_cases h1:o=o'<;>by_cases h2:r=r'<;>by_cases h3:h=h'<;>simp [h1,h2,h3]
theorem qFa{o r:xA}{h:Int}(he:qBN o r h=0):(qBd o r h).length=33:=by
  unfold qBN at he;unfold qBd
  split at he
  · rename_i h1
    rw [if_pos h1]
    have h2:=h1
    unfold qGz at h2
    simp only [jA,jH]
    omega
  · omega
theorem qMN(F m:Hp)(g:Nat)(bs:xA)(bad:Int)(hw:Wtr m g bs bad)(hlen:bs.length≤1099511627776)(n:Nat)(hn:n<18446744073709551616)(size:Nat)(h1:1≤size)(h8:size<8):
    Ct prog 133 [Ptr g,N64 n,I size] [m,F] (λ_:Hp=>Ptr g) (λm'=>Wtr m' g (qLs (UInt64.ofNat n) size bs bad) (qCV (okN (UInt64.ofNat n) size) 10 bad)) (λm'=> [m',F]):=by
  rw [N_W hn]
  exact qD4 F m g bs bad hw hlen (UInt64.ofNat n) size h1 h8
theorem qHv{n size:Nat}(hn:n<18446744073709551616)(h:n<2^(8*size)):okN (UInt64.ofNat n) size=true:=by
 unfold okN
 rw [qBE hn]
 exact decide_eq_true h
def qAk:xA:=List.replicate 16 0
def tb(s:xA):xA:=Sha.numB (UInt64.ofNat s.length) 2++s
def RS.after:RS→Nat→RS
 |st,0=>st
 |st,k+1=>(st.after k).textR
theorem qF1(s:xA):(tb s).length=2+s.length:=by unfold tb;rw [jA,Sha.numB_length]
theorem wtrN(g:Nat):Wtr (blk g [.pointer none,.slice none 0 0,I 0] 148) g [] 0:=
 ⟨[.pointer none,.slice none 0 0,I 0],λ_=>none,none,0,none,by funext k;simp only [U];cases blk g [.pointer none,.slice none 0 0,I 0] 148 k<;>rfl,λ_=> .inr O,O,⟨O,.inl O,O,qBZ.nil,.inl O⟩,O⟩
theorem qMe(e:Int):qCV true e 0=0:=by unfold qCV;rw [if_neg xD]
theorem qRE(F m:Hp)(g:Nat)(bs:xA)(hw:Wtr m g bs 0)(hlen:bs.length≤1099511627776)(k size:Nat)(h1:1≤size)(h8:size<8)(hk:k<2^(8*size)):
    Ct prog 133 [Ptr g,N64 k,I size] [m,F] (λ_:Hp=>Ptr g) (λm'=>Wtr m' g (bs++Sha.numB (UInt64.ofNat k) size) 0) (λm'=> [m',F]):=by
  have hlt:k<18446744073709551616:=zc hk (jg (jn xC (show 8*size≤64 by omega)) xC)
  have hn:(UInt64.ofNat k).toNat=k:=qBE hlt
  have e:okN (UInt64.ofNat k) size=true:=by unfold okN;rw [hn];exact decide_eq_true hk
  have h:=qD4 F m g bs 0 hw hlen (UInt64.ofNat k) size h1 h8
  rw [qCq e,e,qMe] at h
  rw [N_W hlt];exact h
theorem qIw(F m:Hp)(g:Nat)(bs:xA)(hw:Wtr m g bs 0)(hlen:bs.length≤1099511627776)(s:xA)(hs:s.length≤4096):
    Ct prog 59 [Ptr g,Str s] [m,F] (λ_:Hp=>Ptr g) (λm'=>Wtr m' g (bs++tb s) 0) (λm'=> [m',F]):=by
  have h:=qP0 F m g bs 0 hw hlen s xB
  have e:okT s=true:=decide_eq_true hs
  have e2:qLp s bs 0=bs++tb s:=by unfold qLp tb;rw [e,qMe,if_pos rfl,jX]
  rw [e2,e,qMe] at h;exact h
theorem qLT(F m:Hp)(g:Nat)(bs:xA)(hw:Wtr m g bs 0)(hlen:bs.length≤1099511627776):
    Ct prog 61 [Ptr g] [m,F] (λ_:Hp=> .tuple #[Str bs,I (0:Nat)]) (λm'=>Wtr m' g bs 0) (λm'=> [m',F]):=by
  have h:=qDf F m g bs 0 hw xB
  rw [if_pos rfl] at h;exact h
theorem qHA{P:Program}{env:Env}{rs:List Hp}{o:Oper}{t t':TypeId}{x y:Operand}{a m:Nat}{yk:IntKind}(ho:o.op= .binOp .shr t x y t')(hx:ev env x=some (N64 a))(hy:ev env y=some (.int yk (m:Nat)))(hr:m≤64∧a<18446744073709551616):YOp P env rs o (N64 (a/2^m)):=by
 rw [N_W hr.2] at hx
 exact(qGL ho hx hy).as (by show Value.int .u64 _=Value.int .u64 _;rw [qBE hr.2,jp hr.1,qBE (zP (zt _ _) hr.2)])
theorem qXW{P:Program}{env:Env}{rs:List Hp}{o:Oper}{t u v x y z k a b c}(ho:o.op= .call {callee:= .builtin .min,args:= #[x,y,z],argTypes:= #[t,u,v]})(hx:ev env x=some (.int k a))(hy:ev env y=some (.int k b))(hz:ev env z=some (.int k c)):YOp P env rs o (.int k (min (min a b) c)):=λn ac w hk _=>by
 by_cases h:b<a<;>by_cases h2:c<(if b<a then b else a)<;>simp [execOp,ho,hk.ev hx,hk.ev hy,hk.ev hz,resolve,invoke,builtin,Builtin.min_,Builtin.min2,h] at h2⊢
 all_goals first|rw [if_pos xB]|rw [if_neg xB]
 all_goals omega
theorem and32{n:Nat}(h:n<4294967296):n&&&4294967295=n:=by
 have:=Nat.and_two_pow_sub_one_eq_mod n 32
 rw [show(2^32-1:Nat)=4294967295 from rfl] at this
 rw [this];exact je h
theorem qUS(F:Hp)(n:Nat)(hn:n<4294967296):
    Cz prog 192 [N64 1,N64 n] F (.tuple #[N64 0,N64 n]):=by
  refine Ct.walk func192 O ntmps192 O (λw0 hw0=>?_)
  exact J.f λ_ j1=>J.p 2 O<|J.c j1<|J.f λ_ j2=>J.b O<|J.g ((qMI (a:=1) (b:=4294967295) O O O xB).as (v':=N64 1) O) O<|J.b O<|J.c j2<|J.f λ_ j3=>J.b O<|J.g ((qHA (a:=1) (m:=32) O O O xB).as (v':=N64 0) O) O<|J.b O<|J.c j3<|J.f λ_ j4=>J.b O<|J.g ((qMI O O O xB).as (v':=N64 n) (congrArg N64 (and32 hn))) O<|J.b O<|J.c j4<|J.f λ_ j5=>J.b O<|J.g ((qHA (a:=n) (m:=32) O O O xB).as (v':=N64 0) (congrArg N64 (zJ xB))) O<|J.b O<|J.c j5<|J.f λ_ j6=>J.p 2 O<|J.g ((qHB O O O xB).as (v':=N64 n) (congrArg N64 (Nat.one_mul n))) O<|J.b O<|J.c j6<|J.f λ_ j7=>J.p 2 O<|J.g ((qHB O O O xB).as (v':=N64 0) (congrArg N64 (Nat.zero_mul n))) O<|J.b O<|J.g ((qHA (a:=n) (m:=32) O O O xB).as (v':=N64 0) (congrArg N64 (zJ xB))) O<|J.g ((qHD O O O xB).as (v':=N64 0) O) O<|J.b O<|J.c j7<|J.f λ_ j8=>J.b O<|J.g ((qMI (a:=0) (b:=4294967295) O O O xB).as (v':=N64 0) O) O<|J.b O<|J.c j8<|J.f λ_ j9=>J.b O<|J.g ((qHA (a:=0) (m:=32) O O O xB).as (v':=N64 0) O) O<|J.b O<|J.c j9<|J.f λ_ j10=>J.p 3 O<|J.g ((qHB O O O xB).as (v':=N64 0) O) O<|J.g ((qHD O O O xB).as (v':=N64 0) O) O<|J.b O<|J.c j10<|J.f λ_ j11=>J.p 2 O<|J.g ((qHB O O O xB).as (v':=N64 0) O) O<|J.b O<|J.g ((qHD O O O xB).as (v':=N64 0) O) O<|J.b O<|J.g ((qHA (a:=0) (m:=32) O O O xB).as (v':=N64 0) O) O<|J.g ((qHD O O O xB).as (v':=N64 0) O) O<|J.b O<|J.c j11<|J.f λ_ j12=>J.p 2 O<|J.g ((qHB O O O xB).as (v':=N64 n) (congrArg N64 (Nat.one_mul n))) O<|J.b O<|J.c j12<|J.A<|J.a9 hw0 (λ_ _ h=>h) (qBw O O O) (qAg () O trivial [0] O xC)
theorem qYQ(F:Hp)(n:Nat)(hn:n<4294967296):
    Cz prog 108 [N64 1,N64 n] F (.tuple #[N64 0,N64 n]):=by
  refine Ct.walk func108 O ntmps108 O (λw0 hw0=>?_)
  refine J.f λ_ j1=>J.p 2 O<|J.c j1<|J.k λ_ j2=>J.a3 ?_
  exact J.M j2<|J.f λ_ j3=>J.p 2 O<|J.q (qAZ O O (λF' hF=>qUS F' n hn)) O λg25 _=>J.p 5 O<|J.c j3<|J.f λ_ j4=>J.p 4 O<|J.c j4<|J.A<|J.a9 hw0 (λ_ _ h=>h) (qBw O O O) (qAg () O trivial [0] O xC)
theorem qMr(F mr:Hp)(g:Nat)(l:List Value)(bs:xA)(A:Option Addr)(c:Nat)(p:Option Addr)(hb:Bld g 0 l mr bs A c p):
    Ct prog 112 [Ptr g] [blk g l 146,F] (λ_:Unit=>I bs.length) (λ_=>True) (λ_=> [blk g l 146,F]):=by
  refine Ct.walk func112 O ntmps112 O (λw0 hw0=>?_)
  exact J.f λ_ j1=>J.b O<|J.c j1<|J.f λ_ j2=>J.b O<|J.g (qAB O O) O<|J.W 1 qDl qJu O O O O O<|J.g (qAD 0 O O O qPX hb.a1) O<|J.g (qAO qBu O O) O<|J.b O<|J.c j2<|J.A<|J.E hw0 O () O trivial [0,1] O xC
theorem qGy(F:Hp)(n:Nat)(h2:2≤n)(h3:n≤8192):
    Cz prog 43 [Str [0],I n] F (Str (List.replicate n 0)):=by
  refine Ct.walk func43 O ntmps43 O (λw0 hw0=>?_)
  refine J.f λ_ j1=>J.b O<|J.c j1<|J.k λ_ j2=>J.f λ_ j3=>J.b O<|J.c j3<|J.T<|J.f λ_ j4=>J.g ((qAe O O O).no xB) O<|J.b O<|J.c j4<|J.a3 ?_
  refine J.f λ_ j5=>J.g ((qAe O O O).no xB) O<|J.b O<|J.c j5<|J.a3 ?_
  refine J.b2<|J.a2<|J.u (J.D j2 ?_)
  refine J.k λ_ j6=>J.f λ_ j7=>J.b O<|J.g ((qAS O O O).no xB) O<|J.c j7<|J.a3 ?_
  refine J.M j6<|J.f λ_ j8=>J.b O<|J.g (qAu u9_ O O) O<|J.g ((qAw O O u3_ qIt xB).as (v':=N64 1) (N_W xB).symm) O<|J.b O<|J.g ((qAw O O u3_ qIt xB).as (v':=N64 n) (N_W xB).symm) O<|J.q (qAZ O O (λF' hF=>qYQ F' n xB)) O λg26 _=>J.p 5 O<|J.c j8<|J.k λ_ j9=>J.f λ_ j10=>J.b O<|J.g ((qA5 O O O).no xC) O<|J.p 2 O<|J.G ((qA5 O O O).no xB) O<|J.b O<|J.c j10<|J.a3 ?_
  refine J.M j9<|J.f λ_ j11=>J.b O<|J.g (qDJ O O qIt u3_ xB) O<|J.b O<|J.c j11<|J.k λ_ j12=>J.f λ_ j13=>J.b O<|J.g (qAu u9_ O O) O<|J.g ((qAe O O O).no xC) O<|J.c j13<|J.a3 ?_
  refine J.M j12<|J.k λ_ j14=>J.f λ_ j15=>J.b O<|J.g (qBl u9_ O O O O) O<|J.c j15<|J.T<|J.k λ_ j16=>J.f λ_ j17=>J.g ((qAe O O O).no xC) O<|J.b O<|J.c j17<|J.a3 ?_
  refine J.f λ_ j18=>J.g ((qAe O O O).no xC) O<|J.b O<|J.c j18<|J.a3 ?_
  refine J.f λ_ j19=>J.g ((qAe O O O).no xC) O<|J.b O<|J.c j19<|J.a3 ?_
  refine J.f λ_ j20=>J.g ((qAe O O O).no xC) O<|J.b O<|J.c j20<|J.a3 ?_
  refine J.H<|J.g ((qAe O O O).no xC) O<|J.b O<|J.c j16<|J.a3 ?_
  refine J.b2<|J.a2<|J.u (J.D j14 ?_)
  refine J.f λ_ j21=>J.p 2 O<|J.c j21<|J.k λ_ j22=>J.f λ_ j23=>J.b O<|J.g ((qA5 O O O).no xB) O<|J.c j23<|J.a3 ?_
  refine J.M j22<|J.f λ_ j24=>J.q (qAJ O zeroValue146 O) O λg9 _=>J.c6 [1,2,0] [blk g9 [.pointer none,.slice none 0 0] 146,λ_=>none,F] O xC<|J.c j24<|J.f λ_ j25=>J.b O<|J.q (qAK O O ent (qOC F g9 146 0 [.pointer none,.slice none 0 0] none ⟨O,.inl O,O,qBZ.nil,.inl O⟩ qMT n xB)) O ?_
  rintro⟨l57,m57⟩ ⟨A57,c57,hb57,hu57⟩
  dsimp only at hb57 hu57
  refine J.c j25<|J.f λ_ j26=>J.b O<|J.q (qAK O O ent (qBU F m57 g9 146 0 l57 [] A57 c57 _ hb57 (by rw [hu57.1];exact qMT) [0] xC)) O ?_
  rintro⟨l61,m61⟩ ⟨A61,c61,hb61,hu61⟩
  dsimp only at hb61 hu61
  refine J.c j26<|J.k λ_ j27=>J.T<|J.b5 (X:=Nat×List Value×Hp×Option Addr×Nat) (λx=> [(7,I n),(8,I n),(9,Ptr g9)]) (λx=> [blk g9 x.2.1 146,x.2.2.1,F]) (λx=>1≤x.1∧x.1≤n∧x.2.1.length=2∧Bld g9 0 x.2.1 x.2.2.1 (List.replicate x.1 (0:UInt8)) x.2.2.2.1 x.2.2.2.2 (some ⟨g9,0,none⟩)) (λx=>n-x.1) (1,l61,m61,A61,c61) (⟨xB,xB,by rw [hu61.1,hu57.1];rfl,hb61⟩) ⟨O,O,O,trivial⟩ (λ_ h=>h) ?_
  rintro⟨k,l,m,A1,c1⟩ ⟨hk1,hkn,hll,hb⟩ I3 hI3
  dsimp only at hk1 hkn hll hb⊢
  refine J.k λ_ j28=>J.f λ_ j29=>J.q (qAK O O ent (Ct.use1 0 O (λF' _=>qMr F' m g9 l (List.replicate k (0:UInt8)) A1 c1 _ hb))) O λg111 _=>J.b O<|J.g ((qAS O O O).as (v':= .bool (decide (k<n))) (congrArg Value.bool (decide_eq_decide.2 (by rw [jL];omega)))) O<|J.c j29<|J.Z O (λh113=>?_) (λh113=>?_)
  ·
    refine J.M j28<|J.T<|J.f λ_ j30=>J.b O<|J.q (qAK O O ent (Ct.use1 0 O (λF' _=>qMr F' m g9 l (List.replicate k (0:UInt8)) A1 c1 _ hb))) O λg115 _=>J.g ((qA4 O O O (by rw [jL];omega)).as (v':=I (n-k:Nat)) (congrArg I (by rw [jL];omega))) O<|J.q (qAK O O ent (Ct.use1 0 O (λF' _=>qMr F' m g9 l (List.replicate k (0:UInt8)) A1 c1 _ hb))) O λg117 _=>J.b O<|J.g ((qXW O O O O).as (v':=I (min (n-k) k:Nat)) (congrArg I (by rw [jL];omega))) O<|J.b O<|J.c j30<|J.H<|J.q (qAK O O ent (qEU F m g9 146 0 l (List.replicate k (0:UInt8)) A1 c1 _ hb (by rw [jL];omega))) O ?_
    rintro m20 hb20
    refine J.b O<|J.g ((qA9 u9_ O O O O ⟨xB,by rw [jL];omega⟩).as (v':=Str (List.replicate (min (n-k) k) (0:UInt8))) (by rw [ze,List.take_replicate];congr 2;omega)) O<|J.q (qAK O O ent (qBU F m20 g9 146 0 l (List.replicate k (0:UInt8)) A1 c1 _ hb20 (by rw [hll];exact qMT) (List.replicate (min (n-k) k) (0:UInt8)) (by simp only [jL];omega))) O ?_
    rintro⟨l23,m23⟩ ⟨A23,c23,hb23,hu23⟩
    dsimp only at hb23 hu23
    rw [List.replicate_append_replicate] at hb23
    exact J.a4<|J.a2<|J.u<|J.a8 (k+min (n-k) k,l23,m23,A23,c23) (λx (hx:_∧n-x.1<n-k)=>hI3 x hx.1 hx.2) ⟨⟨by dsimp only;omega,by dsimp only;omega,by rw [hu23.1];exact hll,hb23⟩,by dsimp only;omega⟩ ⟨O,O,O,trivial⟩ (λ_ h=>h)
  refine J.b3<|J.a0<|J.a0<|J.b4 ?_
  refine J.u (J.D j27 ?_)
  refine J.k λ_ j31=>?_
  have hkn2:k=n:=xB
  subst hkn2
  refine J.H<|J.q (qAK O O ent (qEU F m g9 146 0 l (List.replicate k (0:UInt8)) A1 c1 _ hb (by rw [jL];omega))) O ?_
  rintro m24 _
  exact J.b O<|J.c j31<|J.A<|J.E hw0 O () O trivial [2] O xC
theorem qTz(F:Hp):Cz prog 43 [Str [0],I 0] F (Str []):=by
 refine Ct.walk func43 O ntmps43 O (λw0 hw0=>?_)
 refine J.f λ_ j1=>J.b O<|J.c j1<|J.k λ_ j2=>J.f λ_ j3=>J.b O<|J.c j3<|J.T<|J.f λ_ j4=>J.g ((qAe O O O).yes xB) O<|J.b O<|J.c j4<|J.c3 ?_
 exact J.f λ_ j5=>J.b O<|J.c j5<|J.A<|J.a5<|J.V<|J.E hw0 O () O trivial [0] O xC
theorem qTy(F:Hp):Cz prog 43 [Str [0],I 1] F (Str [0]):=by
 refine Ct.walk func43 O ntmps43 O (λw0 hw0=>?_)
 refine J.f λ_ j1=>J.b O<|J.c j1<|J.k λ_ j2=>J.f λ_ j3=>J.b O<|J.c j3<|J.T<|J.f λ_ j4=>J.g ((qAe O O O).no xB) O<|J.b O<|J.c j4<|J.a3 ?_
 refine J.f λ_ j5=>J.g ((qAe O O O).yes xB) O<|J.b O<|J.c j5<|J.c3 ?_
 exact J.f λ_ j6=>J.p 2 O<|J.c j6<|J.A<|J.a5<|J.V<|J.E hw0 O () O trivial [0] O xC
theorem qFZ(F:Hp)(n:Nat)(h3:n≤8192):
    Cz prog 43 [Str [0],I n] F (Str (List.replicate n 0)):=by
  match n,h3 with
  |0,_=>exact qTz F
  |1,_=>exact qTy F
  |n+2,h3=>exact qGy F (n+2) xB h3
namespace Sha
end Sha
attribute [local irreducible] Sha.tagB
end Go.Proofs.YtmemgokiolfdoaaGreatDoor