/- A part of the proof. -/
import Derived.Test.YtfldiegfenndjaaGreatDoorTopAoG8
import Derived.Test.YtfldiegfenndjaaGreatDoorTopAoG9
import Derived.Test.YtfldiegfenndjaaGreatDoorTopAoG10
import Derived.Test.YtfldiegfenndjaaGreatDoorTopAoG4
import Derived.Test.YtfldiegfenndjaaGreatDoorTopAoG5
set_option linter.unusedSimpArgs false
set_option linter.unusedVariables false
namespace Go.Proofs.YtfldiegfenndjaaGreatDoor
open Go Go.Fw Go.Proofs.Tryz
set_option maxRecDepth 100000
set_option maxHeartbeats 1000000
theorem qRw: ∀r:Fin 32,1≤r.val→((UInt64.ofNat (18446744073709551616-r.val)).toNat&&&31)=32-r.val:=by decide+kernel
theorem qUJ(n:UInt64)(size:Nat)(j:Nat)(hj:j<size):(Sha.numB n size)[j]?=some (UInt64.ofNat (n.toNat/2^min (8*(size-1-j)) 64)).toUInt8:=by
 simp [Sha.numB,hj]
def qGd(l:List UInt8)(k:Nat):List Value:=(l.take k).map B8++List.replicate (l.length-k) (.int .u8 0)
theorem qL0(l:List UInt8)(size:Nat)(h:l.length=size):(List.replicate size [Value.int .u8 0]).flatten=qGd l 0:=by
 subst h
 unfold qGd
 induction l with
 |nil=>rfl
 |cons a l ih=>simp only [jD,List.replicate_succ,jW];rw [ih];simp [List.replicate_succ]
theorem qNZ(l:List UInt8)(k:Nat)(h:k≤l.length):(qGd l k).length=l.length:=by simp [qGd];omega
theorem qNC{α:Type}(a:List α)(v:α)(n:Nat)(x:α):(a++List.replicate (n+1) v).take a.length++ [x]++(a++List.replicate (n+1) v).drop (a.length+1)=(a++ [x])++List.replicate n v:=by
 rw [List.take_left,zz]
 simp [List.replicate_succ]
theorem qL1(l:List UInt8)(k:Nat)(v:UInt8)(h:l[k]?=some v):qA6 (qGd l k) k [B8 v]=qGd l (k+1):=by
 obtain ⟨hk,rfl⟩:=List.getElem?_eq_some_iff.1 h
 have e:l.length-k=(l.length-(k+1))+1:=by omega
 have h2:=qNC ((l.take k).map B8) (Value.int .u8 0) (l.length-(k+1)) (B8 l[k])
 have h3:((l.take k).map B8).length=k:=by simp;omega
 rw [h3] at h2
 unfold qA6 qGd
 rw [e,jP,h2,jO hk,jM]
 rfl
theorem qNa(l:List UInt8)(k:Nat)(h:l.length≤k):qGd l k=(qAR l).flatten:=by
 unfold qGd qAR
 rw [qBB,jV h,show l.length-k=0 by omega];simp
theorem el246:qCv prog 246 [.int .u32 0] 4:=qCv.of (by kernel_rfl) rfl
theorem ent180:qAE prog 180:=qAE.of func180 rfl (by kernel_rfl)
theorem ent87:qAE prog 87:=qAE.of func87 rfl (by kernel_rfl)
theorem ent141:qAE prog 141:=qAE.of func141 rfl (by kernel_rfl)
theorem ent179:qAE prog 179:=qAE.of func179 rfl (by kernel_rfl)
theorem ent142:qAE prog 142:=qAE.of func142 rfl (by kernel_rfl)
theorem ent88:qAE prog 88:=qAE.of func88 rfl (by kernel_rfl)
theorem ent44:qAE prog 44:=qAE.of func44 rfl (by kernel_rfl)
theorem qF3(F:Hp)(n:UInt64)(size:Nat)(hs:size≤8):
    Ct prog 87 [W64 n,I size] [F] (λx:Option Addr×Nat×Hp=> .slice x.1 size x.2.1) (λx=>Row x.2.2 5 1 x.1 size x.2.1 (qAR (Sha.numB n size))) (λx=> [F,x.2.2]):=by
  have hlen:=Sha.numB_length n size
  refine Ct.walk func87 rfl ntmps87 rfl (λw0 hw0=>?_)
  refine J.g λK1 hK1=>J.b V<|J.c hK1<|J.E 0 1 ?_
  refine J.g λK2 hK2=>J.b V<|J.q (qDR V V qBm el5 (by omega) (by omega)) V λg8 _=>J.b V<|J.c hK2<|J.G 0 1 5 ?_
  refine J.k λK3 hK3=>J.g λK4 hK4=>J.b V<|J.f (qAY qBm V V) V<|J.b V<|J.c hK4<|J.a0 0 1 5 10 11 ?_
  refine J.a1<|J.c1 (λk:Nat=> [(0,W64 n),(1,I size),(5,.slice (some ⟨g8,0,none⟩) size size),(10,I size),(11,I k)]) (λk=> [F,blk g8 (qGd (Sha.numB n size) k) 5]) (λk=>k≤size) (λk=>size-k) 0 (jF _) ⟨V,V,V,V,V,trivial⟩ (λ_ h=>by rw [←qL0 _ size hlen];exact h) ?_
  intro k hk I0 hI0
  refine J.g λK5 hK5=>J.f (qAT V V V) V<|J.c hK5<|J.b5 0 1 5 10 11 12 ?_
  refine J.k λK6 hK6=>J.a4 V (λh12=>?_) (λh12=>?_)
  ·
    refine J.W hK6<|J.a0 0 1 5 10 11 ?_
    refine J.k λK7 hK7=>J.a1<|J.g λK8 hK8=>J.j 2 V<|J.c hK8<|J.b5 0 1 5 6 10 11 ?_
    refine J.H<|J.j 4 V<|J.f (qAn V V V (by omega)) V<|J.b V<|J.f (qAn V V V (by omega)) V<|J.f (qB6 V V V (by omega)) V<|J.f (qFR (m:=8*(size-1-k)) V V (by show some _=some _;congr 2;omega)) V<|J.f (qE8 V V qED u5_) V<|J.f (qA4 (j:=k) V V V qBm z5_ (by omega) (by omega)) V<|J.b1 (qAV (i:=1) V V V V V z5_ V (by rw [qNZ (Sha.numB n size) k (by omega)];show k+1≤_;omega)) rfl rfl λ_ _=>J.a8<|J.b0<|J.u (J.M hK7 ?_)
    refine J.a0 0 1 5 10 11 ?_
    exact J.H<|J.f (qAQ V V V (by omega)) V<|J.b V<|J.a8<|J.u<|J.a9 (k+1) (λx (hx:x≤size∧size-x<size-k)=>hI0 x hx.1 hx.2) ⟨by omega,by omega⟩ ⟨V,V,V,V,V,trivial⟩ (λ_ h=>by rw [←qL1 _ k _ (qUJ n size k (by omega))];exact h)
  refine J.b8<|J.a6<|J.a6<|J.b9 ?_
  refine J.u (J.M hK3 ?_)
  refine J.A 5 ?_
  refine J.g λK9 hK9=>J.j 2 V<|J.c hK9<|J.A 4 ?_
  exact J.D<|J.Z hw0 V (some ⟨g8,0,none⟩,size,blk g8 (qAR (Sha.numB n size)).flatten 5) V (qAs (by simp [qAR,hlen]) (by simp [qAR])) [0,1] (by rw [qNa (Sha.numB n size) k (by omega)];rfl) (by decide)
theorem qDo(F:Hp)(x:UInt32)(r:Nat)(h1:1≤r)(h2:r<32):
    Ct prog 180 [W32 x,I (-(r:Int))] [F] (λ_:Unit=>W32 (Sha.rotr x r)) (λ_=>True) (λ_=> [F]):=by
  have hr:=qRw ⟨r,h2⟩ h1
  have e1:((-(r:Int))%18446744073709551616).toNat=18446744073709551616-r:=by omega
  have e3:IntKind.u64.wrap (32-((32-r:Nat):Int))=(r:Int):=by simp [IntKind.wrap,IntKind.bits,IntKind.signed];omega
  refine Ct.walk func180 rfl ntmps180 rfl (λw0 hw0=>?_)
  refine J.g λK1 hK1=>J.b V<|J.c hK1<|J.E 0 1 ?_
  refine J.g λK2 hK2=>J.b V<|J.f ((qCd V V u3_ qTP).as (congrArg (λz=>W64 (UInt64.ofNat z)) e1)) V<|J.f ((qKt (b:=31) V V V).as (v':= .int .u64 ((32-r:Nat):Int)) (by show Value.int .u64 _=_;rw [UInt64.toNat_and];exact congrArg (λz:Nat=>Value.int .u64 (z:Int)) hr)) rfl<|J.b rfl<|J.c hK2<|J.E 0 5 ?_
  refine J.g λK3 hK3=>J.j 2 V<|J.f (qFS V V V) V<|J.j 2 V<|J.f (qIk V V V e3.symm) V<|J.f (qHZ V V V) V<|J.f (qHb V V V) V<|J.b V<|J.c hK3<|J.A 4 ?_
  exact J.D<|J.Z hw0 V () V trivial [0] V (by decide)
theorem qQC(F:Hp):Ct prog 141 [] [F] (λ_:Unit=> .agg (Sha.init.list.map W32).toArray) (λ_=>True) (λ_=> [F]):=by
 refine Ct.walk func141 rfl ntmps141 rfl (λw0 hw0=>?_)
 refine J.g λK1 hK1=>J.q (qAO V zeroValue248 V) V λg0 _=>J.c hK1<|J.A 0 ?_
 refine J.g λK2 hK2=>J.f (qD2 (l:= [.const (.int .u32 1779033703),.const (.int .u32 3144134277),.const (.int .u32 1013904242),.const (.int .u32 2773480762),.const (.int .u32 1359893119),.const (.int .u32 2600822924),.const (.int .u32 528734635),.const (.int .u32 1541459225)]) V V V qFG el246 zeroValue248 V V (by simp [Value.cells]) (r:=Sha.init.list.map W32) rfl) rfl<|J.b1 (qAV (i:=1) rfl rfl rfl rfl rfl sizeOf248 rfl (by decide)) rfl rfl λ_ _=>J.c hK2<|J.A 0 ?_
 exact J.D<|J.b4 hw0 (λ_ _ h=>h) (rv1 V (RV.blkA 1 V V isAgg248 sizeOf248)) (qAj () V trivial [0] V (by decide))
def qD0(l:List UInt32):List Value:=l.map W32++List.replicate (64-l.length) (.int .u32 0)
theorem qFv(l:List UInt32)(h:l.length≤64):(qD0 l).length=64:=by simp [qD0];omega
theorem qEL(l:List UInt32)(i:Nat)(h:i<l.length):(qD0 l)[i]?=some (W32 (l.getD i 0)):=by
 unfold qD0
 rw [jY (by simpa using h),jN,jC h,jB,jC h]
 rfl
theorem qGt(l:List UInt32)(x:UInt32)(h:l.length<64):qA6 (qD0 l) l.length [W32 x]=qD0 (l++ [x]):=by
 have e:64-l.length=(64-(l.length+1))+1:=by omega
 have h2:=qNC (l.map W32) (Value.int .u32 0) (64-(l.length+1)) (W32 x)
 rw [jK] at h2
 unfold qA6 qD0
 rw [e,jP,h2,jM,jA]
 rfl
theorem qNY(l:List UInt32)(j:Nat)(hj:l.length=16+j)(h:j<48):qA6 (qD0 l) (16+j) [W32 (l.getD j 0+Sha.sg0 (l.getD (j+1) 0)+l.getD (j+9) 0+Sha.sg1 (l.getD (j+14) 0))]=qD0 (Sha.ext l):=by
 have h2:=qGt l (l.getD j 0+Sha.sg0 (l.getD (j+1) 0)+l.getD (j+9) 0+Sha.sg1 (l.getD (j+14) 0)) (by omega)
 rw [hj] at h2
 rw [h2]
 unfold Sha.ext
 rw [hj,show 16+j-16=j by omega,show 16+j-15=j+1 by omega,show 16+j-7=j+9 by omega,show 16+j-2=j+14 by omega]
theorem qJ7(b:List UInt8)(k:Nat):Sha.firsts b (k+1)=Sha.firsts b k++ [Sha.word b k]:=by simp [Sha.firsts,zB]
theorem qLz(l:List UInt32)(h:l.length=64):qD0 l=l.map W32:=by simp [qD0,h]
theorem qSN(l:List UInt32):(l.map W32).all Value.oneCell'=true:=by simp [Value.oneCell']
theorem getB{b:List UInt8}{j:Nat}(h:j<b.length):b[j]?=some (b.getD j 0):=by rw [jB,jC h];rfl
theorem qJi(F:Hp)(A:Option Addr)(n c:Nat)(b:List UInt8)(hl:Sl F 1 A n c (qAR b))(h64:64≤n):
    Ct prog 179 [.slice A n c] [F] (λ_:Unit=> .agg ((Sha.sched b).map W32).toArray) (λ_=>True) (λ_=> [F]):=by
  have hn:b.length=n:=by have:=hl.1;simpa [qAR] using this
  have hb: ∀j,j<n→b[j]?=some (b.getD j 0):=λj hj=>getB (by omega)
  refine Ct.walk func179 rfl ntmps179 rfl (λw0 hw0=>?_)
  refine J.g λK1 hK1=>J.q (qAO V zeroValue284 V) V λg2 _=>J.c hK1<|J.E 0 2 ?_
  refine J.g λK2 hK2=>J.q (qAO V zeroValue284 V) V λg3 _=>J.c hK2<|J.G 0 2 3 ?_
  refine J.k λK3 hK3=>J.g λK4 hK4=>J.b V<|J.c hK4<|J.O 0 2 3 10 ?_
  refine J.a1<|J.c1 (λk:Nat=> [(0,.slice A n c),(2,Ptr g2),(3,Ptr g3),(10,I k)]) (λk=> [F,blk g2 (List.replicate 64 (.int .u32 0)) 284,blk g3 (qD0 (Sha.firsts b k)) 284]) (λk=>k≤16) (λk=>16-k) 0 (jF _) ⟨V,V,V,V,trivial⟩ (λ_ h=>h) ?_
  intro k hk I0 hI0
  refine J.g λK5 hK5=>J.f (qAT V V V) V<|J.c hK5<|J.a0 0 2 3 10 11 ?_
  refine J.k λK6 hK6=>J.a4 V (λh11=>?_) (λh11=>?_)
  ·
    refine J.W hK6<|J.O 0 2 3 10 ?_
    refine J.k λK7 hK7=>J.a1<|J.g λK8 hK8=>J.j 2 V<|J.c hK8<|J.a0 0 2 3 4 10 ?_
    refine J.b7 [F] [35] (.y 0 (.y 1 (.y 2 (.y 3 (.y 4 (.y 5 (.y 6 (.y 7 (.y 8 (.y 9 (.y 10 (.y 11 (.y 12 (.y 13 (.y 14 (.y 15 (.y 16 (.y 17 (.y 18 (.y 19 (.y 20 (.y 21 (.y 22 (.y 23 (.y 24 (.y 25 (.y 26 (.y 27 (.y 28 (.y 29 (.y 30 (.y 31 (.y 32 (.y 33 (.y 34 (.e 35 .nil)))))))))))))))))))))))))))))))))))) Tryz.wide (by decide+kernel) (by simp) ?_
    iterate 3 refine J.L ?_
    refine J.p V ((qB6 V V V (by omega)).nat (4*k) (by omega)) V V<|J.p V (qAF V V V qBm z5_ hl (by omega)) V V<|J.p V (qAL V V b5_ (m:=F) (by simp) (hl.elem (qBa (hb (4*k) (by omega))))) rfl rfl<|J.p rfl (qCV rfl rfl u5_ qLf) rfl rfl<|J.p rfl (qFS rfl rfl rfl) rfl rfl<|J.L ?_
    refine J.L ?_
    refine J.p V ((qB6 V V V (by omega)).nat (4*k) (by omega)) V V<|J.p V ((qAQ V V V (by omega)).nat (4*k+1) (by omega)) V V<|J.p V (qAF V V V qBm z5_ hl (by omega)) V V<|J.p V (qAL V V b5_ (m:=F) (by simp) (hl.elem (qBa (hb (4*k+1) (by omega))))) rfl rfl<|J.p rfl (qCV rfl rfl u5_ qLf) rfl rfl<|J.p rfl (qFS rfl rfl rfl) rfl rfl<|J.p rfl (qHb rfl rfl rfl) rfl rfl<|J.L ?_
    refine J.L ?_
    refine J.p V ((qB6 V V V (by omega)).nat (4*k) (by omega)) V V<|J.p V ((qAQ V V V (by omega)).nat (4*k+2) (by omega)) V V<|J.p V (qAF V V V qBm z5_ hl (by omega)) V V<|J.p V (qAL V V b5_ (m:=F) (by simp) (hl.elem (qBa (hb (4*k+2) (by omega))))) rfl rfl<|J.p rfl (qCV rfl rfl u5_ qLf) rfl rfl<|J.p rfl (qFS rfl rfl rfl) rfl rfl<|J.p rfl (qHb rfl rfl rfl) rfl rfl<|J.L ?_
    refine J.L ?_
    refine J.p V ((qB6 V V V (by omega)).nat (4*k) (by omega)) V V<|J.p V ((qAQ V V V (by omega)).nat (4*k+3) (by omega)) V V<|J.p V (qAF V V V qBm z5_ hl (by omega)) V V<|J.p V (qAL V V b5_ (m:=F) (by simp) (hl.elem (qBa (hb (4*k+3) (by omega))))) rfl rfl<|J.p rfl (qCV rfl rfl u5_ qLf) rfl rfl<|J.p rfl (qHb rfl rfl rfl) rfl rfl<|J.p rfl (qAf (i:=k) (j:=k) rfl rfl rfl qIJ qCB (by omega) (by omega)) rfl rfl<|J.d2 rfl (qAV (i:=2) rfl rfl rfl rfl rfl qCB rfl (by rw [qFv (Sha.firsts b k) (by rw [Sha.firsts_length];omega)];show k+1≤_;omega)) rfl rfl rfl λ_ _=>J.b3<|J.b0<|J.u (J.M hK7 ?_)
    refine J.O 0 2 3 10 ?_
    exact J.H<|J.f (qAQ V V V (by omega)) V<|J.b V<|J.a8<|J.u<|J.a9 (k+1) (λx (hx:x≤16∧16-x<16-k)=>hI0 x hx.1 hx.2) ⟨by omega,by omega⟩ ⟨V,V,V,V,trivial⟩ (λ_ h=>by rw [qJ7,←qGt _ _ (by rw [Sha.firsts_length];omega),Sha.firsts_length];exact h)
  refine J.b8<|J.a6<|J.a6<|J.b9 ?_
  refine J.u (J.M hK3 ?_)
  refine J.E 2 3 ?_
  refine J.k λK9 hK9=>J.g λK10 hK10=>J.b V<|J.c hK10<|J.G 2 3 5 ?_
  refine J.a1<|J.c1 (λj:Nat=> [(2,Ptr g2),(3,Ptr g3),(5,I ((16+j:Nat):Int))]) (λj=> [F,blk g2 (List.replicate 64 (.int .u32 0)) 284,blk g3 (qD0 (Sha.exts j (Sha.firsts b 16))) 284]) (λj=>j≤48) (λj=>48-j) 0 (jF _) ⟨V,V,V,trivial⟩ (λ_ h=>by rw [show k=16 by omega] at h;exact h) ?_
  intro j hj I1 hI1
  have hlj:(Sha.exts j (Sha.firsts b 16)).length=16+j:=by rw [Sha.exts_length,Sha.firsts_length]
  refine J.k λK11 hK11=>J.g λK12 hK12=>J.b V<|J.f (qAT V V V) V<|J.c hK12<|J.O 2 3 5 50 ?_
  refine J.a4 V (λh50=>?_) (λh50=>?_)
  ·
    refine J.W hK11<|J.G 2 3 5 ?_
    refine J.k λK13 hK13=>J.a1<|J.k λK14 hK14=>J.b7 [blk g3 (qD0 (Sha.exts j (Sha.firsts b 16))) 284] [] (.y 0 (.y 1 (.y 2 (.y 3 (.y 4 (.y 5 (.y 6 (.y 7 (.y 8 (.y 9 .nil)))))))))) Tryz.wide (by decide+kernel) (by simp) ?_
    refine J.L ?_
    refine J.p V ((qAn V V V (by omega)).nat (j+1) (by omega)) V V<|J.p V (qAf (i:=j+1) (j:=j+1) V V V qIJ qCB (by omega) (by omega)) V V<|J.p V (qAD 0 V V V qDF (qEL (Sha.exts j (Sha.firsts b 16)) (j+1) (by omega))) V V<|J.L ?_
    refine J.p V ((qAn V V V (by omega)).nat (j+14) (by omega)) V V<|J.p V (qAf (i:=j+14) (j:=j+14) V V V qIJ qCB (by omega) (by omega)) V V<|J.p V (qAD 0 V V V qDF (qEL (Sha.exts j (Sha.firsts b 16)) (j+14) (by omega))) V V<|J.c3 ?_
    refine J.c3 ?_
    refine J.b3<|J.u (J.M hK14 ?_)
    refine J.a0 2 3 5 6 7 ?_
    refine J.g λK15 hK15=>J.b V<|J.q (qAB V V ent180 (Ct.use0 (λF' _=>qDo F' _ 7 (by decide) (by decide)))) V λg62 _=>J.b V<|J.q (qAB V V ent180 (Ct.use0 (λF' _=>qDo F' _ 18 (by decide) (by decide)))) V λg64 _=>J.f (qBo V V V) V<|J.b V<|J.f (qHZ V V V) V<|J.f (qBo V V V) V<|J.b V<|J.c hK15<|J.a0 2 3 5 7 8 ?_
    refine J.g λK16 hK16=>J.b V<|J.q (qAB V V ent180 (Ct.use0 (λF' _=>qDo F' _ 17 (by decide) (by decide)))) V λg70 _=>J.b V<|J.q (qAB V V ent180 (Ct.use0 (λF' _=>qDo F' _ 19 (by decide) (by decide)))) V λg72 _=>J.f (qBo V V V) V<|J.b V<|J.f (qHZ V V V) V<|J.f (qBo V V V) V<|J.b V<|J.c hK16<|J.a0 2 3 5 8 9 ?_
    refine J.b7 [blk g3 (qD0 (Sha.exts j (Sha.firsts b 16))) 284] [15] (.y 0 (.y 1 (.y 2 (.y 3 (.y 4 (.y 5 (.y 6 (.y 7 (.y 8 (.y 9 (.y 10 (.y 11 (.y 12 (.y 13 (.y 14 (.e 15 .nil)))))))))))))))) Tryz.wide (by decide+kernel) (by simp) ?_
    refine J.L ?_
    refine J.L ?_
    refine J.p V ((qAn V V V (by omega)).nat (j) (by omega)) V V<|J.p V (qAf (i:=j) (j:=j) V V V qIJ qCB (by omega) (by omega)) V V<|J.p V (qAD 0 V V V qDF (qEL (Sha.exts j (Sha.firsts b 16)) (j) (by omega))) V V<|J.L ?_
    refine J.p V (qBq V V V) V V<|J.L ?_
    refine J.p V ((qAn V V V (by omega)).nat (j+9) (by omega)) V V<|J.p V (qAf (i:=j+9) (j:=j+9) V V V qIJ qCB (by omega) (by omega)) V V<|J.p V (qAD 0 V V V qDF (qEL (Sha.exts j (Sha.firsts b 16)) (j+9) (by omega))) V V<|J.p V (qBq V V V) V V<|J.L ?_
    refine J.p V (qBq V V V) V V<|J.p V (qAf (i:=16+j) (j:=16+j) V V V qIJ qCB (by omega) (by omega)) V V<|J.d2 V (qAV (i:=2) V V V V V qCB V (by rw [qFv (Sha.exts j (Sha.firsts b 16)) (by omega)];show 16+j+1≤_;omega)) rfl rfl rfl λ_ _=>J.b3<|J.b0<|J.u (J.M hK13 ?_)
    refine J.G 2 3 5 ?_
    exact J.H<|J.b V<|J.f (qAQ V V V (by omega)) V<|J.b V<|J.a8<|J.u<|J.a9 (j+1) (λx (hx:x≤48∧48-x<48-j)=>hI1 x hx.1 hx.2) ⟨by omega,by omega⟩ ⟨V,V,V,trivial⟩ (λ_ h=>by rw [Sha.exts,←qNY _ j hlj (by omega)];exact h)
  refine J.b8<|J.a6<|J.a6<|J.b9 ?_
  refine J.u (J.M hK9 ?_)
  refine J.E 2 3 ?_
  refine J.k λK17 hK17=>?_
  have hj48:j=48:=by omega
  subst hj48
  refine J.H<|J.f (qAm 2 V V V isAgg284 sizeOf284 (qFv (Sha.exts 48 (Sha.firsts b 16)) (by rw [Sha.exts_length,Sha.firsts_length];decide))) rfl<|J.b1 (qAG (i:=1) (vs:=(Sha.sched b).map W32) rfl rfl rfl rfl (by show Array.mk _=_;exact congrArg _ (qLz _ (Sha.sched_length b))) (λw=>by rw [jK,Sha.sched_length];exact sizeOf284 w) (qSN _) (by rw [jK,Sha.sched_length];rfl)) rfl rfl λ_ _=>?_
  change J _ _ _ [F,blk g2 ((Sha.sched b).map W32) 284,_] _
  refine J.c hK17<|J.A 2 ?_
  exact J.D<|J.b4 hw0 (λ_ _ h=>h) (rv1 V (RV.blkA 1 V V isAgg284 (λw=>by rw [jK,Sha.sched_length];exact sizeOf284 w))) (qAj () rfl trivial [0] rfl (by decide))
theorem Sha.rnds_succ(ws:List UInt32)(s:Sha.St8)(i:Nat):Sha.rnds ws s (i+1)=Sha.rnd (ws.getD i 0) (Sha.K.getD i 0) (Sha.rnds ws s i):=rfl
theorem Sha.mix_eq(s:Sha.St8)(b:List UInt8):Sha.mix s b=s.add (Sha.rnds (Sha.sched b) s 64):=rfl
theorem Sha.rnds_zero(ws:List UInt32)(s:Sha.St8):Sha.rnds ws s 0=s:=rfl
attribute [local irreducible] Sha.rnds Sha.sched Sha.mix
theorem qS2{m:Hp}{g off:Nat}{vs:List Value}{i:Nat}{v:Value}(h:qAP m ⟨g,off,none⟩ vs)(hi:vs[i]?=some v):qAP m ⟨g,off+i,none⟩ [v]:=by
 have:=h.sub i 1
 rw [Addr.add_lit] at this
 obtain ⟨hk,rfl⟩:=List.getElem?_eq_some_iff.1 hi
 rw [zw hk] at this
 exact this
theorem getW{l:List UInt32}{i:Nat}(h:i<l.length):(l.map W32)[i]?=some (W32 (l.getD i 0)):=by
 rw [jN,jC h,jB,jC h];rfl
def Sha.St8.adds(s t:Sha.St8)(k:Nat):List UInt32:=(s.add t).list.take k++s.list.drop k
theorem qQW(s t:Sha.St8)(k:Nat)(hk:k≤8):(s.adds t k).length=8:=by simp [Sha.St8.adds,Sha.St8.list];omega
theorem qQX(s t:Sha.St8): ∀k,k<8→(s.adds t k)[k]?=some (s.list.getD k 0)
 |0,_=>rfl|1,_=>rfl|2,_=>rfl|3,_=>rfl|4,_=>rfl|5,_=>rfl|6,_=>rfl|7,_=>rfl
 |n+8,h=>by omega
theorem qQV(s t:Sha.St8): ∀k,k<8→qA6 ((s.adds t k).map W32) k [W32 (s.list.getD k 0+t.list.getD k 0)]=(s.adds t (k+1)).map W32
 |0,_=>rfl|1,_=>rfl|2,_=>rfl|3,_=>rfl|4,_=>rfl|5,_=>rfl|6,_=>rfl|7,_=>rfl
 |n+8,h=>by omega
theorem qQY(s t:Sha.St8):s.adds t 8=(s.add t).list:=rfl
theorem qK4(t:Sha.St8): ∀k,k<8→(t.list.map W32)[k]?=some (W32 (t.list.getD k 0))
 |0,_=>rfl|1,_=>rfl|2,_=>rfl|3,_=>rfl|4,_=>rfl|5,_=>rfl|6,_=>rfl|7,_=>rfl
 |n+8,h=>by omega
abbrev KF(F:Hp):Prop:=qAP F ⟨0,0,none⟩ (Sha.K.map W32)
theorem qT2(F:Hp)(hK:KF F)(g:Nat)(s:Sha.St8)(A:Option Addr)(n c:Nat)(b:List UInt8)(hl:Sl F 1 A n c (qAR b))(h64:64≤n):
    Ct prog 142 [Ptr g,.slice A n c] [blk g (s.list.map W32) 248,F] (λ_:Unit=> .tuple #[]) (λ_=>True) (λ_=> [blk g ((Sha.mix s b).list.map W32) 248,F]):=by
  refine Ct.walk func142 rfl ntmps142 rfl (λw0 hw0=>?_)
  refine J.g λK1 hK1=>J.b V<|J.q (qAB V V ent179 (Ct.use0 (λF' hF=>qJi F' A n c b (hl.mono (hF _ (by simp))) h64))) rfl λg21 _=>J.q (qAO rfl zeroValue284 rfl) rfl λg4 _=>J.b1 (qAG (i:=2) (vs:=(Sha.sched b).map W32) rfl rfl rfl rfl rfl (λw=>by rw [jK,Sha.sched_length];exact sizeOf284 w) (qSN _) (by rw [jK,Sha.sched_length];rfl)) rfl rfl λ_ _=>J.c hK1<|J.E 0 4 ?_
  refine J.k λK2 hK2=>J.b7 [blk g (s.list.map W32) 248] [] (.y 0 (.y 1 (.y 2 (.y 3 (.y 4 (.y 5 (.y 6 (.y 7 (.y 8 (.y 9 (.y 10 (.y 11 (.y 12 (.y 13 (.y 14 (.y 15 (.y 16 (.y 17 (.y 18 (.y 19 (.y 20 (.y 21 (.y 22 (.y 23 (.y 24 (.y 25 (.y 26 (.y 27 (.y 28 (.y 29 (.y 30 (.y 31 (.y 32 (.y 33 (.y 34 (.y 35 (.y 36 (.y 37 (.y 38 (.y 39 .nil)))))))))))))))))))))))))))))))))))))))) Tryz.wide (by decide+kernel) (by simp) ?_
  refine J.L ?_
  refine J.p V (qAC V V) V V<|J.p V (qAf V V V qFG qCB (by decide) V) V V<|J.p V (qAD 0 V V V qDF V) V V<|J.L ?_
  refine J.p V (qAC V V) V V<|J.p V (qAf V V V qFG qCB (by decide) V) V V<|J.p V (qAD 0 V V V qDF V) V V<|J.L ?_
  refine J.p V (qAC V V) V V<|J.p V (qAf V V V qFG qCB (by decide) V) V V<|J.p V (qAD 0 V V V qDF V) V V<|J.L ?_
  refine J.p V (qAC V V) V V<|J.p V (qAf V V V qFG qCB (by decide) V) V V<|J.p V (qAD 0 V V V qDF V) V V<|J.L ?_
  refine J.p V (qAC V V) V V<|J.p V (qAf V V V qFG qCB (by decide) V) V V<|J.p V (qAD 0 V V V qDF V) V V<|J.L ?_
  refine J.p V (qAC V V) V V<|J.p V (qAf V V V qFG qCB (by decide) V) V V<|J.p V (qAD 0 V V V qDF V) V V<|J.L ?_
  refine J.p V (qAC V V) V V<|J.p V (qAf V V V qFG qCB (by decide) V) V V<|J.p V (qAD 0 V V V qDF V) V V<|J.L ?_
  refine J.p V (qAC V V) V V<|J.p V (qAf V V V qFG qCB (by decide) V) V V<|J.p V (qAD 0 V V V qDF V) V V<|J.c3 ?_
  iterate 7 refine J.c3 ?_
  refine J.b3<|J.u (J.M hK2 ?_)
  refine J.f1 0 4 5 6 7 8 9 10 11 12 ?_
  refine J.k λK3 hK3=>J.g λK4 hK4=>J.b V<|J.c hK4<|J.e8 0 4 5 6 7 8 9 10 11 12 54 ?_
  refine J.a1<|J.c1 (λi:Nat=> [(0,Ptr g),(4,Ptr g4),(5,W32 (Sha.rnds (Sha.sched b) s i).a),(6,W32 (Sha.rnds (Sha.sched b) s i).b),(7,W32 (Sha.rnds (Sha.sched b) s i).c),(8,W32 (Sha.rnds (Sha.sched b) s i).d),(9,W32 (Sha.rnds (Sha.sched b) s i).e),(10,W32 (Sha.rnds (Sha.sched b) s i).f),(11,W32 (Sha.rnds (Sha.sched b) s i).g),(12,W32 (Sha.rnds (Sha.sched b) s i).h),(54,I i)]) (λ_=> [blk g (s.list.map W32) 248,F,blk g4 ((Sha.sched b).map W32) 284]) (λi=>i≤64) (λi=>64-i) 0 (jF _) ⟨V,V,by rw [Sha.rnds_zero];rfl,by rw [Sha.rnds_zero];rfl,by rw [Sha.rnds_zero];rfl,by rw [Sha.rnds_zero];rfl,by rw [Sha.rnds_zero];rfl,by rw [Sha.rnds_zero];rfl,by rw [Sha.rnds_zero];rfl,by rw [Sha.rnds_zero];rfl,rfl,trivial⟩ (λ_ h=>h) ?_
  intro i hi I0 hI0
  refine J.g λK5 hK5=>J.f (qAT V V V) V<|J.c hK5<|J.f0 0 4 5 6 7 8 9 10 11 12 54 55 ?_
  refine J.k λK6 hK6=>J.a4 V (λh55=>?_) (λh55=>?_)
  ·
    refine J.W hK6<|J.e8 0 4 5 6 7 8 9 10 11 12 54 ?_
    refine J.k λK7 hK7=>J.a1<|J.g λK8 hK8=>J.j 2 V<|J.c hK8<|J.f0 0 4 5 6 7 8 9 10 11 12 13 54 ?_
    refine J.g λK9 hK9=>J.b V<|J.q (qAB V V ent180 (Ct.use0 (λF' _=>qDo F' _ 6 (by decide) (by decide)))) V λg58 _=>J.b V<|J.q (qAB V V ent180 (Ct.use0 (λF' _=>qDo F' _ 11 (by decide) (by decide)))) V λg60 _=>J.f (qBo V V V) V<|J.b V<|J.q (qAB V V ent180 (Ct.use0 (λF' _=>qDo F' _ 25 (by decide) (by decide)))) V λg63 _=>J.f (qBo V V V) V<|J.b V<|J.c hK9<|J.e9 0 4 5 6 7 8 9 10 11 12 13 14 54 ?_
    refine J.k λK10 hK10=>?_
    have hiK:i<Sha.K.length:=by show i<64;omega
    refine J.b7 [blk g (s.list.map W32) 248,F,blk g4 ((Sha.sched b).map W32) 284] [] (.y 0 (.y 1 (.y 2 (.y 3 (.y 4 (.y 5 (.y 6 (.y 7 (.y 8 (.y 9 (.y 10 (.y 11 (.y 12 (.y 13 (.y 14 (.y 15 (.y 16 (.y 17 (.y 18 (.y 19 (.y 20 .nil))))))))))))))))))))) Tryz.wide (by decide+kernel) (by simp) ?_
    refine J.L ?_
    refine J.L ?_
    refine J.p V (qBq V V V) V V<|J.L ?_
    refine J.L ?_
    refine J.p V (qEQ V V V) V V<|J.L ?_
    refine J.p V (qPg V V) V V<|J.L ?_
    refine J.p V (qEQ V V V) V V<|J.p V (qBo V V V) V V<|J.p V (qBq V V V) V V<|J.L ?_
    refine J.p V (qAf (i:=i) (j:=i) V V V qIJ qCB (by omega) (by omega)) V V<|J.p V (qPe 1 V V qDF V (by have h:=qS2 hK (getW (l:=Sha.K) (i:=i) hiK);rw [jn] at h;exact h)) rfl rfl<|J.p rfl (qBq rfl rfl rfl) rfl rfl<|J.L ?_
    refine J.p V (qAf (i:=i) (j:=i) V V V qIJ qCB (by omega) (by omega)) V V<|J.p V (qAD 2 V V V qDF (getW (l:=Sha.sched b) (i:=i) (by rw [Sha.sched_length];omega))) rfl rfl<|J.p rfl (qBq rfl rfl rfl) rfl rfl<|J.c3 ?_
    refine J.b3<|J.u (J.M hK10 ?_)
    refine J.e8 0 4 5 6 7 8 9 10 11 15 54 ?_
    refine J.g λK11 hK11=>J.b V<|J.q (qAB V V ent180 (Ct.use0 (λF' _=>qDo F' _ 2 (by decide) (by decide)))) V λg86 _=>J.b V<|J.q (qAB V V ent180 (Ct.use0 (λF' _=>qDo F' _ 13 (by decide) (by decide)))) V λg88 _=>J.f (qBo V V V) V<|J.b V<|J.q (qAB V V ent180 (Ct.use0 (λF' _=>qDo F' _ 22 (by decide) (by decide)))) V λg91 _=>J.f (qBo V V V) V<|J.b V<|J.c hK11<|J.f0 0 4 5 6 7 8 9 10 11 15 16 54 ?_
    refine J.g λK12 hK12=>J.j 3 V<|J.f (qEQ V V V) V<|J.j 2 V<|J.f (qEQ V V V) V<|J.f (qBo V V V) V<|J.j 2 V<|J.f (qEQ V V V) V<|J.f (qBo V V V) V<|J.f (qBq V V V) V<|J.b V<|J.c hK12<|J.f0 0 4 5 6 7 8 9 10 11 15 17 54 ?_
    refine J.H<|J.j 5 V<|J.f (qBq V V V) V<|J.j 5 V<|J.f (qBq V V V) V<|J.j 8 V<|J.a8<|J.b0<|J.u (J.M hK7 ?_)
    refine J.e8 0 4 5 6 7 8 9 10 11 12 54 ?_
    exact J.H<|J.f (qAQ V V V (by omega)) V<|J.b V<|J.a8<|J.u<|J.a9 (i+1) (λx (hx:x≤64∧64-x<64-i)=>hI0 x hx.1 hx.2) ⟨by omega,by omega⟩ ⟨V,V,by rw [Sha.rnds_succ];rfl,by rw [Sha.rnds_succ];rfl,by rw [Sha.rnds_succ];rfl,by rw [Sha.rnds_succ];rfl,by rw [Sha.rnds_succ];rfl,by rw [Sha.rnds_succ];rfl,by rw [Sha.rnds_succ];rfl,by rw [Sha.rnds_succ];rfl,rfl,trivial⟩ (λ_ h=>h)
  refine J.b8<|J.a6<|J.a6<|J.b9 ?_
  refine J.u (J.M hK3 ?_)
  refine J.e4 0 5 6 7 8 9 10 11 12 ?_
  refine J.k λK13 hK13=>?_
  have hi64:i=64:=by omega
  subst hi64
  refine J.H<|J.j 8 V<|J.f (qD2 (l:= [.tmp 119,.tmp 120,.tmp 121,.tmp 122,.tmp 123,.tmp 124,.tmp 125,.tmp 126]) V V V underlying247 el246 zeroValue247 V V (by simp [Value.cells]) (r:=(Sha.rnds (Sha.sched b) s 64).list.map W32) rfl) rfl<|J.b rfl<|J.c hK13<|J.G 0 127 128 ?_
  refine J.a1<|J.c1 (λk:Nat=> [(0,Ptr g),(127,.agg ((Sha.rnds (Sha.sched b) s 64).list.map W32).toArray),(128,I k)]) (λk=> [blk g ((s.adds (Sha.rnds (Sha.sched b) s 64) k).map W32) 248,F,blk g4 ((Sha.sched b).map W32) 284]) (λk=>k≤8) (λk=>8-k) 0 (jF _) ⟨V,V,V,trivial⟩ (λ_ h=>h) ?_
  intro k hk I2 hI2
  refine J.g λK14 hK14=>J.f (qAT V V V) V<|J.c hK14<|J.O 0 127 128 129 ?_
  refine J.k λK15 hK15=>J.a4 V (λh129=>?_) (λh129=>?_)
  ·
    refine J.W hK15<|J.G 0 127 128 ?_
    refine J.k λK16 hK16=>J.a1<|J.g λK17 hK17=>J.b V<|J.f (qHd V V V underlying247 qCB qDF (by omega) (by rw [Nat.mul_one,zI];exact qK4 _ k (by omega))) rfl ?_
    refine J.j 2 V<|J.c hK17<|J.a0 0 18 19 127 128 ?_
    refine J.b7 [blk g ((s.adds (Sha.rnds (Sha.sched b) s 64) k).map W32) 248] [9] (.y 0 (.y 1 (.y 2 (.y 3 (.y 4 (.y 5 (.y 6 (.y 7 (.y 8 (.e 9 .nil)))))))))) Tryz.wide (by decide+kernel) (by simp) ?_
    refine J.L ?_
    refine J.L ?_
    refine J.p V (qAC V V) V V<|J.p V (qAf (i:=k) (j:=k) V V V qFG qCB (by omega) (by omega)) V V<|J.p V (qAD 0 V V V qDF (by rw [jN,qQX s (Sha.rnds (Sha.sched b) s 64) k (by omega)];rfl)) rfl rfl ?_
    refine J.L ?_
    refine J.p V (qBq V V V) V V<|J.p V (qAC V V) V V<|J.p V (qAf (i:=k) (j:=k) V V V qFG qCB (by omega) (by omega)) V V<|J.d2 V (qAV (i:=0) V V V V V qCB V (by rw [jK,qQW s (Sha.rnds (Sha.sched b) s 64) k (by omega)];show k+1≤_;omega)) rfl rfl rfl λ_ _=>J.b3<|J.b0<|J.u (J.M hK16 ?_)
    refine J.G 0 127 128 ?_
    exact J.H<|J.f (qAQ V V V (by omega)) V<|J.b V<|J.a8<|J.u<|J.a9 (k+1) (λx (hx:x≤8∧8-x<8-k)=>hI2 x hx.1 hx.2) ⟨by omega,by omega⟩ ⟨V,V,V,trivial⟩ (λ_ h=>by rw [←qQV s (Sha.rnds (Sha.sched b) s 64) k (by omega)];exact h)
  refine J.b8<|J.a6<|J.a6<|J.b9 ?_
  have hk8:k=8:=by omega
  subst hk8
  exact J.e7 hw0 (λ_ _ h=>h) (qJX V) (qAj () V trivial [0,1] (by rw [qQY,←Sha.mix_eq];rfl) (by decide))
end Go.Proofs.YtfldiegfenndjaaGreatDoor
namespace Go.Proofs.YtfldiegfenndjaaGreatDoor
open Go Go.Fw Go.Proofs.Tryz
set_option maxRecDepth 100000
set_option maxHeartbeats 1000000
theorem qP5(F:Hp)(A:Option Addr)(n c:Nat)(ls:List (List UInt8))(hl:Sl F 1 A n c (qAH ls))(htot:ls.flatten.length≤35184372088832)(hn47:n≤70368744177664):
    Ct prog 140 [.slice A n c,Str []] [F] (λ_:Unit=>Str ls.flatten) (λ_=>True) (λ_=> [F]):=by
  have h:=qSp F A n c ls [] hl (by rw [qIu];exact htot) hn47
  rw [qIu] at h;exact h
theorem qDi(a b:List UInt8):qAR (a++b)=qAR a++qAR b:=by simp [qAR]
theorem qHD(a:List UInt8):(qAR a).all (λx=>x.all Value.oneCell')=true:=by simp [qAR,Value.oneCell']
theorem qMP(p:List UInt8)(k N:Nat)(hN:p.length=N):((qAR (p.drop (64*k))).take (N-64*k)).drop 64=qAR (p.drop (64*(k+1))):=by
 rw [jV (by simp [qAR,hN])]
 unfold qAR
 rw [←List.map_drop,List.drop_drop,Nat.mul_add]
def Sha.outs(t:Sha.St8)(k:Nat):List UInt8:=(t.list.take k).flatMap λx=>Sha.numB x.toUInt64 4
theorem qNb(t:Sha.St8): ∀k,k<8→Sha.outs t (k+1)=Sha.outs t k++Sha.numB (t.list.getD k 0).toUInt64 4
 |0,_=>rfl|1,_=>rfl|2,_=>rfl|3,_=>rfl|4,_=>rfl|5,_=>rfl|6,_=>rfl|7,_=>rfl
 |n+8,h=>by omega
attribute [local irreducible] Sha.sum Sha.pad Sha.mixes Sha.numB
theorem qTU(F:Hp)(hK:KF F)(A:Option Addr)(n c:Nat)(ls:List (List UInt8))(hl:Sl F 1 A n c (qAH ls))(htot:ls.flatten.length≤17592186044416)(hn47:n≤70368744177664):
    Ct prog 88 [.slice A n c] [F] (λ_:Unit=>Str (Sha.sum ls.flatten)) (λ_=>True) (λ_=> [F]):=by
  obtain ⟨l,hL⟩: ∃l,l=ls.flatten:=⟨_,rfl⟩
  have hJ:=qP5 F A n c ls hl (by omega) hn47
  rw [←hL] at hJ htot⊢
  have hpad:=Sha.pad_length l
  have hpm:=Sha.pad_mod l
  obtain ⟨p,hp⟩: ∃p,p=Sha.pad l:=⟨_,rfl⟩
  rw [←hp] at hpad hpm
  have hsum:Sha.sum l=Sha.out (Sha.mixes Sha.init p (p.length/64)):=by rw [hp];unfold Sha.sum;rfl
  have hpd:p=l++ [128]++List.replicate ((119-l.length%64)%64) 0++Sha.numB (8*UInt64.ofNat l.length) 8:=by rw [hp];unfold Sha.pad;rfl
  refine Ct.walk func88 rfl ntmps88 rfl (λw0 hw0=>?_)
  refine J.g λK1 hK1=>J.b V<|J.c hK1<|J.A 0 ?_
  refine J.g λK2 hK2=>J.b V<|J.q (qAB V V ent140 hJ) V λg10 _=>J.q (qGu V V u9_ qBm u5_) V ?_
  rintro⟨g11,c11,m11⟩ h11
  try dsimp only at h11
  refine J.b V<|J.c hK2<|J.A 3 ?_
  refine J.g λK3 hK3=>J.b V<|J.f (qAY qBm V V) V<|J.f (qAp V V u3_ qED (by omega)) V<|J.b V<|J.c hK3<|J.E 3 4 ?_
  refine J.g λK4 hK4=>J.b V<|J.q (qAJ (l:= [.const ((Value.int IntKind.u8 128))]) (xs:= [[B8 128]]) V V V V qBm el5 V (by decide) (by decide) (by simp)) rfl λg16 _=>J.q (qAa (i:=1) (m2:=blk g16 [B8 128] 5) rfl rfl rfl qBm qBm el5 rfl h11 (by simp) (qAs (q:=True) (xs:= [[B8 128]]) rfl (by simp)).sl rfl (by omega) (by omega)) rfl ?_
  rintro⟨A17,c17,m17⟩ h17
  try dsimp only at h17
  rw [show [[B8 128]]=qAR [128] from rfl,←qDi] at h17
  refine J.c9 [0,1] [F,m17] V (by decide)<|J.b V<|J.c hK4<|J.E 3 4 ?_
  refine J.k λK5 hK5=>J.a1<|J.c1 (X:=Nat×Option Addr×Nat×Hp) (λx=> [(3,.slice x.2.1 (l.length+1+x.1) x.2.2.1),(4,W64 (UInt64.ofNat l.length))]) (λx=> [F,x.2.2.2]) (λx=>x.1≤(119-l.length%64)%64∧Row x.2.2.2 5 1 x.2.1 (l.length+1+x.1) x.2.2.1 (qAR (l++ [128]++List.replicate x.1 0))) (λx=>(119-l.length%64)%64-x.1) (0,A17,c17,m17) (⟨jF _,by simpa using h17⟩) ⟨V,V,trivial⟩ (λ_ h=>h) ?_
  rintro⟨k,A1,c1,m⟩ ⟨hk,hrow⟩ I0 hI0
  dsimp only at hk hrow⊢
  refine J.k λK6 hK6=>J.g λK7 hK7=>J.b V<|J.f (qAY qBm V V) V<|J.f (qKo V V V (by omega)) V<|J.f (qAU V V V) V<|J.c hK7<|J.G 3 4 21 ?_
  refine J.a4 V (λh21=>?_) (λh21=>?_)
  ·
    refine J.W hK6<|J.E 3 4 ?_
    refine J.a1<|J.H<|J.b V<|J.q (qAJ (l:= [.const ((Value.int IntKind.u8 0))]) (xs:= [[B8 0]]) V V V V qBm el5 V (by decide) (by decide) (by simp)) rfl λg23 _=>J.q (qAa (i:=1) (m2:=blk g23 [B8 0] 5) rfl rfl rfl qBm qBm el5 rfl hrow (by simp) (qAs (q:=True) (xs:= [[B8 0]]) rfl (by simp)).sl rfl (by omega) (by omega)) rfl ?_
    rintro⟨A24,c24,m24⟩ h24
    try dsimp only at h24
    rw [show [[B8 0]]=qAR [0] from rfl,←qDi] at h24
    refine J.c9 [0,1] [F,m24] V (by decide)<|J.b V<|J.a8<|J.b0<|J.u<|J.a9 (k+1,A24,c24,m24) (λx (hx:_∧(119-l.length%64)%64-x.1<(119-l.length%64)%64-k)=>hI0 x hx.1 hx.2) ⟨⟨by dsimp only;omega,by rw [List.replicate_succ',←jT];exact h24⟩,by dsimp only;omega⟩ ⟨rfl,rfl,trivial⟩ (λ_ h=>h)
  refine J.b8<|J.a6<|J.a6<|J.b9 ?_
  refine J.u (J.M hK5 ?_)
  refine J.E 3 4 ?_
  refine J.k λK8 hK8=>?_
  have hkz:k=(119-l.length%64)%64:=by omega
  refine J.H<|J.j 2 V<|J.f (qKq (a:=8) V V V) V<|J.q (qAB V V ent87 (Ct.use (λF' _=>qF3 F' _ 8 (by decide)))) V ?_
  rintro⟨A28,c28,m28⟩ h28
  try dsimp only at h28
  refine J.q (qAa (i:=1) (m2:=m28) V V V qBm qBm el5 V hrow (by simp) h28.sl (qHD _) (by omega) (by omega)) rfl ?_
  rintro⟨A29,c29,m29⟩ h29
  try dsimp only at h29
  rw [←qDi] at h29
  refine J.c9 [0,1] [F,m29] V (by decide)<|J.b V<|J.c hK8<|J.A 3 ?_
  refine J.k λK9 hK9=>?_
  rw [hkz,←hpd] at h29
  rw [hkz,show l.length+1+(119-l.length%64)%64+8=p.length by omega] at*
  refine J.H<|J.q (qAB V V ent141 (Ct.use0 (λF' _=>qQC F'))) V λg30 _=>J.q (qAO V zeroValue248 V) V λg5 _=>J.b1 (qAG (i:=2) (vs:=Sha.init.list.map W32) V V V V V sizeOf248 (qSN _) (by rfl)) V V λ_ _=>J.c hK9<|J.E 3 5 ?_
  refine J.k λK10 hK10=>J.a1<|J.c1 (X:=Nat×Option Addr×Nat) (λx=> [(3,.slice x.2.1 (p.length-64*x.1) x.2.2),(5,Ptr g5)]) (λx=> [F,m29,blk g5 ((Sha.mixes Sha.init p x.1).list.map W32) 248]) (λx=>64*x.1≤p.length∧Sl m29 1 x.2.1 (p.length-64*x.1) x.2.2 (qAR (p.drop (64*x.1)))) (λx=>p.length-64*x.1) (0,A29,c29) (⟨jF _,h29.sl⟩) ⟨V,V,trivial⟩ (λ_ h=>by unfold Sha.mixes;exact h) ?_
  rintro⟨k,A2,c2⟩ ⟨hk,hsl⟩ I2 hI2
  dsimp only at hk hsl⊢
  refine J.k λK11 hK11=>J.g λK12 hK12=>J.b V<|J.f (qAY qBm V V) V<|J.f (qA5 V V V) V<|J.c hK12<|J.G 3 5 33 ?_
  refine J.a4 V (λh33=>?_) (λh33=>?_)
  ·
    refine J.W hK11<|J.E 3 5 ?_
    refine J.k λK13 hK13=>J.a1 ?_
    have hN:64≤p.length-64*k:=by omega
    have hc2:=hsl.2.1
    refine J.H<|J.b V<|J.q (qAB V V ent142 (Ct.use1 2 V (λF' hF=>qT2 F' (hK.mono (hF _ (by simp))) g5 _ A2 (p.length-64*k) c2 (p.drop (64*k)) (hsl.mono (hF _ (by simp))) (by omega)))) rfl λg37 _=>J.a8<|J.b0<|J.u (J.M hK13 ?_)
    refine J.E 3 5 ?_
    refine J.H<|J.b V<|J.f (qC4 (l:=64) (h:=p.length-64*k) V V qBm z5_ V V (by omega)) V<|J.b V<|J.a8<|J.u ?_
    have hcut:=hsl.cut (lo:=64) (hi:=p.length-64*k) (mx:=c2) hN (jJ _) hsl.2.1
    rw [qMP p k _ rfl] at hcut
    have hNN:p.length-64*k-64=p.length-64*(k+1):=by omega
    refine J.a9 (k+1,_,c2-64) (λx (hx:_∧p.length-64*x.1<p.length-64*k)=>hI2 x hx.1 hx.2) ⟨⟨by dsimp only;omega,by rw [←hNN];exact hcut⟩,by dsimp only;omega⟩ ⟨by rw [←hNN];rfl,rfl,trivial⟩ (λ_ h=>by unfold Sha.mixes;exact h)
  refine J.b8<|J.a6<|J.a6<|J.b9 ?_
  refine J.u (J.M hK10 ?_)
  refine J.A 5 ?_
  refine J.k λK14 hK14=>?_
  have hk64:k=p.length/64:=by omega
  rw [←hk64] at hsum
  generalize Sha.mixes Sha.init p k=t at hsum⊢
  refine J.H<|J.b V<|J.c hK14<|J.E 5 6 ?_
  refine J.k λK15 hK15=>J.g λK16 hK16=>J.c8 2 isAgg248 sizeOf248 V V V V V<|J.d4 [0,3] [F,(λ_=>none)] V (by decide)<|J.b V<|J.c hK16<|J.G 6 38 39 ?_
  refine J.a1<|J.c1 (X:=Nat×Option Addr×Nat×Hp) (λx=> [(6,.slice x.2.1 (4*x.1) x.2.2.1),(38,.agg (t.list.map W32).toArray),(39,I x.1)]) (λx=> [F,x.2.2.2]) (λx=>x.1≤8∧Row x.2.2.2 5 1 x.2.1 (4*x.1) x.2.2.1 (qAR (Sha.outs t x.1))) (λx=>8-x.1) (0,none,0,λ_=>none) (⟨jF _,qBc.nil⟩) ⟨V,V,V,trivial⟩ (λ_ h=>h) ?_
  rintro⟨k,A3,c3,m⟩ ⟨hk,hrow⟩ I4 hI4
  dsimp only at hk hrow⊢
  refine J.g λK17 hK17=>J.f (qAT V V V) V<|J.c hK17<|J.O 6 38 39 40 ?_
  refine J.k λK18 hK18=>J.a4 V (λh40=>?_) (λh40=>?_)
  ·
    refine J.W hK18<|J.G 6 38 39 ?_
    refine J.k λK19 hK19=>J.a1<|J.g λK20 hK20=>J.f (qHd V V V qFG qCB qDF (by omega) (by rw [Nat.mul_one,zI];exact qK4 _ k (by omega))) rfl ?_
    refine J.b V<|J.c hK20<|J.O 6 8 38 39 ?_
    refine J.H<|J.j 2 V<|J.f (qHg V V qLf qED) V<|J.q (qAB V V ent87 (Ct.use (λF' _=>qF3 F' _ 4 (by decide)))) V ?_
    rintro⟨A45,c45,m45⟩ h45
    try dsimp only at h45
    refine J.q (qAa (i:=1) (m2:=m45) V V V qBm qBm el5 V hrow (by simp) h45.sl (qHD _) (by omega) (by omega)) rfl ?_
    rintro⟨A46,c46,m46⟩ h46
    try dsimp only at h46
    rw [←qDi,←qNb t k (by omega)] at h46
    refine J.c9 [0,1] [F,m46] V (by decide)<|J.b V<|J.a8<|J.b0<|J.u (J.M hK19 ?_)
    refine J.G 6 38 39 ?_
    refine J.H<|J.f (qAQ V V V (by omega)) V<|J.b V<|J.a8<|J.u<|J.a9 (k+1,A46,c46,m46) (λx (hx:_∧8-x.1<8-k)=>hI4 x hx.1 hx.2) ⟨⟨by dsimp only;omega,h46⟩,by dsimp only;omega⟩ ⟨V,V,V,trivial⟩ (λ_ h=>h)
  refine J.b8<|J.a6<|J.a6<|J.b9 ?_
  refine J.u (J.M hK15 ?_)
  refine J.A 6 ?_
  refine J.k λK21 hK21=>?_
  have hk8:k=8:=by omega
  subst hk8
  refine J.H<|J.b V<|J.f (qCU V V qBm u5_ u9_ (m:=m) (by simp) hrow.sl) rfl<|J.b rfl<|J.c hK21<|J.A 2 ?_
  exact J.D<|J.Z hw0 V () (by rw [hsum];rfl) trivial [0] rfl (by decide)
namespace Sha
def tagParts(tag:UInt8)(ls:List (List UInt8))(k:Nat):List (List UInt8):= [[tag]]++(ls.take k).flatMap λs=> [numB (UInt64.ofNat s.length) 4,s]
def tagB(tag:UInt8)(ls:List (List UInt8)):List UInt8:= [tag]++ls.flatMap λs=>numB (UInt64.ofNat s.length) 4++s
def tagged(tag:UInt8)(ls:List (List UInt8)):List UInt8:=(sum (tagB tag ls)).take 16
theorem tagParts_succ(tag:UInt8)(ls:List (List UInt8))(k:Nat){s:List UInt8}(h:ls[k]?=some s):tagParts tag ls (k+1)=tagParts tag ls k++ [numB (UInt64.ofNat s.length) 4,s]:=by
 obtain ⟨hk,rfl⟩:=List.getElem?_eq_some_iff.1 h
 unfold tagParts
 rw [jO hk,List.flatMap_append,←jT]
 simp
theorem tagParts_flat(tag:UInt8)(ls:List (List UInt8)):(tagParts tag ls ls.length).flatten=tagB tag ls:=by
 unfold tagParts tagB
 rw [jo,zc]
 congr 1
 induction ls with
 |nil=>rfl
 |cons a l ih=>rw [List.flatMap_cons,List.flatMap_cons,zc,ih];simp
theorem tagB_length(tag:UInt8)(ls:List (List UInt8)):(tagB tag ls).length=1+4*ls.length+ls.flatten.length:=by
 unfold tagB
 rw [jA]
 induction ls with
 |nil=>rfl
 |cons a l ih=>simp only [List.flatMap_cons,jA,numB_length,jD,jW,jH] at ih⊢;omega
theorem tagged_length(tag:UInt8)(ls:List (List UInt8)):(tagged tag ls).length=16:=by rw [tagged,jE,sum_length];rfl
def hi(b:UInt8):UInt8:=UInt8.ofNat (b.toNat/2^min 4 8)
end Sha
theorem qB5(a b:List (List UInt8)):qAH (a++b)=qAH a++qAH b:=by simp [qAH]
theorem qPs{ls:List (List UInt8)}{k:Nat}{s:List UInt8}(h:ls[k]?=some s):s.length≤ls.flatten.length:=by
 have:s∈ls:=jI h
 induction ls generalizing k with
 |nil=>cases this
 |cons a l ih=>
  cases k with
  |zero=>simp at h;subst h;simp
  |succ k=>simp only [jW,jA];simp only [z6] at h;have:=ih h (jI h);omega
attribute [local irreducible] Sha.tagParts Sha.tagB
theorem qA7(F:Hp)(hK:KF F)(tag:UInt8)(A:Option Addr)(n c:Nat)(ls:List (List UInt8))(hl:Sl F 1 A n c (qAH ls))(htot:ls.flatten.length≤8796093022208)(hn:n≤1099511627776):
    Ct prog 44 [B8 tag,.slice A n c] [F] (λ_:Unit=>Str (Sha.tagged tag ls)) (λ_=>True) (λ_=> [F]):=by
  have hlen:ls.length=n:=by have:=hl.1;simpa [qAH] using this
  have htl:=Sha.tagB_length tag ls
  have hfl:=Sha.tagParts_flat tag ls
  rw [hlen] at hfl htl
  refine Ct.walk func44 rfl ntmps44 rfl (λw0 hw0=>?_)
  refine J.g λK1 hK1=>J.b V<|J.c hK1<|J.E 0 1 ?_
  refine J.g λK2 hK2=>J.b V<|J.q (qAJ (l:= [.tmp 8]) (xs:= [[B8 tag]]) V V V V qBm el5 V (by decide) (by decide) (by simp)) rfl λg9 _=>J.f (qCU (l:= [tag]) rfl rfl qBm u5_ u9_ (m:=blk g9 [B8 tag] 5) (by simp) (qAs (q:=True) (xs:= [[B8 tag]]) rfl (by simp)).sl) rfl<|J.q (qAJ (l:= [.tmp 10]) (xs:= [[Str [tag]]]) rfl rfl rfl rfl qAh el9 rfl (by decide) (by decide) (by simp)) rfl λg11 _=>J.c9 [0,2] [F,blk g11 [Str [tag]] 9] rfl (by decide)<|J.b rfl<|J.c hK2<|J.E 1 5 ?_
  refine J.k λK3 hK3=>J.g λK4 hK4=>J.b V<|J.f (qAY qAh V V) V<|J.b V<|J.c hK4<|J.O 5 12 13 14 ?_
  refine J.a1<|J.c1 (X:=Nat×Option Addr×Nat×Hp) (λx=> [(5,.slice x.2.1 (2*x.1+1) x.2.2.1),(12,.slice A n c),(13,I n),(14,I x.1)]) (λx=> [F,x.2.2.2]) (λx=>x.1≤n∧Row x.2.2.2 9 1 x.2.1 (2*x.1+1) x.2.2.1 (qAH (Sha.tagParts tag ls x.1))) (λx=>n-x.1) (0,some ⟨g11,0,none⟩,1,blk g11 [Str [tag]] 9) (⟨jF _,by unfold Sha.tagParts;exact qAs (xs:=qAH [[tag]]) V (by simp [qAH])⟩) ⟨rfl,rfl,rfl,rfl,trivial⟩ (λ_ h=>h) ?_
  rintro⟨k,A1,c1,m⟩ ⟨hk,hrow⟩ I0 hI0
  dsimp only at hk hrow⊢
  refine J.g λK5 hK5=>J.f (qAT V V V) V<|J.c hK5<|J.a0 5 12 13 14 15 ?_
  refine J.k λK6 hK6=>J.a4 V (λh15=>?_) (λh15=>?_)
  ·
    refine J.W hK6<|J.O 5 12 13 14 ?_
    refine J.k λK7 hK7=>J.a1<|J.k λK8 hK8=>?_
    have hkn:k<n:=by omega
    obtain ⟨s,hs⟩: ∃s,ls[k]?=some s:=⟨_,jC (by omega)⟩
    have hsl:=qPs hs
    refine J.H<|J.f (qAF V V V qAh z9_ hl (by omega)) V<|J.f (qAL V V b9_ (by simp) (hl.elem (qAZ hs))) rfl<|J.b rfl<|J.c hK8<|J.a0 5 7 12 13 14 ?_
    refine J.H<|J.j 2 V<|J.f (qAg u9_ V V) V<|J.f (qAp V V u3_ qED (by omega)) V<|J.q (qAB V V ent87 (Ct.use (λF' _=>qF3 F' _ 4 (by decide)))) V ?_
    rintro⟨A22,c22,m22⟩ h22
    try dsimp only at h22
    refine J.f (qCU V V qBm u5_ u9_ (m:=m22) (by simp) h22.sl) rfl<|J.b rfl<|J.q (qAJ (l:= [.tmp 23,.tmp 24]) (xs:= [[Str (Sha.numB (UInt64.ofNat s.length) 4)],[Str s]]) rfl rfl rfl rfl qAh el9 rfl (by decide) (by decide) (by simp)) rfl λg25 _=>J.q (qAa (i:=1) (m2:=blk g25 [Str (Sha.numB (UInt64.ofNat s.length) 4),Str s] 9) rfl rfl rfl qAh qAh el9 rfl hrow (by simp) (qAs (q:=True) (xs:=qAH [(Sha.numB (UInt64.ofNat s.length) 4),s]) rfl (by simp [qAH])).sl (by simp [qAH,Value.oneCell']) (by omega) (by omega)) rfl ?_
    rintro⟨A26,c26,m26⟩ h26
    try dsimp only at h26
    rw [←qB5,←Sha.tagParts_succ tag ls k hs] at h26
    refine J.c9 [0,1] [F,m26] V (by decide)<|J.b V<|J.a8<|J.b0<|J.u (J.M hK7 ?_)
    refine J.O 5 12 13 14 ?_
    refine J.H<|J.f (qAQ V V V (by omega)) V<|J.b V<|J.a8<|J.u<|J.a9 (k+1,A26,c26,m26) (λx (hx:_∧n-x.1<n-k)=>hI0 x hx.1 hx.2) ⟨⟨by dsimp only;omega,h26⟩,by dsimp only;omega⟩ ⟨V,V,V,V,trivial⟩ (λ_ h=>h)
  refine J.b8<|J.a6<|J.a6<|J.b9 ?_
  refine J.u (J.M hK3 ?_)
  refine J.A 5 ?_
  refine J.k λK9 hK9=>?_
  have hkn:n=k:=by omega
  subst hkn
  refine J.H<|J.b V<|J.q (qAB V V ent88 (Ct.use0 (λF' hF=>qTU F' (hK.mono (hF _ (by simp))) A1 (2*n+1) c1 (Sha.tagParts tag ls n) (hrow.sl.mono (hF _ (by simp))) (by rw [hfl];omega) (by omega)))) rfl λg29 _=>J.f (qA3 (l:=0) (h:=16) u9_ rfl rfl rfl rfl (by rw [Sha.sum_length];omega)) rfl<|J.b rfl<|J.c hK9<|J.A 4 ?_
  exact J.D<|J.Z hw0 V () (by rw [hfl];rfl) trivial [0] rfl (by decide)
end Go.Proofs.YtfldiegfenndjaaGreatDoor
namespace Go.Proofs.YtfldiegfenndjaaGreatDoor
open Go Go.Fw Go.Proofs.Tryz
set_option maxRecDepth 100000
set_option maxHeartbeats 1000000
section
variable{P:Program}{env:Env}{rs:List Hp}{o:Oper}{t t':TypeId}{x y:Operand}{a b:UInt32}
end
attribute [local irreducible] Sha.rnds Sha.sched Sha.mix Sha.rotr Sha.exts
end Go.Proofs.YtfldiegfenndjaaGreatDoor
namespace Go.Proofs.YtfldiegfenndjaaGreatDoor
open Go Go.Fw Go.Proofs.Tryz
set_option maxRecDepth 100000
set_option maxHeartbeats 1000000
namespace Mk
def node(a b:List UInt8):List UInt8:=Sha.tagged 5 [a,b]
def above(l:List (List UInt8)):List (List UInt8):=(List.range (l.length/2)).map λk=>node (l.getD (2*k) []) (l.getD (2*k+1) [])
def lvl(l:List (List UInt8)):Nat→List (List UInt8)
 |0=>l
 |j+1=>above (lvl l j)
def root(l:List (List UInt8))(h:Nat):List UInt8:=(lvl l h).getD 0 []
def path(l:List (List UInt8))(i h:Nat):List (List UInt8):=(List.range h).map λj=>(lvl l j).getD ((i/2^j)^^^1) []
def climb:List UInt8→Nat→List (List UInt8)→List UInt8
 |x,_,[]=>x
 |x,i,s::r=>climb (if i%2=0 then node x s else node s x) (i/2) r
def Right(n:Nat):Prop:=n=1∨n=2∨n=4∨n=8∨n=16∨n=32∨n=64
instance (n:Nat):Decidable (Right n):=by unfold Right;infer_instance
theorem qNK: ∀n:Fin 65,(1≤n.val∧n.val&&&(n.val-1)=0)↔Right n.val:=by decide+kernel
theorem right_of(n:Nat):(1≤n∧n≤64∧n&&&(n-1)=0)↔Right n:=by
  by_cases h:n<65
  · have:=qNK ⟨n,h⟩
    dsimp only at this
    rw [←this]
    constructor
    · intro ⟨a,_,c⟩;exact⟨a,c⟩
    · intro ⟨a,c⟩;exact⟨a,by omega,c⟩
  · constructor
    · intro ⟨_,b,_⟩;omega
    · intro hr;unfold Right at hr;omega
theorem right_pow(h:Nat)(h6:h≤6):Right (2^h):=by
 have: ∀h:Fin 7,Right (2^h.val):=by decide+kernel
 exact this ⟨h,by omega⟩
theorem node_length(a b:List UInt8):(node a b).length=16:=Sha.tagged_length _ _
theorem qJM(l:List (List UInt8)):(above l).length=l.length/2:=by simp [above]
theorem qKL(l:List (List UInt8)): ∀s∈above l,s.length=16:=λs hs=>by
 simp only [above,zd] at hs
 obtain ⟨k,_,rfl⟩:=hs
 exact node_length _ _
theorem lvl_succ_length(l:List (List UInt8))(j:Nat):(lvl l (j+1)).length=(lvl l j).length/2:=qJM _
theorem lvl_length(l:List (List UInt8))(h:Nat)(hl:l.length=2^h): ∀j,j≤h→(lvl l j).length=2^(h-j)
 |0,_=>hl
 |j+1,hj=>by
  rw [lvl_succ_length,lvl_length l h hl j (by omega),show h-j=(h-(j+1))+1 by omega,zC]
  omega
theorem lvl_small(l:List (List UInt8))(hs: ∀s∈l,s.length≤1048576): ∀j,∀s∈lvl l j,s.length≤1048576
 |0=>hs
 |j+1=>λs h=>by rw [qKL _ s h];decide
theorem xor_one(m k:Nat)(h:m<2*k):m^^^1<2*k:=by
 have e1:(m^^^1)/2=m/2:=by rw [Nat.xor_div_two];simp
 omega
theorem path_succ(l:List (List UInt8))(i h:Nat):path l i (h+1)=path l i h++ [(lvl l h).getD ((i/2^h)^^^1) []]:=by simp [path,zB]
theorem path_length(l:List (List UInt8))(i h:Nat):(path l i h).length=h:=by simp [path]
theorem above_succ(l:List (List UInt8))(k:Nat):((List.range (k+1)).map λk=>node (l.getD (2*k) []) (l.getD (2*k+1) []))=((List.range k).map λk=>node (l.getD (2*k) []) (l.getD (2*k+1) []))++ [node (l.getD (2*k) []) (l.getD (2*k+1) [])]:=by simp [zB]
theorem getS{l:List (List UInt8)}{j:Nat}(h:j<l.length):l[j]?=some (l.getD j []):=by rw [jB,jC h];rfl
theorem getS_mem{l:List (List UInt8)}{j:Nat}(h:j<l.length):l.getD j []∈l:=jI (getS h)
end Mk
theorem ent170:qAE prog 170:=qAE.of func170 rfl (by kernel_rfl)
theorem ent128:qAE prog 128:=qAE.of func128 rfl (by kernel_rfl)
theorem ent129:qAE prog 129:=qAE.of func129 rfl (by kernel_rfl)
theorem ent69:qAE prog 69:=qAE.of func69 rfl (by kernel_rfl)
theorem ent92:qAE prog 92:=qAE.of func92 rfl (by kernel_rfl)
theorem ent124:qAE prog 124:=qAE.of func124 rfl (by kernel_rfl)
theorem qIQ(a:List (List UInt8)):(qAH a).all (λx=>x.all Value.oneCell')=true:=by simp [qAH,Value.oneCell']
attribute [local irreducible] Mk.node
theorem qJv(F:Hp)(hK:KF F)(a b:List UInt8)(ha:a.length≤1048576)(hb:b.length≤1048576):
    Ct prog 170 [Str a,Str b] [F] (λ_:Unit=>Str (Mk.node a b)) (λ_=>True) (λ_=> [F]):=by
  refine Ct.walk func170 rfl ntmps170 rfl (λw0 hw0=>?_)
  refine J.g λK1 hK1=>J.b V<|J.c hK1<|J.E 0 1 ?_
  refine J.g λK2 hK2=>J.j 2 V<|J.q (qAJ (l:= [.tmp 5,.tmp 6]) (xs:= [[Str a],[Str b]]) V V V V qAh el9 V (by decide) (by decide) (by simp)) rfl λg7 _=>J.q (qAB rfl rfl ent44 (Ct.use0 (λF' hF=>qA7 F' (hK.mono (hF _ (by simp))) 5 (some ⟨g7,0,none⟩) 2 2 [a,b] (((qAs (q:=True) (xs:=qAH [a,b]) rfl (by simp [qAH])).sl (m:=blk g7 [Str a,Str b] 9)).mono (hF _ (by simp))) (by simp;omega) (by decide)))) rfl λg8 _=>J.b rfl<|J.c hK2<|J.A 4 ?_
  exact J.D<|J.Z hw0 V () (by unfold Mk.node;rfl) trivial [0] V (by decide)
theorem qKe(F:Hp)(n:Nat)(hn:n<9223372036854775808):Ct prog 128 [I n] [F] (λ_:Unit=> .bool (decide (Mk.Right n))) (λ_=>True) (λ_=> [F]):=by
 have hR:=Mk.right_of n
 refine Ct.walk func128 rfl ntmps128 rfl (λw0 hw0=>?_)
 refine J.g λK1 hK1=>J.b V<|J.c hK1<|J.A 0 ?_
 refine J.g λK2 hK2=>J.b V<|J.f (qA9 V V V) V<|J.b V<|J.c6 (d:=5) V (λh5=>?_) (λh5=>?_)
 ·
  refine J.b V<|J.T (qGy V V V) V<|J.j 2 V<|J.c6 (d:=9) V (λh9=>?_) (λh9=>?_)
  ·
   refine J.j 2 V<|J.T ((qAn V V V (by omega)).nat (n-1) (by omega)) V<|J.T (qJt V V V (by omega)) V<|J.T (qAS V V V) V<|J.j 2 V<|J.c hK2<|J.A 2 ?_
   exact J.D<|J.Z hw0 V () (congrArg Value.bool (decide_eq_decide.2 (by rw [←hR];omega))) trivial [0] rfl (by decide)
  refine J.j 7 V<|J.c hK2<|J.A 2 ?_
  exact J.D<|J.Z hw0 V () (congrArg Value.bool (decide_eq_false (by rw [←hR];omega)).symm) trivial [0] rfl (by decide)
 refine J.j 11 V<|J.c hK2<|J.A 2 ?_
 exact J.D<|J.Z hw0 V () (congrArg Value.bool (decide_eq_false (by rw [←hR];omega)).symm) trivial [0] rfl (by decide)
theorem qLW(F:Hp)(hK:KF F)(A:Option Addr)(n c:Nat)(ls:List (List UInt8))(hl:Sl F 1 A n c (qAH ls))(hsm: ∀s∈ls,s.length≤1048576)(hn:n≤1048576):
    Ct prog 129 [.slice A n c] [F] (λx:Option Addr×Nat×Hp=> .slice x.1 (n/2) x.2.1) (λx=>Row x.2.2 9 1 x.1 (n/2) x.2.1 (qAH (Mk.above ls))) (λx=> [F,x.2.2]):=by
  have hlen:ls.length=n:=by have:=hl.1;simpa [qAH] using this
  refine Ct.walk func129 rfl ntmps129 rfl (λw0 hw0=>?_)
  refine J.g λK1 hK1=>J.b V<|J.c hK1<|J.A 0 ?_
  refine J.g λK2 hK2=>J.b V<|J.c hK2<|J.E 0 3 ?_
  refine J.k λK3 hK3=>J.k λK4 hK4=>J.d4 [0,1] [F,(λ_=>none)] V (by decide)<|J.H<|J.b V<|J.c hK4<|J.G 0 3 4 ?_
  refine J.a1<|J.c1 (X:=Nat×Option Addr×Nat×Hp) (λx=> [(0,.slice A n c),(3,.slice x.2.1 x.1 x.2.2.1),(4,I ((2*x.1:Nat):Int))]) (λx=> [F,x.2.2.2]) (λx=>2*x.1≤n∧Row x.2.2.2 9 1 x.2.1 x.1 x.2.2.1 (qAH ((List.range x.1).map λk=>Mk.node (ls.getD (2*k) []) (ls.getD (2*k+1) [])))) (λx=>n-x.1) (0,none,0,λ_=>none) (⟨jF _,qBc.nil⟩) ⟨V,V,V,trivial⟩ (λ_ h=>h) ?_
  rintro⟨k,A1,c1,m⟩ ⟨hk,hrow⟩ I0 hI0
  dsimp only at hk hrow⊢
  refine J.k λK5 hK5=>J.g λK6 hK6=>J.b V<|J.f ((qAQ V V V (by omega))) V<|J.b V<|J.f (qAY qAh V V) V<|J.f (qAT V V V) V<|J.c hK6<|J.O 0 3 4 9 ?_
  refine J.a4 V (λh9=>?_) (λh9=>?_)
  ·
    refine J.W hK5<|J.G 0 3 4 ?_
    refine J.k λK7 hK7=>J.a1<|J.b7 [F] [] (.y 0 (.y 1 (.y 2 (.y 3 (.y 4 (.y 5 (.y 6 (.y 7 (.y 8 (.y 9 (.e 10 (.e 11 (.e 12 (.y 13 .nil)))))))))))))) Tryz.wide (by decide+kernel) (by simp) ?_
    iterate 3 refine J.L ?_
    refine J.p V (qAF V V V qAh z9_ hl (by omega)) V V<|J.p V (qAL V V b9_ (m:=F) (by simp) (hl.elem (qAZ (Mk.getS (l:=ls) (j:=2*k) (by omega))))) rfl rfl<|J.L ?_
    refine J.L ?_
    refine J.p V ((qAQ V V V (by omega)).nat (2*k+1) (by omega)) V V<|J.p V (qAF V V V qAh z9_ hl (by omega)) V V<|J.p V (qAL V V b9_ (m:=F) (by simp) (hl.elem (qAZ (Mk.getS (l:=ls) (j:=2*k+1) (by omega))))) rfl rfl<|J.b2 rfl (qAB rfl rfl ent170 (Ct.use0 (λF' hF=>qJv F' (hK.mono (hF _ (by simp))) (ls.getD (2*k) []) (ls.getD (2*k+1) []) (hsm _ (Mk.getS_mem (by omega))) (hsm _ (Mk.getS_mem (by omega)))))) rfl (by simp) λg22 _=>J.b2 rfl (qAJ (l:= [.tmp 22]) (xs:= [[Str (Mk.node (ls.getD (2*k) []) (ls.getD (2*k+1) []))]]) rfl rfl rfl rfl qAh el9 rfl (by decide) (by decide) (by simp)) rfl (by simp) λg23 _=>J.b2 rfl (qAa (i:=1) (m2:=blk g23 [Str (Mk.node (ls.getD (2*k) []) (ls.getD (2*k+1) []))] 9) rfl rfl rfl qAh qAh el9 rfl hrow (by simp) (qAs (q:=True) (xs:=qAH [Mk.node (ls.getD (2*k) []) (ls.getD (2*k+1) [])]) rfl (by simp [qAH])).sl (qIQ _) (by omega) (by omega)) rfl (by simp) ?_
    rintro⟨A24,c24,m24⟩ h24
    try dsimp only at h24
    rw [←qB5,←Mk.above_succ ls k] at h24
    refine J.c3 ?_
    refine J.b3<|J.b0<|J.u (J.M hK7 ?_)
    refine J.G 0 3 4 ?_
    refine J.c9 [0,1] [F,m24] V (by decide)<|J.H<|J.b V<|J.f ((qAQ V V V (by omega)).nat (2*(k+1)) (by omega)) V<|J.b V<|J.a8<|J.u<|J.a9 (k+1,A24,c24,m24) (λx (hx:_∧n-x.1<n-k)=>hI0 x hx.1 hx.2) ⟨⟨by dsimp only;omega,h24⟩,by dsimp only;omega⟩ ⟨V,V,V,trivial⟩ (λ_ h=>h)
  refine J.b8<|J.a6<|J.a6<|J.b9 ?_
  refine J.u (J.M hK3 ?_)
  refine J.A 3 ?_
  refine J.g λK8 hK8=>J.j 2 V<|J.c hK8<|J.A 2 ?_
  refine J.D ?_
  have hk2:k=n/2:=by omega
  subst hk2
  exact J.Z hw0 V (A1,c1,m) V (by rw [←hlen] at hrow;unfold Mk.above;rw [←hlen];exact hrow) [0,1] rfl (by decide)
theorem qRx(F:Hp)(hK:KF F)(A:Option Addr)(n c:Nat)(ls:List (List UInt8))(hl:Sl F 1 A n c (qAH ls))(h:Nat)(h6:h≤6)(hn:n=2^h)(hsm: ∀s∈ls,s.length≤1048576):
    Ct prog 69 [.slice A n c] [F] (λ_:Unit=> .tuple #[Str (Mk.root ls h),I 0]) (λ_=>True) (λ_=> [F]):=by
  have hlen:ls.length=n:=by have:=hl.1;simpa [qAH] using this
  have hR:Mk.Right n:=by rw [hn];exact Mk.right_pow h h6
  have hn64:n≤64:=by unfold Mk.Right at hR;omega
  have hlv: ∀j,j≤h→(Mk.lvl ls j).length=2^(h-j):=Mk.lvl_length ls h (by omega)
  have hle: ∀j,2^(h-j)≤64:=λj=>jd (jg (by decide) (show h-j≤6 by omega)) (by decide)
  refine Ct.walk func69 rfl ntmps69 rfl (λw0 hw0=>?_)
  refine J.g λK1 hK1=>J.j 2 V<|J.c hK1<|J.A 0 ?_
  refine J.k λK2 hK2=>J.g λK3 hK3=>J.b V<|J.f (qAY qAh V V) V<|J.q (qAB V V ent128 (qKe F n (by omega))) V λg6 _=>J.f ((qF0 V V).as (v':= .bool false) (by simp [hR])) rfl<|J.d4 [0,1] [F,(λ_=>none)] rfl (by decide)<|J.c hK3<|J.E 0 7 ?_
  refine J.a5 ?_
  refine J.W hK2<|J.A 0 ?_
  refine J.k λK4 hK4=>J.a1<|J.c1 (X:=Nat×Option Addr×Nat×Hp) (λx=> [(0,.slice x.2.1 (Mk.lvl ls x.1).length x.2.2.1)]) (λx=> [F,x.2.2.2]) (λx=>x.1≤h∧ ∃mm∈ [F,x.2.2.2],Sl mm 1 x.2.1 (Mk.lvl ls x.1).length x.2.2.1 (qAH (Mk.lvl ls x.1))) (λx=>h-x.1) (0,A,c,λ_=>none) (⟨jF _,F,.head _,by rw [show(Mk.lvl ls (0,A,c,(λ_=>none:Hp)).1).length=n from hlen];exact hl⟩) ⟨by rw [←hlen];rfl,trivial⟩ (λ_ h=>h) ?_
  rintro⟨j,A1,c1,m⟩ ⟨hj,mm,hmm,hsl⟩ I0 hI0
  dsimp only at hj hmm hsl⊢
  have hj2:=hlv j hj
  have hj3:=hle j
  have hpos:0<(Mk.lvl ls j).length:=by rw [hj2];exact zA _
  have hmm2:mm=F∨mm=m:=by simpa using hmm
  refine J.k λK5 hK5=>J.g λK6 hK6=>J.b V<|J.f (qAY qAh V V) V<|J.f (qA5 V V V) V<|J.c hK6<|J.E 0 10 ?_
  refine J.a4 V (λh10=>?_) (λh10=>?_)
  ·
    refine J.W hK5<|J.A 0 ?_
    refine J.a1 ?_
    have hjh:j<h:=by
      rcases zn j h with hlt|hge
      · exact hlt
      · rw [hj2,show h-j=0 by omega] at h10;simp at h10
    refine J.H<|J.b V<|J.q (qAB V V ent129 (Ct.use (λF' hF=>qLW F' (hK.mono (hF _ (by simp))) A1 (Mk.lvl ls j).length c1 (Mk.lvl ls j) (hsl.mono (hF _ (by rcases hmm2 with rfl|rfl<;>simp))) (Mk.lvl_small ls hsm j) (by omega)))) rfl ?_
    rintro⟨A12,c12,m12⟩ h12
    try dsimp only at h12
    refine J.c9 [0,2] [F,m12] V (by decide)<|J.b V<|J.a8<|J.b0<|J.u<|J.a9 (j+1,A12,c12,m12) (λx (hx:_∧h-x.1<h-j)=>hI0 x hx.1 hx.2) ⟨⟨by dsimp only;omega,m12,by simp,by rw [Mk.lvl_succ_length];exact h12.sl⟩,by dsimp only;omega⟩ ⟨by rw [Mk.lvl_succ_length];rfl,trivial⟩ (λ_ h=>h)
  refine J.b8<|J.a6<|J.a6<|J.b9 ?_
  refine J.u (J.M hK4 ?_)
  refine J.A 0 ?_
  refine J.k λK7 hK7=>?_
  have hjh:j=h:=by
    rcases zn j h with hlt|hge
    · have:=Nat.one_lt_two_pow_iff.2 (show h-j≠0 by omega)
      omega
    · omega
  refine J.H<|J.b V<|J.f (qAF V V V qAh z9_ hsl hpos) V<|J.f (qAL V V b9_ hmm (hsl.elem (qAZ (Mk.getS (l:=Mk.lvl ls j) (j:=0) hpos)))) V<|J.j 2 V<|J.c hK7<|J.E 2 3 ?_
  exact J.D<|J.b4 hw0 (λ_ _ h=>h) (qDe V V V) (qAj () (by rw [hjh];rfl) trivial [0] rfl (by decide))
theorem qR9(F:Hp)(hK:KF F)(A:Option Addr)(n c:Nat)(ls:List (List UInt8))(hl:Sl F 1 A n c (qAH ls))(h:Nat)(h6:h≤6)(hn:n=2^h)(hsm: ∀s∈ls,s.length≤1048576)(i:Nat)(hi:i<n):
    Ct prog 92 [.slice A n c,I i] [F] (λx:Option Addr×Nat×Hp=> .tuple #[.slice x.1 h x.2.1,I 0]) (λx=>Row x.2.2 9 1 x.1 h x.2.1 (qAH (Mk.path ls i h))) (λx=> [F,x.2.2]):=by
  have hlen:ls.length=n:=by have:=hl.1;simpa [qAH] using this
  have hR:Mk.Right n:=by rw [hn];exact Mk.right_pow h h6
  have hn64:n≤64:=by unfold Mk.Right at hR;omega
  have hlv: ∀j,j≤h→(Mk.lvl ls j).length=2^(h-j):=Mk.lvl_length ls h (by omega)
  have hle: ∀j,2^(h-j)≤64:=λj=>jd (jg (by decide) (show h-j≤6 by omega)) (by decide)
  refine Ct.walk func92 rfl ntmps92 rfl (λw0 hw0=>?_)
  refine J.g λK1 hK1=>J.j 2 V<|J.c hK1<|J.E 0 1 ?_
  refine J.k λK2 hK2=>J.a1<|J.g λK3 hK3=>J.b V<|J.f (qAY qAh V V) V<|J.q (qAB V V ent128 (qKe F n (by omega))) V λg10 _=>J.f ((qF0 V V).as (v':= .bool false) (by simp [hR])) rfl<|J.b rfl<|J.c hK3<|J.G 0 1 7 ?_
  refine J.a5 ?_
  refine J.g λK4 hK4=>J.b V<|J.f ((qAT V V V).no (by omega)) V<|J.j 3 V<|J.T (qAY qAh V V) V<|J.T ((qA9 V V V).no (by omega)) V<|J.j 2 V<|J.c hK4<|J.G 0 1 12 ?_
  refine J.a5 ?_
  refine J.c0<|J.b0<|J.u (J.M hK2 ?_)
  refine J.E 0 1 ?_
  refine J.k λK5 hK5=>J.d4 [0,1] [F,(λ_=>none)] V (by decide)<|J.d4 [0,1,2] [F,(λ_=>none),(λ_=>none)] V (by decide)<|J.H<|J.b V<|J.c hK5<|J.G 0 1 6 ?_
  refine J.k λK6 hK6=>J.a1<|J.c1 (X:=Nat×Option Addr×Nat×Hp×Option Addr×Nat×Hp) (λx=> [(0,.slice x.2.1 (Mk.lvl ls x.1).length x.2.2.1),(1,I ((i/2^x.1:Nat):Int)),(6,.slice x.2.2.2.2.1 x.1 x.2.2.2.2.2.1)]) (λx=> [F,x.2.2.2.2.2.2,x.2.2.2.1]) (λx=>x.1≤h∧(∃mm∈ [F,x.2.2.2.1],Sl mm 1 x.2.1 (Mk.lvl ls x.1).length x.2.2.1 (qAH (Mk.lvl ls x.1)))∧Row x.2.2.2.2.2.2 9 1 x.2.2.2.2.1 x.1 x.2.2.2.2.2.1 (qAH (Mk.path ls i x.1))) (λx=>h-x.1) (0,A,c,(λ_=>none),none,0,λ_=>none) (⟨jF _,⟨F,.head _,by rw [show(Mk.lvl ls (0,A,c,(λ_=>none:Hp)).1).length=n from hlen];exact hl⟩,qBc.nil⟩) ⟨by rw [←hlen];rfl,by rw [Nat.pow_zero,Nat.div_one];rfl,rfl,trivial⟩ (λ_ h=>h) ?_
  rintro⟨j,A1,c1,m,A2,c2,m2⟩ ⟨hj,⟨mm,hmm,hsl⟩,hrow⟩ I0 hI0
  dsimp only at hj hmm hsl hrow⊢
  have hj2:=hlv j hj
  have hj3:=hle j
  have hpos:0<(Mk.lvl ls j).length:=by rw [hj2];exact zA _
  have hmm2:mm=F∨mm=m:=by simpa using hmm
  have hmF:mm∈ [F,m2,m]:=by rcases hmm2 with rfl|rfl<;>simp
  refine J.k λK7 hK7=>J.g λK8 hK8=>J.b V<|J.f (qAY qAh V V) V<|J.f (qA5 V V V) V<|J.c hK8<|J.O 0 1 6 23 ?_
  refine J.a4 V (λh23=>?_) (λh23=>?_)
  ·
    refine J.W hK7<|J.G 0 1 6 ?_
    refine J.k λK9 hK9=>J.a1 ?_
    have hjh:j<h:=by
      rcases zn j h with hlt|hge
      · exact hlt
      · rw [hj2,show h-j=0 by omega] at h23;simp at h23
    have hij:i/2^j<2^(h-j):=by
      rw [Nat.div_lt_iff_lt_mul (zA j),←Nat.pow_add,show h-j+j=h by omega,←hn];exact hi
    have hx1:i/2^j^^^1<(Mk.lvl ls j).length:=by
      rw [hj2,show h-j=(h-j-1)+1 by omega,zC,zU]
      refine Mk.xor_one _ _ ?_
      rw [show h-j=(h-j-1)+1 by omega,zC,zU] at hij;exact hij
    refine J.H<|J.j 3 V<|J.f (qSC V V V ⟨zG (za _ _) (show i<9223372036854775808 by omega),by decide⟩) V<|J.f (qAF V V V qAh z9_ hsl hx1) V<|J.f (qAL V V b9_ hmF (hsl.elem (qAZ (Mk.getS (l:=Mk.lvl ls j) (j:=i/2^j^^^1) hx1)))) V<|J.q (qAJ (l:= [.tmp 33]) (xs:= [[Str ((Mk.lvl ls j).getD ((i/2^j)^^^1) [])]]) V V V V qAh el9 V (by decide) (by decide) (by simp)) rfl λg34 _=>J.q (qAa (i:=1) (m2:=blk g34 [Str ((Mk.lvl ls j).getD ((i/2^j)^^^1) [])] 9) rfl rfl rfl qAh qAh el9 rfl hrow (by simp) (qAs (q:=True) (xs:=qAH [((Mk.lvl ls j).getD ((i/2^j)^^^1) [])]) rfl (by simp [qAH])).sl (qIQ _) (by omega) (by omega)) rfl ?_
    rintro⟨A35,c35,m35⟩ h35
    try dsimp only at h35
    rw [←qB5,←Mk.path_succ] at h35
    refine J.b V<|J.a8<|J.b0<|J.u (J.M hK9 ?_)
    refine J.G 0 1 6 ?_
    refine J.H<|J.b V<|J.q (qAB V V ent129 (Ct.use (λF' hF=>qLW F' (hK.mono (hF _ (by simp))) A1 (Mk.lvl ls j).length c1 (Mk.lvl ls j) (hsl.mono (hF _ (by rcases hmm2 with rfl|rfl<;>simp))) (Mk.lvl_small ls hsm j) (by omega)))) rfl ?_
    rintro⟨A25,c25,m25⟩ h25
    try dsimp only at h25
    refine J.c9 [0,1,4] [F,m35,m25] V (by decide)<|J.b V<|J.f ((qGv V V V ⟨Int.natCast_nonneg _,by decide,Int.ofNat_le.2 (jd (za _ _) (show i≤9223372036854775807 by omega))⟩).as (v':=I ((i/2^(j+1):Nat):Int)) (congrArg I (by rw [zC,←zm];rfl))) rfl<|J.j 2 rfl<|J.a8<|J.u<|J.a9 (j+1,A25,c25,m25,A35,c35,m35) (λx (hx:_∧h-x.1<h-j)=>hI0 x hx.1 hx.2) ⟨⟨by dsimp only;omega,⟨m25,by simp,by rw [Mk.lvl_succ_length];exact h25.sl⟩,h35⟩,by dsimp only;omega⟩ ⟨by rw [Mk.lvl_succ_length];rfl,rfl,rfl,trivial⟩ (λ_ h=>h)
  refine J.b8<|J.a6<|J.a6<|J.b9 ?_
  refine J.u (J.M hK6 ?_)
  refine J.A 6 ?_
  refine J.k λK10 hK10=>?_
  have hjh:j=h:=by
    rcases zn j h with hlt|hge
    · have:=Nat.one_lt_two_pow_iff.2 (show h-j≠0 by omega)
      omega
    · omega
  refine J.H<|J.j 3 V<|J.c hK10<|J.E 4 5 ?_
  exact J.D<|J.b4 hw0 (λ_ _ h=>h) (qDe V V V) (qAj (A2,c2,m2) (by rw [hjh]) (by rw [hjh] at hrow;exact hrow) [0,1] rfl (by decide))
theorem qQH(F:Hp)(hK:KF F)(xx:List UInt8)(i:Nat)(A:Option Addr)(n c:Nat)(ls:List (List UInt8))(hl:Sl F 1 A n c (qAH ls))(hx:xx.length≤1048576)(hsm: ∀s∈ls,s.length≤1048576)(hi:i<9223372036854775808)(hn:n≤1048576):
    Ct prog 124 [Str xx,I i,.slice A n c] [F] (λ_:Unit=>Str (Mk.climb xx i ls)) (λ_=>True) (λ_=> [F]):=by
  have hlen:ls.length=n:=by have:=hl.1;simpa [qAH] using this
  refine Ct.walk func124 rfl ntmps124 rfl (λw0 hw0=>?_)
  refine J.g λK1 hK1=>J.b V<|J.c hK1<|J.G 0 1 2 ?_
  refine J.k λK2 hK2=>J.g λK3 hK3=>J.b V<|J.f (qAY qAh V V) V<|J.b V<|J.c hK3<|J.a0 0 1 9 10 11 ?_
  refine J.a1<|J.c1 (X:=Nat×List UInt8×Nat) (λx=> [(0,Str x.2.1),(1,I x.2.2),(9,.slice A n c),(10,I n),(11,I x.1)]) (λ_=> [F]) (λx=>x.1≤n∧x.2.1.length≤1048576∧x.2.2≤i∧Mk.climb x.2.1 x.2.2 (ls.drop x.1)=Mk.climb xx i ls) (λx=>n-x.1) (0,xx,i) (⟨jF _,hx,jJ _,V⟩) ⟨V,V,V,V,V,trivial⟩ (λ_ h=>h) ?_
  rintro⟨k,y,j⟩ ⟨hk,hy,hji,hc⟩ I0 hI0
  dsimp only at hk hy hji hc⊢
  refine J.g λK4 hK4=>J.f (qAT V V V) V<|J.c hK4<|J.b5 0 1 9 10 11 12 ?_
  refine J.k λK5 hK5=>J.a4 V (λh12=>?_) (λh12=>?_)
  ·
    refine J.W hK5<|J.a0 0 1 9 10 11 ?_
    refine J.k λK6 hK6=>J.a1<|J.k λK7 hK7=>?_
    have hkn:k<n:=by omega
    obtain ⟨s,hs⟩: ∃s,ls[k]?=some s:=⟨_,jC (by omega)⟩
    have hdr:ls.drop k=s::ls.drop (k+1):=by
      obtain ⟨hk2,rfl⟩:=List.getElem?_eq_some_iff.1 hs
      exact zw hk2
    rw [hdr,Mk.climb] at hc
    refine J.H<|J.f (qAF V V V qAh z9_ hl (by omega)) V<|J.f (qAL V V b9_ (m:=F) (by simp) (hl.elem (qAZ hs))) rfl<|J.b rfl<|J.c hK7<|J.b5 0 1 8 9 10 11 ?_
    refine J.k λK8 hK8=>J.g λK9 hK9=>J.b V<|J.f (qJt (a:=j) (b:=1) V V V (by omega)) V<|J.f (qAS V V V) V<|J.c hK9<|J.c5 0 1 8 9 10 11 17 ?_
    refine J.a4 V (λh17=>?_) (λh17=>?_)
    ·
      refine J.H<|J.j 2 V<|J.q (qAB V V ent170 (Ct.use0 (λF' hF=>qJv F' (hK.mono (hF _ (by simp))) y s hy (hsm _ (jI hs))))) rfl λg20 _=>J.b rfl<|J.c hK8<|J.a0 0 1 9 10 11 ?_
      refine J.H<|J.b V<|J.f ((qCc (m:=1) V V V (by omega)).nat (j/2) (by omega)) V<|J.b V<|J.a8<|J.b0<|J.u (J.M hK6 ?_)
      refine J.a0 0 1 9 10 11 ?_
      refine J.H<|J.f (qAQ V V V (by omega)) V<|J.b V<|J.a8<|J.u ?_
      rw [if_pos (by rw [Nat.and_one_is_mod] at h17;omega)] at hc
      refine J.a9 (k+1,Mk.node y s,j/2) (λx (hx:_∧n-x.1<n-k)=>hI0 x hx.1 hx.2) ⟨⟨by dsimp only;omega,by dsimp only;rw [Mk.node_length];decide,by dsimp only;omega,hc⟩,by dsimp only;omega⟩ ⟨rfl,rfl,rfl,rfl,rfl,trivial⟩ (λ_ h=>h)
    refine J.H<|J.j 2 V<|J.q (qAB V V ent170 (Ct.use0 (λF' hF=>qJv F' (hK.mono (hF _ (by simp))) s y (hsm _ (jI hs)) hy))) rfl λg23 _=>J.b rfl<|J.c hK8<|J.a0 0 1 9 10 11 ?_
    refine J.H<|J.b V<|J.f ((qCc (m:=1) V V V (by omega)).nat (j/2) (by omega)) V<|J.b V<|J.a8<|J.b0<|J.u (J.M hK6 ?_)
    refine J.a0 0 1 9 10 11 ?_
    refine J.H<|J.f (qAQ V V V (by omega)) V<|J.b V<|J.a8<|J.u ?_
    rw [if_neg (by rw [Nat.and_one_is_mod] at h17;omega)] at hc
    refine J.a9 (k+1,Mk.node s y,j/2) (λx (hx:_∧n-x.1<n-k)=>hI0 x hx.1 hx.2) ⟨⟨by dsimp only;omega,by dsimp only;rw [Mk.node_length];decide,by dsimp only;omega,hc⟩,by dsimp only;omega⟩ ⟨rfl,rfl,rfl,rfl,rfl,trivial⟩ (λ_ h=>h)
  refine J.b8<|J.a6<|J.a6<|J.b9 ?_
  refine J.u (J.M hK2 ?_)
  refine J.A 0 ?_
  refine J.k λK10 hK10=>?_
  rw [jq (by omega)] at hc
  refine J.H<|J.j 2 V<|J.c hK10<|J.A 6 ?_
  exact J.D<|J.Z hw0 V () (by rw [←hc];rfl) trivial [0] rfl (by decide)
end Go.Proofs.YtfldiegfenndjaaGreatDoor
namespace Go.Proofs.YtfldiegfenndjaaGreatDoor
open Go Go.Fw Go.Proofs.Tryz
set_option maxRecDepth 100000
set_option maxHeartbeats 1000000
attribute [local irreducible] Mk.node
namespace Mk
theorem qRO(m:Nat):m^^^1=if m%2=0 then m+1 else m-1:=by
 have e1:(m^^^1)/2=m/2:=by rw [Nat.xor_div_two];simp
 have e2:(m^^^1)%2=(m%2)^^^1:=Nat.xor_mod_two_pow (n:=1)
 rcases Nat.mod_two_eq_zero_or_one m with h|h
 · rw [h,show(0:Nat)^^^1=1 from rfl] at e2;rw [if_pos h];omega
 · rw [h,show(1:Nat)^^^1=0 from rfl] at e2;rw [if_neg (by omega)];omega
theorem qOm(l:List (List UInt8))(k:Nat):(above l)[k]?=if k<l.length/2 then some (node (l.getD (2*k) []) (l.getD (2*k+1) [])) else none:=by
 unfold above
 rw [jN]
 by_cases h:k<l.length/2
 · rw [if_pos h,jv h];rfl
 · rw [if_neg h,ji (by simpa using Nat.le_of_not_lt h)];rfl
theorem qIK{k:Nat}(h:0<k):2^k%2=0:=by
 rw [show k=(k-1)+1 by omega,zC];omega
def tx(ls:List (List UInt8))(k:Nat):List UInt8:= [UInt8.ofNat k]++(ls.getD k []).take 20
end Mk
attribute [local irreducible] Mk.root Mk.path Mk.tx
end Go.Proofs.YtfldiegfenndjaaGreatDoor
namespace Go.Proofs.YtfldiegfenndjaaGreatDoor
open Go Go.Fw Go.Proofs.Tryz
set_option maxRecDepth 100000
set_option maxHeartbeats 1000000
namespace Sha
end Sha
attribute [local irreducible] Sha.tagB
end Go.Proofs.YtfldiegfenndjaaGreatDoor
