/- A part of the proof. -/
import Derived.Test.YtllnfioplpipiaaGreatDoorTopOrG8
import Derived.Test.YtllnfioplpipiaaGreatDoorTopOrG9
import Derived.Test.YtllnfioplpipiaaGreatDoorTopOrG10
import Derived.Test.YtllnfioplpipiaaGreatDoorTopOrG4
import Derived.Test.YtllnfioplpipiaaGreatDoorTopOrG5
set_option linter.unusedSimpArgs false
set_option linter.unusedVariables false
namespace Go.Proofs.YtllnfioplpipiaaGreatDoor
open Go Go.Fw Go.Proofs.Tryz
set_option maxRecDepth 100000
set_option maxHeartbeats 1000000
theorem qSG: ∀r:Fin 32,1≤r.val→((UInt64.ofNat (18446744073709551616-r.val)).toNat&&&31)=32-r.val:=by decide+kernel
theorem qUj(n:UInt64)(size:Nat)(j:Nat)(hj:j<size):(Sha.numB n size)[j]?=some (UInt64.ofNat (n.toNat/2^min (8*(size-1-j)) 64)).toUInt8:=by
 simp [Sha.numB,hj]
def qF4(l:List UInt8)(k:Nat):List Value:=(l.take k).map B8++List.replicate (l.length-k) (.int .u8 0)
theorem qLq(l:List UInt8)(size:Nat)(h:l.length=size):(List.replicate size [Value.int .u8 0]).flatten=qF4 l 0:=by
 subst h
 unfold qF4
 induction l with
 |nil=>rfl
 |cons a l ih=>simp only [List.length_cons,List.replicate_succ,List.flatten_cons];rw [ih];simp [List.replicate_succ]
theorem qNS(l:List UInt8)(k:Nat)(h:k≤l.length):(qF4 l k).length=l.length:=by simp [qF4];omega
theorem qMw{α:Type}(a:List α)(v:α)(n:Nat)(x:α):(a++List.replicate (n+1) v).take a.length++ [x]++(a++List.replicate (n+1) v).drop (a.length+1)=(a++ [x])++List.replicate n v:=by
 rw [List.take_left,List.drop_append]
 simp [List.replicate_succ]
theorem qLr(l:List UInt8)(k:Nat)(v:UInt8)(h:l[k]?=some v):qAu (qF4 l k) k [B8 v]=qF4 l (k+1):=by
 obtain ⟨hk,rfl⟩:=List.getElem?_eq_some_iff.1 h
 have e:l.length-k=(l.length-(k+1))+1:=by omega
 have h2:=qMw ((l.take k).map B8) (Value.int .u8 0) (l.length-(k+1)) (B8 l[k])
 have h3:((l.take k).map B8).length=k:=by simp;omega
 rw [h3] at h2
 unfold qAu qF4
 rw [e,List.length_singleton,h2,List.take_succ_eq_append_getElem hk,List.map_append]
 rfl
theorem qNT(l:List UInt8)(k:Nat)(h:l.length≤k):qF4 l k=(qAR l).flatten:=by
 unfold qF4 qAR
 rw [qBA,List.take_of_length_le h,show l.length-k=0 by omega];simp
theorem el230:qCQ prog 230 [.int .u32 0] 4:=qCQ.of (by kernel_rfl) rfl
theorem ent221:qAD prog 221:=qAD.of func221 rfl (by kernel_rfl)
theorem ent141:qAD prog 141:=qAD.of func141 rfl (by kernel_rfl)
theorem ent189:qAD prog 189:=qAD.of func189 rfl (by kernel_rfl)
theorem ent220:qAD prog 220:=qAD.of func220 rfl (by kernel_rfl)
theorem ent190:qAD prog 190:=qAD.of func190 rfl (by kernel_rfl)
theorem ent142:qAD prog 142:=qAD.of func142 rfl (by kernel_rfl)
theorem ent75:qAD prog 75:=qAD.of func75 rfl (by kernel_rfl)
theorem qFW(F:Hp)(n:UInt64)(size:Nat)(hs:size≤8):
    Ct prog 141 [W64 n,I size] [F] (λx:Option Addr×Nat×Hp=> .slice x.1 size x.2.1) (λx=>Row x.2.2 5 1 x.1 size x.2.1 (qAR (Sha.numB n size))) (λx=> [F,x.2.2]):=by
  have hlen:=Sha.numB_length n size
  refine Ct.walk func141 rfl ntmps141 rfl (λw0 hw0=>?_)
  change J _ [(0,_),(1,_)] _ _ _
  refine J.g λK1 hK1=>J.b O<|J.c hK1<|J.E 0 1 ?_
  refine J.g λK2 hK2=>J.b O<|J.k (qC2 (n':=size) O O qBV el5 (by omega) (by omega)) O λg8 _=>?_
  change J _ _ _ [F,_] _
  refine J.b O<|J.c hK2<|J.G 0 1 5 ?_
  refine J.j λK3 hK3=>J.g λK4 hK4=>J.b O<|J.f (qAP qBV O O) O<|J.b O<|J.c hK4<|J.a0 0 1 5 10 11 ?_
  refine J.V<|J.b6 (λk:Nat=> [(0,W64 n),(1,I size),(5,.slice (some ⟨g8,0,none⟩) size size),(10,I size),(11,I k)]) (λk=> [F,blk g8 (qF4 (Sha.numB n size) k) 5]) (λk=>k≤size) (λk=>size-k) 0 (Nat.zero_le _) ⟨O,O,O,O,O,trivial⟩ (λ_ h=>by rw [←qLq _ size hlen];exact h) ?_
  intro k hk I0 hI0
  refine J.g λK5 hK5=>J.f (qAT O O O) O<|J.c hK5<|J.b8 0 1 5 10 11 12 ?_
  refine J.j λK6 hK6=>J.a2 O (λh12=>?_) (λh12=>?_)
  ·
    refine J.W hK6<|J.a0 0 1 5 10 11 ?_
    refine J.j λK7 hK7=>J.V<|J.g λK8 hK8=>J.p 2 O<|J.c hK8<|J.b8 0 1 5 6 10 11 ?_
    refine J.L<|J.p 4 O<|J.f (qAw O O O (by omega)) O<|J.b O<|J.f (qAw O O O (by omega)) O<|J.f (qCr O O O (by omega)) O<|J.f (qEm (m:=8*(size-1-k)) O O (by show some _=some _;congr 2;omega)) O<|J.f (qEV O O qEi u5_) O<|J.f (qAm (j:=k) O O O qBV z5_ (by omega) (by omega)) O<|J.b0 (qAZ (i:=1) (vs:= [B8 _]) O O O O O z5_ O (by rw [qNS (Sha.numB n size) k (by omega)];show k+1≤_;omega)) rfl rfl λ_ _=>?_
    change J _ _ _ [F,_] _
    refine J.a7<|J.a6<|J.A (J.H hK7 ?_)
    refine J.a0 0 1 5 10 11 ?_
    exact J.L<|J.f (qAO O O O (by omega)) O<|J.b O<|J.a7<|J.A<|J.a8 (k+1) (λx (hx:x≤size∧size-x<size-k)=>hI0 x hx.1 hx.2) ⟨by omega,by omega⟩ ⟨O,O,O,O,O,trivial⟩ (λ_ h=>by rw [←qLr _ k _ (qUj n size k (by omega))];exact h)
  refine J.b4<|J.a1<|J.a1<|J.b5 ?_
  refine J.A (J.H hK3 ?_)
  refine J.u 5 ?_
  refine J.g λK9 hK9=>J.p 2 O<|J.c hK9<|J.u 4 ?_
  exact J.D<|J.M hw0 O (some ⟨g8,0,none⟩,size,blk g8 (qAR (Sha.numB n size)).flatten 5) O (qAk (by simp [qAR,hlen]) (by simp [qAR])) [0,1] (by rw [qNT (Sha.numB n size) k (by omega)];rfl) (by decide)
theorem qDR(F:Hp)(x:UInt32)(r:Nat)(h1:1≤r)(h2:r<32):
    Ct prog 221 [W32 x,I (-(r:Int))] [F] (λ_:Unit=>W32 (Sha.rotr x r)) (λ_=>True) (λ_=> [F]):=by
  have hr:=qSG ⟨r,h2⟩ h1
  have e1:((-(r:Int))%18446744073709551616).toNat=18446744073709551616-r:=by omega
  have e3:IntKind.u64.wrap (32-((32-r:Nat):Int))=(r:Int):=by simp [IntKind.wrap,IntKind.bits,IntKind.signed];omega
  refine Ct.walk func221 rfl ntmps221 rfl (λw0 hw0=>?_)
  change J _ [(0,_),(1,_)] _ _ _
  refine J.g λK1 hK1=>J.b O<|J.c hK1<|J.E 0 1 ?_
  refine J.g λK2 hK2=>J.b O<|J.f ((qBi O O u3_ qGy).as (congrArg (λz=>W64 (UInt64.ofNat z)) e1)) O<|J.f ((qKt (b:=31) O O O).as (v':= .int .u64 ((32-r:Nat):Int)) (by show Value.int .u64 _=_;rw [UInt64.toNat_and];exact congrArg (λz:Nat=>Value.int .u64 (z:Int)) hr)) rfl<|J.b rfl<|J.c hK2<|J.E 0 5 ?_
  refine J.g λK3 hK3=>J.p 2 O<|J.f (qEn (m:=32-r) O O O) O<|J.p 2 O<|J.f (qIW (r:=(r:Int)) O O O e3.symm) O<|J.f (qHI (m:=r) O O O) O<|J.f (qHL O O O) O<|J.b O<|J.c hK3<|J.u 4 ?_
  exact J.D<|J.M hw0 O () O trivial [0] O (by decide)
theorem qQk(F:Hp):Ct prog 189 [] [F] (λ_:Unit=> .agg (Sha.init.list.map W32).toArray) (λ_=>True) (λ_=> [F]):=by
 refine Ct.walk func189 rfl ntmps189 rfl (λw0 hw0=>?_)
 change J _ [] _ _ _
 refine J.g λK1 hK1=>J.k (qAN O zeroValue271 O) O λg0 _=>?_
 change J _ _ _ [F,blk g0 _ 271] _
 refine J.c hK1<|J.u 0 ?_
 refine J.g λK2 hK2=>J.f (qDY (l:= [.const (.int .u32 1779033703),.const (.int .u32 3144134277),.const (.int .u32 1013904242),.const (.int .u32 2773480762),.const (.int .u32 1359893119),.const (.int .u32 2600822924),.const (.int .u32 528734635),.const (.int .u32 1541459225)]) O O O qEb el230 zeroValue271 O O (by simp [Value.cells]) (r:=Sha.init.list.map W32) rfl) rfl<|J.b0 (qAZ (i:=1) (vs:=Sha.init.list.map W32) rfl rfl rfl rfl rfl sizeOf271 rfl (by decide)) rfl rfl λ_ _=>?_
 change J _ _ _ [_,blk g0 (Sha.init.list.map W32) 271] _
 refine J.c hK2<|J.u 0 ?_
 exact J.D<|J.b2 hw0 (λ_ _ h=>h) (rv1 O (RV.blkA 1 O O isAgg271 sizeOf271)) (qAn () O trivial [0] O (by decide))
def qDX(l:List UInt32):List Value:=l.map W32++List.replicate (64-l.length) (.int .u32 0)
theorem qFN(l:List UInt32)(h:l.length≤64):(qDX l).length=64:=by simp [qDX];omega
theorem qDp(l:List UInt32)(i:Nat)(h:i<l.length):(qDX l)[i]?=some (W32 (l.getD i 0)):=by
 unfold qDX
 rw [List.getElem?_append_left (by simpa using h),List.getElem?_map,List.getElem?_eq_getElem h,List.getD_eq_getElem?_getD,List.getElem?_eq_getElem h]
 rfl
theorem qGN(l:List UInt32)(x:UInt32)(h:l.length<64):qAu (qDX l) l.length [W32 x]=qDX (l++ [x]):=by
 have e:64-l.length=(64-(l.length+1))+1:=by omega
 have h2:=qMw (l.map W32) (Value.int .u32 0) (64-(l.length+1)) (W32 x)
 rw [List.length_map] at h2
 unfold qAu qDX
 rw [e,List.length_singleton,h2,List.map_append,List.length_append]
 rfl
theorem qNR(l:List UInt32)(j:Nat)(hj:l.length=16+j)(h:j<48):qAu (qDX l) (16+j) [W32 (l.getD j 0+Sha.sg0 (l.getD (j+1) 0)+l.getD (j+9) 0+Sha.sg1 (l.getD (j+14) 0))]=qDX (Sha.ext l):=by
 have h2:=qGN l (l.getD j 0+Sha.sg0 (l.getD (j+1) 0)+l.getD (j+9) 0+Sha.sg1 (l.getD (j+14) 0)) (by omega)
 rw [hj] at h2
 rw [h2]
 unfold Sha.ext
 rw [hj,show 16+j-16=j by omega,show 16+j-15=j+1 by omega,show 16+j-7=j+9 by omega,show 16+j-2=j+14 by omega]
theorem qJ3(b:List UInt8)(k:Nat):Sha.firsts b (k+1)=Sha.firsts b k++ [Sha.word b k]:=by simp [Sha.firsts,List.range_succ]
theorem qLp(l:List UInt32)(h:l.length=64):qDX l=l.map W32:=by simp [qDX,h]
theorem qSp(l:List UInt32):(l.map W32).all Value.oneCell'=true:=by simp [Value.oneCell']
theorem getB{b:List UInt8}{j:Nat}(h:j<b.length):b[j]?=some (b.getD j 0):=by rw [List.getD_eq_getElem?_getD,List.getElem?_eq_getElem h];rfl
theorem qJb(F:Hp)(A:Option Addr)(n c:Nat)(b:List UInt8)(hl:Sl F 1 A n c (qAR b))(h64:64≤n):
    Ct prog 220 [.slice A n c] [F] (λ_:Unit=> .agg ((Sha.sched b).map W32).toArray) (λ_=>True) (λ_=> [F]):=by
  have hn:b.length=n:=by have:=hl.1;simpa [qAR] using this
  have hb: ∀j,j<n→b[j]?=some (b.getD j 0):=λj hj=>getB (by omega)
  refine Ct.walk func220 rfl ntmps220 rfl (λw0 hw0=>?_)
  change J _ [(0,_)] _ _ _
  refine J.g λK1 hK1=>J.k (qAN O zeroValue312 O) O λg2 _=>?_
  change J _ _ _ [F,blk g2 _ 312] _
  refine J.c hK1<|J.E 0 2 ?_
  refine J.g λK2 hK2=>J.k (qAN O zeroValue312 O) O λg3 _=>?_
  change J _ _ _ [_,_,blk g3 _ 312] _
  refine J.c hK2<|J.G 0 2 3 ?_
  refine J.j λK3 hK3=>J.g λK4 hK4=>J.b O<|J.c hK4<|J.O 0 2 3 10 ?_
  refine J.V<|J.b6 (λk:Nat=> [(0,.slice A n c),(2,Ptr g2),(3,Ptr g3),(10,I k)]) (λk=> [F,blk g2 (List.replicate 64 (.int .u32 0)) 312,blk g3 (qDX (Sha.firsts b k)) 312]) (λk=>k≤16) (λk=>16-k) 0 (Nat.zero_le _) ⟨O,O,O,O,trivial⟩ (λ_ h=>h) ?_
  intro k hk I0 hI0
  refine J.g λK5 hK5=>J.f (qAT O O O) O<|J.c hK5<|J.a0 0 2 3 10 11 ?_
  refine J.j λK6 hK6=>J.a2 O (λh11=>?_) (λh11=>?_)
  ·
    refine J.W hK6<|J.O 0 2 3 10 ?_
    refine J.j λK7 hK7=>J.V<|J.g λK8 hK8=>J.p 2 O<|J.c hK8<|J.a0 0 2 3 4 10 ?_
    refine J.c1 [F] [35] (.y 0 (.y 1 (.y 2 (.y 3 (.y 4 (.y 5 (.y 6 (.y 7 (.y 8 (.y 9 (.y 10 (.y 11 (.y 12 (.y 13 (.y 14 (.y 15 (.y 16 (.y 17 (.y 18 (.y 19 (.y 20 (.y 21 (.y 22 (.y 23 (.y 24 (.y 25 (.y 26 (.y 27 (.y 28 (.y 29 (.y 30 (.y 31 (.y 32 (.y 33 (.y 34 (.e 35 .nil)))))))))))))))))))))))))))))))))))) Tryz.wide (by decide+kernel) (by simp) ?_
    iterate 3 refine J.T ?_
    refine J.q O ((qCr (a:=4) O O O (by omega)).nat (4*k) (by omega)) O O<|J.q O (qAH (i:=4*k) O O O qBV z5_ hl (by omega)) O O<|J.q O (qAJ O O b5_ (m:=F) (by simp) (hl.elem (qBL (hb (4*k) (by omega))))) rfl rfl<|J.q rfl (qCK rfl rfl u5_ qH5) rfl rfl<|J.q rfl (qEn (m:=24) rfl rfl rfl) rfl rfl<|J.T ?_
    refine J.T ?_
    refine J.q O ((qCr (a:=4) O O O (by omega)).nat (4*k) (by omega)) O O<|J.q O ((qAO O O O (by omega)).nat (4*k+1) (by omega)) O O<|J.q O (qAH (i:=4*k+1) O O O qBV z5_ hl (by omega)) O O<|J.q O (qAJ O O b5_ (m:=F) (by simp) (hl.elem (qBL (hb (4*k+1) (by omega))))) rfl rfl<|J.q rfl (qCK rfl rfl u5_ qH5) rfl rfl<|J.q rfl (qEn (m:=16) rfl rfl rfl) rfl rfl<|J.q rfl (qHL rfl rfl rfl) rfl rfl<|J.T ?_
    refine J.T ?_
    refine J.q O ((qCr (a:=4) O O O (by omega)).nat (4*k) (by omega)) O O<|J.q O ((qAO O O O (by omega)).nat (4*k+2) (by omega)) O O<|J.q O (qAH (i:=4*k+2) O O O qBV z5_ hl (by omega)) O O<|J.q O (qAJ O O b5_ (m:=F) (by simp) (hl.elem (qBL (hb (4*k+2) (by omega))))) rfl rfl<|J.q rfl (qCK rfl rfl u5_ qH5) rfl rfl<|J.q rfl (qEn (m:=8) rfl rfl rfl) rfl rfl<|J.q rfl (qHL rfl rfl rfl) rfl rfl<|J.T ?_
    refine J.T ?_
    refine J.q O ((qCr (a:=4) O O O (by omega)).nat (4*k) (by omega)) O O<|J.q O ((qAO O O O (by omega)).nat (4*k+3) (by omega)) O O<|J.q O (qAH (i:=4*k+3) O O O qBV z5_ hl (by omega)) O O<|J.q O (qAJ O O b5_ (m:=F) (by simp) (hl.elem (qBL (hb (4*k+3) (by omega))))) rfl rfl<|J.q rfl (qCK rfl rfl u5_ qH5) rfl rfl<|J.q rfl (qHL rfl rfl rfl) rfl rfl<|J.q rfl (qAf (i:=k) (j:=k) rfl rfl rfl qH4 qBk (by omega) (by omega)) rfl rfl<|J.d3 rfl (qAZ (i:=2) (vs:= [W32 _]) rfl rfl rfl rfl rfl qBk rfl (by rw [qFN (Sha.firsts b k) (by rw [Sha.firsts_length];omega)];show k+1≤_;omega)) rfl rfl rfl λ_ _=>?_
    change J _ _ _ [F,_,_] _
    refine J.b9<|J.a6<|J.A (J.H hK7 ?_)
    refine J.O 0 2 3 10 ?_
    exact J.L<|J.f (qAO O O O (by omega)) O<|J.b O<|J.a7<|J.A<|J.a8 (k+1) (λx (hx:x≤16∧16-x<16-k)=>hI0 x hx.1 hx.2) ⟨by omega,by omega⟩ ⟨O,O,O,O,trivial⟩ (λ_ h=>by rw [qJ3,←qGN _ _ (by rw [Sha.firsts_length];omega),Sha.firsts_length];exact h)
  refine J.b4<|J.a1<|J.a1<|J.b5 ?_
  refine J.A (J.H hK3 ?_)
  refine J.E 2 3 ?_
  refine J.j λK9 hK9=>J.g λK10 hK10=>J.b O<|J.c hK10<|J.G 2 3 5 ?_
  refine J.V<|J.b6 (λj:Nat=> [(2,Ptr g2),(3,Ptr g3),(5,I ((16+j:Nat):Int))]) (λj=> [F,blk g2 (List.replicate 64 (.int .u32 0)) 312,blk g3 (qDX (Sha.exts j (Sha.firsts b 16))) 312]) (λj=>j≤48) (λj=>48-j) 0 (Nat.zero_le _) ⟨O,O,O,trivial⟩ (λ_ h=>by rw [show k=16 by omega] at h;exact h) ?_
  intro j hj I1 hI1
  have hlj:(Sha.exts j (Sha.firsts b 16)).length=16+j:=by rw [Sha.exts_length,Sha.firsts_length]
  refine J.j λK11 hK11=>J.g λK12 hK12=>J.b O<|J.f (qAT O O O) O<|J.c hK12<|J.O 2 3 5 50 ?_
  refine J.a2 O (λh50=>?_) (λh50=>?_)
  ·
    refine J.W hK11<|J.G 2 3 5 ?_
    refine J.j λK13 hK13=>J.V<|J.j λK14 hK14=>J.c1 [blk g3 (qDX (Sha.exts j (Sha.firsts b 16))) 312] [] (.y 0 (.y 1 (.y 2 (.y 3 (.y 4 (.y 5 (.y 6 (.y 7 (.y 8 (.y 9 .nil)))))))))) Tryz.wide (by decide+kernel) (by simp) ?_
    refine J.T ?_
    refine J.q O ((qAw O O O (by omega)).nat (j+1) (by omega)) O O<|J.q O (qAf (i:=j+1) (j:=j+1) O O O qH4 qBk (by omega) (by omega)) O O<|J.q O (qAE 0 O O O qCX (qDp (Sha.exts j (Sha.firsts b 16)) (j+1) (by omega))) O O<|J.T ?_
    refine J.q O ((qAw O O O (by omega)).nat (j+14) (by omega)) O O<|J.q O (qAf (i:=j+14) (j:=j+14) O O O qH4 qBk (by omega) (by omega)) O O<|J.q O (qAE 0 O O O qCX (qDp (Sha.exts j (Sha.firsts b 16)) (j+14) (by omega))) O O<|J.c6 ?_
    refine J.c6 ?_
    refine J.b9<|J.A (J.H hK14 ?_)
    refine J.a0 2 3 5 6 7 ?_
    refine J.g λK15 hK15=>J.b O<|J.k (qAA O O ent221 (Ct.use0 (λF' _=>qDR F' _ 7 (by decide) (by decide)))) O λg62 _=>J.b O<|J.k (qAA O O ent221 (Ct.use0 (λF' _=>qDR F' _ 18 (by decide) (by decide)))) O λg64 _=>J.f (qBb O O O) O<|J.b O<|J.f (qHI (m:=3) O O O) O<|J.f (qBb O O O) O<|J.b O<|J.c hK15<|J.a0 2 3 5 7 8 ?_
    refine J.g λK16 hK16=>J.b O<|J.k (qAA O O ent221 (Ct.use0 (λF' _=>qDR F' _ 17 (by decide) (by decide)))) O λg70 _=>J.b O<|J.k (qAA O O ent221 (Ct.use0 (λF' _=>qDR F' _ 19 (by decide) (by decide)))) O λg72 _=>J.f (qBb O O O) O<|J.b O<|J.f (qHI (m:=10) O O O) O<|J.f (qBb O O O) O<|J.b O<|J.c hK16<|J.a0 2 3 5 8 9 ?_
    refine J.c1 [blk g3 (qDX (Sha.exts j (Sha.firsts b 16))) 312] [15] (.y 0 (.y 1 (.y 2 (.y 3 (.y 4 (.y 5 (.y 6 (.y 7 (.y 8 (.y 9 (.y 10 (.y 11 (.y 12 (.y 13 (.y 14 (.e 15 .nil)))))))))))))))) Tryz.wide (by decide+kernel) (by simp) ?_
    refine J.T ?_
    refine J.T ?_
    refine J.q O ((qAw O O O (by omega)).nat (j) (by omega)) O O<|J.q O (qAf (i:=j) (j:=j) O O O qH4 qBk (by omega) (by omega)) O O<|J.q O (qAE 0 O O O qCX (qDp (Sha.exts j (Sha.firsts b 16)) (j) (by omega))) O O<|J.T ?_
    refine J.q O (qBc O O O) O O<|J.T ?_
    refine J.q O ((qAw O O O (by omega)).nat (j+9) (by omega)) O O<|J.q O (qAf (i:=j+9) (j:=j+9) O O O qH4 qBk (by omega) (by omega)) O O<|J.q O (qAE 0 O O O qCX (qDp (Sha.exts j (Sha.firsts b 16)) (j+9) (by omega))) O O<|J.q O (qBc O O O) O O<|J.T ?_
    refine J.q O (qBc O O O) O O<|J.q O (qAf (i:=16+j) (j:=16+j) O O O qH4 qBk (by omega) (by omega)) O O<|J.d3 O (qAZ (i:=2) (vs:= [W32 _]) O O O O O qBk O (by rw [qFN (Sha.exts j (Sha.firsts b 16)) (by omega)];show 16+j+1≤_;omega)) rfl rfl rfl λ_ _=>?_
    change J _ _ _ [F,_,_] _
    refine J.b9<|J.a6<|J.A (J.H hK13 ?_)
    refine J.G 2 3 5 ?_
    exact J.L<|J.b O<|J.f (qAO O O O (by omega)) O<|J.b O<|J.a7<|J.A<|J.a8 (j+1) (λx (hx:x≤48∧48-x<48-j)=>hI1 x hx.1 hx.2) ⟨by omega,by omega⟩ ⟨O,O,O,trivial⟩ (λ_ h=>by rw [Sha.exts,←qNR _ j hlj (by omega)];exact h)
  refine J.b4<|J.a1<|J.a1<|J.b5 ?_
  refine J.A (J.H hK9 ?_)
  refine J.E 2 3 ?_
  refine J.j λK17 hK17=>?_
  have hj48:j=48:=by omega
  subst hj48
  refine J.L<|J.f (qAy 2 O O O isAgg312 sizeOf312 (qFN (Sha.exts 48 (Sha.firsts b 16)) (by rw [Sha.exts_length,Sha.firsts_length];decide))) rfl<|J.b0 (qAI (i:=1) (vs:=(Sha.sched b).map W32) rfl rfl rfl rfl (by show Array.mk _=_;exact congrArg _ (qLp _ (Sha.sched_length b))) (λw=>by rw [List.length_map,Sha.sched_length];exact sizeOf312 w) (qSp _) (by rw [List.length_map,Sha.sched_length];rfl)) rfl rfl λ_ _=>?_
  change J _ _ _ [F,blk g2 ((Sha.sched b).map W32) 312,_] _
  refine J.c hK17<|J.u 2 ?_
  exact J.D<|J.b2 hw0 (λ_ _ h=>h) (rv1 O (RV.blkA 1 O O isAgg312 (λw=>by rw [List.length_map,Sha.sched_length];exact sizeOf312 w))) (qAn () rfl trivial [0] rfl (by decide))
theorem Sha.rnds_succ(ws:List UInt32)(s:Sha.St8)(i:Nat):Sha.rnds ws s (i+1)=Sha.rnd (ws.getD i 0) (Sha.K.getD i 0) (Sha.rnds ws s i):=rfl
theorem Sha.mix_eq(s:Sha.St8)(b:List UInt8):Sha.mix s b=s.add (Sha.rnds (Sha.sched b) s 64):=rfl
theorem Sha.rnds_zero(ws:List UInt32)(s:Sha.St8):Sha.rnds ws s 0=s:=rfl
attribute [local irreducible] Sha.rnds Sha.sched Sha.mix
theorem qTb{m:Hp}{g off:Nat}{vs:List Value}{i:Nat}{v:Value}(h:qAL m ⟨g,off,none⟩ vs)(hi:vs[i]?=some v):qAL m ⟨g,off+i,none⟩ [v]:=by
 have:=h.sub i 1
 rw [Addr.add_lit] at this
 obtain ⟨hk,rfl⟩:=List.getElem?_eq_some_iff.1 hi
 rw [List.drop_eq_getElem_cons hk] at this
 exact this
theorem getW{l:List UInt32}{i:Nat}(h:i<l.length):(l.map W32)[i]?=some (W32 (l.getD i 0)):=by
 rw [List.getElem?_map,List.getElem?_eq_getElem h,List.getD_eq_getElem?_getD,List.getElem?_eq_getElem h];rfl
def Sha.St8.adds(s t:Sha.St8)(k:Nat):List UInt32:=(s.add t).list.take k++s.list.drop k
theorem qQ9(s t:Sha.St8)(k:Nat)(hk:k≤8):(s.adds t k).length=8:=by simp [Sha.St8.adds,Sha.St8.list];omega
theorem qRA(s t:Sha.St8): ∀k,k<8→(s.adds t k)[k]?=some (s.list.getD k 0)
 |0,_=>rfl|1,_=>rfl|2,_=>rfl|3,_=>rfl|4,_=>rfl|5,_=>rfl|6,_=>rfl|7,_=>rfl
 |n+8,h=>by omega
theorem qQ8(s t:Sha.St8): ∀k,k<8→qAu ((s.adds t k).map W32) k [W32 (s.list.getD k 0+t.list.getD k 0)]=(s.adds t (k+1)).map W32
 |0,_=>rfl|1,_=>rfl|2,_=>rfl|3,_=>rfl|4,_=>rfl|5,_=>rfl|6,_=>rfl|7,_=>rfl
 |n+8,h=>by omega
theorem qRB(s t:Sha.St8):s.adds t 8=(s.add t).list:=rfl
theorem qK2(t:Sha.St8): ∀k,k<8→(t.list.map W32)[k]?=some (W32 (t.list.getD k 0))
 |0,_=>rfl|1,_=>rfl|2,_=>rfl|3,_=>rfl|4,_=>rfl|5,_=>rfl|6,_=>rfl|7,_=>rfl
 |n+8,h=>by omega
abbrev KF(F:Hp):Prop:=qAL F ⟨0,0,none⟩ (Sha.K.map W32)
theorem qUL(F:Hp)(hK:KF F)(g:Nat)(s:Sha.St8)(A:Option Addr)(n c:Nat)(b:List UInt8)(hl:Sl F 1 A n c (qAR b))(h64:64≤n):
    Ct prog 190 [Ptr g,.slice A n c] [blk g (s.list.map W32) 271,F] (λ_:Unit=> .tuple #[]) (λ_=>True) (λ_=> [blk g ((Sha.mix s b).list.map W32) 271,F]):=by
  refine Ct.walk func190 rfl ntmps190 rfl (λw0 hw0=>?_)
  change J _ [(0,_),(1,_)] _ _ _
  refine J.g λK1 hK1=>J.b O<|J.k (qAA O O ent220 (Ct.use0 (λF' hF=>qJb F' A n c b (hl.mono (hF _ (by simp))) h64))) rfl λg21 _=>?_
  change J _ _ _ [blk g (s.list.map W32) 271,F] _
  refine J.k (qAN O zeroValue312 O) O λg4 _=>?_
  change J _ _ _ [_,_,blk g4 _ 312] _
  refine J.b0 (qAI (i:=2) (vs:=(Sha.sched b).map W32) O O O O O (λw=>by rw [List.length_map,Sha.sched_length];exact sizeOf312 w) (qSp _) (by rw [List.length_map,Sha.sched_length];rfl)) rfl rfl λ_ _=>?_
  change J _ _ _ [_,_,blk g4 ((Sha.sched b).map W32) 312] _
  refine J.c hK1<|J.E 0 4 ?_
  refine J.j λK2 hK2=>J.c1 [blk g (s.list.map W32) 271] [] (.y 0 (.y 1 (.y 2 (.y 3 (.y 4 (.y 5 (.y 6 (.y 7 (.y 8 (.y 9 (.y 10 (.y 11 (.y 12 (.y 13 (.y 14 (.y 15 (.y 16 (.y 17 (.y 18 (.y 19 (.y 20 (.y 21 (.y 22 (.y 23 (.y 24 (.y 25 (.y 26 (.y 27 (.y 28 (.y 29 (.y 30 (.y 31 (.y 32 (.y 33 (.y 34 (.y 35 (.y 36 (.y 37 (.y 38 (.y 39 .nil)))))))))))))))))))))))))))))))))))))))) Tryz.wide (by decide+kernel) (by simp) ?_
  refine J.T ?_
  refine J.q O (qAC O O) O O<|J.q O (qAf (i:=0) (j:=0) O O O qEb qBk (by decide) O) O O<|J.q O (qAE 0 O O O qCX O) O O<|J.T ?_
  refine J.q O (qAC O O) O O<|J.q O (qAf (i:=1) (j:=1) O O O qEb qBk (by decide) O) O O<|J.q O (qAE 0 O O O qCX O) O O<|J.T ?_
  refine J.q O (qAC O O) O O<|J.q O (qAf (i:=2) (j:=2) O O O qEb qBk (by decide) O) O O<|J.q O (qAE 0 O O O qCX O) O O<|J.T ?_
  refine J.q O (qAC O O) O O<|J.q O (qAf (i:=3) (j:=3) O O O qEb qBk (by decide) O) O O<|J.q O (qAE 0 O O O qCX O) O O<|J.T ?_
  refine J.q O (qAC O O) O O<|J.q O (qAf (i:=4) (j:=4) O O O qEb qBk (by decide) O) O O<|J.q O (qAE 0 O O O qCX O) O O<|J.T ?_
  refine J.q O (qAC O O) O O<|J.q O (qAf (i:=5) (j:=5) O O O qEb qBk (by decide) O) O O<|J.q O (qAE 0 O O O qCX O) O O<|J.T ?_
  refine J.q O (qAC O O) O O<|J.q O (qAf (i:=6) (j:=6) O O O qEb qBk (by decide) O) O O<|J.q O (qAE 0 O O O qCX O) O O<|J.T ?_
  refine J.q O (qAC O O) O O<|J.q O (qAf (i:=7) (j:=7) O O O qEb qBk (by decide) O) O O<|J.q O (qAE 0 O O O qCX O) O O<|J.c6 ?_
  iterate 7 refine J.c6 ?_
  refine J.b9<|J.A (J.H hK2 ?_)
  refine J.e5 0 4 5 6 7 8 9 10 11 12 ?_
  refine J.j λK3 hK3=>J.g λK4 hK4=>J.b O<|J.c hK4<|J.f1 0 4 5 6 7 8 9 10 11 12 54 ?_
  refine J.V<|J.b6 (λi:Nat=> [(0,Ptr g),(4,Ptr g4),(5,W32 (Sha.rnds (Sha.sched b) s i).a),(6,W32 (Sha.rnds (Sha.sched b) s i).b),(7,W32 (Sha.rnds (Sha.sched b) s i).c),(8,W32 (Sha.rnds (Sha.sched b) s i).d),(9,W32 (Sha.rnds (Sha.sched b) s i).e),(10,W32 (Sha.rnds (Sha.sched b) s i).f),(11,W32 (Sha.rnds (Sha.sched b) s i).g),(12,W32 (Sha.rnds (Sha.sched b) s i).h),(54,I i)]) (λ_=> [blk g (s.list.map W32) 271,F,blk g4 ((Sha.sched b).map W32) 312]) (λi=>i≤64) (λi=>64-i) 0 (Nat.zero_le _) ⟨O,O,by rw [Sha.rnds_zero];rfl,by rw [Sha.rnds_zero];rfl,by rw [Sha.rnds_zero];rfl,by rw [Sha.rnds_zero];rfl,by rw [Sha.rnds_zero];rfl,by rw [Sha.rnds_zero];rfl,by rw [Sha.rnds_zero];rfl,by rw [Sha.rnds_zero];rfl,rfl,trivial⟩ (λ_ h=>h) ?_
  intro i hi I0 hI0
  refine J.g λK5 hK5=>J.f (qAT O O O) O<|J.c hK5<|J.f2 0 4 5 6 7 8 9 10 11 12 54 55 ?_
  refine J.j λK6 hK6=>J.a2 O (λh55=>?_) (λh55=>?_)
  ·
    refine J.W hK6<|J.f1 0 4 5 6 7 8 9 10 11 12 54 ?_
    refine J.j λK7 hK7=>J.V<|J.g λK8 hK8=>J.p 2 O<|J.c hK8<|J.f2 0 4 5 6 7 8 9 10 11 12 13 54 ?_
    refine J.g λK9 hK9=>J.b O<|J.k (qAA O O ent221 (Ct.use0 (λF' _=>qDR F' _ 6 (by decide) (by decide)))) O λg58 _=>J.b O<|J.k (qAA O O ent221 (Ct.use0 (λF' _=>qDR F' _ 11 (by decide) (by decide)))) O λg60 _=>J.f (qBb O O O) O<|J.b O<|J.k (qAA O O ent221 (Ct.use0 (λF' _=>qDR F' _ 25 (by decide) (by decide)))) O λg63 _=>J.f (qBb O O O) O<|J.b O<|J.c hK9<|J.i7 0 4 5 6 7 8 9 10 11 12 13 14 54 ?_
    refine J.j λK10 hK10=>?_
    have hiK:i<Sha.K.length:=by show i<64;omega
    refine J.c1 [blk g (s.list.map W32) 271,F,blk g4 ((Sha.sched b).map W32) 312] [] (.y 0 (.y 1 (.y 2 (.y 3 (.y 4 (.y 5 (.y 6 (.y 7 (.y 8 (.y 9 (.y 10 (.y 11 (.y 12 (.y 13 (.y 14 (.y 15 (.y 16 (.y 17 (.y 18 (.y 19 (.y 20 .nil))))))))))))))))))))) Tryz.wide (by decide+kernel) (by simp) ?_
    refine J.T ?_
    refine J.T ?_
    refine J.q O (qBc O O O) O O<|J.T ?_
    refine J.T ?_
    refine J.q O (qDt O O O) O O<|J.T ?_
    refine J.q O (qP5 O O) O O<|J.T ?_
    refine J.q O (qDt O O O) O O<|J.q O (qBb O O O) O O<|J.q O (qBc O O O) O O<|J.T ?_
    refine J.q O (qAf (i:=i) (j:=i) O O O qH4 qBk (by omega) (by omega)) O O<|J.q O (qP3 1 O O qCX O (by have h:=qTb hK (getW (l:=Sha.K) (i:=i) hiK);rw [Nat.zero_add] at h;exact h)) rfl rfl<|J.q rfl (qBc rfl rfl rfl) rfl rfl<|J.T ?_
    refine J.q O (qAf (i:=i) (j:=i) O O O qH4 qBk (by omega) (by omega)) O O<|J.q O (qAE 2 O O O qCX (getW (l:=Sha.sched b) (i:=i) (by rw [Sha.sched_length];omega))) rfl rfl<|J.q rfl (qBc rfl rfl rfl) rfl rfl<|J.c6 ?_
    refine J.b9<|J.A (J.H hK10 ?_)
    refine J.f1 0 4 5 6 7 8 9 10 11 15 54 ?_
    refine J.g λK11 hK11=>J.b O<|J.k (qAA O O ent221 (Ct.use0 (λF' _=>qDR F' _ 2 (by decide) (by decide)))) O λg86 _=>J.b O<|J.k (qAA O O ent221 (Ct.use0 (λF' _=>qDR F' _ 13 (by decide) (by decide)))) O λg88 _=>J.f (qBb O O O) O<|J.b O<|J.k (qAA O O ent221 (Ct.use0 (λF' _=>qDR F' _ 22 (by decide) (by decide)))) O λg91 _=>J.f (qBb O O O) O<|J.b O<|J.c hK11<|J.f2 0 4 5 6 7 8 9 10 11 15 16 54 ?_
    refine J.g λK12 hK12=>J.p 3 O<|J.f (qDt O O O) O<|J.p 2 O<|J.f (qDt O O O) O<|J.f (qBb O O O) O<|J.p 2 O<|J.f (qDt O O O) O<|J.f (qBb O O O) O<|J.f (qBc O O O) O<|J.b O<|J.c hK12<|J.f2 0 4 5 6 7 8 9 10 11 15 17 54 ?_
    refine J.L<|J.p 5 O<|J.f (qBc O O O) O<|J.p 5 O<|J.f (qBc O O O) O<|J.p 8 O<|J.a7<|J.a6<|J.A (J.H hK7 ?_)
    refine J.f1 0 4 5 6 7 8 9 10 11 12 54 ?_
    exact J.L<|J.f (qAO O O O (by omega)) O<|J.b O<|J.a7<|J.A<|J.a8 (i+1) (λx (hx:x≤64∧64-x<64-i)=>hI0 x hx.1 hx.2) ⟨by omega,by omega⟩ ⟨O,O,by rw [Sha.rnds_succ];rfl,by rw [Sha.rnds_succ];rfl,by rw [Sha.rnds_succ];rfl,by rw [Sha.rnds_succ];rfl,by rw [Sha.rnds_succ];rfl,by rw [Sha.rnds_succ];rfl,by rw [Sha.rnds_succ];rfl,by rw [Sha.rnds_succ];rfl,rfl,trivial⟩ (λ_ h=>h)
  refine J.b4<|J.a1<|J.a1<|J.b5 ?_
  refine J.A (J.H hK3 ?_)
  refine J.e1 0 5 6 7 8 9 10 11 12 ?_
  refine J.j λK13 hK13=>?_
  have hi64:i=64:=by omega
  subst hi64
  refine J.L<|J.p 8 O<|J.f (qDY (l:= [.tmp 119,.tmp 120,.tmp 121,.tmp 122,.tmp 123,.tmp 124,.tmp 125,.tmp 126]) O O O underlying270 el230 zeroValue270 O O (by simp [Value.cells]) (r:=(Sha.rnds (Sha.sched b) s 64).list.map W32) rfl) rfl<|J.b rfl<|J.c hK13<|J.G 0 127 128 ?_
  refine J.V<|J.b6 (λk:Nat=> [(0,Ptr g),(127,.agg ((Sha.rnds (Sha.sched b) s 64).list.map W32).toArray),(128,I k)]) (λk=> [blk g ((s.adds (Sha.rnds (Sha.sched b) s 64) k).map W32) 271,F,blk g4 ((Sha.sched b).map W32) 312]) (λk=>k≤8) (λk=>8-k) 0 (Nat.zero_le _) ⟨O,O,O,trivial⟩ (λ_ h=>h) ?_
  intro k hk I2 hI2
  refine J.g λK14 hK14=>J.f (qAT O O O) O<|J.c hK14<|J.O 0 127 128 129 ?_
  refine J.j λK15 hK15=>J.a2 O (λh129=>?_) (λh129=>?_)
  ·
    refine J.W hK15<|J.G 0 127 128 ?_
    refine J.j λK16 hK16=>J.V<|J.g λK17 hK17=>J.b O<|J.f (qHN (i:=k) (v:=W32 ((Sha.rnds (Sha.sched b) s 64).list.getD k 0)) O O O underlying270 qBk qCX (by omega) (by rw [Nat.mul_one,List.getElem?_toArray];exact qK2 _ k (by omega))) rfl ?_
    refine J.p 2 O<|J.c hK17<|J.a0 0 18 19 127 128 ?_
    refine J.c1 [blk g ((s.adds (Sha.rnds (Sha.sched b) s 64) k).map W32) 271] [9] (.y 0 (.y 1 (.y 2 (.y 3 (.y 4 (.y 5 (.y 6 (.y 7 (.y 8 (.e 9 .nil)))))))))) Tryz.wide (by decide+kernel) (by simp) ?_
    refine J.T ?_
    refine J.T ?_
    refine J.q O (qAC O O) O O<|J.q O (qAf (i:=k) (j:=k) O O O qEb qBk (by omega) (by omega)) O O<|J.q O (qAE 0 O O O qCX (v:=W32 (s.list.getD k 0)) (by rw [List.getElem?_map,qRA s (Sha.rnds (Sha.sched b) s 64) k (by omega)];rfl)) rfl rfl ?_
    refine J.T ?_
    refine J.q O (qBc O O O) O O<|J.q O (qAC O O) O O<|J.q O (qAf (i:=k) (j:=k) O O O qEb qBk (by omega) (by omega)) O O<|J.d3 O (qAZ (i:=0) (vs:= [W32 _]) O O O O O qBk O (by rw [List.length_map,qQ9 s (Sha.rnds (Sha.sched b) s 64) k (by omega)];show k+1≤_;omega)) rfl rfl rfl λ_ _=>?_
    change J _ _ _ [_,F,blk g4 ((Sha.sched b).map W32) 312] _
    refine J.b9<|J.a6<|J.A (J.H hK16 ?_)
    refine J.G 0 127 128 ?_
    exact J.L<|J.f (qAO O O O (by omega)) O<|J.b O<|J.a7<|J.A<|J.a8 (k+1) (λx (hx:x≤8∧8-x<8-k)=>hI2 x hx.1 hx.2) ⟨by omega,by omega⟩ ⟨O,O,O,trivial⟩ (λ_ h=>by rw [←qQ8 s (Sha.rnds (Sha.sched b) s 64) k (by omega)];exact h)
  refine J.b4<|J.a1<|J.a1<|J.b5 ?_
  have hk8:k=8:=by omega
  subst hk8
  exact J.e0 hw0 (λ_ _ h=>h) (qHr O) (qAn () O trivial [0,1] (by rw [qRB,←Sha.mix_eq];rfl) (by decide))
end Go.Proofs.YtllnfioplpipiaaGreatDoor
namespace Go.Proofs.YtllnfioplpipiaaGreatDoor
open Go Go.Fw Go.Proofs.Tryz
set_option maxRecDepth 100000
set_option maxHeartbeats 1000000
theorem qQa(F:Hp)(A:Option Addr)(n c:Nat)(ls:List (List UInt8))(hl:Sl F 1 A n c (qAG ls))(htot:ls.flatten.length≤35184372088832)(hn47:n≤70368744177664):
    Ct prog 188 [.slice A n c,Str []] [F] (λ_:Unit=>Str ls.flatten) (λ_=>True) (λ_=> [F]):=by
  have h:=qTG F A n c ls [] hl (by rw [qIi];exact htot) hn47
  rw [qIi] at h;exact h
theorem qDL(a b:List UInt8):qAR (a++b)=qAR a++qAR b:=by simp [qAR]
theorem qGk(a:List UInt8):(qAR a).all (λx=>x.all Value.oneCell')=true:=by simp [qAR,Value.oneCell']
theorem qMB(p:List UInt8)(k N:Nat)(hN:p.length=N):((qAR (p.drop (64*k))).take (N-64*k)).drop 64=qAR (p.drop (64*(k+1))):=by
 rw [List.take_of_length_le (by simp [qAR,hN])]
 unfold qAR
 rw [←List.map_drop,List.drop_drop,Nat.mul_add]
def Sha.outs(t:Sha.St8)(k:Nat):List UInt8:=(t.list.take k).flatMap λx=>Sha.numB x.toUInt64 4
theorem qNU(t:Sha.St8): ∀k,k<8→Sha.outs t (k+1)=Sha.outs t k++Sha.numB (t.list.getD k 0).toUInt64 4
 |0,_=>rfl|1,_=>rfl|2,_=>rfl|3,_=>rfl|4,_=>rfl|5,_=>rfl|6,_=>rfl|7,_=>rfl
 |n+8,h=>by omega
attribute [local irreducible] Sha.sum Sha.pad Sha.mixes Sha.numB
theorem qT3(F:Hp)(hK:KF F)(A:Option Addr)(n c:Nat)(ls:List (List UInt8))(hl:Sl F 1 A n c (qAG ls))(htot:ls.flatten.length≤17592186044416)(hn47:n≤70368744177664):
    Ct prog 142 [.slice A n c] [F] (λ_:Unit=>Str (Sha.sum ls.flatten)) (λ_=>True) (λ_=> [F]):=by
  obtain ⟨l,hL⟩: ∃l,l=ls.flatten:=⟨_,rfl⟩
  have hJ:=qQa F A n c ls hl (by omega) hn47
  rw [←hL] at hJ htot⊢
  have hpad:=Sha.pad_length l
  have hpm:=Sha.pad_mod l
  obtain ⟨p,hp⟩: ∃p,p=Sha.pad l:=⟨_,rfl⟩
  rw [←hp] at hpad hpm
  have hsum:Sha.sum l=Sha.out (Sha.mixes Sha.init p (p.length/64)):=by rw [hp];unfold Sha.sum;rfl
  have hpd:p=l++ [128]++List.replicate ((119-l.length%64)%64) 0++Sha.numB (8*UInt64.ofNat l.length) 8:=by rw [hp];unfold Sha.pad;rfl
  refine Ct.walk func142 rfl ntmps142 rfl (λw0 hw0=>?_)
  change J _ [(0,_)] _ _ _
  refine J.g λK1 hK1=>J.b O<|J.c hK1<|J.u 0 ?_
  refine J.g λK2 hK2=>J.b O<|J.k (qAA O O ent188 hJ) O λg10 _=>J.k (qGP O O u9_ qBV u5_) O ?_
  rintro⟨g11,c11,m11⟩ h11
  try dsimp only at h11
  change J _ ((11,.slice (some ⟨g11,0,none⟩) l.length c11)::_) _ [F,m11] _
  refine J.b O<|J.c hK2<|J.u 3 ?_
  refine J.g λK3 hK3=>J.b O<|J.f (qAP qBV O O) O<|J.f (qAs O O u3_ qEi (by omega)) O<|J.b O<|J.c hK3<|J.E 3 4 ?_
  refine J.g λK4 hK4=>J.b O<|J.k (qAF (l:= [.const ((Value.int IntKind.u8 128))]) (xs:= [[B8 128]]) O O O O qBV el5 O (by decide) (by decide) (by simp)) rfl λg16 _=>?_
  change J _ _ _ [_,_,blk g16 [B8 128] 5] _
  refine J.k (qAW (i:=1) (m2:=blk g16 [B8 128] 5) (ys:= [[B8 128]]) O O O qBV qBV el5 O h11 (by simp) (qAk (q:=True) (xs:= [[B8 128]]) rfl (by simp)).sl rfl (by omega) (by omega)) rfl ?_
  rintro⟨A17,c17,m17⟩ h17
  try dsimp only at h17
  change J _ ((17,.slice A17 (l.length+1) c17)::_) _ [_,m17,_] _
  rw [show [[B8 128]]=qAR [128] from rfl,←qDL] at h17
  refine J.c8 [0,1] [F,m17] O (by decide)<|J.b O<|J.c hK4<|J.E 3 4 ?_
  refine J.j λK5 hK5=>J.V<|J.b6 (X:=Nat×Option Addr×Nat×Hp) (λx=> [(3,.slice x.2.1 (l.length+1+x.1) x.2.2.1),(4,W64 (UInt64.ofNat l.length))]) (λx=> [F,x.2.2.2]) (λx=>x.1≤(119-l.length%64)%64∧Row x.2.2.2 5 1 x.2.1 (l.length+1+x.1) x.2.2.1 (qAR (l++ [128]++List.replicate x.1 0))) (λx=>(119-l.length%64)%64-x.1) (0,A17,c17,m17) (⟨Nat.zero_le _,by simpa using h17⟩) ⟨O,O,trivial⟩ (λ_ h=>h) ?_
  rintro⟨k,A1,c1,m⟩ ⟨hk,hrow⟩ I0 hI0
  dsimp only at hk hrow⊢
  refine J.j λK6 hK6=>J.g λK7 hK7=>J.b O<|J.f (qAP qBV O O) O<|J.f (qGR O O O (by omega)) O<|J.f (qAb O O O) O<|J.c hK7<|J.G 3 4 21 ?_
  refine J.a2 O (λh21=>?_) (λh21=>?_)
  ·
    refine J.W hK6<|J.E 3 4 ?_
    refine J.V<|J.L<|J.b O<|J.k (qAF (l:= [.const ((Value.int IntKind.u8 0))]) (xs:= [[B8 0]]) O O O O qBV el5 O (by decide) (by decide) (by simp)) rfl λg23 _=>?_
    change J _ _ _ [F,m,blk g23 [B8 0] 5] _
    refine J.k (qAW (i:=1) (m2:=blk g23 [B8 0] 5) (ys:= [[B8 0]]) O O O qBV qBV el5 O hrow (by simp) (qAk (q:=True) (xs:= [[B8 0]]) rfl (by simp)).sl rfl (by omega) (by omega)) rfl ?_
    rintro⟨A24,c24,m24⟩ h24
    try dsimp only at h24
    change J _ ((24,.slice A24 (l.length+1+k+1) c24)::_) _ [_,m24,_] _
    rw [show [[B8 0]]=qAR [0] from rfl,←qDL] at h24
    refine J.c8 [0,1] [F,m24] O (by decide)<|J.b O<|J.a7<|J.a6<|J.A<|J.a8 (k+1,A24,c24,m24) (λx (hx:_∧(119-l.length%64)%64-x.1<(119-l.length%64)%64-k)=>hI0 x hx.1 hx.2) ⟨⟨by dsimp only;omega,by rw [List.replicate_succ',←List.append_assoc];exact h24⟩,by dsimp only;omega⟩ ⟨rfl,rfl,trivial⟩ (λ_ h=>h)
  refine J.b4<|J.a1<|J.a1<|J.b5 ?_
  refine J.A (J.H hK5 ?_)
  refine J.E 3 4 ?_
  refine J.j λK8 hK8=>?_
  have hkz:k=(119-l.length%64)%64:=by omega
  refine J.L<|J.p 2 O<|J.f (qKq (a:=8) O O O) O<|J.k (qAA O O ent141 (Ct.use (λF' _=>qFW F' _ 8 (by decide)))) O ?_
  rintro⟨A28,c28,m28⟩ h28
  try dsimp only at h28
  change J _ ((28,.slice A28 8 c28)::_) _ [F,m,m28] _
  refine J.k (qAW (i:=1) (m2:=m28) (ys:=qAR (Sha.numB (8*UInt64.ofNat l.length) 8)) O O O qBV qBV el5 O hrow (by simp) h28.sl (qGk _) (by omega) (by omega)) rfl ?_
  rintro⟨A29,c29,m29⟩ h29
  try dsimp only at h29
  change J _ ((29,.slice A29 (l.length+1+k+8) c29)::_) _ [_,m29,_] _
  rw [←qDL] at h29
  refine J.c8 [0,1] [F,m29] O (by decide)<|J.b O<|J.c hK8<|J.u 3 ?_
  refine J.j λK9 hK9=>?_
  rw [hkz,←hpd] at h29
  rw [hkz,show l.length+1+(119-l.length%64)%64+8=p.length by omega] at*
  refine J.L<|J.k (qAA O O ent189 (Ct.use0 (λF' _=>qQk F'))) O λg30 _=>J.k (qAN O zeroValue271 O) O λg5 _=>?_
  change J _ _ _ [F,m29,blk g5 _ 271] _
  refine J.b0 (qAI (i:=2) (vs:=Sha.init.list.map W32) O O O O O sizeOf271 (qSp _) (by rfl)) O O λ_ _=>?_
  change J _ _ _ [_,_,blk g5 (Sha.init.list.map W32) 271] _
  refine J.c hK9<|J.E 3 5 ?_
  refine J.j λK10 hK10=>J.V<|J.b6 (X:=Nat×Option Addr×Nat) (λx=> [(3,.slice x.2.1 (p.length-64*x.1) x.2.2),(5,Ptr g5)]) (λx=> [F,m29,blk g5 ((Sha.mixes Sha.init p x.1).list.map W32) 271]) (λx=>64*x.1≤p.length∧Sl m29 1 x.2.1 (p.length-64*x.1) x.2.2 (qAR (p.drop (64*x.1)))) (λx=>p.length-64*x.1) (0,A29,c29) (⟨Nat.zero_le _,h29.sl⟩) ⟨O,O,trivial⟩ (λ_ h=>by unfold Sha.mixes;exact h) ?_
  rintro⟨k,A2,c2⟩ ⟨hk,hsl⟩ I2 hI2
  dsimp only at hk hsl⊢
  refine J.j λK11 hK11=>J.g λK12 hK12=>J.b O<|J.f (qAP qBV O O) O<|J.f (qAz O O O) O<|J.c hK12<|J.G 3 5 33 ?_
  refine J.a2 O (λh33=>?_) (λh33=>?_)
  ·
    refine J.W hK11<|J.E 3 5 ?_
    refine J.j λK13 hK13=>J.V ?_
    have hN:64≤p.length-64*k:=by omega
    have hc2:=hsl.2.1
    refine J.L<|J.b O<|J.k (qAA O O ent190 (Ct.use1 2 (m':=λ_:Unit=>blk g5 ((Sha.mix (Sha.mixes Sha.init p k) (p.drop (64*k))).list.map W32) 271) (new:=λ_=> []) O (λF' hF=>qUL F' (hK.mono (hF _ (by simp))) g5 _ A2 (p.length-64*k) c2 (p.drop (64*k)) (hsl.mono (hF _ (by simp))) (by omega)))) rfl λg37 _=>?_
    change J _ _ _ [F,m29,blk g5 ((Sha.mix (Sha.mixes Sha.init p k) (p.drop (64*k))).list.map W32) 271] _
    refine J.a7<|J.a6<|J.A (J.H hK13 ?_)
    refine J.E 3 5 ?_
    refine J.L<|J.b O<|J.f (qCg (l:=64) (h:=p.length-64*k) O O qBV z5_ O O (by omega)) O<|J.b O<|J.a7<|J.A ?_
    have hcut:=hsl.cut (lo:=64) (hi:=p.length-64*k) (mx:=c2) hN (Nat.le_refl _) hsl.2.1
    rw [qMB p k _ rfl] at hcut
    have hNN:p.length-64*k-64=p.length-64*(k+1):=by omega
    refine J.a8 (k+1,_,c2-64) (λx (hx:_∧p.length-64*x.1<p.length-64*k)=>hI2 x hx.1 hx.2) ⟨⟨by dsimp only;omega,by rw [←hNN];exact hcut⟩,by dsimp only;omega⟩ ⟨by rw [←hNN];rfl,rfl,trivial⟩ (λ_ h=>by unfold Sha.mixes;exact h)
  refine J.b4<|J.a1<|J.a1<|J.b5 ?_
  refine J.A (J.H hK10 ?_)
  refine J.u 5 ?_
  refine J.j λK14 hK14=>?_
  have hk64:k=p.length/64:=by omega
  rw [←hk64] at hsum
  generalize Sha.mixes Sha.init p k=t at hsum⊢
  refine J.L<|J.b O<|J.c hK14<|J.E 5 6 ?_
  refine J.j λK15 hK15=>J.g λK16 hK16=>J.c9 2 isAgg271 sizeOf271 O O O O O<|J.d5 [0,3] [F,(λ_=>none)] O (by decide)<|J.b O<|J.c hK16<|J.G 6 38 39 ?_
  refine J.V<|J.b6 (X:=Nat×Option Addr×Nat×Hp) (λx=> [(6,.slice x.2.1 (4*x.1) x.2.2.1),(38,.agg (t.list.map W32).toArray),(39,I x.1)]) (λx=> [F,x.2.2.2]) (λx=>x.1≤8∧Row x.2.2.2 5 1 x.2.1 (4*x.1) x.2.2.1 (qAR (Sha.outs t x.1))) (λx=>8-x.1) (0,none,0,λ_=>none) (⟨Nat.zero_le _,qBU.nil⟩) ⟨O,O,O,trivial⟩ (λ_ h=>h) ?_
  rintro⟨k,A3,c3,m⟩ ⟨hk,hrow⟩ I4 hI4
  dsimp only at hk hrow⊢
  refine J.g λK17 hK17=>J.f (qAT O O O) O<|J.c hK17<|J.O 6 38 39 40 ?_
  refine J.j λK18 hK18=>J.a2 O (λh40=>?_) (λh40=>?_)
  ·
    refine J.W hK18<|J.G 6 38 39 ?_
    refine J.j λK19 hK19=>J.V<|J.g λK20 hK20=>J.f (qHN (i:=k) (v:=W32 (t.list.getD k 0)) O O O qEb qBk qCX (by omega) (by rw [Nat.mul_one,List.getElem?_toArray];exact qK2 _ k (by omega))) rfl ?_
    refine J.b O<|J.c hK20<|J.O 6 8 38 39 ?_
    refine J.L<|J.p 2 O<|J.f (qHQ O O qH5 qEi) O<|J.k (qAA O O ent141 (Ct.use (λF' _=>qFW F' _ 4 (by decide)))) O ?_
    rintro⟨A45,c45,m45⟩ h45
    try dsimp only at h45
    change J _ ((45,.slice A45 4 c45)::_) _ [F,m,m45] _
    refine J.k (qAW (i:=1) (m2:=m45) (ys:=qAR (Sha.numB (t.list.getD k 0).toUInt64 4)) O O O qBV qBV el5 O hrow (by simp) h45.sl (qGk _) (by omega) (by omega)) rfl ?_
    rintro⟨A46,c46,m46⟩ h46
    try dsimp only at h46
    change J _ ((46,.slice A46 (4*k+4) c46)::_) _ [_,m46,_] _
    rw [←qDL,←qNU t k (by omega)] at h46
    refine J.c8 [0,1] [F,m46] O (by decide)<|J.b O<|J.a7<|J.a6<|J.A (J.H hK19 ?_)
    refine J.G 6 38 39 ?_
    refine J.L<|J.f (qAO O O O (by omega)) O<|J.b O<|J.a7<|J.A<|J.a8 (k+1,A46,c46,m46) (λx (hx:_∧8-x.1<8-k)=>hI4 x hx.1 hx.2) ⟨⟨by dsimp only;omega,h46⟩,by dsimp only;omega⟩ ⟨O,O,O,trivial⟩ (λ_ h=>h)
  refine J.b4<|J.a1<|J.a1<|J.b5 ?_
  refine J.A (J.H hK15 ?_)
  refine J.u 6 ?_
  refine J.j λK21 hK21=>?_
  have hk8:k=8:=by omega
  subst hk8
  refine J.L<|J.b O<|J.f (qBY O O qBV u5_ u9_ (m:=m) (by simp) hrow.sl) rfl<|J.b rfl<|J.c hK21<|J.u 2 ?_
  exact J.D<|J.M hw0 O () (by rw [hsum];rfl) trivial [0] rfl (by decide)
namespace Sha
def tagParts(tag:UInt8)(ls:List (List UInt8))(k:Nat):List (List UInt8):= [[tag]]++(ls.take k).flatMap λs=> [numB (UInt64.ofNat s.length) 4,s]
def tagB(tag:UInt8)(ls:List (List UInt8)):List UInt8:= [tag]++ls.flatMap λs=>numB (UInt64.ofNat s.length) 4++s
def tagged(tag:UInt8)(ls:List (List UInt8)):List UInt8:=(sum (tagB tag ls)).take 16
theorem tagParts_succ(tag:UInt8)(ls:List (List UInt8))(k:Nat){s:List UInt8}(h:ls[k]?=some s):tagParts tag ls (k+1)=tagParts tag ls k++ [numB (UInt64.ofNat s.length) 4,s]:=by
 obtain ⟨hk,rfl⟩:=List.getElem?_eq_some_iff.1 h
 unfold tagParts
 rw [List.take_succ_eq_append_getElem hk,List.flatMap_append,←List.append_assoc]
 simp
theorem tagParts_flat(tag:UInt8)(ls:List (List UInt8)):(tagParts tag ls ls.length).flatten=tagB tag ls:=by
 unfold tagParts tagB
 rw [List.take_length,List.flatten_append]
 congr 1
 induction ls with
 |nil=>rfl
 |cons a l ih=>rw [List.flatMap_cons,List.flatMap_cons,List.flatten_append,ih];simp
theorem tagB_length(tag:UInt8)(ls:List (List UInt8)):(tagB tag ls).length=1+4*ls.length+ls.flatten.length:=by
 unfold tagB
 rw [List.length_append]
 induction ls with
 |nil=>rfl
 |cons a l ih=>simp only [List.flatMap_cons,List.length_append,numB_length,List.length_cons,List.flatten_cons,List.length_nil] at ih⊢;omega
theorem tagged_length(tag:UInt8)(ls:List (List UInt8)):(tagged tag ls).length=16:=by rw [tagged,List.length_take,sum_length];rfl
def hi(b:UInt8):UInt8:=UInt8.ofNat (b.toNat/2^min 4 8)
end Sha
theorem qBm(a b:List (List UInt8)):qAG (a++b)=qAG a++qAG b:=by simp [qAG]
theorem qQM{ls:List (List UInt8)}{k:Nat}{s:List UInt8}(h:ls[k]?=some s):s.length≤ls.flatten.length:=by
 have:s∈ls:=List.mem_of_getElem? h
 induction ls generalizing k with
 |nil=>cases this
 |cons a l ih=>
  cases k with
  |zero=>simp at h;subst h;simp
  |succ k=>simp only [List.flatten_cons,List.length_append];simp only [List.getElem?_cons_succ] at h;have:=ih h (List.mem_of_getElem? h);omega
attribute [local irreducible] Sha.tagParts Sha.tagB
theorem qAv(F:Hp)(hK:KF F)(tag:UInt8)(A:Option Addr)(n c:Nat)(ls:List (List UInt8))(hl:Sl F 1 A n c (qAG ls))(htot:ls.flatten.length≤8796093022208)(hn:n≤1099511627776):
    Ct prog 75 [B8 tag,.slice A n c] [F] (λ_:Unit=>Str (Sha.tagged tag ls)) (λ_=>True) (λ_=> [F]):=by
  have hlen:ls.length=n:=by have:=hl.1;simpa [qAG] using this
  have htl:=Sha.tagB_length tag ls
  have hfl:=Sha.tagParts_flat tag ls
  rw [hlen] at hfl htl
  refine Ct.walk func75 rfl ntmps75 rfl (λw0 hw0=>?_)
  change J _ [(0,_),(1,_)] _ _ _
  refine J.g λK1 hK1=>J.b O<|J.c hK1<|J.E 0 1 ?_
  refine J.g λK2 hK2=>J.b O<|J.k (qAF (l:= [.tmp 8]) (xs:= [[B8 tag]]) O O O O qBV el5 O (by decide) (by decide) (by simp)) rfl λg9 _=>?_
  change J _ _ _ [F,blk g9 [B8 tag] 5] _
  refine J.f (qBY (l:= [tag]) O O qBV u5_ u9_ (m:=blk g9 [B8 tag] 5) (by simp) (qAk (q:=True) (xs:= [[B8 tag]]) rfl (by simp)).sl) rfl<|J.k (qAF (l:= [.tmp 10]) (xs:= [[Str [tag]]]) rfl rfl rfl rfl qAe el9 rfl (by decide) (by decide) (by simp)) rfl λg11 _=>?_
  change J _ _ _ [_,_,blk g11 [Str [tag]] 9] _
  refine J.c8 [0,2] [F,blk g11 [Str [tag]] 9] O (by decide)<|J.b O<|J.c hK2<|J.E 1 5 ?_
  refine J.j λK3 hK3=>J.g λK4 hK4=>J.b O<|J.f (qAP qAe O O) O<|J.b O<|J.c hK4<|J.O 5 12 13 14 ?_
  refine J.V<|J.b6 (X:=Nat×Option Addr×Nat×Hp) (λx=> [(5,.slice x.2.1 (2*x.1+1) x.2.2.1),(12,.slice A n c),(13,I n),(14,I x.1)]) (λx=> [F,x.2.2.2]) (λx=>x.1≤n∧Row x.2.2.2 9 1 x.2.1 (2*x.1+1) x.2.2.1 (qAG (Sha.tagParts tag ls x.1))) (λx=>n-x.1) (0,some ⟨g11,0,none⟩,1,blk g11 [Str [tag]] 9) (⟨Nat.zero_le _,by unfold Sha.tagParts;exact qAk (xs:=qAG [[tag]]) O (by simp [qAG])⟩) ⟨rfl,rfl,rfl,rfl,trivial⟩ (λ_ h=>h) ?_
  rintro⟨k,A1,c1,m⟩ ⟨hk,hrow⟩ I0 hI0
  dsimp only at hk hrow⊢
  refine J.g λK5 hK5=>J.f (qAT O O O) O<|J.c hK5<|J.a0 5 12 13 14 15 ?_
  refine J.j λK6 hK6=>J.a2 O (λh15=>?_) (λh15=>?_)
  ·
    refine J.W hK6<|J.O 5 12 13 14 ?_
    refine J.j λK7 hK7=>J.V<|J.j λK8 hK8=>?_
    have hkn:k<n:=by omega
    obtain ⟨s,hs⟩: ∃s,ls[k]?=some s:=⟨_,List.getElem?_eq_getElem (by omega)⟩
    have hsl:=qQM hs
    refine J.L<|J.f (qAH (i:=k) O O O qAe z9_ hl (by omega)) O<|J.f (qAJ O O b9_ (by simp) (hl.elem (qAQ hs))) rfl<|J.b rfl<|J.c hK8<|J.a0 5 7 12 13 14 ?_
    refine J.L<|J.p 2 O<|J.f (qAl u9_ O O) O<|J.f (qAs O O u3_ qEi (by omega)) O<|J.k (qAA O O ent141 (Ct.use (λF' _=>qFW F' _ 4 (by decide)))) O ?_
    rintro⟨A22,c22,m22⟩ h22
    try dsimp only at h22
    change J _ ((22,.slice A22 4 c22)::_) _ [F,m,m22] _
    refine J.f (qBY O O qBV u5_ u9_ (m:=m22) (by simp) h22.sl) rfl<|J.b rfl<|J.k (qAF (l:= [.tmp 23,.tmp 24]) (xs:= [[Str (Sha.numB (UInt64.ofNat s.length) 4)],[Str s]]) rfl rfl rfl rfl qAe el9 rfl (by decide) (by decide) (by simp)) rfl λg25 _=>?_
    change J _ _ _ [_,_,_,blk g25 [Str (Sha.numB (UInt64.ofNat s.length) 4),Str s] 9] _
    refine J.k (qAW (i:=1) (m2:=blk g25 [Str (Sha.numB (UInt64.ofNat s.length) 4),Str s] 9) (ys:=qAG [(Sha.numB (UInt64.ofNat s.length) 4),s]) O O O qAe qAe el9 O hrow (by simp) (qAk (q:=True) (xs:=qAG [(Sha.numB (UInt64.ofNat s.length) 4),s]) rfl (by simp [qAG])).sl (by simp [qAG,Value.oneCell']) (by omega) (by omega)) rfl ?_
    rintro⟨A26,c26,m26⟩ h26
    try dsimp only at h26
    change J _ ((26,.slice A26 (2*k+1+2) c26)::_) _ [_,m26,_,_] _
    rw [←qBm,←Sha.tagParts_succ tag ls k hs] at h26
    refine J.c8 [0,1] [F,m26] O (by decide)<|J.b O<|J.a7<|J.a6<|J.A (J.H hK7 ?_)
    refine J.O 5 12 13 14 ?_
    refine J.L<|J.f (qAO O O O (by omega)) O<|J.b O<|J.a7<|J.A<|J.a8 (k+1,A26,c26,m26) (λx (hx:_∧n-x.1<n-k)=>hI0 x hx.1 hx.2) ⟨⟨by dsimp only;omega,h26⟩,by dsimp only;omega⟩ ⟨O,O,O,O,trivial⟩ (λ_ h=>h)
  refine J.b4<|J.a1<|J.a1<|J.b5 ?_
  refine J.A (J.H hK3 ?_)
  refine J.u 5 ?_
  refine J.j λK9 hK9=>?_
  have hkn:n=k:=by omega
  subst hkn
  refine J.L<|J.b O<|J.k (qAA O O ent142 (Ct.use0 (λF' hF=>qT3 F' (hK.mono (hF _ (by simp))) A1 (2*n+1) c1 (Sha.tagParts tag ls n) (hrow.sl.mono (hF _ (by simp))) (by rw [hfl];omega) (by omega)))) rfl λg29 _=>?_
  change J _ _ _ [F,m] _
  refine J.f (qA1 (l:=0) (h:=16) u9_ O O O O (by rw [Sha.sum_length];omega)) rfl<|J.b rfl<|J.c hK9<|J.u 4 ?_
  exact J.D<|J.M hw0 O () (by rw [hfl];rfl) trivial [0] rfl (by decide)
end Go.Proofs.YtllnfioplpipiaaGreatDoor
namespace Go.Proofs.YtllnfioplpipiaaGreatDoor
open Go Go.Fw Go.Proofs.Tryz
set_option maxRecDepth 100000
set_option maxHeartbeats 1000000
section
variable{P:Program}{env:Env}{rs:List Hp}{o:Oper}{t t':TypeId}{x y:Operand}{a b:UInt32}
end
attribute [local irreducible] Sha.rnds Sha.sched Sha.mix Sha.rotr Sha.exts
end Go.Proofs.YtllnfioplpipiaaGreatDoor
namespace Go.Proofs.YtllnfioplpipiaaGreatDoor
open Go Go.Fw Go.Proofs.Tryz
set_option maxRecDepth 100000
set_option maxHeartbeats 1000000
namespace Sha
end Sha
attribute [local irreducible] Sha.tagB
end Go.Proofs.YtllnfioplpipiaaGreatDoor
