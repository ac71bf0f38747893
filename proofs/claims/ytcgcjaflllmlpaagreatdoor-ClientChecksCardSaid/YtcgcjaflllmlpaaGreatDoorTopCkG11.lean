/- A part of the proof. -/
import Derived.Test.YtcgcjaflllmlpaaGreatDoorTopCkG9
import Derived.Test.YtcgcjaflllmlpaaGreatDoorTopCkG10
set_option maxRecDepth 100000
set_option maxHeartbeats 1000000
set_option linter.unusedSimpArgs false
set_option linter.unusedVariables false
namespace Go.Proofs.YtcgcjaflllmlpaaGreatDoor
open Go Go.Fw Go.Proofs.Tryz
theorem qW0: ∀r:Fin 32,1≤r.val→((UInt64.ofNat (18446744073709551616-r.val)).toNat&&&31)=32-r.val:=by decide+kernel
theorem qZy(n:UInt64)(size:Nat)(j:Nat)(hj:j<size):(Sha.numB n size)[j]?=some (UInt64.ofNat (n.toNat/2^min (8*(size-1-j)) 64)).toUInt8:=by
 simp [Sha.numB,hj]
def qHi(l:xA)(k:Nat):List Value:=(l.take k).map B8++List.replicate (l.length-k) (.int .u8 0)
theorem qOt(l:xA)(size:Nat)(h:l.length=size):(List.replicate size [Value.int .u8 0]).flatten=qHi l 0:=by
 subst h
 unfold qHi
 induction l with
 |nil=>rfl
 |cons a l ih=>simp only [jD,yK,jc];rw [ih];simp [yK]
theorem qQu(l:xA)(k:Nat)(h:k≤l.length):(qHi l k).length=l.length:=by simp [qHi];omega
theorem qLn{α:Type}(a:List α)(v:α)(n:Nat)(x:α):(a++List.replicate (n+1) v).take a.length++ [x]++(a++List.replicate (n+1) v).drop (a.length+1)=(a++ [x])++List.replicate n v:=by
 rw [List.take_left,List.drop_append]
 simp [yK]
theorem qOu(l:xA)(k:Nat)(v:UInt8)(h:l[k]?=some v):qBB (qHi l k) k [B8 v]=qHi l (k+1):=by
 obtain ⟨hk,rfl⟩:=List.getElem?_eq_some_iff.1 h
 have e:l.length-k=(l.length-(k+1))+1:=xB
 have h2:=qLn ((l.take k).map B8) (Value.int .u8 0) (l.length-(k+1)) (B8 l[k])
 have h3:((l.take k).map B8).length=k:=by simp;omega
 rw [h3] at h2
 unfold qBB qHi
 rw [e,jI,h2,jQ hk,jM]
 rfl
theorem qQv(l:xA)(k:Nat)(h:l.length≤k):qHi l k=(qAg l).flatten:=by
 unfold qHi qAg
 rw [qBQ,jf h,show l.length-k=0 by omega];simp
theorem el253:qCt prog 253 [.int .u32 0] 4:=qCt.of xI O
theorem qFB(F:Hp)(n:UInt64)(size:Nat)(hs:size≤8):
    Ct prog 102 [W64 n,I size] [F] (λx:Option Addr×Nat×Hp=> .slice x.1 size x.2.1) (λx=>Row x.2.2 5 1 x.1 size x.2.1 (qAg (Sha.numB n size))) (λx=> [F,x.2.2]):=by
  have hlen:=Sha.numB_length n size
  refine Ct.walk func102 O ntmps102 O (λw0 hw0=>?_)
  refine J.g λ_ j1=>J.b O<|J.c j1 ?_
  refine J.g λ_ j2=>J.b O<|J.p (qCP O O qBt el5 xB xB) O λg8 _=>J.b O<|J.c j2 ?_
  refine J.q λ_ j3=>J.g λ_ j4=>J.b O<|J.f (qAR qBt O O) O<|J.b O<|J.c j4 ?_
  refine J.V<|J.b6 (λk:Nat=> [(0,W64 n),(1,I size),(5,.slice (some ⟨g8,0,none⟩) size size),(10,I size),(11,I k)]) (λk=> [F,blk g8 (qHi (Sha.numB n size) k) 5]) (λk=>k≤size) (λk=>size-k) 0 (jG _) ⟨O,O,O,O,O,trivial⟩ (λ_ h=>by rw [←qOt _ size hlen];exact h) ?_
  intro k hk I0 hI0
  refine J.g λ_ j5=>J.f (qAS O O O) O<|J.c j5 ?_
  refine J.q λ_ j6=>J.a0 O (λh12=>?_) (λh12=>?_)
  ·
    refine J.T j6 ?_
    refine J.q λ_ j7=>J.V<|J.g λ_ j8=>J.k 2 O<|J.c j8 ?_
    refine J.H<|J.k 4 O<|J.f (qA3 O O O xB) O<|J.b O<|J.f (qA3 O O O xB) O<|J.f (qDe O O O xB) O<|J.f (qGA (m:=8*(size-1-k)) O O (by show some _=some _;congr 2;omega)) O<|J.f (qFt O O qEd u5_) O<|J.f (qAj (j:=k) O O O qBt z5_ xB xB) O<|J.a6 (qAT (i:=1) O O O O O z5_ O (by rw [qQu (Sha.numB n size) k xB];show k+1≤_;omega)) O O λ_ _=>J.a4<|J.a3<|J.u (J.G j7 ?_)
    exact J.H<|J.f (qAQ O O O xB) O<|J.b O<|J.a4<|J.u<|J.a5 (k+1) (λx (hx:x≤size∧size-x<size-k)=>hI0 x hx.1 hx.2) ⟨xB,xB⟩ ⟨O,O,O,O,O,trivial⟩ (λ_ h=>by rw [←qOu _ k _ (qZy n size k xB)];exact h)
  refine J.b3<|J.a1<|J.a1<|J.b4 ?_
  refine J.u (J.G j3 ?_)
  refine J.g λ_ j9=>J.k 2 O<|J.c j9 ?_
  exact J.A<|J.E hw0 O (some ⟨g8,0,none⟩,size,blk g8 (qAg (Sha.numB n size)).flatten 5) O (qAl (by simp [qAg,hlen]) (by simp [qAg])) [0,1] (by rw [qQv (Sha.numB n size) k xB];rfl) xC
theorem qEZ(F:Hp)(x:UInt32)(r:Nat)(h1:1≤r)(h2:r<32):
    Cz prog 197 [W32 x,I (-(r:Int))] F (W32 (Sha.rotr x r)):=by
  have hr:=qW0 ⟨r,h2⟩ h1
  have e1:((-(r:Int))%18446744073709551616).toNat=18446744073709551616-r:=xB
  have e3:IntKind.u64.wrap (32-((32-r:Nat):Int))=(r:Int):=by simp [IntKind.wrap,IntKind.bits,IntKind.signed];omega
  refine Ct.walk func197 O ntmps197 O (λw0 hw0=>?_)
  refine J.g λ_ j1=>J.b O<|J.c j1 ?_
  refine J.g λ_ j2=>J.b O<|J.f ((qCL O O u3_ qIj).as (congrArg (λz=>W64 (UInt64.ofNat z)) e1)) O<|J.f ((qNT (b:=31) O O O).as (v':= .int .u64 ((32-r:Nat):Int)) (by show Value.int .u64 _=_;rw [UInt64.toNat_and];exact congrArg (λz:Nat=>Value.int .u64 (z:Int)) hr)) O<|J.b O<|J.c j2 ?_
  refine J.g λ_ j3=>J.k 2 O<|J.f (qGB O O O) O<|J.k 2 O<|J.f (qIC O O O e3.symm) O<|J.f (qI7 O O O) O<|J.f (qI9 O O O) O<|J.b O<|J.c j3 ?_
  exact J.A<|J.E hw0 O () O trivial [0] O xC
theorem qUq(F:Hp):Cz prog 160 [] F (.agg (Sha.init.list.map W32).toArray):=by
 refine Ct.walk func160 O ntmps160 O (λw0 hw0=>?_)
 refine J.g λ_ j1=>J.p (qAJ O zeroValue255 O) O λg0 _=>J.c j1 ?_
 refine J.g λ_ j2=>J.f (qEi (l:= [.const (.int .u32 1779033703),.const (.int .u32 3144134277),.const (.int .u32 1013904242),.const (.int .u32 2773480762),.const (.int .u32 1359893119),.const (.int .u32 2600822924),.const (.int .u32 528734635),.const (.int .u32 1541459225)]) O O O qFy el253 zeroValue255 O O (by simp [Value.cells]) (r:=Sha.init.list.map W32) O) O<|J.a6 (qAT (i:=1) O O O O O sizeOf255 O xC) O O λ_ _=>J.c j2 ?_
 exact J.A<|J.b0 hw0 (λ_ _ h=>h) (rv1 O (RV.blkA 1 O O isAgg255 sizeOf255)) (qAn () O trivial [0] O xC)
def qEh(l:List UInt32):List Value:=l.map W32++List.replicate (64-l.length) (.int .u32 0)
theorem qGz(l:List UInt32)(h:l.length≤64):(qEh l).length=64:=by simp [qEh];omega
theorem qE2(l:List UInt32)(i:Nat)(h:i<l.length):(qEh l)[i]?=some (W32 (l.getD i 0)):=by
 unfold qEh
 rw [jj (by simpa using h),jN,jC h,jB,jC h]
 rfl
theorem qH8(l:List UInt32)(x:UInt32)(h:l.length<64):qBB (qEh l) l.length [W32 x]=qEh (l++ [x]):=by
 have e:64-l.length=(64-(l.length+1))+1:=xB
 have h2:=qLn (l.map W32) (Value.int .u32 0) (64-(l.length+1)) (W32 x)
 rw [jO] at h2
 unfold qBB qEh
 rw [e,jI,h2,jM,jA]
 rfl
theorem qQt(l:List UInt32)(j:Nat)(hj:l.length=16+j)(h:j<48):qBB (qEh l) (16+j) [W32 (l.getD j 0+Sha.sg0 (l.getD (j+1) 0)+l.getD (j+9) 0+Sha.sg1 (l.getD (j+14) 0))]=qEh (Sha.ext l):=by
 have h2:=qH8 l (l.getD j 0+Sha.sg0 (l.getD (j+1) 0)+l.getD (j+9) 0+Sha.sg1 (l.getD (j+14) 0)) xB
 rw [hj] at h2
 rw [h2]
 unfold Sha.ext
 rw [hj,show 16+j-16=j by omega,show 16+j-15=j+1 by omega,show 16+j-7=j+9 by omega,show 16+j-2=j+14 by omega]
theorem qEn(b:xA)(k:Nat):Sha.firsts b (k+1)=Sha.firsts b k++ [Sha.word b k]:=by simp [Sha.firsts,jx]
theorem qOs(l:List UInt32)(h:l.length=64):qEh l=l.map W32:=by simp [qEh,h]
theorem qXe(l:List UInt32):(l.map W32).all Value.oneCell'=true:=by simp [Value.oneCell']
theorem getB{b:xA}{j:Nat}(h:j<b.length):b[j]?=some (b.getD j 0):=by rw [jB,jC h];rfl
theorem qLo(F:Hp)(A:Option Addr)(n c:Nat)(b:xA)(hl:Sl F 1 A n c (qAg b))(h64:64≤n):
    Cz prog 196 [.slice A n c] F (.agg ((Sha.sched b).map W32).toArray):=by
  have hn:b.length=n:=by have:=hl.1;simpa [qAg] using this
  have hb: ∀j,j<n→b[j]?=some (b.getD j 0):=λj hj=>getB xB
  refine Ct.walk func196 O ntmps196 O (λw0 hw0=>?_)
  refine J.g λ_ j1=>J.p (qAJ O zeroValue294 O) O λg2 _=>J.c j1 ?_
  refine J.g λ_ j2=>J.p (qAJ O zeroValue294 O) O λg3 _=>J.c j2 ?_
  refine J.q λ_ j3=>J.g λ_ j4=>J.b O<|J.c j4 ?_
  refine J.V<|J.b6 (λk:Nat=> [(0,.slice A n c),(2,Ptr g2),(3,Ptr g3),(10,I k)]) (λk=> [F,blk g2 (List.replicate 64 (.int .u32 0)) 294,blk g3 (qEh (Sha.firsts b k)) 294]) (λk=>k≤16) (λk=>16-k) 0 (jG _) ⟨O,O,O,O,trivial⟩ (λ_ h=>h) ?_
  intro k hk I0 hI0
  refine J.g λ_ j5=>J.f (qAS O O O) O<|J.c j5 ?_
  refine J.q λ_ j6=>J.a0 O (λh11=>?_) (λh11=>?_)
  ·
    refine J.T j6 ?_
    refine J.q λ_ j7=>J.V<|J.g λ_ j8=>J.k 2 O<|J.c j8 ?_
    refine J.b1 [F] [35] (.y 0 (.y 1 (.y 2 (.y 3 (.y 4 (.y 5 (.y 6 (.y 7 (.y 8 (.y 9 (.y 10 (.y 11 (.y 12 (.y 13 (.y 14 (.y 15 (.y 16 (.y 17 (.y 18 (.y 19 (.y 20 (.y 21 (.y 22 (.y 23 (.y 24 (.y 25 (.y 26 (.y 27 (.y 28 (.y 29 (.y 30 (.y 31 (.y 32 (.y 33 (.y 34 (.e 35 .nil)))))))))))))))))))))))))))))))))))) Tryz.wide xF xD ?_
    iterate 3 refine J.L ?_
    refine J.j O ((qDe O O O xB).nat (4*k) xB) O O<|J.j O (qAF O O O qBt z5_ hl xB) O O<|J.j O (qAI O O b5_ (m:=F) xD (hl.elem (qBp (hb (4*k) xB)))) O O<|J.j O (qCx O O u5_ qJz) O O<|J.j O (qGB O O O) O O<|J.L ?_
    refine J.L ?_
    refine J.j O ((qDe O O O xB).nat (4*k) xB) O O<|J.j O ((qAQ O O O xB).nat (4*k+1) xB) O O<|J.j O (qAF O O O qBt z5_ hl xB) O O<|J.j O (qAI O O b5_ (m:=F) xD (hl.elem (qBp (hb (4*k+1) xB)))) O O<|J.j O (qCx O O u5_ qJz) O O<|J.j O (qGB O O O) O O<|J.j O (qI9 O O O) O O<|J.L ?_
    refine J.L ?_
    refine J.j O ((qDe O O O xB).nat (4*k) xB) O O<|J.j O ((qAQ O O O xB).nat (4*k+2) xB) O O<|J.j O (qAF O O O qBt z5_ hl xB) O O<|J.j O (qAI O O b5_ (m:=F) xD (hl.elem (qBp (hb (4*k+2) xB)))) O O<|J.j O (qCx O O u5_ qJz) O O<|J.j O (qGB O O O) O O<|J.j O (qI9 O O O) O O<|J.L ?_
    refine J.L ?_
    refine J.j O ((qDe O O O xB).nat (4*k) xB) O O<|J.j O ((qAQ O O O xB).nat (4*k+3) xB) O O<|J.j O (qAF O O O qBt z5_ hl xB) O O<|J.j O (qAI O O b5_ (m:=F) xD (hl.elem (qBp (hb (4*k+3) xB)))) O O<|J.j O (qCx O O u5_ qJz) O O<|J.j O (qI9 O O O) O O<|J.j O (qAp (i:=k) (j:=k) O O O qJy qCM xB xB) O O<|J.c1 O (qAT (i:=2) O O O O O qCM O (by rw [qGz (Sha.firsts b k) (by rw [Sha.firsts_length];omega)];show k+1≤_;omega)) O O O λ_ _=>J.a9<|J.a3<|J.u (J.G j7 ?_)
    exact J.H<|J.f (qAQ O O O xB) O<|J.b O<|J.a4<|J.u<|J.a5 (k+1) (λx (hx:x≤16∧16-x<16-k)=>hI0 x hx.1 hx.2) ⟨xB,xB⟩ ⟨O,O,O,O,trivial⟩ (λ_ h=>by rw [qEn,←qH8 _ _ (by rw [Sha.firsts_length];omega),Sha.firsts_length];exact h)
  refine J.b3<|J.a1<|J.a1<|J.b4 ?_
  refine J.u (J.G j3 ?_)
  refine J.q λ_ j9=>J.g λ_ j10=>J.b O<|J.c j10 ?_
  refine J.V<|J.b6 (λj:Nat=> [(2,Ptr g2),(3,Ptr g3),(5,I (16+j:Nat))]) (λj=> [F,blk g2 (List.replicate 64 (.int .u32 0)) 294,blk g3 (qEh (Sha.exts j (Sha.firsts b 16))) 294]) (λj=>j≤48) (λj=>48-j) 0 (jG _) ⟨O,O,O,trivial⟩ (λ_ h=>by rw [show k=16 by omega] at h;exact h) ?_
  intro j hj I1 hI1
  have hlj:(Sha.exts j (Sha.firsts b 16)).length=16+j:=by rw [Sha.exts_length,Sha.firsts_length]
  refine J.q λ_ j11=>J.g λ_ j12=>J.b O<|J.f (qAS O O O) O<|J.c j12 ?_
  refine J.a0 O (λh50=>?_) (λh50=>?_)
  ·
    refine J.T j11 ?_
    refine J.q λ_ j13=>J.V<|J.q λ_ j14=>J.b1 [blk g3 (qEh (Sha.exts j (Sha.firsts b 16))) 294] [] (.y 0 (.y 1 (.y 2 (.y 3 (.y 4 (.y 5 (.y 6 (.y 7 (.y 8 (.y 9 .nil)))))))))) Tryz.wide xF xD ?_
    refine J.L ?_
    refine J.j O ((qA3 O O O xB).nat (j+1) xB) O O<|J.j O (qAp (i:=j+1) (j:=j+1) O O O qJy qCM xB xB) O O<|J.j O (qAC 0 O O O qDG (qE2 (Sha.exts j (Sha.firsts b 16)) (j+1) xB)) O O<|J.L ?_
    refine J.j O ((qA3 O O O xB).nat (j+14) xB) O O<|J.j O (qAp (i:=j+14) (j:=j+14) O O O qJy qCM xB xB) O O<|J.j O (qAC 0 O O O qDG (qE2 (Sha.exts j (Sha.firsts b 16)) (j+14) xB)) O O<|J.b7 ?_
    refine J.b7 ?_
    refine J.a9<|J.u (J.G j14 ?_)
    refine J.g λ_ j15=>J.b O<|J.p (qAa O O (λF' _=>qEZ F' _ 7 xC xC)) O λg62 _=>J.b O<|J.p (qAa O O (λF' _=>qEZ F' _ 18 xC xC)) O λg64 _=>J.f (qB4 O O O) O<|J.b O<|J.f (qI7 O O O) O<|J.f (qB4 O O O) O<|J.b O<|J.c j15 ?_
    refine J.g λ_ j16=>J.b O<|J.p (qAa O O (λF' _=>qEZ F' _ 17 xC xC)) O λg70 _=>J.b O<|J.p (qAa O O (λF' _=>qEZ F' _ 19 xC xC)) O λg72 _=>J.f (qB4 O O O) O<|J.b O<|J.f (qI7 O O O) O<|J.f (qB4 O O O) O<|J.b O<|J.c j16 ?_
    refine J.b1 [blk g3 (qEh (Sha.exts j (Sha.firsts b 16))) 294] [15] (.y 0 (.y 1 (.y 2 (.y 3 (.y 4 (.y 5 (.y 6 (.y 7 (.y 8 (.y 9 (.y 10 (.y 11 (.y 12 (.y 13 (.y 14 (.e 15 .nil)))))))))))))))) Tryz.wide xF xD ?_
    refine J.L ?_
    refine J.L ?_
    refine J.j O ((qA3 O O O xB).nat (j) xB) O O<|J.j O (qAp (i:=j) (j:=j) O O O qJy qCM xB xB) O O<|J.j O (qAC 0 O O O qDG (qE2 (Sha.exts j (Sha.firsts b 16)) (j) xB)) O O<|J.L ?_
    refine J.j O (qB5 O O O) O O<|J.L ?_
    refine J.j O ((qA3 O O O xB).nat (j+9) xB) O O<|J.j O (qAp (i:=j+9) (j:=j+9) O O O qJy qCM xB xB) O O<|J.j O (qAC 0 O O O qDG (qE2 (Sha.exts j (Sha.firsts b 16)) (j+9) xB)) O O<|J.j O (qB5 O O O) O O<|J.L ?_
    refine J.j O (qB5 O O O) O O<|J.j O (qAp (i:=16+j) (j:=16+j) O O O qJy qCM xB xB) O O<|J.c1 O (qAT (i:=2) O O O O O qCM O (by rw [qGz (Sha.exts j (Sha.firsts b 16)) xB];show 16+j+1≤_;omega)) O O O λ_ _=>J.a9<|J.a3<|J.u (J.G j13 ?_)
    exact J.H<|J.b O<|J.f (qAQ O O O xB) O<|J.b O<|J.a4<|J.u<|J.a5 (j+1) (λx (hx:x≤48∧48-x<48-j)=>hI1 x hx.1 hx.2) ⟨xB,xB⟩ ⟨O,O,O,trivial⟩ (λ_ h=>by rw [Sha.exts,←qQt _ j hlj xB];exact h)
  refine J.b3<|J.a1<|J.a1<|J.b4 ?_
  refine J.u (J.G j9 ?_)
  refine J.q λ_ j17=>?_
  have hj48:j=48:=xB
  subst hj48
  refine J.H<|J.f (qAW 2 O O O isAgg294 sizeOf294 (qGz (Sha.exts 48 (Sha.firsts b 16)) (by rw [Sha.exts_length,Sha.firsts_length];decide))) O<|J.a6 (qAD (i:=1) (vs:=(Sha.sched b).map W32) O O O O (by show Array.mk _=_;exact congrArg _ (qOs _ (Sha.sched_length b))) (λw=>by rw [jO,Sha.sched_length];exact sizeOf294 w) (qXe _) (by rw [jO,Sha.sched_length];rfl)) O O λ_ _=>?_
  change J _ _ _ [F,blk g2 ((Sha.sched b).map W32) 294,_] _
  refine J.c j17 ?_
  exact J.A<|J.b0 hw0 (λ_ _ h=>h) (rv1 O (RV.blkA 1 O O isAgg294 (λw=>by rw [jO,Sha.sched_length];exact sizeOf294 w))) (qAn () O trivial [0] O xC)
theorem Sha.rnds_succ(ws:List UInt32)(s:Sha.St8)(i:Nat):Sha.rnds ws s (i+1)=Sha.rnd (ws.getD i 0) (Sha.K.getD i 0) (Sha.rnds ws s i):=rfl
theorem Sha.mix_eq(s:Sha.St8)(b:xA):Sha.mix s b=s.add (Sha.rnds (Sha.sched b) s 64):=rfl
theorem Sha.rnds_zero(ws:List UInt32)(s:Sha.St8):Sha.rnds ws s 0=s:=rfl
attribute [local irreducible] Sha.rnds Sha.sched Sha.mix
theorem qYQ{m:Hp}{g off:Nat}{vs:List Value}{i:Nat}{v:Value}(h:qAM m ⟨g,off,none⟩ vs)(hi:vs[i]?=some v):qAM m ⟨g,off+i,none⟩ [v]:=by
 have:=h.sub i 1
 rw [Addr.add_lit] at this
 obtain ⟨hk,rfl⟩:=List.getElem?_eq_some_iff.1 hi
 rw [zE hk] at this
 exact this
theorem getW{l:List UInt32}{i:Nat}(h:i<l.length):(l.map W32)[i]?=some (W32 (l.getD i 0)):=by
 rw [jN,jC h,jB,jC h];rfl
def Sha.St8.adds(s t:Sha.St8)(k:Nat):List UInt32:=(s.add t).list.take k++s.list.drop k
theorem qVM(s t:Sha.St8)(k:Nat)(hk:k≤8):(s.adds t k).length=8:=by simp [Sha.St8.adds,Sha.St8.list];omega
theorem qVN(s t:Sha.St8): ∀k,k<8→(s.adds t k)[k]?=some (s.list.getD k 0)
 |0,_=>rfl|1,_=>rfl|2,_=>rfl|3,_=>rfl|4,_=>rfl|5,_=>rfl|6,_=>rfl|7,_=>rfl
 |n+8,h=>by omega
theorem qVL(s t:Sha.St8): ∀k,k<8→qBB ((s.adds t k).map W32) k [W32 (s.list.getD k 0+t.list.getD k 0)]=(s.adds t (k+1)).map W32
 |0,_=>rfl|1,_=>rfl|2,_=>rfl|3,_=>rfl|4,_=>rfl|5,_=>rfl|6,_=>rfl|7,_=>rfl
 |n+8,h=>by omega
theorem qVO(s t:Sha.St8):s.adds t 8=(s.add t).list:=rfl
theorem qNf(t:Sha.St8): ∀k,k<8→(t.list.map W32)[k]?=some (W32 (t.list.getD k 0))
 |0,_=>rfl|1,_=>rfl|2,_=>rfl|3,_=>rfl|4,_=>rfl|5,_=>rfl|6,_=>rfl|7,_=>rfl
 |n+8,h=>by omega
abbrev KF(F:Hp):Prop:=qAM F ⟨0,0,none⟩ (Sha.K.map W32)
theorem qZQ(F:Hp)(hK:KF F)(g:Nat)(s:Sha.St8)(A:Option Addr)(n c:Nat)(b:xA)(hl:Sl F 1 A n c (qAg b))(h64:64≤n):
    Ct prog 161 [Ptr g,.slice A n c] [blk g (s.list.map W32) 255,F] (λ_:Unit=> .tuple #[]) (λ_=>True) (λ_=> [blk g ((Sha.mix s b).list.map W32) 255,F]):=by
  refine Ct.walk func161 O ntmps161 O (λw0 hw0=>?_)
  refine J.g λ_ j1=>J.b O<|J.p (qAa O O (λF' hF=>qLo F' A n c b (hl.mono (Fa hF)) h64)) O λg21 _=>J.p (qAJ O zeroValue294 O) O λg4 _=>J.a6 (qAD (i:=2) (vs:=(Sha.sched b).map W32) O O O O O (λw=>by rw [jO,Sha.sched_length];exact sizeOf294 w) (qXe _) (by rw [jO,Sha.sched_length];rfl)) O O λ_ _=>J.c j1 ?_
  refine J.q λ_ j2=>J.b1 [blk g (s.list.map W32) 255] [] (.y 0 (.y 1 (.y 2 (.y 3 (.y 4 (.y 5 (.y 6 (.y 7 (.y 8 (.y 9 (.y 10 (.y 11 (.y 12 (.y 13 (.y 14 (.y 15 (.y 16 (.y 17 (.y 18 (.y 19 (.y 20 (.y 21 (.y 22 (.y 23 (.y 24 (.y 25 (.y 26 (.y 27 (.y 28 (.y 29 (.y 30 (.y 31 (.y 32 (.y 33 (.y 34 (.y 35 (.y 36 (.y 37 (.y 38 (.y 39 .nil)))))))))))))))))))))))))))))))))))))))) Tryz.wide xF xD ?_
  refine J.L ?_
  refine J.j O (qAB O O) O O<|J.j O (qAp O O O qFy qCM xC O) O O<|J.j O (qAC 0 O O O qDG O) O O<|J.L ?_
  refine J.j O (qAB O O) O O<|J.j O (qAp O O O qFy qCM xC O) O O<|J.j O (qAC 0 O O O qDG O) O O<|J.L ?_
  refine J.j O (qAB O O) O O<|J.j O (qAp O O O qFy qCM xC O) O O<|J.j O (qAC 0 O O O qDG O) O O<|J.L ?_
  refine J.j O (qAB O O) O O<|J.j O (qAp O O O qFy qCM xC O) O O<|J.j O (qAC 0 O O O qDG O) O O<|J.L ?_
  refine J.j O (qAB O O) O O<|J.j O (qAp O O O qFy qCM xC O) O O<|J.j O (qAC 0 O O O qDG O) O O<|J.L ?_
  refine J.j O (qAB O O) O O<|J.j O (qAp O O O qFy qCM xC O) O O<|J.j O (qAC 0 O O O qDG O) O O<|J.L ?_
  refine J.j O (qAB O O) O O<|J.j O (qAp O O O qFy qCM xC O) O O<|J.j O (qAC 0 O O O qDG O) O O<|J.L ?_
  refine J.j O (qAB O O) O O<|J.j O (qAp O O O qFy qCM xC O) O O<|J.j O (qAC 0 O O O qDG O) O O<|J.b7 ?_
  iterate 7 refine J.b7 ?_
  refine J.a9<|J.u (J.G j2 ?_)
  refine J.q λ_ j3=>J.g λ_ j4=>J.b O<|J.c j4 ?_
  refine J.V<|J.b6 (λi:Nat=> [(0,Ptr g),(4,Ptr g4),(5,W32 (Sha.rnds (Sha.sched b) s i).a),(6,W32 (Sha.rnds (Sha.sched b) s i).b),(7,W32 (Sha.rnds (Sha.sched b) s i).c),(8,W32 (Sha.rnds (Sha.sched b) s i).d),(9,W32 (Sha.rnds (Sha.sched b) s i).e),(10,W32 (Sha.rnds (Sha.sched b) s i).f),(11,W32 (Sha.rnds (Sha.sched b) s i).g),(12,W32 (Sha.rnds (Sha.sched b) s i).h),(54,I i)]) (λ_=> [blk g (s.list.map W32) 255,F,blk g4 ((Sha.sched b).map W32) 294]) (λi=>i≤64) (λi=>64-i) 0 (jG _) ⟨O,O,by rw [Sha.rnds_zero];rfl,by rw [Sha.rnds_zero];rfl,by rw [Sha.rnds_zero];rfl,by rw [Sha.rnds_zero];rfl,by rw [Sha.rnds_zero];rfl,by rw [Sha.rnds_zero];rfl,by rw [Sha.rnds_zero];rfl,by rw [Sha.rnds_zero];rfl,O,trivial⟩ (λ_ h=>h) ?_
  intro i hi I0 hI0
  refine J.g λ_ j5=>J.f (qAS O O O) O<|J.c j5 ?_
  refine J.q λ_ j6=>J.a0 O (λh55=>?_) (λh55=>?_)
  ·
    refine J.T j6 ?_
    refine J.q λ_ j7=>J.V<|J.g λ_ j8=>J.k 2 O<|J.c j8 ?_
    refine J.g λ_ j9=>J.b O<|J.p (qAa O O (λF' _=>qEZ F' _ 6 xC xC)) O λg58 _=>J.b O<|J.p (qAa O O (λF' _=>qEZ F' _ 11 xC xC)) O λg60 _=>J.f (qB4 O O O) O<|J.b O<|J.p (qAa O O (λF' _=>qEZ F' _ 25 xC xC)) O λg63 _=>J.f (qB4 O O O) O<|J.b O<|J.c j9 ?_
    refine J.q λ_ j10=>?_
    have hiK:i<Sha.K.length:=by show i<64;omega
    refine J.b1 [blk g (s.list.map W32) 255,F,blk g4 ((Sha.sched b).map W32) 294] [] (.y 0 (.y 1 (.y 2 (.y 3 (.y 4 (.y 5 (.y 6 (.y 7 (.y 8 (.y 9 (.y 10 (.y 11 (.y 12 (.y 13 (.y 14 (.y 15 (.y 16 (.y 17 (.y 18 (.y 19 (.y 20 .nil))))))))))))))))))))) Tryz.wide xF xD ?_
    refine J.L ?_
    refine J.L ?_
    refine J.j O (qB5 O O O) O O<|J.L ?_
    refine J.L ?_
    refine J.j O (qFA O O O) O O<|J.L ?_
    refine J.j O (qT9 O O) O O<|J.L ?_
    refine J.j O (qFA O O O) O O<|J.j O (qB4 O O O) O O<|J.j O (qB5 O O O) O O<|J.L ?_
    refine J.j O (qAp (i:=i) (j:=i) O O O qJy qCM xB xB) O O<|J.j O (qT7 1 O O qDG O (by have h:=qYQ hK (getW (l:=Sha.K) (i:=i) hiK);rw [jX] at h;exact h)) O O<|J.j O (qB5 O O O) O O<|J.L ?_
    refine J.j O (qAp (i:=i) (j:=i) O O O qJy qCM xB xB) O O<|J.j O (qAC 2 O O O qDG (getW (l:=Sha.sched b) (i:=i) (by rw [Sha.sched_length];omega))) O O<|J.j O (qB5 O O O) O O<|J.b7 ?_
    refine J.a9<|J.u (J.G j10 ?_)
    refine J.g λ_ j11=>J.b O<|J.p (qAa O O (λF' _=>qEZ F' _ 2 xC xC)) O λg86 _=>J.b O<|J.p (qAa O O (λF' _=>qEZ F' _ 13 xC xC)) O λg88 _=>J.f (qB4 O O O) O<|J.b O<|J.p (qAa O O (λF' _=>qEZ F' _ 22 xC xC)) O λg91 _=>J.f (qB4 O O O) O<|J.b O<|J.c j11 ?_
    refine J.g λ_ j12=>J.k 3 O<|J.f (qFA O O O) O<|J.k 2 O<|J.f (qFA O O O) O<|J.f (qB4 O O O) O<|J.k 2 O<|J.f (qFA O O O) O<|J.f (qB4 O O O) O<|J.f (qB5 O O O) O<|J.b O<|J.c j12 ?_
    refine J.H<|J.k 5 O<|J.f (qB5 O O O) O<|J.k 5 O<|J.f (qB5 O O O) O<|J.k 8 O<|J.a4<|J.a3<|J.u (J.G j7 ?_)
    exact J.H<|J.f (qAQ O O O xB) O<|J.b O<|J.a4<|J.u<|J.a5 (i+1) (λx (hx:x≤64∧64-x<64-i)=>hI0 x hx.1 hx.2) ⟨xB,xB⟩ ⟨O,O,by rw [Sha.rnds_succ];rfl,by rw [Sha.rnds_succ];rfl,by rw [Sha.rnds_succ];rfl,by rw [Sha.rnds_succ];rfl,by rw [Sha.rnds_succ];rfl,by rw [Sha.rnds_succ];rfl,by rw [Sha.rnds_succ];rfl,by rw [Sha.rnds_succ];rfl,O,trivial⟩ (λ_ h=>h)
  refine J.b3<|J.a1<|J.a1<|J.b4 ?_
  refine J.u (J.G j3 ?_)
  refine J.q λ_ j13=>?_
  have hi64:i=64:=xB
  subst hi64
  refine J.H<|J.k 8 O<|J.f (qEi (l:= [.tmp 119,.tmp 120,.tmp 121,.tmp 122,.tmp 123,.tmp 124,.tmp 125,.tmp 126]) O O O underlying254 el253 zeroValue254 O O (by simp [Value.cells]) (r:=(Sha.rnds (Sha.sched b) s 64).list.map W32) O) O<|J.b O<|J.c j13 ?_
  refine J.V<|J.b6 (λk:Nat=> [(0,Ptr g),(127,.agg ((Sha.rnds (Sha.sched b) s 64).list.map W32).toArray),(128,I k)]) (λk=> [blk g ((s.adds (Sha.rnds (Sha.sched b) s 64) k).map W32) 255,F,blk g4 ((Sha.sched b).map W32) 294]) (λk=>k≤8) (λk=>8-k) 0 (jG _) ⟨O,O,O,trivial⟩ (λ_ h=>h) ?_
  intro k hk I2 hI2
  refine J.g λ_ j14=>J.f (qAS O O O) O<|J.c j14 ?_
  refine J.q λ_ j15=>J.a0 O (λh129=>?_) (λh129=>?_)
  ·
    refine J.T j15 ?_
    refine J.q λ_ j16=>J.V<|J.g λ_ j17=>J.b O<|J.f (qJB O O O underlying254 qCM qDG xB (by rw [Nat.mul_one,zI];exact qNf _ k xB)) O ?_
    refine J.k 2 O<|J.c j17 ?_
    refine J.b1 [blk g ((s.adds (Sha.rnds (Sha.sched b) s 64) k).map W32) 255] [9] (.y 0 (.y 1 (.y 2 (.y 3 (.y 4 (.y 5 (.y 6 (.y 7 (.y 8 (.e 9 .nil)))))))))) Tryz.wide xF xD ?_
    refine J.L ?_
    refine J.L ?_
    refine J.j O (qAB O O) O O<|J.j O (qAp (i:=k) (j:=k) O O O qFy qCM xB xB) O O<|J.j O (qAC 0 O O O qDG (by rw [jN,qVN s (Sha.rnds (Sha.sched b) s 64) k xB];rfl)) O O ?_
    refine J.L ?_
    refine J.j O (qB5 O O O) O O<|J.j O (qAB O O) O O<|J.j O (qAp (i:=k) (j:=k) O O O qFy qCM xB xB) O O<|J.c1 O (qAT (i:=0) O O O O O qCM O (by rw [jO,qVM s (Sha.rnds (Sha.sched b) s 64) k xB];show k+1≤_;omega)) O O O λ_ _=>J.a9<|J.a3<|J.u (J.G j16 ?_)
    exact J.H<|J.f (qAQ O O O xB) O<|J.b O<|J.a4<|J.u<|J.a5 (k+1) (λx (hx:x≤8∧8-x<8-k)=>hI2 x hx.1 hx.2) ⟨xB,xB⟩ ⟨O,O,O,trivial⟩ (λ_ h=>by rw [←qVL s (Sha.rnds (Sha.sched b) s 64) k xB];exact h)
  refine J.b3<|J.a1<|J.a1<|J.b4 ?_
  have hk8:k=8:=xB
  subst hk8
  exact J.d8 hw0 (λ_ _ h=>h) (qJn O) (qAn () O trivial [0,1] (by rw [qVO,←Sha.mix_eq];rfl) xC)
end Go.Proofs.YtcgcjaflllmlpaaGreatDoor
namespace Go.Proofs.YtcgcjaflllmlpaaGreatDoor
open Go Go.Fw Go.Proofs.Tryz
theorem qUj(F:Hp)(A:Option Addr)(n c:Nat)(ls:List xA)(hl:Sl F 1 A n c (qAG ls))(htot:ls.flatten.length≤35184372088832)(hn47:n≤70368744177664):
    Cz prog 159 [.slice A n c,Str []] F (Str ls.flatten):=by
  have h:=qX2 F A n c ls [] hl (by rw [qKk];exact htot) hn47
  rw [qKk] at h;exact h
theorem qER(a b:xA):qAg (a++b)=qAg a++qAg b:=by simp [qAg]
theorem qIX(a:xA):(qAg a).all (λx=>x.all Value.oneCell')=true:=by simp [qAg,Value.oneCell']
theorem qPP(p:xA)(k N:Nat)(hN:p.length=N):((qAg (p.drop (64*k))).take (N-64*k)).drop 64=qAg (p.drop (64*(k+1))):=by
 rw [jf (by simp [qAg,hN])]
 unfold qAg
 rw [←List.map_drop,zx,Nat.mul_add]
def Sha.outs(t:Sha.St8)(k:Nat):xA:=(t.list.take k).flatMap λx=>Sha.numB x.toUInt64 4
theorem qG2(t:Sha.St8): ∀k,k<8→Sha.outs t (k+1)=Sha.outs t k++Sha.numB (t.list.getD k 0).toUInt64 4
 |0,_=>rfl|1,_=>rfl|2,_=>rfl|3,_=>rfl|4,_=>rfl|5,_=>rfl|6,_=>rfl|7,_=>rfl
 |n+8,h=>by omega
attribute [local irreducible] Sha.sum Sha.pad Sha.mixes Sha.numB
theorem qVf(F:Hp)(hK:KF F)(A:Option Addr)(n c:Nat)(ls:List xA)(hl:Sl F 1 A n c (qAG ls))(htot:ls.flatten.length≤17592186044416)(hn47:n≤70368744177664):
    Cz prog 103 [.slice A n c] F (Str (Sha.sum ls.flatten)):=by
  obtain ⟨l,hL⟩: ∃l,l=ls.flatten:=⟨_,rfl⟩
  have hJ:=qUj F A n c ls hl xB hn47
  rw [←hL] at hJ htot⊢
  have hpad:=Sha.pad_length l
  have hpm:=Sha.pad_mod l
  obtain ⟨p,hp⟩: ∃p,p=Sha.pad l:=⟨_,rfl⟩
  rw [←hp] at hpad hpm
  have hsum:Sha.sum l=Sha.out (Sha.mixes Sha.init p (p.length/64)):=by rw [hp];unfold Sha.sum;rfl
  have hpd:p=l++ [128]++List.replicate ((119-l.length%64)%64) 0++Sha.numB (8*UInt64.ofNat l.length) 8:=by rw [hp];unfold Sha.pad;rfl
  refine Ct.walk func103 O ntmps103 O (λw0 hw0=>?_)
  refine J.g λ_ j1=>J.b O<|J.c j1<|J.g λ_ j2=>J.b O<|J.p (qAK O O ent hJ) O λg10 _=>J.p (qH9 O O u9_ qBt u5_) O ?_
  rintro⟨g11,c11,m11⟩ h11
  try dsimp only at h11
  refine J.b O<|J.c j2<|J.g λ_ j3=>J.b O<|J.f (qAR qBt O O) O<|J.f (qAx O O u3_ qEd xB) O<|J.b O<|J.c j3<|J.g λ_ j4=>J.b O<|J.p (qAE (l:= [.const ((Value.int IntKind.u8 128))]) (xs:= [[B8 128]]) O O O O qBt el5 O xC xC xD) O λg16 _=>J.p (qAU (i:=1) (m2:=blk g16 [B8 128] 5) O O O qBt qBt el5 O h11 xD (qAl (q:=True) (xs:= [[B8 128]]) O xD).sl O xB xB) O ?_
  rintro⟨A17,c17,m17⟩ h17
  try dsimp only at h17
  rw [show [[B8 128]]=qAg [128] from rfl,←qER] at h17
  refine J.c5 [0,1] [F,m17] O xC<|J.b O<|J.c j4<|J.q λ_ j5=>J.V<|J.b6 (X:=Nat×Option Addr×Nat×Hp) (λx=> [(3,.slice x.2.1 (l.length+1+x.1) x.2.2.1),(4,W64 (UInt64.ofNat l.length))]) (λx=> [F,x.2.2.2]) (λx=>x.1≤(119-l.length%64)%64∧Row x.2.2.2 5 1 x.2.1 (l.length+1+x.1) x.2.2.1 (qAg (l++ [128]++List.replicate x.1 0))) (λx=>(119-l.length%64)%64-x.1) (0,A17,c17,m17) (⟨jG _,by simpa using h17⟩) ⟨O,O,trivial⟩ (λ_ h=>h) ?_
  rintro⟨k,A1,c1,m⟩ ⟨hk,hrow⟩ I0 hI0
  dsimp only at hk hrow⊢
  refine J.q λ_ j6=>J.g λ_ j7=>J.b O<|J.f (qAR qBt O O) O<|J.f (qG5 O O O xB) O<|J.f (qAe O O O) O<|J.c j7<|J.a0 O (λh21=>?_) (λh21=>?_)
  ·
    refine J.T j6<|J.V<|J.H<|J.b O<|J.p (qAE (l:= [.const ((Value.int IntKind.u8 0))]) (xs:= [[B8 0]]) O O O O qBt el5 O xC xC xD) O λg23 _=>J.p (qAU (i:=1) (m2:=blk g23 [B8 0] 5) O O O qBt qBt el5 O hrow xD (qAl (q:=True) (xs:= [[B8 0]]) O xD).sl O xB xB) O ?_
    rintro⟨A24,c24,m24⟩ h24
    try dsimp only at h24
    rw [show [[B8 0]]=qAg [0] from rfl,←qER] at h24
    refine J.c5 [0,1] [F,m24] O xC<|J.b O<|J.a4<|J.a3<|J.u<|J.a5 (k+1,A24,c24,m24) (λx (hx:_∧(119-l.length%64)%64-x.1<(119-l.length%64)%64-k)=>hI0 x hx.1 hx.2) ⟨⟨by dsimp only;omega,by rw [zf,←jW];exact h24⟩,by dsimp only;omega⟩ ⟨O,O,trivial⟩ (λ_ h=>h)
  refine J.b3<|J.a1<|J.a1<|J.b4 ?_
  refine J.u (J.G j5 ?_)
  refine J.q λ_ j8=>?_
  have hkz:k=(119-l.length%64)%64:=xB
  refine J.H<|J.k 2 O<|J.f (qNQ (a:=8) O O O) O<|J.p (qBr O O (λF' _=>qFB F' _ 8 xC)) O ?_
  rintro⟨A28,c28,m28⟩ h28
  try dsimp only at h28
  refine J.p (qAU (i:=1) (m2:=m28) O O O qBt qBt el5 O hrow xD h28.sl (qIX _) xB xB) O ?_
  rintro⟨A29,c29,m29⟩ h29
  try dsimp only at h29
  rw [←qER] at h29
  refine J.c5 [0,1] [F,m29] O xC<|J.b O<|J.c j8<|J.q λ_ j9=>?_
  rw [hkz,←hpd] at h29
  rw [hkz,show l.length+1+(119-l.length%64)%64+8=p.length by omega] at*
  refine J.H<|J.p (qAa O O (λF' _=>qUq F')) O λg30 _=>J.p (qAJ O zeroValue255 O) O λg5 _=>J.a6 (qAD (i:=2) (vs:=Sha.init.list.map W32) O O O O O sizeOf255 (qXe _) (by rfl)) O O λ_ _=>J.c j9<|J.q λ_ j10=>J.V<|J.b6 (X:=Nat×Option Addr×Nat) (λx=> [(3,.slice x.2.1 (p.length-64*x.1) x.2.2),(5,Ptr g5)]) (λx=> [F,m29,blk g5 ((Sha.mixes Sha.init p x.1).list.map W32) 255]) (λx=>64*x.1≤p.length∧Sl m29 1 x.2.1 (p.length-64*x.1) x.2.2 (qAg (p.drop (64*x.1)))) (λx=>p.length-64*x.1) (0,A29,c29) (⟨jG _,h29.sl⟩) ⟨O,O,trivial⟩ (λ_ h=>by unfold Sha.mixes;exact h) ?_
  rintro⟨k,A2,c2⟩ ⟨hk,hsl⟩ I2 hI2
  dsimp only at hk hsl⊢
  refine J.q λ_ j11=>J.g λ_ j12=>J.b O<|J.f (qAR qBt O O) O<|J.f (qAz O O O) O<|J.c j12<|J.a0 O (λh33=>?_) (λh33=>?_)
  ·
    refine J.T j11<|J.q λ_ j13=>J.V ?_
    have hN:64≤p.length-64*k:=xB
    have hc2:=hsl.2.1
    refine J.H<|J.b O<|J.p (qAK O O ent (Ct.use1 2 O (λF' hF=>qZQ F' (hK.mono (Fa hF)) g5 _ A2 (p.length-64*k) c2 (p.drop (64*k)) (hsl.mono (Fa hF)) xB))) O λg37 _=>J.a4<|J.a3<|J.u (J.G j13 ?_)
    refine J.H<|J.b O<|J.f (qDT (l:=64) (h:=p.length-64*k) O O qBt z5_ O O xB) O<|J.b O<|J.a4<|J.u ?_
    have hcut:=hsl.cut (lo:=64) (hi:=p.length-64*k) (mx:=c2) hN (jK _) hsl.2.1
    rw [qPP p k _ rfl] at hcut
    have hNN:p.length-64*k-64=p.length-64*(k+1):=xB
    refine J.a5 (k+1,_,c2-64) (λx (hx:_∧p.length-64*x.1<p.length-64*k)=>hI2 x hx.1 hx.2) ⟨⟨by dsimp only;omega,by rw [←hNN];exact hcut⟩,by dsimp only;omega⟩ ⟨by rw [←hNN];rfl,O,trivial⟩ (λ_ h=>by unfold Sha.mixes;exact h)
  refine J.b3<|J.a1<|J.a1<|J.b4 ?_
  refine J.u (J.G j10 ?_)
  refine J.q λ_ j14=>?_
  have hk64:k=p.length/64:=xB
  rw [←hk64] at hsum
  generalize Sha.mixes Sha.init p k=t at hsum⊢
  refine J.H<|J.b O<|J.c j14<|J.q λ_ j15=>J.g λ_ j16=>J.b8 2 isAgg255 sizeOf255 O O O O O<|J.d0 [0,3] [F,(λ_=>none)] O xC<|J.b O<|J.c j16<|J.V<|J.b6 (X:=Nat×Option Addr×Nat×Hp) (λx=> [(6,.slice x.2.1 (4*x.1) x.2.2.1),(38,.agg (t.list.map W32).toArray),(39,I x.1)]) (λx=> [F,x.2.2.2]) (λx=>x.1≤8∧Row x.2.2.2 5 1 x.2.1 (4*x.1) x.2.2.1 (qAg (Sha.outs t x.1))) (λx=>8-x.1) (0,none,0,λ_=>none) (⟨jG _,qBh.nil⟩) ⟨O,O,O,trivial⟩ (λ_ h=>h) ?_
  rintro⟨k,A3,c3,m⟩ ⟨hk,hrow⟩ I4 hI4
  dsimp only at hk hrow⊢
  refine J.g λ_ j17=>J.f (qAS O O O) O<|J.c j17<|J.q λ_ j18=>J.a0 O (λh40=>?_) (λh40=>?_)
  ·
    refine J.T j18<|J.q λ_ j19=>J.V<|J.g λ_ j20=>J.f (qJB O O O qFy qCM qDG xB (by rw [Nat.mul_one,zI];exact qNf _ k xB)) O ?_
    refine J.b O<|J.c j20<|J.H<|J.k 2 O<|J.f (qJD O O qJz qEd) O<|J.p (qBr O O (λF' _=>qFB F' _ 4 xC)) O ?_
    rintro⟨A45,c45,m45⟩ h45
    try dsimp only at h45
    refine J.p (qAU (i:=1) (m2:=m45) O O O qBt qBt el5 O hrow xD h45.sl (qIX _) xB xB) O ?_
    rintro⟨A46,c46,m46⟩ h46
    try dsimp only at h46
    rw [←qER,←qG2 t k xB] at h46
    refine J.c5 [0,1] [F,m46] O xC<|J.b O<|J.a4<|J.a3<|J.u (J.G j19 ?_)
    refine J.H<|J.f (qAQ O O O xB) O<|J.b O<|J.a4<|J.u<|J.a5 (k+1,A46,c46,m46) (λx (hx:_∧8-x.1<8-k)=>hI4 x hx.1 hx.2) ⟨⟨by dsimp only;omega,h46⟩,by dsimp only;omega⟩ ⟨O,O,O,trivial⟩ (λ_ h=>h)
  refine J.b3<|J.a1<|J.a1<|J.b4 ?_
  refine J.u (J.G j15 ?_)
  refine J.q λ_ j21=>?_
  have hk8:k=8:=xB
  subst hk8
  exact J.H<|J.b O<|J.f (qBn O O qBt u5_ u9_ (m:=m) xD hrow.sl) O<|J.b O<|J.c j21<|J.A<|J.E hw0 O () (by rw [hsum];rfl) trivial [0] O xC
namespace Sha
def tagParts(tag:UInt8)(ls:List xA)(k:Nat):List xA:= [[tag]]++(ls.take k).flatMap λs=> [numB (UInt64.ofNat s.length) 4,s]
def tagB(tag:UInt8)(ls:List xA):xA:= [tag]++ls.flatMap λs=>numB (UInt64.ofNat s.length) 4++s
def tagged(tag:UInt8)(ls:List xA):xA:=(sum (tagB tag ls)).take 16
theorem tagParts_succ(tag:UInt8)(ls:List xA)(k:Nat){s:xA}(h:ls[k]?=some s):tagParts tag ls (k+1)=tagParts tag ls k++ [numB (UInt64.ofNat s.length) 4,s]:=by
 obtain ⟨hk,rfl⟩:=List.getElem?_eq_some_iff.1 h
 unfold tagParts
 rw [jQ hk,List.flatMap_append,←jW]
 simp
theorem tagParts_flat(tag:UInt8)(ls:List xA):(tagParts tag ls ls.length).flatten=tagB tag ls:=by
 unfold tagParts tagB
 rw [jp,zM]
 congr 1
 induction ls with
 |nil=>rfl
 |cons a l ih=>rw [List.flatMap_cons,List.flatMap_cons,zM,ih];simp
theorem tagB_length(tag:UInt8)(ls:List xA):(tagB tag ls).length=1+4*ls.length+ls.flatten.length:=by
 unfold tagB
 rw [jA]
 induction ls with
 |nil=>rfl
 |cons a l ih=>simp only [List.flatMap_cons,jA,numB_length,jD,jc,jE] at ih⊢;omega
theorem tagged_length(tag:UInt8)(ls:List xA):(tagged tag ls).length=16:=by rw [tagged,jF,sum_length];rfl
def hi(b:UInt8):UInt8:=UInt8.ofNat (b.toNat/2^min 4 8)
end Sha
theorem qCO(a b:List xA):qAG (a++b)=qAG a++qAG b:=by simp [qAG]
theorem qUU{ls:List xA}{k:Nat}{s:xA}(h:ls[k]?=some s):s.length≤ls.flatten.length:=by
 have:s∈ls:=jL h
 induction ls generalizing k with
 |nil=>cases this
 |cons a l ih=>
  cases k with
  |zero=>simp at h;subst h;simp
  |succ k=>simp only [jc,jA];simp only [List.getElem?_cons_succ] at h;have:=ih h (jL h);omega
attribute [local irreducible] Sha.tagParts Sha.tagB
theorem qA6(F:Hp)(hK:KF F)(tag:UInt8)(A:Option Addr)(n c:Nat)(ls:List xA)(hl:Sl F 1 A n c (qAG ls))(htot:ls.flatten.length≤8796093022208)(hn:n≤1099511627776):
    Cz prog 46 [B8 tag,.slice A n c] F (Str (Sha.tagged tag ls)):=by
  have hlen:ls.length=n:=by have:=hl.1;simpa [qAG] using this
  have htl:=Sha.tagB_length tag ls
  have hfl:=Sha.tagParts_flat tag ls
  rw [hlen] at hfl htl
  refine Ct.walk func46 O ntmps46 O (λw0 hw0=>?_)
  refine J.g λ_ j1=>J.b O<|J.c j1<|J.g λ_ j2=>J.b O<|J.p (qAE (l:= [.tmp 8]) (xs:= [[B8 tag]]) O O O O qBt el5 O xC xC xD) O λg9 _=>J.f (qBn (l:= [tag]) O O qBt u5_ u9_ (m:=blk g9 [B8 tag] 5) xD (qAl (q:=True) (xs:= [[B8 tag]]) O xD).sl) O<|J.p (qAE (l:= [.tmp 10]) (xs:= [[Str [tag]]]) O O O O qAk el9 O xC xC xD) O λg11 _=>J.c5 [0,2] [F,blk g11 [Str [tag]] 9] O xC<|J.b O<|J.c j2<|J.q λ_ j3=>J.g λ_ j4=>J.b O<|J.f (qAR qAk O O) O<|J.b O<|J.c j4<|J.V<|J.b6 (X:=Nat×Option Addr×Nat×Hp) (λx=> [(5,.slice x.2.1 (2*x.1+1) x.2.2.1),(12,.slice A n c),(13,I n),(14,I x.1)]) (λx=> [F,x.2.2.2]) (λx=>x.1≤n∧Row x.2.2.2 9 1 x.2.1 (2*x.1+1) x.2.2.1 (qAG (Sha.tagParts tag ls x.1))) (λx=>n-x.1) (0,some ⟨g11,0,none⟩,1,blk g11 [Str [tag]] 9) (⟨jG _,by unfold Sha.tagParts;exact qAl (xs:=qAG [[tag]]) O (by simp [qAG])⟩) ⟨O,O,O,O,trivial⟩ (λ_ h=>h) ?_
  rintro⟨k,A1,c1,m⟩ ⟨hk,hrow⟩ I0 hI0
  dsimp only at hk hrow⊢
  refine J.g λ_ j5=>J.f (qAS O O O) O<|J.c j5<|J.q λ_ j6=>J.a0 O (λh15=>?_) (λh15=>?_)
  ·
    refine J.T j6<|J.q λ_ j7=>J.V<|J.q λ_ j8=>?_
    have hkn:k<n:=xB
    obtain ⟨s,hs⟩: ∃s,ls[k]?=some s:=⟨_,jC xB⟩
    have hsl:=qUU hs
    refine J.H<|J.f (qAF O O O qAk z9_ hl xB) O<|J.f (qAI O O b9_ xD (hl.elem (qAY hs))) O<|J.b O<|J.c j8<|J.H<|J.k 2 O<|J.f (qAs u9_ O O) O<|J.f (qAx O O u3_ qEd xB) O<|J.p (qBr O O (λF' _=>qFB F' _ 4 xC)) O ?_
    rintro⟨A22,c22,m22⟩ h22
    try dsimp only at h22
    refine J.f (qBn O O qBt u5_ u9_ (m:=m22) xD h22.sl) O<|J.b O<|J.p (qAE (l:= [.tmp 23,.tmp 24]) (xs:= [[Str (Sha.numB (UInt64.ofNat s.length) 4)],[Str s]]) O O O O qAk el9 O xC xC xD) O λg25 _=>J.p (qAU (i:=1) (m2:=blk g25 [Str (Sha.numB (UInt64.ofNat s.length) 4),Str s] 9) O O O qAk qAk el9 O hrow xD (qAl (q:=True) (xs:=qAG [(Sha.numB (UInt64.ofNat s.length) 4),s]) O (by simp [qAG])).sl (by simp [qAG,Value.oneCell']) xB xB) O ?_
    rintro⟨A26,c26,m26⟩ h26
    try dsimp only at h26
    rw [←qCO,←Sha.tagParts_succ tag ls k hs] at h26
    refine J.c5 [0,1] [F,m26] O xC<|J.b O<|J.a4<|J.a3<|J.u (J.G j7 ?_)
    refine J.H<|J.f (qAQ O O O xB) O<|J.b O<|J.a4<|J.u<|J.a5 (k+1,A26,c26,m26) (λx (hx:_∧n-x.1<n-k)=>hI0 x hx.1 hx.2) ⟨⟨by dsimp only;omega,h26⟩,by dsimp only;omega⟩ ⟨O,O,O,O,trivial⟩ (λ_ h=>h)
  refine J.b3<|J.a1<|J.a1<|J.b4 ?_
  refine J.u (J.G j3 ?_)
  refine J.q λ_ j9=>?_
  have hkn:n=k:=xB
  subst hkn
  exact J.H<|J.b O<|J.p (qAa O O (λF' hF=>qVf F' (hK.mono (Fa hF)) A1 (2*n+1) c1 (Sha.tagParts tag ls n) (hrow.sl.mono (Fa hF)) (by rw [hfl];omega) xB)) O λg29 _=>J.f (qBD (l:=0) (h:=16) u9_ O O O O (by rw [Sha.sum_length];omega)) O<|J.b O<|J.c j9<|J.A<|J.E hw0 O () (by rw [hfl];rfl) trivial [0] O xC
end Go.Proofs.YtcgcjaflllmlpaaGreatDoor
namespace Go.Proofs.YtcgcjaflllmlpaaGreatDoor
open Go Go.Fw Go.Proofs.Tryz
namespace Sha
end Sha
attribute [local irreducible] Sha.tagB
end Go.Proofs.YtcgcjaflllmlpaaGreatDoor
namespace Go.Proofs.YtcgcjaflllmlpaaGreatDoor
namespace SN
def qAy{α:Type}(n:Nat)(g:Nat→α):α:=Nat.rec (g 0) (λm _=>g (Nat.succ m)) n
theorem qAr{α:Type}(n:Nat)(g:Nat→α):qAy n g=g n:=by cases n<;>rfl
noncomputable def forceL{α:Type}(l:List Nat):(List Nat→α)→α:=List.rec (λg=>g []) (λa _ ih g=>qAy a λx=>ih λr=>g (x::r)) l
theorem qA8{α:Type}: ∀(l:List Nat) (g:List Nat→α),forceL l g=g l
 | [],_=>rfl
 |a::l,g=>by
  show qAy a (λx=>forceL l λr=>g (x::r))=g (a::l)
  rw [qAr,qA8 l]
def rot(x r q:Nat):Nat:=x/r+x%r*q
noncomputable def sch(n:Nat):Nat→Nat→Nat→Nat→Nat→Nat→Nat→Nat→Nat→Nat→Nat→Nat→Nat→Nat→Nat→Nat→List Nat:=
 Nat.rec (λa b c d e f g h i j k l m n o p=> [a,b,c,d,e,f,g,h,i,j,k,l,m,n,o,p])
  (λ_ ih a b c d e f g h i j k l m n o p=>a::qAy ((a+Nat.xor (Nat.xor (rot b 128 33554432) (rot b 262144 16384)) (b/8)+j+Nat.xor (Nat.xor (rot o 131072 32768) (rot o 524288 8192)) (o/1024))%4294967296) λx=>ih b c d e f g h i j k l m n o p x) n
noncomputable def rds(kw:List Nat):List Nat→Nat→Nat→Nat→Nat→Nat→Nat→Nat→Nat→List Nat:=
 List.rec (λ_ a b c d e f g h=> [a,b,c,d,e,f,g,h])
  (λk _ ih ws a b c d e f g h=>List.rec [] (λw ws _=>
   qAy ((h+Nat.xor (Nat.xor (rot e 64 67108864) (rot e 2048 2097152)) (rot e 33554432 128)+Nat.xor (Nat.land e f) (Nat.land (4294967295-e) g)+k+w)%4294967296) λt1=>
   qAy ((t1+(Nat.xor (Nat.xor (rot a 4 1073741824) (rot a 8192 524288)) (rot a 4194304 1024)+Nat.xor (Nat.xor (Nat.land a b) (Nat.land a c)) (Nat.land b c)))%4294967296) λx=>
   qAy ((d+t1)%4294967296) λy=>ih ws x a b c y e f g) ws) kw
theorem qTw(k w:Nat)(ks ws:List Nat)(a b c d e f g h:Nat):rds (k::ks) (w::ws) a b c d e f g h=
      qAy ((h+Nat.xor (Nat.xor (rot e 64 67108864) (rot e 2048 2097152)) (rot e 33554432 128)+Nat.xor (Nat.land e f) (Nat.land (4294967295-e) g)+k+w)%4294967296) λt1=>
      qAy ((t1+(Nat.xor (Nat.xor (rot a 4 1073741824) (rot a 8192 524288)) (rot a 4194304 1024)+Nat.xor (Nat.xor (Nat.land a b) (Nat.land a c)) (Nat.land b c)))%4294967296) λx=>
      qAy ((d+t1)%4294967296) λy=>rds ks ws x a b c y e f g:=rfl
theorem qTk(n' a b c d e f g h i j k l m n o p:Nat):sch (n'+1) a b c d e f g h i j k l m n o p=a::qAy ((a+Nat.xor (Nat.xor (rot b 128 33554432) (rot b 262144 16384)) (b/8)+j+Nat.xor (Nat.xor (rot o 131072 32768) (rot o 524288 8192)) (o/1024))%4294967296) λx=>sch n' b c d e f g h i j k l m n o p x:=rfl
theorem qXD(ws:List Nat)(a b c d e f g h:Nat):rds [] ws a b c d e f g h= [a,b,c,d,e,f,g,h]:=rfl
theorem qTj(a b c d e f g h i j k l m n o p:Nat):sch 0 a b c d e f g h i j k l m n o p= [a,b,c,d,e,f,g,h,i,j,k,l,m,n,o,p]:=rfl
attribute [local irreducible] rds sch
theorem rot_eq(x:UInt32)(r:Nat)(h1:1≤r)(h2:r<32):rot x.toNat (2^r) (4294967296/2^r)=(Sha.rotr x r).toNat:=(R3.rotr_nat x r h1 h2).symm
theorem xor_eq(a b:UInt32):Nat.xor a.toNat b.toNat=(a^^^b).toNat:=(UInt32.toNat_xor a b).symm
theorem and_eq(a b:UInt32):Nat.land a.toNat b.toNat=(a&&&b).toNat:=(UInt32.toNat_and a b).symm
theorem not_eq(a:UInt32):4294967295-a.toNat=(~~~ a).toNat:=by simp
theorem qTy(k w:UInt32)(ks ws:List Nat)(s:Sha.St8):rds (k.toNat::ks) (w.toNat::ws) s.a.toNat s.b.toNat s.c.toNat s.d.toNat s.e.toNat s.f.toNat s.g.toNat s.h.toNat=
    rds ks ws (Sha.rnd w k s).a.toNat (Sha.rnd w k s).b.toNat (Sha.rnd w k s).c.toNat (Sha.rnd w k s).d.toNat (Sha.rnd w k s).e.toNat (Sha.rnd w k s).f.toNat (Sha.rnd w k s).g.toNat (Sha.rnd w k s).h.toNat:=by
  obtain ⟨S1,hS1⟩: ∃x,x=Sha.rotr s.e 6^^^Sha.rotr s.e 11^^^Sha.rotr s.e 25:=⟨_,rfl⟩
  obtain ⟨CH,hCH⟩: ∃x,x=s.e&&&s.f^^^ ~~~ s.e&&&s.g:=⟨_,rfl⟩
  obtain ⟨T1,hT1⟩: ∃x,x=s.h+S1+CH+k+w:=⟨_,rfl⟩
  obtain ⟨S0,hS0⟩: ∃x,x=Sha.rotr s.a 2^^^Sha.rotr s.a 13^^^Sha.rotr s.a 22:=⟨_,rfl⟩
  obtain ⟨MJ,hMJ⟩: ∃x,x=s.a&&&s.b^^^s.a&&&s.c^^^s.b&&&s.c:=⟨_,rfl⟩
  have hrn:Sha.rnd w k s=⟨T1+(S0+MJ),s.a,s.b,s.c,s.d+T1,s.e,s.f,s.g⟩:=by rw [hT1,hS0,hMJ,hS1,hCH];rfl
  have e1:Nat.xor (Nat.xor (rot s.e.toNat 64 67108864) (rot s.e.toNat 2048 2097152)) (rot s.e.toNat 33554432 128)=S1.toNat:=by
    rw [show rot s.e.toNat 64 67108864=_ from rot_eq s.e 6 (by decide) (by decide),show rot s.e.toNat 2048 2097152=_ from rot_eq s.e 11 (by decide) (by decide),show rot s.e.toNat 33554432 128=_ from rot_eq s.e 25 (by decide) (by decide),xor_eq,xor_eq,←hS1]
  have e2:Nat.xor (Nat.land s.e.toNat s.f.toNat) (Nat.land (4294967295-s.e.toNat) s.g.toNat)=CH.toNat:=by rw [not_eq,and_eq,and_eq,xor_eq,←hCH]
  have e3:Nat.xor (Nat.xor (rot s.a.toNat 4 1073741824) (rot s.a.toNat 8192 524288)) (rot s.a.toNat 4194304 1024)=S0.toNat:=by
    rw [show rot s.a.toNat 4 1073741824=_ from rot_eq s.a 2 (by decide) (by decide),show rot s.a.toNat 8192 524288=_ from rot_eq s.a 13 (by decide) (by decide),show rot s.a.toNat 4194304 1024=_ from rot_eq s.a 22 (by decide) (by decide),xor_eq,xor_eq,←hS0]
  have e4:Nat.xor (Nat.xor (Nat.land s.a.toNat s.b.toNat) (Nat.land s.a.toNat s.c.toNat)) (Nat.land s.b.toNat s.c.toNat)=MJ.toNat:=by rw [and_eq,and_eq,and_eq,xor_eq,xor_eq,←hMJ]
  have t1:(s.h.toNat+S1.toNat+CH.toNat+k.toNat+w.toNat)%4294967296=T1.toNat:=by rw [hT1];simp only [UInt32.toNat_add];omega
  have t2:(T1.toNat+(S0.toNat+MJ.toNat))%4294967296=(T1+(S0+MJ)).toNat:=by simp only [UInt32.toNat_add];omega
  have t3:(s.d.toNat+T1.toNat)%4294967296=(s.d+T1).toNat:=by simp only [UInt32.toNat_add]
  rw [hrn,qTw,qAr,e1,e2,t1,qAr,e3,e4,t2,qAr,t3]
def fold(ks ws:List UInt32)(s:Sha.St8):Sha.St8:=(ks.zip ws).foldl (λs kw=>Sha.rnd kw.2 kw.1 s) s
theorem fold_cons(k w:UInt32)(ks ws:List UInt32)(s:Sha.St8):fold (k::ks) (w::ws) s=fold ks ws (Sha.rnd w k s):=by unfold fold;rw [List.zip_cons_cons,List.foldl_cons]
theorem qNw(ws:List UInt32)(s:Sha.St8):fold [] ws s=s:=by unfold fold;rw [List.zip_nil_left,List.foldl_nil]
theorem qTx(ks:List UInt32): ∀(ws:List UInt32) (s:Sha.St8),ks.length=ws.length→rds (ks.map UInt32.toNat) (ws.map UInt32.toNat) s.a.toNat s.b.toNat s.c.toNat s.d.toNat s.e.toNat s.f.toNat s.g.toNat s.h.toNat=(fold ks ws s).list.map UInt32.toNat:=by
 induction ks with
 |nil=>
  intro ws s h
  cases ws with
  |nil=>rw [List.map_nil,qXD,qNw,Sha.St8.list];rfl
  |cons _ _=>cases h
 |cons k ks ih=>
  intro ws s h
  cases ws with
  |nil=>cases h
  |cons w ws=>
   rw [List.map_cons,List.map_cons,qTy k w (ks.map UInt32.toNat) (ws.map UInt32.toNat) s,fold_cons,ih ws (Sha.rnd w k s) (by simpa using h)]
theorem fold_rnds(ws:List UInt32)(s:Sha.St8)(hw:ws.length=64): ∀m i,i+m=64→fold (Sha.K.drop i) (ws.drop i) (Sha.rnds ws s i)=Sha.rnds ws s 64
 |0,i,h=>by
  obtain rfl:i=64:=by omega
  rw [List.drop_of_length_le (l:=ws) (by omega),List.drop_of_length_le (l:=Sha.K) (Nat.le_refl 64),qNw]
 |m+1,i,h=>by
  have h1:i<Sha.K.length:=by show i<64;omega
  have h2:i<ws.length:=by omega
  rw [List.drop_eq_getElem_cons h1,List.drop_eq_getElem_cons h2,fold_cons]
  have e:Sha.rnd ws[i] Sha.K[i] (Sha.rnds ws s i)=Sha.rnds ws s (i+1):=by
   rw [Sha.rnds,List.getD_eq_getElem?_getD,List.getD_eq_getElem?_getD,List.getElem?_eq_getElem h1,List.getElem?_eq_getElem h2];rfl
  rw [e]
  exact fold_rnds ws s hw m (i+1) (by omega)
theorem exts_succ'(l:List UInt32): ∀n,Sha.exts (n+1) l=Sha.exts n (Sha.ext l)
 |0=>rfl
 |n+1=>by rw [Sha.exts,exts_succ' l n];rfl
theorem qGH(p l:List UInt32)(k:Nat):(p++l).getD (p.length+k) 0=l.getD k 0:=by
 rw [List.getD_eq_getElem?_getD,List.getElem?_append_right (by omega),Nat.add_sub_cancel_left,←List.getD_eq_getElem?_getD]
theorem qY2(b:UInt32):Nat.xor (Nat.xor (rot b.toNat 128 33554432) (rot b.toNat 262144 16384)) (b.toNat/8)=(Sha.sg0 b).toNat:=by
 have h1:rot b.toNat 128 33554432=(Sha.rotr b 7).toNat:=rot_eq b 7 (by decide) (by decide)
 have h2:rot b.toNat 262144 16384=(Sha.rotr b 18).toNat:=rot_eq b 18 (by decide) (by decide)
 have h3:b.toNat/8=(Sha.shr b 3).toNat:=(R3.shr_nat b 3 (by decide)).symm
 rw [h1,h2,h3,xor_eq,xor_eq];unfold Sha.sg0;rfl
theorem qY1(b:UInt32):Nat.xor (Nat.xor (rot b.toNat 131072 32768) (rot b.toNat 524288 8192)) (b.toNat/1024)=(Sha.sg1 b).toNat:=by
 have h1:rot b.toNat 131072 32768=(Sha.rotr b 17).toNat:=rot_eq b 17 (by decide) (by decide)
 have h2:rot b.toNat 524288 8192=(Sha.rotr b 19).toNat:=rot_eq b 19 (by decide) (by decide)
 have h3:b.toNat/1024=(Sha.shr b 10).toNat:=(R3.shr_nat b 10 (by decide)).symm
 rw [h1,h2,h3,xor_eq,xor_eq];unfold Sha.sg1;rfl
theorem ext_eq(q:List UInt32)(a b c d e f g h i j k l m n' o p:UInt32):Sha.ext (q++ [a,b,c,d,e,f,g,h,i,j,k,l,m,n',o,p])=(q++ [a])++ [b,c,d,e,f,g,h,i,j,k,l,m,n',o,p,a+Sha.sg0 b+j+Sha.sg1 o]:=by
 have hlen:(q++ [a,b,c,d,e,f,g,h,i,j,k,l,m,n',o,p]).length=q.length+16:=by rw [List.length_append];rfl
 unfold Sha.ext
 have g0:(q++ [a,b,c,d,e,f,g,h,i,j,k,l,m,n',o,p]).getD (q.length+0) 0=a:=qGH q [a,b,c,d,e,f,g,h,i,j,k,l,m,n',o,p] 0
 have g1:(q++ [a,b,c,d,e,f,g,h,i,j,k,l,m,n',o,p]).getD (q.length+1) 0=b:=qGH q [a,b,c,d,e,f,g,h,i,j,k,l,m,n',o,p] 1
 have g9:(q++ [a,b,c,d,e,f,g,h,i,j,k,l,m,n',o,p]).getD (q.length+9) 0=j:=qGH q [a,b,c,d,e,f,g,h,i,j,k,l,m,n',o,p] 9
 have g14:(q++ [a,b,c,d,e,f,g,h,i,j,k,l,m,n',o,p]).getD (q.length+14) 0=o:=qGH q [a,b,c,d,e,f,g,h,i,j,k,l,m,n',o,p] 14
 rw [hlen,show q.length+16-16=q.length+0 by omega,show q.length+16-15=q.length+1 by omega,show q.length+16-7=q.length+9 by omega,show q.length+16-2=q.length+14 by omega,g0,g1,g9,g14]
 generalize a+Sha.sg0 b+j+Sha.sg1 o=x
 simp only [List.append_assoc,List.cons_append,List.nil_append]
theorem sch_sum(a b j o:UInt32):(a.toNat+(Sha.sg0 b).toNat+j.toNat+(Sha.sg1 o).toNat)%4294967296=(a+Sha.sg0 b+j+Sha.sg1 o).toNat:=by
 generalize Sha.sg0 b=x
 generalize Sha.sg1 o=y
 simp only [UInt32.toNat_add];omega
theorem qTl(n:Nat): ∀(q:List UInt32) (a b c d e f g h i j k l m n' o p:UInt32),(Sha.exts n (q++ [a,b,c,d,e,f,g,h,i,j,k,l,m,n',o,p])).map UInt32.toNat=q.map UInt32.toNat++sch n a.toNat b.toNat c.toNat d.toNat e.toNat f.toNat g.toNat h.toNat i.toNat j.toNat k.toNat l.toNat m.toNat n'.toNat o.toNat p.toNat:=by
 induction n with
 |zero=>intro q a b c d e f g h i j k l m n' o p;rw [Sha.exts,List.map_append,qTj];rfl
 |succ n ih=>
  intro q a b c d e f g h i j k l m n' o p
  rw [exts_succ',ext_eq,ih (q++ [a]),qTk,qAr,qY2,qY1,sch_sum]
  generalize sch n b.toNat c.toNat d.toNat e.toNat f.toNat g.toNat h.toNat i.toNat j.toNat k.toNat l.toNat m.toNat n'.toNat o.toNat p.toNat _=z
  simp only [List.map_append,List.append_assoc,List.map_cons,List.map_nil,List.cons_append,List.nil_append]
def w4(l:List Nat):Nat:=((l.getD 0 0*256+l.getD 1 0)*256+l.getD 2 0)*256+l.getD 3 0
theorem getD_map(l:List UInt8)(i:Nat):(l.map UInt8.toNat).getD i 0=(l.getD i 0).toNat:=by
 rw [List.getD_eq_getElem?_getD,List.getD_eq_getElem?_getD,List.getElem?_map]
 cases l[i]?<;>rfl
theorem w4_eq(l:List UInt8)(i:Nat):w4 ((l.map UInt8.toNat).drop (4*i))=(Sha.word l i).toNat:=by
 have hg: ∀k,(((l.map UInt8.toNat).drop (4*i)).getD k 0)=(l.getD (4*i+k) 0).toNat:=λk=>by
  rw [List.getD_eq_getElem?_getD,List.getElem?_drop,←List.getD_eq_getElem?_getD,getD_map]
 unfold w4 Sha.word
 rw [hg,hg,hg,hg,R3.be32_nat,Nat.add_zero]
 omega
noncomputable def mixN(ks:List Nat)(b:List Nat)(A B C D E F G H:Nat):List Nat:=
 qAy (w4 b) λa0=>qAy (w4 (b.drop 4)) λa1=>qAy (w4 (b.drop 8)) λa2=>qAy (w4 (b.drop 12)) λa3=>
 qAy (w4 (b.drop 16)) λa4=>qAy (w4 (b.drop 20)) λa5=>qAy (w4 (b.drop 24)) λa6=>qAy (w4 (b.drop 28)) λa7=>
 qAy (w4 (b.drop 32)) λa8=>qAy (w4 (b.drop 36)) λa9=>qAy (w4 (b.drop 40)) λa10=>qAy (w4 (b.drop 44)) λa11=>
 qAy (w4 (b.drop 48)) λa12=>qAy (w4 (b.drop 52)) λa13=>qAy (w4 (b.drop 56)) λa14=>qAy (w4 (b.drop 60)) λa15=>
 rds ks (sch 48 a0 a1 a2 a3 a4 a5 a6 a7 a8 a9 a10 a11 a12 a13 a14 a15) A B C D E F G H
def KN:List Nat:= [1116352408,1899447441,3049323471,3921009573,961987163,1508970993,2453635748,2870763221,3624381080,310598401,607225278,1426881987,1925078388,2162078206,2614888103,3248222580,3835390401,4022224774,264347078,604807628,770255983,1249150122,1555081692,1996064986,2554220882,2821834349,2952996808,3210313671,3336571891,3584528711,113926993,338241895,666307205,773529912,1294757372,1396182291,1695183700,1986661051,2177026350,2456956037,2730485921,2820302411,3259730800,3345764771,3516065817,3600352804,4094571909,275423344,430227734,506948616,659060556,883997877,958139571,1322822218,1537002063,1747873779,1955562222,2024104815,2227730452,2361852424,2428436474,2756734187,3204031479,3329325298]
theorem KN_eq:KN=Sha.K.map UInt32.toNat:=by decide+kernel
theorem qXs(b:List UInt8)(s:Sha.St8):mixN KN (b.map UInt8.toNat) s.a.toNat s.b.toNat s.c.toNat s.d.toNat s.e.toNat s.f.toNat s.g.toNat s.h.toNat=(Sha.rnds (Sha.sched b) s 64).list.map UInt32.toNat:=by
 have hw:=λi=>w4_eq b i
 have h0:=hw 0;have h1:=hw 1;have h2:=hw 2;have h3:=hw 3;have h4:=hw 4;have h5:=hw 5;have h6:=hw 6;have h7:=hw 7
 have h8:=hw 8;have h9:=hw 9;have h10:=hw 10;have h11:=hw 11;have h12:=hw 12;have h13:=hw 13;have h14:=hw 14;have h15:=hw 15
 simp only [Nat.reduceMul,Nat.mul_zero,List.drop_zero] at h0 h1 h2 h3 h4 h5 h6 h7 h8 h9 h10 h11 h12 h13 h14 h15
 unfold mixN
 simp only [qAr]
 rw [h0,h1,h2,h3,h4,h5,h6,h7,h8,h9,h10,h11,h12,h13,h14,h15]
 have hs:=qTl 48 [] (Sha.word b 0) (Sha.word b 1) (Sha.word b 2) (Sha.word b 3) (Sha.word b 4) (Sha.word b 5) (Sha.word b 6) (Sha.word b 7) (Sha.word b 8) (Sha.word b 9) (Sha.word b 10) (Sha.word b 11) (Sha.word b 12) (Sha.word b 13) (Sha.word b 14) (Sha.word b 15)
 have hf: []++ [Sha.word b 0,Sha.word b 1,Sha.word b 2,Sha.word b 3,Sha.word b 4,Sha.word b 5,Sha.word b 6,Sha.word b 7,Sha.word b 8,Sha.word b 9,Sha.word b 10,Sha.word b 11,Sha.word b 12,Sha.word b 13,Sha.word b 14,Sha.word b 15]=Sha.firsts b 16:=rfl
 rw [hf,List.map_nil,List.nil_append] at hs
 rw [←hs,show Sha.exts 48 (Sha.firsts b 16)=Sha.sched b from rfl,KN_eq,qTx _ _ _ (by rw [Sha.sched_length];rfl)]
 have:=fold_rnds (Sha.sched b) s (Sha.sched_length b) 64 0 rfl
 rw [List.drop_zero,List.drop_zero] at this
 rw [show Sha.rnds (Sha.sched b) s 0=s from rfl] at this
 rw [this]
noncomputable def blocks(n:Nat):List Nat→Nat→Nat→Nat→Nat→Nat→Nat→Nat→Nat→List Nat:=
 Nat.rec (λ_ a b c d e f g h=> [a,b,c,d,e,f,g,h])
  (λ_ ih p a b c d e f g h=>forceL (mixN KN p a b c d e f g h) λr=>
   qAy ((a+r.getD 0 0)%4294967296) λa'=>qAy ((b+r.getD 1 0)%4294967296) λb'=>qAy ((c+r.getD 2 0)%4294967296) λc'=>qAy ((d+r.getD 3 0)%4294967296) λd'=>
   qAy ((e+r.getD 4 0)%4294967296) λe'=>qAy ((f+r.getD 5 0)%4294967296) λf'=>qAy ((g+r.getD 6 0)%4294967296) λg'=>qAy ((h+r.getD 7 0)%4294967296) λh'=>
   ih (p.drop 64) a' b' c' d' e' f' g' h') n
theorem qIG(s:Sha.St8)(p:List UInt8): ∀k,Sha.mixes s p (k+1)=Sha.mixes (Sha.mix s p) (p.drop 64) k
 |0=>by rw [Sha.mixes,Sha.mixes,Sha.mixes,Nat.mul_zero,List.drop_zero]
 |k+1=>by
  rw [Sha.mixes,qIG s p k,Sha.mixes,List.drop_drop]
  congr 2
  omega
theorem qMb(n:Nat)(p:List Nat)(a b c d e f g h:Nat):blocks (n+1) p a b c d e f g h=forceL (mixN KN p a b c d e f g h) λr=>qAy ((a+r.getD 0 0)%4294967296) λa'=>qAy ((b+r.getD 1 0)%4294967296) λb'=>qAy ((c+r.getD 2 0)%4294967296) λc'=>qAy ((d+r.getD 3 0)%4294967296) λd'=>qAy ((e+r.getD 4 0)%4294967296) λe'=>qAy ((f+r.getD 5 0)%4294967296) λf'=>qAy ((g+r.getD 6 0)%4294967296) λg'=>qAy ((h+r.getD 7 0)%4294967296) λh'=>blocks n (p.drop 64) a' b' c' d' e' f' g' h':=rfl
theorem qMa(p:List Nat)(a b c d e f g h:Nat):blocks 0 p a b c d e f g h= [a,b,c,d,e,f,g,h]:=rfl
attribute [local irreducible] blocks mixN KN
theorem add_eq(x y:UInt32):(x.toNat+y.toNat)%4294967296=(x+y).toNat:=by simp only [UInt32.toNat_add]
theorem g0(r:Sha.St8):(r.list.map UInt32.toNat).getD 0 0=r.a.toNat:=rfl
theorem f0(s r:Sha.St8):(s.add r).a=s.a+r.a:=rfl
theorem g1(r:Sha.St8):(r.list.map UInt32.toNat).getD 1 0=r.b.toNat:=rfl
theorem f1(s r:Sha.St8):(s.add r).b=s.b+r.b:=rfl
theorem g2(r:Sha.St8):(r.list.map UInt32.toNat).getD 2 0=r.c.toNat:=rfl
theorem f2(s r:Sha.St8):(s.add r).c=s.c+r.c:=rfl
theorem g3(r:Sha.St8):(r.list.map UInt32.toNat).getD 3 0=r.d.toNat:=rfl
theorem f3(s r:Sha.St8):(s.add r).d=s.d+r.d:=rfl
theorem g4(r:Sha.St8):(r.list.map UInt32.toNat).getD 4 0=r.e.toNat:=rfl
theorem f4(s r:Sha.St8):(s.add r).e=s.e+r.e:=rfl
theorem g5(r:Sha.St8):(r.list.map UInt32.toNat).getD 5 0=r.f.toNat:=rfl
theorem f5(s r:Sha.St8):(s.add r).f=s.f+r.f:=rfl
theorem g6(r:Sha.St8):(r.list.map UInt32.toNat).getD 6 0=r.g.toNat:=rfl
theorem f6(s r:Sha.St8):(s.add r).g=s.g+r.g:=rfl
theorem g7(r:Sha.St8):(r.list.map UInt32.toNat).getD 7 0=r.h.toNat:=rfl
theorem f7(s r:Sha.St8):(s.add r).h=s.h+r.h:=rfl
theorem qSa(n:Nat): ∀(p:List UInt8) (s:Sha.St8),blocks n (p.map UInt8.toNat) s.a.toNat s.b.toNat s.c.toNat s.d.toNat s.e.toNat s.f.toNat s.g.toNat s.h.toNat=(Sha.mixes s p n).list.map UInt32.toNat:=by
 induction n with
 |zero=>intro p s;rw [qMa,Sha.mixes];rfl
 |succ n ih=>
  intro p s
  have hm:=qXs p s
  generalize hr:Sha.rnds (Sha.sched p) s 64=r at hm
  have hmx:Sha.mix s p=s.add r:=by unfold Sha.mix;rw [hr]
  have hi:=ih (p.drop 64) (s.add r)
  rw [qIG,hmx,←hi,qMb,qA8,hm,qAr,qAr,qAr,qAr,qAr,qAr,qAr,qAr]
  have h0:(s.a.toNat+(r.list.map UInt32.toNat).getD 0 0)%4294967296=(s.add r).a.toNat:=by rw [g0,f0,add_eq]
  have h1:(s.b.toNat+(r.list.map UInt32.toNat).getD 1 0)%4294967296=(s.add r).b.toNat:=by rw [g1,f1,add_eq]
  have h2:(s.c.toNat+(r.list.map UInt32.toNat).getD 2 0)%4294967296=(s.add r).c.toNat:=by rw [g2,f2,add_eq]
  have h3:(s.d.toNat+(r.list.map UInt32.toNat).getD 3 0)%4294967296=(s.add r).d.toNat:=by rw [g3,f3,add_eq]
  have h4:(s.e.toNat+(r.list.map UInt32.toNat).getD 4 0)%4294967296=(s.add r).e.toNat:=by rw [g4,f4,add_eq]
  have h5:(s.f.toNat+(r.list.map UInt32.toNat).getD 5 0)%4294967296=(s.add r).f.toNat:=by rw [g5,f5,add_eq]
  have h6:(s.g.toNat+(r.list.map UInt32.toNat).getD 6 0)%4294967296=(s.add r).g.toNat:=by rw [g6,f6,add_eq]
  have h7:(s.h.toNat+(r.list.map UInt32.toNat).getD 7 0)%4294967296=(s.add r).h.toNat:=by rw [g7,f7,add_eq]
  rw [List.map_drop,h0,h1,h2,h3,h4,h5,h6,h7]
def bytes4(x:Nat):List Nat:= [x/16777216%256,x/65536%256,x/256%256,x%256]
theorem bytes4_eq(x:Nat)(h:x<18446744073709551616):bytes4 x=(Sha.numB (UInt64.ofNat x) 4).map UInt8.toNat:=by
 rw [R3.four_nat x h]
 simp [bytes4,UInt8.toNat_ofNat']
noncomputable def padN(l:List Nat):List Nat:=l++128::List.replicate ((119-l.length%64)%64) 0++(bytes4 (8*l.length/4294967296)++bytes4 (8*l.length))
theorem padN_eq(l:List UInt8)(h:l.length<1152921504606846976):padN (l.map UInt8.toNat)=(Sha.pad l).map UInt8.toNat:=by
 unfold padN Sha.pad
 simp only [List.map_append,List.length_map,List.map_replicate,List.map_cons,List.map_nil,List.append_assoc,List.cons_append,List.nil_append]
 have e:(8*UInt64.ofNat l.length).toNat=8*l.length:=by
  rw [UInt64.toNat_mul,UInt64.toNat_ofNat',Nat.mod_eq_of_lt (show l.length<2^64 by omega)]
  exact Nat.mod_eq_of_lt (by show 8*l.length<18446744073709551616;omega)
 have h8:(Sha.numB (8*UInt64.ofNat l.length) 8).map UInt8.toNat=bytes4 (8*l.length/4294967296)++bytes4 (8*l.length):=by
  unfold Sha.numB
  rw [e]
  simp [List.range_succ,R3.u8_of64,bytes4,UInt8.toNat_ofNat',Nat.div_div_eq_div_mul]
 rw [h8]
 rfl
noncomputable def sumN(l:List Nat):List Nat:=forceL (padN l) λp=>(blocks (p.length/64) p 1779033703 3144134277 1013904242 2773480762 1359893119 2600822924 528734635 1541459225).flatMap bytes4
theorem sumN_eq(l:List UInt8)(h:l.length<1152921504606846976):sumN (l.map UInt8.toNat)=(Sha.sum l).map UInt8.toNat:=by
 unfold sumN
 rw [qA8,padN_eq l h,List.length_map]
 have hb:=qSa ((Sha.pad l).length/64) (Sha.pad l) Sha.init
 rw [show blocks ((Sha.pad l).length/64) ((Sha.pad l).map UInt8.toNat) 1779033703 3144134277 1013904242 2773480762 1359893119 2600822924 528734635 1541459225=_ from hb]
 unfold Sha.sum Sha.out
 generalize (Sha.mixes Sha.init (Sha.pad l) ((Sha.pad l).length/64)).list=L
 induction L with
 |nil=>rfl
 |cons x L ih=>
  rw [List.map_cons,List.flatMap_cons,List.flatMap_cons,List.map_append,ih,bytes4_eq _ (by have:=x.toNat_lt;omega)]
  congr 2
  rw [show x.toUInt64=UInt64.ofNat x.toNat from by apply UInt64.toNat_inj.1;simp]
noncomputable def tagN(tag:Nat)(ls:List (List Nat)):List Nat:=(sumN (tag::ls.flatMap λs=>bytes4 s.length++s)).take 16
theorem tagN_eq(tag:UInt8)(ls:List (List UInt8))(h:ls.flatten.length+4*ls.length<1152921504606846975):tagN tag.toNat (ls.map (List.map UInt8.toNat))=(Sha.tagged tag ls).map UInt8.toNat:=by
 unfold tagN Sha.tagged
 have e:tag.toNat::(ls.map (List.map UInt8.toNat)).flatMap (λs=>bytes4 s.length++s)=(Sha.tagB tag ls).map UInt8.toNat:=by
  unfold Sha.tagB
  simp only [List.map_append,List.map_cons,List.map_nil,List.cons_append,List.nil_append]
  congr 1
  induction ls with
  |nil=>rfl
  |cons a l ih=>
   simp only [List.flatten_cons,List.length_append,List.length_cons] at h
   rw [List.map_cons,List.flatMap_cons,List.flatMap_cons,List.map_append,List.map_append,List.length_map,ih (by omega),bytes4_eq _ (by omega)]
 rw [e,sumN_eq _ (by rw [Sha.tagB_length];omega),List.map_take]
theorem of_toNat{a b:List UInt8}(h:a.map UInt8.toNat=b.map UInt8.toNat):a=b:=by
 induction a generalizing b with
 |nil=>cases b with
  |nil=>rfl
  |cons _ _=>cases h
 |cons x a ih=>cases b with
  |nil=>cases h
  |cons y b=>
   rw [List.map_cons,List.map_cons,List.cons.injEq] at h
   rw [UInt8.toNat_inj.1 h.1,ih h.2]
end SN
end Go.Proofs.YtcgcjaflllmlpaaGreatDoor
namespace Go.Proofs.YtcgcjaflllmlpaaGreatDoor
namespace SM
def qBH:Nat→(Nat→Nat)→Nat
 |0,_=>0
 |n+1,f=>f 0+18446744073709551616*qBH n (λi=>f (i+1))
theorem qA5: ∀{n:Nat} {f g:Nat→Nat},(∀i,f i=g i)→qBH n f=qBH n g
 |0,_,_,_=>rfl
 |n+1,f,g,h=>by rw [qBH,qBH,h 0,qA5 (λi=>h (i+1))]
theorem qBC: ∀(n:Nat) (f g:Nat→Nat),qBH n f+qBH n g=qBH n (λi=>f i+g i)
 |0,_,_=>rfl
 |n+1,f,g=>by
  have:=qBC n (λi=>f (i+1)) (λi=>g (i+1))
  simp only [qBH]
  rw [←this];omega
theorem qDu: ∀(n:Nat) (f:Nat→Nat) (c:Nat),qBH n f*c=qBH n (λi=>f i*c)
 |0,_,c=>Nat.zero_mul c
 |n+1,f,c=>by
  have:=qDu n (λi=>f (i+1)) c
  simp only [qBH]
  rw [←this,Nat.add_mul,Nat.mul_assoc]
theorem qQF{x y X Y:Nat}(hx:x<2^64)(hy:y<2^64):Nat.land (x+2^64*X) (y+2^64*Y)=Nat.land x y+2^64*Nat.land X Y:=by
 have hxy:Nat.land x y<2^64:=Nat.lt_of_le_of_lt Nat.and_le_left hx
 apply Nat.eq_of_testBit_eq
 intro i
 rw [Nat.add_comm x,Nat.add_comm y,Nat.add_comm (Nat.land x y)]
 show((2^64*X+x)&&&(2^64*Y+y)).testBit i=(2^64*Nat.land X Y+Nat.land x y).testBit i
 rw [Nat.testBit_and,Nat.testBit_two_pow_mul_add _ hx,Nat.testBit_two_pow_mul_add _ hy,Nat.testBit_two_pow_mul_add _ hxy]
 by_cases h:i<64
 · simp only [h,if_true];exact(Nat.testBit_and x y i).symm
 · simp only [h,if_false];exact(Nat.testBit_and X Y (i-64)).symm
theorem qQD{x y X Y:Nat}(hx:x<2^64)(hy:y<2^64):Nat.xor (x+2^64*X) (y+2^64*Y)=Nat.xor x y+2^64*Nat.xor X Y:=by
 have hxy:Nat.xor x y<2^64:=Nat.xor_lt_two_pow hx hy
 apply Nat.eq_of_testBit_eq
 intro i
 rw [Nat.add_comm x,Nat.add_comm y,Nat.add_comm (Nat.xor x y)]
 show((2^64*X+x)^^^(2^64*Y+y)).testBit i=(2^64*Nat.xor X Y+Nat.xor x y).testBit i
 rw [Nat.testBit_xor,Nat.testBit_two_pow_mul_add _ hx,Nat.testBit_two_pow_mul_add _ hy,Nat.testBit_two_pow_mul_add _ hxy]
 by_cases h:i<64
 · simp only [h,if_true];exact(Nat.testBit_xor x y i).symm
 · simp only [h,if_false];exact(Nat.testBit_xor X Y (i-64)).symm
theorem qQE{x m X M r:Nat}(hx:x<2^64)(hm:m<2^32)(hr:r≤32):Nat.land (Nat.shiftRight (x+2^64*X) r) (m+2^64*M)=Nat.land (Nat.shiftRight x r) m+2^64*Nat.land (Nat.shiftRight X r) M:=by
  have hm2:m<2^64:=Nat.lt_trans hm (by decide)
  have hxy:Nat.land (Nat.shiftRight x r) m<2^64:=Nat.lt_of_le_of_lt Nat.and_le_right hm2
  apply Nat.eq_of_testBit_eq
  intro i
  rw [Nat.add_comm x,Nat.add_comm m,Nat.add_comm (Nat.land _ _)]
  show(((2^64*X+x)>>>r)&&&(2^64*M+m)).testBit i=(2^64*Nat.land (Nat.shiftRight X r) M+Nat.land (Nat.shiftRight x r) m).testBit i
  rw [Nat.testBit_and,Nat.testBit_shiftRight,Nat.testBit_two_pow_mul_add _ hx,Nat.testBit_two_pow_mul_add _ hm2,Nat.testBit_two_pow_mul_add _ hxy]
  by_cases h:i<64
  · simp only [h,if_true]
    show _=((x>>>r)&&&m).testBit i
    rw [Nat.testBit_and,Nat.testBit_shiftRight]
    by_cases h2:r+i<64
    · simp only [h2,if_true]
    · have:m.testBit i=false:=Nat.testBit_lt_two_pow (Nat.lt_of_lt_of_le hm (Nat.pow_le_pow_right (by decide) (by omega)))
      rw [this,Bool.and_false,Bool.and_false]
  · have h2: ¬r+i<64:=by omega
    simp only [h,h2,if_false]
    show _=((X>>>r)&&&M).testBit (i-64)
    rw [Nat.testBit_and,Nat.testBit_shiftRight,show r+i-64=r+(i-64) by omega]
theorem qE3: ∀(n:Nat) {f g:Nat→Nat},(∀i,f i<2^64)→(∀i,g i<2^64)→Nat.land (qBH n f) (qBH n g)=qBH n (λi=>Nat.land (f i) (g i))
 |0,_,_,_,_=>Nat.and_zero _
 |n+1,f,g,hf,hg=>by
  have ih:=qE3 n (λi=>hf (i+1)) (λi=>hg (i+1))
  simp only [qBH]
  rw [←ih]
  exact qQF (hf 0) (hg 0)
theorem qKP: ∀(n:Nat) {f g:Nat→Nat},(∀i,f i<2^64)→(∀i,g i<2^64)→Nat.xor (qBH n f) (qBH n g)=qBH n (λi=>Nat.xor (f i) (g i))
 |0,_,_,_,_=>Nat.xor_zero _
 |n+1,f,g,hf,hg=>by
  have ih:=qKP n (λi=>hf (i+1)) (λi=>hg (i+1))
  simp only [qBH]
  rw [←ih]
  exact qQD (hf 0) (hg 0)
theorem qG1: ∀(n:Nat) {f:Nat→Nat} {m r:Nat},(∀i,f i<2^64)→m<2^32→r≤32→Nat.land (Nat.shiftRight (qBH n f) r) (qBH n λ_=>m)=qBH n (λi=>Nat.land (Nat.shiftRight (f i) r) m)
 |0,_,_,_,_,_,_=>Nat.and_zero _
 |n+1,f,m,r,hf,hm,hr=>by
  have ih:=qG1 n (λi=>hf (i+1)) hm hr
  simp only [qBH]
  rw [←ih]
  exact qQE (hf 0) hm hr
theorem qQz: ∀(n:Nat) (f:Nat→Nat) (c:Nat),(∀i,f i≤c)→qBH n (λ_=>c)-qBH n f=qBH n (λi=>c-f i):=λn f c h=>by
 have h1:=qBC n (λi=>c-f i) f
 have h2:qBH n (λi=>c-f i+f i)=qBH n (λ_=>c):=qA5 λi=>Nat.sub_add_cancel (h i)
 omega
def qBT(n:Nat):Nat:=qBH n λ_=>1
theorem qDL(n c:Nat):c*qBT n=qBH n λ_=>c:=by
 rw [Nat.mul_comm,qBT,qDu];exact qA5 λ_=>Nat.one_mul c
def pk(n:Nat)(a:Nat→UInt32):Nat:=qBH n λi=>(a i).toNat
def qEa(o x r:Nat):Nat:=Nat.land (Nat.shiftRight x r) ((2^(32-r)-1)*o)+Nat.land x ((2^r-1)*o)*2^(32-r)
def qJm(o x r:Nat):Nat:=Nat.land (Nat.shiftRight x r) ((2^(32-r)-1)*o)
def qDl(o x:Nat):Nat:=Nat.land x (4294967295*o)
theorem u32(a:UInt32):a.toNat<2^32:=a.toNat_lt
theorem u64(a:UInt32):a.toNat<2^64:=Nat.lt_trans a.toNat_lt (by decide)
theorem m32{r:Nat}(h1:1≤r):2^(32-r)-1<2^32:=by
 have:=Nat.pow_le_pow_right (n:=2) (by decide) (show 32-r≤32 by omega)
 omega
theorem qJR(x k:Nat):Nat.land x (2^k-1)=x%2^k:=Nat.and_two_pow_sub_one_eq_mod x k
theorem qMz(x:UInt32){r:Nat}(h2:r≤32):Nat.land (Nat.shiftRight x.toNat r) (2^(32-r)-1)=x.toNat/2^r:=by
 rw [qJR]
 show(x.toNat>>>r)%_=_
 rw [Nat.shiftRight_eq_div_pow]
 apply Nat.mod_eq_of_lt
 rw [Nat.div_lt_iff_lt_mul (Nat.pow_pos (by decide)),←Nat.pow_add,show 32-r+r=32 by omega]
 exact u32 x
theorem qIs(n:Nat)(a:Nat→UInt32){r:Nat}(h1:1≤r)(h2:r<32):qJm (qBT n) (pk n a) r=pk n λi=>Sha.shr (a i) r:=by
 unfold qJm pk
 rw [qDL,qG1 n (λi=>u64 (a i)) (m32 h1) (by omega)]
 refine qA5 λi=>?_
 rw [qMz _ (by omega)]
 exact(R3.shr_nat (a i) r (by omega)).symm
theorem qC1(n:Nat)(a:Nat→UInt32){r:Nat}(h1:1≤r)(h2:r<32):qEa (qBT n) (pk n a) r=pk n λi=>Sha.rotr (a i) r:=by
 unfold qEa pk
 have hlow:2^r-1<2^64:=by
  have:=Nat.pow_le_pow_right (n:=2) (by decide) (show r≤64 by omega)
  have:=Nat.pow_pos (n:=r) (show 0<2 by decide)
  omega
 rw [qDL,qDL,qG1 n (λi=>u64 (a i)) (m32 h1) (by omega),qE3 n (λi=>u64 (a i)) (λ_=>hlow),qDu,qBC]
 refine qA5 λi=>?_
 rw [qMz _ (by omega),qJR]
 have:=SN.rot_eq (a i) r h1 h2
 rw [←this]
 unfold SN.rot
 congr 2
 rw [show(4294967296:Nat)=2^r*2^(32-r) by rw [←Nat.pow_add,show r+(32-r)=32 by omega],Nat.mul_div_cancel_left _ (Nat.pow_pos (by decide))]
theorem qEl(n:Nat){f:Nat→Nat}(h: ∀i,f i<2^64):qDl (qBT n) (qBH n f)=qBH n λi=>f i%4294967296:=by
 unfold qDl
 rw [qDL,qE3 n h (λ_=>by decide)]
 exact qA5 λi=>qJR (f i) 32
theorem qDt(n:Nat)(a b:Nat→UInt32):Nat.xor (pk n a) (pk n b)=pk n λi=>a i^^^b i:=by
 unfold pk
 rw [qKP n (λi=>u64 (a i)) (λi=>u64 (b i))]
 exact qA5 λi=>SN.xor_eq (a i) (b i)
theorem qKL(n:Nat)(a b:Nat→UInt32):Nat.land (pk n a) (pk n b)=pk n λi=>a i&&&b i:=by
 unfold pk
 rw [qE3 n (λi=>u64 (a i)) (λi=>u64 (b i))]
 exact qA5 λi=>SN.and_eq (a i) (b i)
theorem qZB(n:Nat)(a:Nat→UInt32):4294967295*qBT n-pk n a=pk n λi=> ~~~ a i:=by
 unfold pk
 rw [qDL,qQz n _ _ (λi=>by have:=u32 (a i);omega)]
 exact qA5 λi=>SN.not_eq (a i)
theorem qBl(n:Nat)(k:UInt32):k.toNat*qBT n=pk n λ_=>k:=qDL n k.toNat
end SM
end Go.Proofs.YtcgcjaflllmlpaaGreatDoor
namespace Go.Proofs.YtcgcjaflllmlpaaGreatDoor
open Go Go.Fw Go.Proofs.Tryz
section
variable{P:Program}{env:Env}{rs:List Hp}{o:Oper}{t t':TypeId}{x y:Operand}{a b:UInt32}
end
attribute [local irreducible] Sha.rnds Sha.sched Sha.mix Sha.rotr R3.roots Sha.exts
end Go.Proofs.YtcgcjaflllmlpaaGreatDoor
namespace Go.Proofs.YtcgcjaflllmlpaaGreatDoor
def qNI:List (List Nat):= [[105,72,128,237,61,5,50,182,223,75,24,94,147,245,19,39],
 [88,245,185,155,41,107,180,138,125,166,83,171,115,216,18,165],
 [93,80,203,230,14,126,127,19,21,244,174,144,89,226,94,228],
 [148,10,18,170,77,162,171,186,8,98,48,154,194,169,63,108],
 [236,85,91,97,199,175,137,90,50,65,185,193,130,224,18,81],
 [79,166,20,31,51,117,145,24,240,79,98,79,106,240,3,239],
 [238,121,90,181,53,208,204,57,93,94,55,236,103,150,52,189],
 [206,246,68,71,242,240,44,227,11,163,124,42,109,136,184,223],
 [102,153,141,118,18,20,90,81,197,162,183,200,132,241,168,231],
 [105,185,227,83,69,124,42,97,92,121,35,66,28,255,32,8],
 [63,79,253,228,120,212,65,1,74,138,77,92,45,83,29,6],
 [6,68,43,83,187,176,175,5,40,111,126,28,241,42,58,162],
 [84,209,206,161,181,40,188,84,7,18,199,241,13,30,46,161],
 [176,37,113,44,248,46,217,3,30,200,199,117,42,191,130,40],
 [31,198,219,239,77,143,38,133,43,141,86,40,35,16,12,192]]
attribute [local irreducible] SN.tagN Sha.tagged
theorem qQr:(List.range 15).map (λi=>SN.tagN 15 [[0,i]])=qNI:=by decide+kernel
def qAL(n:Nat):List UInt8:=Sha.tagged 15 [[UInt8.ofNat (n/256),UInt8.ofNat n]]
theorem qBx(n:Nat):(qAL n).length=16:=Sha.tagged_length _ _
theorem qH7{i:Nat}(hi:i<15):(qAL i).map UInt8.toNat=qNI.getD i []:=by
 have h:=SN.tagN_eq 15 [[UInt8.ofNat (i/256),UInt8.ofNat i]] (by simp)
 have h2:SN.tagN 15 [[0,i]]=(qAL i).map UInt8.toNat:=by
  rw [←qAL] at h
  rw [←h]
  have e1:(UInt8.ofNat (i/256)).toNat=0:=by rw [show i/256=0 by omega];rfl
  have e2:(UInt8.ofNat i).toNat=i:=by rw [UInt8.toNat_ofNat'];omega
  show SN.tagN 15 [[0,i]]=SN.tagN 15 [[(UInt8.ofNat (i/256)).toNat,(UInt8.ofNat i).toNat]]
  rw [e1,e2]
 rw [←h2,←qQr,List.getD_eq_getElem?_getD,List.getElem?_map,List.getElem?_range hi];rfl
theorem qQq: ∀i j:Fin 15,i≠j→qNI.getD i.val []≠qNI.getD j.val []:=by decide+kernel
theorem qKK{i j:Nat}(hi:i<15)(hj:j<15)(h:i≠j):qAL i≠qAL j:=λe=>
 qQq ⟨i,hi⟩ ⟨j,hj⟩ (λq=>h (congrArg Fin.val q)) (by rw [←qH7 hi,←qH7 hj,e])
end Go.Proofs.YtcgcjaflllmlpaaGreatDoor