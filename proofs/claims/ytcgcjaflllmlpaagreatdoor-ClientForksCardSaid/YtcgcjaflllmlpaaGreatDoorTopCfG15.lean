/- A part of the proof. -/
import Derived.Test.YtcgcjaflllmlpaaGreatDoorTopCfG11
import Derived.Test.YtcgcjaflllmlpaaGreatDoorTopCfG8
set_option linter.unusedSimpArgs false
set_option linter.unusedVariables false
namespace Go.Proofs.YtcgcjaflllmlpaaGreatDoor
set_option maxRecDepth 100000
set_option maxHeartbeats 1000000
namespace SM
def qBF:Nat→(Nat→Nat)→Nat
 |0,_=>0
 |n+1,f=>f 0+18446744073709551616*qBF n (λi=>f (i+1))
theorem qA2: ∀{n:Nat} {f g:Nat→Nat},(∀i,f i=g i)→qBF n f=qBF n g
 |0,_,_,_=>rfl
 |n+1,f,g,h=>by rw [qBF,qBF,h 0,qA2 (λi=>h (i+1))]
theorem qA8: ∀(n:Nat) (f g:Nat→Nat),qBF n f+qBF n g=qBF n (λi=>f i+g i)
 |0,_,_=>rfl
 |n+1,f,g=>by
  have:=qA8 n (λi=>f (i+1)) (λi=>g (i+1))
  simp only [qBF]
  rw [←this];omega
theorem qDf: ∀(n:Nat) (f:Nat→Nat) (c:Nat),qBF n f*c=qBF n (λi=>f i*c)
 |0,_,c=>Nat.zero_mul c
 |n+1,f,c=>by
  have:=qDf n (λi=>f (i+1)) c
  simp only [qBF]
  rw [←this,Nat.add_mul,Nat.mul_assoc]
theorem qPe{x y X Y:Nat}(hx:x<2^64)(hy:y<2^64):Nat.land (x+2^64*X) (y+2^64*Y)=Nat.land x y+2^64*Nat.land X Y:=by
 have hxy:Nat.land x y<2^64:=Nat.lt_of_le_of_lt Nat.and_le_left hx
 apply Nat.eq_of_testBit_eq
 intro i
 rw [Nat.add_comm x,Nat.add_comm y,Nat.add_comm (Nat.land x y)]
 show((2^64*X+x)&&&(2^64*Y+y)).testBit i=(2^64*Nat.land X Y+Nat.land x y).testBit i
 rw [Nat.testBit_and,Nat.testBit_two_pow_mul_add _ hx,Nat.testBit_two_pow_mul_add _ hy,Nat.testBit_two_pow_mul_add _ hxy]
 by_cases h:i<64
 · simp only [h,if_true];exact(Nat.testBit_and x y i).symm
 · simp only [h,if_false];exact(Nat.testBit_and X Y (i-64)).symm
theorem qPc{x y X Y:Nat}(hx:x<2^64)(hy:y<2^64):Nat.xor (x+2^64*X) (y+2^64*Y)=Nat.xor x y+2^64*Nat.xor X Y:=by
 have hxy:Nat.xor x y<2^64:=Nat.xor_lt_two_pow hx hy
 apply Nat.eq_of_testBit_eq
 intro i
 rw [Nat.add_comm x,Nat.add_comm y,Nat.add_comm (Nat.xor x y)]
 show((2^64*X+x)^^^(2^64*Y+y)).testBit i=(2^64*Nat.xor X Y+Nat.xor x y).testBit i
 rw [Nat.testBit_xor,Nat.testBit_two_pow_mul_add _ hx,Nat.testBit_two_pow_mul_add _ hy,Nat.testBit_two_pow_mul_add _ hxy]
 by_cases h:i<64
 · simp only [h,if_true];exact(Nat.testBit_xor x y i).symm
 · simp only [h,if_false];exact(Nat.testBit_xor X Y (i-64)).symm
theorem qPd{x m X M r:Nat}(hx:x<2^64)(hm:m<2^32)(hr:r≤32):Nat.land (Nat.shiftRight (x+2^64*X) r) (m+2^64*M)=Nat.land (Nat.shiftRight x r) m+2^64*Nat.land (Nat.shiftRight X r) M:=by
  have hm2:m<2^64:=Nat.lt_trans hm (by decide)
  have hxy:Nat.land (Nat.shiftRight x r) m<2^64:=Nat.lt_of_le_of_lt Nat.and_le_right hm2
  apply Nat.eq_of_testBit_eq
  intro i
  rw [Nat.add_comm x,Nat.add_comm m,Nat.add_comm (Nat.land _ _)]
  show(((2^64*X+x)>>>r)&&&(2^64*M+m)).testBit i=(2^64*Nat.land (Nat.shiftRight X r) M+Nat.land (Nat.shiftRight x r) m).testBit i
  rw [Nat.testBit_and,Nat.testBit_shiftRight,Nat.testBit_two_pow_mul_add _ hx,Nat.testBit_two_pow_mul_add _ hm2,Nat.testBit_two_pow_mul_add _ hxy]
  by_cases h:i<64
  · simp only [h,if_true]
    show _=((x>>>r)&&&m).testBit i
    rw [Nat.testBit_and,Nat.testBit_shiftRight]
    by_cases h2:r+i<64
    · simp only [h2,if_true]
    · have:m.testBit i=false:=Nat.testBit_lt_two_pow (Nat.lt_of_lt_of_le hm (Nat.pow_le_pow_right (by decide) (by omega)))
      rw [this,Bool.and_false,Bool.and_false]
  · have h2: ¬r+i<64:=by omega
    simp only [h,h2,if_false]
    show _=((X>>>r)&&&M).testBit (i-64)
    rw [Nat.testBit_and,Nat.testBit_shiftRight,show r+i-64=r+(i-64) by omega]
theorem qEg: ∀(n:Nat) {f g:Nat→Nat},(∀i,f i<2^64)→(∀i,g i<2^64)→Nat.land (qBF n f) (qBF n g)=qBF n (λi=>Nat.land (f i) (g i))
 |0,_,_,_,_=>Nat.and_zero _
 |n+1,f,g,hf,hg=>by
  have ih:=qEg n (λi=>hf (i+1)) (λi=>hg (i+1))
  simp only [qBF]
  rw [←ih]
  exact qPe (hf 0) (hg 0)
theorem qJ4: ∀(n:Nat) {f g:Nat→Nat},(∀i,f i<2^64)→(∀i,g i<2^64)→Nat.xor (qBF n f) (qBF n g)=qBF n (λi=>Nat.xor (f i) (g i))
 |0,_,_,_,_=>Nat.xor_zero _
 |n+1,f,g,hf,hg=>by
  have ih:=qJ4 n (λi=>hf (i+1)) (λi=>hg (i+1))
  simp only [qBF]
  rw [←ih]
  exact qPc (hf 0) (hg 0)
theorem qGa: ∀(n:Nat) {f:Nat→Nat} {m r:Nat},(∀i,f i<2^64)→m<2^32→r≤32→Nat.land (Nat.shiftRight (qBF n f) r) (qBF n λ_=>m)=qBF n (λi=>Nat.land (Nat.shiftRight (f i) r) m)
 |0,_,_,_,_,_,_=>Nat.and_zero _
 |n+1,f,m,r,hf,hm,hr=>by
  have ih:=qGa n (λi=>hf (i+1)) hm hr
  simp only [qBF]
  rw [←ih]
  exact qPd (hf 0) hm hr
theorem qQT: ∀(n:Nat) (f:Nat→Nat) (c:Nat),(∀i,f i≤c)→qBF n (λ_=>c)-qBF n f=qBF n (λi=>c-f i):=λn f c h=>by
 have h1:=qA8 n (λi=>c-f i) f
 have h2:qBF n (λi=>c-f i+f i)=qBF n (λ_=>c):=qA2 λi=>Nat.sub_add_cancel (h i)
 omega
def qBP(n:Nat):Nat:=qBF n λ_=>1
theorem qC6(n c:Nat):c*qBP n=qBF n λ_=>c:=by
 rw [Nat.mul_comm,qBP,qDf];exact qA2 λ_=>Nat.one_mul c
def pk(n:Nat)(a:Nat→UInt32):Nat:=qBF n λi=>(a i).toNat
def qEB(o x r:Nat):Nat:=Nat.land (Nat.shiftRight x r) ((2^(32-r)-1)*o)+Nat.land x ((2^r-1)*o)*2^(32-r)
def qJO(o x r:Nat):Nat:=Nat.land (Nat.shiftRight x r) ((2^(32-r)-1)*o)
def qDX(o x:Nat):Nat:=Nat.land x (4294967295*o)
theorem u32(a:UInt32):a.toNat<2^32:=a.toNat_lt
theorem u64(a:UInt32):a.toNat<2^64:=Nat.lt_trans a.toNat_lt (by decide)
theorem m32{r:Nat}(h1:1≤r):2^(32-r)-1<2^32:=by
 have:=Nat.pow_le_pow_right (n:=2) (by decide) (show 32-r≤32 by omega)
 omega
theorem qI1(x k:Nat):Nat.land x (2^k-1)=x%2^k:=Nat.and_two_pow_sub_one_eq_mod x k
theorem qMa(x:UInt32){r:Nat}(h2:r≤32):Nat.land (Nat.shiftRight x.toNat r) (2^(32-r)-1)=x.toNat/2^r:=by
 rw [qI1]
 show(x.toNat>>>r)%_=_
 rw [Nat.shiftRight_eq_div_pow]
 apply Nat.mod_eq_of_lt
 rw [Nat.div_lt_iff_lt_mul (Nat.pow_pos (by decide)),←Nat.pow_add,show 32-r+r=32 by omega]
 exact u32 x
theorem qIP(n:Nat)(a:Nat→UInt32){r:Nat}(h1:1≤r)(h2:r<32):qJO (qBP n) (pk n a) r=pk n λi=>Sha.shr (a i) r:=by
 unfold qJO pk
 rw [qC6,qGa n (λi=>u64 (a i)) (m32 h1) (by omega)]
 refine qA2 λi=>?_
 rw [qMa _ (by omega)]
 exact(R3.shr_nat (a i) r (by omega)).symm
theorem qCn(n:Nat)(a:Nat→UInt32){r:Nat}(h1:1≤r)(h2:r<32):qEB (qBP n) (pk n a) r=pk n λi=>Sha.rotr (a i) r:=by
 unfold qEB pk
 have hlow:2^r-1<2^64:=by
  have:=Nat.pow_le_pow_right (n:=2) (by decide) (show r≤64 by omega)
  have:=Nat.pow_pos (n:=r) (show 0<2 by decide)
  omega
 rw [qC6,qC6,qGa n (λi=>u64 (a i)) (m32 h1) (by omega),qEg n (λi=>u64 (a i)) (λ_=>hlow),qDf,qA8]
 refine qA2 λi=>?_
 rw [qMa _ (by omega),qI1]
 have:=SN.rot_eq (a i) r h1 h2
 rw [←this]
 unfold SN.rot
 congr 2
 rw [show(4294967296:Nat)=2^r*2^(32-r) by rw [←Nat.pow_add,show r+(32-r)=32 by omega],Nat.mul_div_cancel_left _ (Nat.pow_pos (by decide))]
theorem qEN(n:Nat){f:Nat→Nat}(h: ∀i,f i<2^64):qDX (qBP n) (qBF n f)=qBF n λi=>f i%4294967296:=by
 unfold qDX
 rw [qC6,qEg n h (λ_=>by decide)]
 exact qA2 λi=>qI1 (f i) 32
theorem qDe(n:Nat)(a b:Nat→UInt32):Nat.xor (pk n a) (pk n b)=pk n λi=>a i^^^b i:=by
 unfold pk
 rw [qJ4 n (λi=>u64 (a i)) (λi=>u64 (b i))]
 exact qA2 λi=>SN.xor_eq (a i) (b i)
theorem qJ0(n:Nat)(a b:Nat→UInt32):Nat.land (pk n a) (pk n b)=pk n λi=>a i&&&b i:=by
 unfold pk
 rw [qEg n (λi=>u64 (a i)) (λi=>u64 (b i))]
 exact qA2 λi=>SN.and_eq (a i) (b i)
theorem qYI(n:Nat)(a:Nat→UInt32):4294967295*qBP n-pk n a=pk n λi=> ~~~ a i:=by
 unfold pk
 rw [qC6,qQT n _ _ (λi=>by have:=u32 (a i);omega)]
 exact qA2 λi=>SN.not_eq (a i)
theorem qBh(n:Nat)(k:UInt32):k.toNat*qBP n=pk n λ_=>k:=qC6 n k.toNat
end SM
end Go.Proofs.YtcgcjaflllmlpaaGreatDoor
namespace Go.Proofs.YtcgcjaflllmlpaaGreatDoor
set_option maxRecDepth 100000
set_option maxHeartbeats 1000000
namespace SM
open SN (qAx qAr)
noncomputable def schP(u:Nat)(n:Nat):Nat→Nat→Nat→Nat→Nat→Nat→Nat→Nat→Nat→Nat→Nat→Nat→Nat→Nat→Nat→Nat→List Nat:=
 Nat.rec (λa b c d e f g h i j k l m n o p=> [a,b,c,d,e,f,g,h,i,j,k,l,m,n,o,p])
  (λ_ ih a b c d e f g h i j k l m n o p=>a::qAx (qDX u (a+Nat.xor (Nat.xor (qEB u b 7) (qEB u b 18)) (qJO u b 3)+j+Nat.xor (Nat.xor (qEB u o 17) (qEB u o 19)) (qJO u o 10))) λx=>ih b c d e f g h i j k l m n o p x) n
noncomputable def rdsP(u:Nat)(kw:List Nat):List Nat→Nat→Nat→Nat→Nat→Nat→Nat→Nat→Nat→List Nat:=
 List.rec (λ_ a b c d e f g h=> [a,b,c,d,e,f,g,h])
  (λk _ ih ws a b c d e f g h=>List.rec [] (λw ws _=>
   qAx (qDX u (h+Nat.xor (Nat.xor (qEB u e 6) (qEB u e 11)) (qEB u e 25)+Nat.xor (Nat.land e f) (Nat.land (4294967295*u-e) g)+k*u+w)) λt1=>
   qAx (qDX u (t1+(Nat.xor (Nat.xor (qEB u a 2) (qEB u a 13)) (qEB u a 22)+Nat.xor (Nat.xor (Nat.land a b) (Nat.land a c)) (Nat.land b c)))) λx=>
   qAx (qDX u (d+t1)) λy=>ih ws x a b c y e f g) ws) kw
theorem qPy(u k w:Nat)(ks ws:List Nat)(a b c d e f g h:Nat):rdsP u (k::ks) (w::ws) a b c d e f g h=
      qAx (qDX u (h+Nat.xor (Nat.xor (qEB u e 6) (qEB u e 11)) (qEB u e 25)+Nat.xor (Nat.land e f) (Nat.land (4294967295*u-e) g)+k*u+w)) λt1=>
      qAx (qDX u (t1+(Nat.xor (Nat.xor (qEB u a 2) (qEB u a 13)) (qEB u a 22)+Nat.xor (Nat.xor (Nat.land a b) (Nat.land a c)) (Nat.land b c)))) λx=>
      qAx (qDX u (d+t1)) λy=>rdsP u ks ws x a b c y e f g:=rfl
theorem qPo(u n' a b c d e f g h i j k l m n o p:Nat):schP u (n'+1) a b c d e f g h i j k l m n o p=a::qAx (qDX u (a+Nat.xor (Nat.xor (qEB u b 7) (qEB u b 18)) (qJO u b 3)+j+Nat.xor (Nat.xor (qEB u o 17) (qEB u o 19)) (qJO u o 10))) λx=>schP u n' b c d e f g h i j k l m n o p x:=rfl
theorem qTL(u:Nat)(ws:List Nat)(a b c d e f g h:Nat):rdsP u [] ws a b c d e f g h= [a,b,c,d,e,f,g,h]:=rfl
theorem qPn(u a b c d e f g h i j k l m n o p:Nat):schP u 0 a b c d e f g h i j k l m n o p= [a,b,c,d,e,f,g,h,i,j,k,l,m,n,o,p]:=rfl
attribute [local irreducible] rdsP schP
def qXv:Nat→(Nat→UInt32)→(Nat→UInt32)→(Nat→UInt32)→(Nat→UInt32)→(Nat→UInt32)→(Nat→UInt32)→(Nat→UInt32)→(Nat→UInt32)→(Nat→UInt32)→(Nat→UInt32)→(Nat→UInt32)→(Nat→UInt32)→(Nat→UInt32)→(Nat→UInt32)→(Nat→UInt32)→(Nat→UInt32)→List (Nat→UInt32)
 |0,a,b,c,d,e,f,g,h,i,j,k,l,m,n,o,p=> [a,b,c,d,e,f,g,h,i,j,k,l,m,n,o,p]
 |n'+1,a,b,c,d,e,f,g,h,i,j,k,l,m,n,o,p=>a::qXv n' b c d e f g h i j k l m n o p (λz=>a z+Sha.sg0 (b z)+j z+Sha.sg1 (o z))
theorem qUD(z:Nat)(n':Nat): ∀(q:List UInt32) (a b c d e f g h i j k l m n o p:Nat→UInt32),Sha.exts n' (q++ [a z,b z,c z,d z,e z,f z,g z,h z,i z,j z,k z,l z,m z,n z,o z,p z])=q++(qXv n' a b c d e f g h i j k l m n o p).map (λw=>w z):=by
 induction n' with
 |zero=>intro q a b c d e f g h i j k l m n o p;rfl
 |succ n' ih=>
  intro q a b c d e f g h i j k l m n o p
  rw [SN.exts_succ',SN.ext_eq]
  have:=ih (q++ [a z]) b c d e f g h i j k l m n o p (λz=>a z+Sha.sg0 (b z)+j z+Sha.sg1 (o z))
  rw [this,qXv,List.map_cons,List.append_assoc];rfl
theorem lane4{x y z w:Nat}(h1:x<2^32)(h2:y<2^32)(h3:z<2^32)(h4:w<2^32):x+y+z+w<2^64:=by omega
theorem lane5{x y z w v:Nat}(h1:x<2^32)(h2:y<2^32)(h3:z<2^32)(h4:w<2^32)(h5:v<2^32):x+y+z+w+v<2^64:=by omega
theorem lane3{x y z:Nat}(h1:x<2^32)(h2:y<2^32)(h3:z<2^32):x+(y+z)<2^64:=by omega
theorem qYb{x y:Nat}(h1:x<2^32)(h2:y<2^32):x+y<2^64:=by omega
theorem sum5(a b c d e:UInt32):(a.toNat+b.toNat+c.toNat+d.toNat+e.toNat)%4294967296=(a+b+c+d+e).toNat:=by
 simp only [UInt32.toNat_add];omega
theorem sum3(a b c:UInt32):(a.toNat+(b.toNat+c.toNat))%4294967296=(a+(b+c)).toNat:=by
 simp only [UInt32.toNat_add];omega
theorem qV5(N:Nat)(n':Nat): ∀(a b c d e f g h i j k l m n o p:Nat→UInt32),schP (qBP N) n' (pk N a) (pk N b) (pk N c) (pk N d) (pk N e) (pk N f) (pk N g) (pk N h) (pk N i) (pk N j) (pk N k) (pk N l) (pk N m) (pk N n) (pk N o) (pk N p)=(qXv n' a b c d e f g h i j k l m n o p).map (pk N):=by
 induction n' with
 |zero=>intro a b c d e f g h i j k l m n o p;rw [qPn];rfl
 |succ n' ih=>
  intro a b c d e f g h i j k l m n o p
  have e1:Nat.xor (Nat.xor (qEB (qBP N) (pk N b) 7) (qEB (qBP N) (pk N b) 18)) (qJO (qBP N) (pk N b) 3)=pk N λz=>Sha.sg0 (b z):=by
   rw [qCn N b (by decide) (by decide),qCn N b (by decide) (by decide),qIP N b (by decide) (by decide),qDe,qDe];rfl
  have e2:Nat.xor (Nat.xor (qEB (qBP N) (pk N o) 17) (qEB (qBP N) (pk N o) 19)) (qJO (qBP N) (pk N o) 10)=pk N λz=>Sha.sg1 (o z):=by
   rw [qCn N o (by decide) (by decide),qCn N o (by decide) (by decide),qIP N o (by decide) (by decide),qDe,qDe];rfl
  have e3:qDX (qBP N) (pk N a+(pk N λz=>Sha.sg0 (b z))+pk N j+(pk N λz=>Sha.sg1 (o z)))=pk N λz=>a z+Sha.sg0 (b z)+j z+Sha.sg1 (o z):=by
   unfold pk
   rw [qA8,qA8,qA8,qEN N (λz=>lane4 (u32 _) (u32 _) (u32 _) (u32 _))]
   exact qA2 λz=>SN.sch_sum (a z) (b z) (j z) (o z)
  rw [qPo,qAr,e1,e2,e3,ih,qXv,List.map_cons]
def qFH(ks:List UInt32)(ws:List (Nat→UInt32))(s:Nat→Sha.St8)(z:Nat):Sha.St8:=SN.fold ks (ws.map λw=>w z) (s z)
theorem qWN(N:Nat)(ks:List UInt32): ∀(ws:List (Nat→UInt32)) (s:Nat→Sha.St8),ks.length=ws.length→
    rdsP (qBP N) (ks.map UInt32.toNat) (ws.map (pk N)) (pk N λz=>(s z).a) (pk N λz=>(s z).b) (pk N λz=>(s z).c) (pk N λz=>(s z).d) (pk N λz=>(s z).e) (pk N λz=>(s z).f) (pk N λz=>(s z).g) (pk N λz=>(s z).h)=
      [pk N λz=>(qFH ks ws s z).a,pk N λz=>(qFH ks ws s z).b,pk N λz=>(qFH ks ws s z).c,pk N λz=>(qFH ks ws s z).d,pk N λz=>(qFH ks ws s z).e,pk N λz=>(qFH ks ws s z).f,pk N λz=>(qFH ks ws s z).g,pk N λz=>(qFH ks ws s z).h]:=by
  induction ks with
  |nil=>
    intro ws s h
    cases ws with
    |nil=>rw [List.map_nil,qTL];rfl
    |cons _ _=>cases h
  |cons k ks ih=>
    intro ws s h
    cases ws with
    |nil=>cases h
    |cons w ws=>
      have e1:Nat.xor (Nat.xor (qEB (qBP N) (pk N λz=>(s z).e) 6) (qEB (qBP N) (pk N λz=>(s z).e) 11)) (qEB (qBP N) (pk N λz=>(s z).e) 25)=pk N λz=>Sha.rotr (s z).e 6^^^Sha.rotr (s z).e 11^^^Sha.rotr (s z).e 25:=by
        rw [qCn N _ (by decide) (by decide),qCn N _ (by decide) (by decide),qCn N _ (by decide) (by decide),qDe,qDe]
      have e2:Nat.xor (Nat.land (pk N λz=>(s z).e) (pk N λz=>(s z).f)) (Nat.land (4294967295*qBP N-pk N λz=>(s z).e) (pk N λz=>(s z).g))=pk N λz=>(s z).e&&&(s z).f^^^ ~~~ (s z).e&&&(s z).g:=by
        rw [qYI,qJ0,qJ0,qDe]
      have e3:Nat.xor (Nat.xor (qEB (qBP N) (pk N λz=>(s z).a) 2) (qEB (qBP N) (pk N λz=>(s z).a) 13)) (qEB (qBP N) (pk N λz=>(s z).a) 22)=pk N λz=>Sha.rotr (s z).a 2^^^Sha.rotr (s z).a 13^^^Sha.rotr (s z).a 22:=by
        rw [qCn N _ (by decide) (by decide),qCn N _ (by decide) (by decide),qCn N _ (by decide) (by decide),qDe,qDe]
      have e4:Nat.xor (Nat.xor (Nat.land (pk N λz=>(s z).a) (pk N λz=>(s z).b)) (Nat.land (pk N λz=>(s z).a) (pk N λz=>(s z).c))) (Nat.land (pk N λz=>(s z).b) (pk N λz=>(s z).c))=pk N λz=>(s z).a&&&(s z).b^^^(s z).a&&&(s z).c^^^(s z).b&&&(s z).c:=by
        rw [qJ0,qJ0,qJ0,qDe,qDe]
      have t1:qDX (qBP N) ((pk N λz=>(s z).h)+(pk N λz=>Sha.rotr (s z).e 6^^^Sha.rotr (s z).e 11^^^Sha.rotr (s z).e 25)+(pk N λz=>(s z).e&&&(s z).f^^^ ~~~ (s z).e&&&(s z).g)+k.toNat*qBP N+pk N w)=pk N λz=>(s z).h+(Sha.rotr (s z).e 6^^^Sha.rotr (s z).e 11^^^Sha.rotr (s z).e 25)+((s z).e&&&(s z).f^^^ ~~~ (s z).e&&&(s z).g)+k+w z:=by
        rw [qBh]
        unfold pk
        rw [qA8,qA8,qA8,qA8,qEN N (λz=>lane5 (u32 _) (u32 _) (u32 _) (u32 _) (u32 _))]
        exact qA2 λz=>sum5 _ _ _ _ _
      have t2: ∀T:Nat→UInt32,qDX (qBP N) (pk N T+((pk N λz=>Sha.rotr (s z).a 2^^^Sha.rotr (s z).a 13^^^Sha.rotr (s z).a 22)+(pk N λz=>(s z).a&&&(s z).b^^^(s z).a&&&(s z).c^^^(s z).b&&&(s z).c)))=pk N λz=>T z+((Sha.rotr (s z).a 2^^^Sha.rotr (s z).a 13^^^Sha.rotr (s z).a 22)+((s z).a&&&(s z).b^^^(s z).a&&&(s z).c^^^(s z).b&&&(s z).c)):=λT=>by
        unfold pk
        rw [qA8,qA8,qEN N (λz=>lane3 (u32 _) (u32 _) (u32 _))]
        exact qA2 λz=>sum3 _ _ _
      have t3: ∀T:Nat→UInt32,qDX (qBP N) ((pk N λz=>(s z).d)+pk N T)=pk N λz=>(s z).d+T z:=λT=>by
        unfold pk
        rw [qA8,qEN N (λz=>qYb (u32 _) (u32 _))]
        exact qA2 λz=>by simp only [UInt32.toNat_add]
      rw [List.map_cons,List.map_cons,qPy,qAr,e1,e2,t1,qAr,e3,e4,t2,qAr,t3]
      have hr:=ih ws (λz=>Sha.rnd (w z) k (s z)) (by simpa using h)
      have hf: ∀z,qFH (k::ks) (w::ws) s z=qFH ks ws (λz=>Sha.rnd (w z) k (s z)) z:=λz=>by
        unfold qFH
        rw [List.map_cons,SN.fold_cons]
      simp only [hf]
      exact hr
end SM
end Go.Proofs.YtcgcjaflllmlpaaGreatDoor
namespace Go.Proofs.YtcgcjaflllmlpaaGreatDoor
set_option maxRecDepth 100000
set_option maxHeartbeats 1000000
namespace SM
open SN (qAx qAr forceL qA7)
noncomputable def hd{α:Type}(l:List Nat)(g:Nat→List Nat→α):α:=List.rec (g 0 []) (λa r _=>g a r) l
noncomputable def w4s(n:Nat):List Nat→List Nat:=
 Nat.rec (λ_=> []) (λ_ ih l=>hd l λa r=>hd r λb r=>hd r λc r=>hd r λd r=>qAx (((a*256+b)*256+c)*256+d) λx=>x::ih r) n
theorem qSY(n a b c d:Nat)(r:List Nat):w4s (n+1) (a::b::c::d::r)=(((a*256+b)*256+c)*256+d)::w4s n r:=by
 show qAx (((a*256+b)*256+c)*256+d) (λx=>x::w4s n r)=_
 rw [qAr]
theorem qO9(l:List UInt8)(i:Nat):Sha.word (l.drop 4) i=Sha.word l (i+1):=by
 have e: ∀k,(l.drop 4).getD (4*i+k) 0=l.getD (4*(i+1)+k) 0:=λk=>by
  rw [List.getD_eq_getElem?_getD,List.getElem?_drop,←List.getD_eq_getElem?_getD,show 4+(4*i+k)=4*(i+1)+k by omega]
 unfold Sha.word
 exact congr (congr (congr (congrArg Sha.be32 (e 0)) (e 1)) (e 2)) (e 3)
theorem qEP(l:List UInt8)(n:Nat):Sha.firsts l (n+1)=Sha.word l 0::Sha.firsts (l.drop 4) n:=by
 unfold Sha.firsts
 rw [List.range_succ_eq_map,List.map_cons,List.map_map]
 exact congrArg (List.cons _) (List.map_congr_left λi _=>(qO9 l i).symm)
theorem qUu: ∀(n:Nat) (l:List UInt8),4*n≤l.length→w4s n (l.map UInt8.toNat)=(Sha.firsts l n).map UInt32.toNat
 |0,_,_=>rfl
 |n+1,l,h=>by
  match l,h with
  |a::b::c::d::r,h=>
   have ih:=qUu n r (by simp only [List.length_cons] at h;omega)
   rw [qEP]
   show w4s (n+1) (a.toNat::b.toNat::c.toNat::d.toNat::r.map UInt8.toNat)=_
   rw [qSY,ih,List.map_cons]
   congr 1
   have:=SN.w4_eq (a::b::c::d::r) 0
   rw [Nat.mul_zero,List.drop_zero] at this
   exact this
  | [],h=>simp at h
  | [_],h=>simp only [List.length_cons,List.length_nil] at h;omega
  | [_,_],h=>simp only [List.length_cons,List.length_nil] at h;omega
  | [_,_,_],h=>simp only [List.length_cons,List.length_nil] at h;omega
noncomputable def cols{α:Type}(L:List (List Nat)):(List Nat→α)→α:=
 List.rec (λg=>g [0,0,0,0,0,0,0,0,0,0,0,0,0,0,0,0]) (λws _ ih g=>ih λacc=>forceL (List.zipWith (λw p=>w+18446744073709551616*p) ws acc) g) L
def qRc:List (List Nat)→List Nat
 | []=> [0,0,0,0,0,0,0,0,0,0,0,0,0,0,0,0]
 |ws::L=>List.zipWith (λw p=>w+18446744073709551616*p) ws (qRc L)
theorem qRa{α:Type}: ∀(L:List (List Nat)) (g:List Nat→α),cols L g=g (qRc L)
 | [],_=>rfl
 |ws::L,g=>by
  show cols L (λacc=>forceL (List.zipWith (λw p=>w+18446744073709551616*p) ws acc) g)=_
  rw [qRa L,qA7];rfl
def wd(M:List (List UInt8))(j z:Nat):UInt32:=Sha.word (M.getD z []) j
theorem qOL(n:Nat)(f:Nat→Nat):qBF (n+1) f=f 0+18446744073709551616*qBF n (λi=>f (i+1)):=rfl
attribute [local irreducible] qBF Sha.word
theorem qWX(b:List UInt8)(M:List (List UInt8))(j:Nat):pk (b::M).length (wd (b::M) j)=(Sha.word b j).toNat+18446744073709551616*pk M.length (wd M j):=by
 have h: ∀i,wd (b::M) j (i+1)=wd M j i:=λi=>by unfold wd;rw [List.getD_cons_succ]
 have h0:wd (b::M) j 0=Sha.word b j:=by unfold wd;rw [List.getD_cons_zero]
 unfold pk
 rw [List.length_cons,qOL,h0]
 simp only [h]
theorem qO2{f g:Nat→Nat}: ∀(l:List Nat),List.zipWith (λw p=>w+18446744073709551616*p) (l.map f) (l.map g)=l.map λj=>f j+18446744073709551616*g j
 | []=>List.zipWith_nil_left
 |a::l=>by rw [List.map_cons,List.map_cons,List.map_cons,List.zipWith_cons_cons,qO2 l]
theorem qRb:qRc []=(List.range 16).map λj=>pk ([]:List (List UInt8)).length (wd [] j):=by
 have h: ∀j,pk ([]:List (List UInt8)).length (wd [] j)=0:=λj=>by
  unfold pk;rw [List.length_nil];unfold qBF;rfl
 simp only [h]
 decide
theorem qUI(M:List (List UInt8)):qRc (M.map λb=>(Sha.firsts b 16).map UInt32.toNat)=(List.range 16).map λj=>pk M.length (wd M j):=by
 induction M with
 |nil=>exact qRb
 |cons b M ih=>
  rw [List.map_cons,qRc,ih]
  unfold Sha.firsts
  rw [List.map_map,qO2]
  refine List.map_congr_left λj _=>?_
  rw [Function.comp_apply,qWX]
theorem K_len:Sha.K.length=64:=by decide
noncomputable def oneP{α:Type}(u:Nat)(ws:List Nat)(g:Nat→Nat→Nat→Nat→α):α:=
 forceL (rdsP u SN.KN (schP u 48 (ws.getD 0 0) (ws.getD 1 0) (ws.getD 2 0) (ws.getD 3 0) (ws.getD 4 0) (ws.getD 5 0) (ws.getD 6 0) (ws.getD 7 0) (ws.getD 8 0) (ws.getD 9 0) (ws.getD 10 0) (ws.getD 11 0) (ws.getD 12 0) (ws.getD 13 0) (ws.getD 14 0) (ws.getD 15 0)) (1779033703*u) (3144134277*u) (1013904242*u) (2773480762*u) (1359893119*u) (2600822924*u) (528734635*u) (1541459225*u)) λr=>
 qAx (qDX u (1779033703*u+r.getD 0 0)) λa=>qAx (qDX u (3144134277*u+r.getD 1 0)) λb=>qAx (qDX u (1013904242*u+r.getD 2 0)) λc=>qAx (qDX u (2773480762*u+r.getD 3 0)) λd=>g a b c d
attribute [local irreducible] rdsP schP SN.KN Sha.K
theorem qKs(N:Nat)(k:UInt32)(a:Nat→UInt32):qDX (qBP N) (k.toNat*qBP N+pk N a)=pk N λz=>k+a z:=by
 rw [qBh]
 unfold pk
 rw [qA8,qEN N (λz=>qYb (u32 _) (u32 _))]
 exact qA2 λz=>SN.add_eq k (a z)
theorem qTm(b:List UInt8):Sha.mix Sha.init b=Sha.init.add (SN.fold Sha.K (Sha.sched b) Sha.init):=by
 have:=SN.fold_rnds (Sha.sched b) Sha.init (Sha.sched_length b) 64 0 rfl
 rw [List.drop_zero,List.drop_zero] at this
 unfold Sha.mix
 rw [←this];rfl
theorem qQd{α:Type}(M:List (List UInt8))(g:Nat→Nat→Nat→Nat→α):oneP (qBP M.length) ((List.range 16).map λj=>pk M.length (wd M j)) g=
    g (pk M.length λz=>(Sha.mix Sha.init (M.getD z [])).a) (pk M.length λz=>(Sha.mix Sha.init (M.getD z [])).b) (pk M.length λz=>(Sha.mix Sha.init (M.getD z [])).c) (pk M.length λz=>(Sha.mix Sha.init (M.getD z [])).d):=by
  unfold oneP
  have hs:=qV5 M.length 48 (wd M 0) (wd M 1) (wd M 2) (wd M 3) (wd M 4) (wd M 5) (wd M 6) (wd M 7) (wd M 8) (wd M 9) (wd M 10) (wd M 11) (wd M 12) (wd M 13) (wd M 14) (wd M 15)
  have hl:=λz=>qUD z 48 [] (wd M 0) (wd M 1) (wd M 2) (wd M 3) (wd M 4) (wd M 5) (wd M 6) (wd M 7) (wd M 8) (wd M 9) (wd M 10) (wd M 11) (wd M 12) (wd M 13) (wd M 14) (wd M 15)
  obtain ⟨W,hW⟩: ∃W,W=qXv 48 (wd M 0) (wd M 1) (wd M 2) (wd M 3) (wd M 4) (wd M 5) (wd M 6) (wd M 7) (wd M 8) (wd M 9) (wd M 10) (wd M 11) (wd M 12) (wd M 13) (wd M 14) (wd M 15):=⟨_,rfl⟩
  rw [←hW] at hs
  simp only [←hW] at hl
  have hl2: ∀z,W.map (λw=>w z)=Sha.sched (M.getD z []):=λz=>by
    have:=hl z
    rw [List.nil_append,List.nil_append] at this
    rw [←this];rfl
  have hlen:Sha.K.length=W.length:=by
    have:=congrArg List.length (hl2 0)
    rw [List.length_map,Sha.sched_length] at this
    rw [this];exact K_len
  have hr:=qWN M.length Sha.K W (λ_=>Sha.init) hlen
  have e: ∀k:UInt32,(pk M.length λ_=>k)=k.toNat*qBP M.length:=λk=>(qBh M.length k).symm
  have hf: ∀z,qFH Sha.K W (λ_=>Sha.init) z=SN.fold Sha.K (Sha.sched (M.getD z [])) Sha.init:=λz=>by
    unfold qFH;rw [hl2]
  simp only [hf,e] at hr
  rw [show(((List.range 16).map λj=>pk M.length (wd M j)).getD 0 0)=pk M.length (wd M 0) from rfl,show(((List.range 16).map λj=>pk M.length (wd M j)).getD 1 0)=pk M.length (wd M 1) from rfl,show(((List.range 16).map λj=>pk M.length (wd M j)).getD 2 0)=pk M.length (wd M 2) from rfl,show(((List.range 16).map λj=>pk M.length (wd M j)).getD 3 0)=pk M.length (wd M 3) from rfl,show(((List.range 16).map λj=>pk M.length (wd M j)).getD 4 0)=pk M.length (wd M 4) from rfl,show(((List.range 16).map λj=>pk M.length (wd M j)).getD 5 0)=pk M.length (wd M 5) from rfl,show(((List.range 16).map λj=>pk M.length (wd M j)).getD 6 0)=pk M.length (wd M 6) from rfl,show(((List.range 16).map λj=>pk M.length (wd M j)).getD 7 0)=pk M.length (wd M 7) from rfl,show(((List.range 16).map λj=>pk M.length (wd M j)).getD 8 0)=pk M.length (wd M 8) from rfl,show(((List.range 16).map λj=>pk M.length (wd M j)).getD 9 0)=pk M.length (wd M 9) from rfl,show(((List.range 16).map λj=>pk M.length (wd M j)).getD 10 0)=pk M.length (wd M 10) from rfl,show(((List.range 16).map λj=>pk M.length (wd M j)).getD 11 0)=pk M.length (wd M 11) from rfl,show(((List.range 16).map λj=>pk M.length (wd M j)).getD 12 0)=pk M.length (wd M 12) from rfl,show(((List.range 16).map λj=>pk M.length (wd M j)).getD 13 0)=pk M.length (wd M 13) from rfl,show(((List.range 16).map λj=>pk M.length (wd M j)).getD 14 0)=pk M.length (wd M 14) from rfl,show(((List.range 16).map λj=>pk M.length (wd M j)).getD 15 0)=pk M.length (wd M 15) from rfl,hs,SN.KN_eq]
  obtain ⟨S,hS⟩: ∃S:Nat→Sha.St8,S=λz=>SN.fold Sha.K (Sha.sched (M.getD z [])) Sha.init:=⟨_,rfl⟩
  have hSz: ∀z,SN.fold Sha.K (Sha.sched (M.getD z [])) Sha.init=S z:=λz=>by rw [hS]
  have hm: ∀z,Sha.mix Sha.init (M.getD z [])=Sha.init.add (S z):=λz=>by rw [qTm,hSz]
  simp only [hSz] at hr
  simp only [hm]
  rw [show rdsP (qBP M.length) (Sha.K.map UInt32.toNat) (W.map (pk M.length)) (1779033703*qBP M.length) (3144134277*qBP M.length) (1013904242*qBP M.length) (2773480762*qBP M.length) (1359893119*qBP M.length) (2600822924*qBP M.length) (528734635*qBP M.length) (1541459225*qBP M.length)=_ from hr]
  rw [qA7,qAr,qAr,qAr,qAr]
  have h0:qDX (qBP M.length) (1779033703*qBP M.length+pk M.length λz=>(S z).a)=pk M.length λz=>Sha.init.a+(S z).a:=qKs M.length Sha.init.a _
  have h1:qDX (qBP M.length) (3144134277*qBP M.length+pk M.length λz=>(S z).b)=pk M.length λz=>Sha.init.b+(S z).b:=qKs M.length Sha.init.b _
  have h2:qDX (qBP M.length) (1013904242*qBP M.length+pk M.length λz=>(S z).c)=pk M.length λz=>Sha.init.c+(S z).c:=qKs M.length Sha.init.c _
  have h3:qDX (qBP M.length) (2773480762*qBP M.length+pk M.length λz=>(S z).d)=pk M.length λz=>Sha.init.d+(S z).d:=qKs M.length Sha.init.d _
  exact congr (congr (congr (congrArg g h0) h1) h2) h3
end SM
end Go.Proofs.YtcgcjaflllmlpaaGreatDoor
namespace Go.Proofs.YtcgcjaflllmlpaaGreatDoor
set_option maxRecDepth 100000
set_option maxHeartbeats 1000000
namespace SM
open SN (qAx qAr forceL qA7)
noncomputable def outs(n:Nat):Nat→Nat→Nat→Nat→List (List Nat):=
 Nat.rec (λ_ _ _ _=> []) (λ_ ih A B C D=>(SN.bytes4 (A%18446744073709551616)++(SN.bytes4 (B%18446744073709551616)++(SN.bytes4 (C%18446744073709551616)++SN.bytes4 (D%18446744073709551616))))::
  qAx (A/18446744073709551616) λA=>qAx (B/18446744073709551616) λB=>qAx (C/18446744073709551616) λC=>qAx (D/18446744073709551616) λD=>ih A B C D) n
theorem qGb(n A B C D:Nat):outs (n+1) A B C D=(SN.bytes4 (A%18446744073709551616)++(SN.bytes4 (B%18446744073709551616)++(SN.bytes4 (C%18446744073709551616)++SN.bytes4 (D%18446744073709551616))))::
    qAx (A/18446744073709551616) λA=>qAx (B/18446744073709551616) λB=>qAx (C/18446744073709551616) λC=>qAx (D/18446744073709551616) λD=>outs n A B C D:=rfl
theorem qGZ(n:Nat)(f:Nat→Nat):qBF (n+1) f=f 0+18446744073709551616*qBF n (λi=>f (i+1)):=rfl
attribute [local irreducible] qBF outs
theorem qMs(n:Nat)(a:Nat→UInt32):pk (n+1) a%18446744073709551616=(a 0).toNat:=by
 unfold pk
 rw [qGZ,Nat.add_mul_mod_self_left]
 exact Nat.mod_eq_of_lt (u64 (a 0))
theorem qMt(n:Nat)(a:Nat→UInt32):pk (n+1) a/18446744073709551616=pk n (λi=>a (i+1)):=by
 unfold pk
 rw [qGZ,Nat.add_mul_div_left _ _ (by decide),Nat.div_eq_of_lt (u64 (a 0)),Nat.zero_add]
def byt(a b c d:UInt32):List Nat:=SN.bytes4 a.toNat++(SN.bytes4 b.toNat++(SN.bytes4 c.toNat++SN.bytes4 d.toNat))
theorem qWZ: ∀(n:Nat) (a b c d:Nat→UInt32),outs n (pk n a) (pk n b) (pk n c) (pk n d)=(List.range n).map λz=>byt (a z) (b z) (c z) (d z):=by
 intro n
 induction n with
 |zero=>intro a b c d;unfold outs;rfl
 |succ n ih=>
  intro a b c d
  rw [qGb,qMs,qMs,qMs,qMs,qMt,qMt,qMt,qMt,qAr,qAr,qAr,qAr,ih,List.range_succ_eq_map,List.map_cons,List.map_map]
  rfl
theorem b4(x:UInt32):SN.bytes4 x.toNat=(Sha.numB x.toUInt64 4).map UInt8.toNat:=by
 rw [SN.bytes4_eq _ (by have:=x.toNat_lt;omega)]
 congr 2
 rw [show x.toUInt64=UInt64.ofNat x.toNat from by apply UInt64.toNat_inj.1;simp]
noncomputable def tagL(tag:Nat)(ls:List (List Nat)):List Nat:=tag::ls.flatMap λs=>SN.bytes4 s.length++s
theorem qVm(tag:UInt8)(ls:List (List UInt8))(h:(Sha.tagB tag ls).length≤55):tagL tag.toNat (ls.map (List.map UInt8.toNat))=(Sha.tagB tag ls).map UInt8.toNat:=by
 unfold tagL Sha.tagB
 simp only [List.map_append,List.map_cons,List.map_nil,List.cons_append,List.nil_append]
 congr 1
 rw [Sha.tagB_length] at h
 have h2:ls.flatten.length≤55:=by omega
 clear h
 induction ls with
 |nil=>rfl
 |cons a l ih=>
  simp only [List.flatten_cons,List.length_append] at h2
  rw [List.map_cons,List.flatMap_cons,List.flatMap_cons,List.map_append,List.map_append,List.length_map,ih (by omega),SN.bytes4_eq _ (by omega)]
end SM
end Go.Proofs.YtcgcjaflllmlpaaGreatDoor
namespace Go.Proofs.YtcgcjaflllmlpaaGreatDoor
set_option maxRecDepth 100000
set_option maxHeartbeats 1000000
namespace SM
open SN (qAx qAr forceL qA7)
def x16(a b c d:UInt32):List UInt8:=Sha.numB a.toUInt64 4++(Sha.numB b.toUInt64 4++(Sha.numB c.toUInt64 4++Sha.numB d.toUInt64 4))
theorem qYJ(s:Sha.St8):(Sha.out s).take 16=x16 s.a s.b s.c s.d:=by
 have e:Sha.out s=x16 s.a s.b s.c s.d++(Sha.numB s.e.toUInt64 4++(Sha.numB s.f.toUInt64 4++(Sha.numB s.g.toUInt64 4++Sha.numB s.h.toUInt64 4))):=by
  unfold Sha.out Sha.St8.list x16
  simp only [List.flatMap_cons,List.flatMap_nil,List.append_nil,List.append_assoc]
 rw [e,List.take_left' (by unfold x16;simp only [List.length_append,Sha.numB_length])]
theorem num4(x:UInt32):Sha.numB x.toUInt64 4= [UInt8.ofNat (x.toNat/2^24),UInt8.ofNat (x.toNat/2^16),UInt8.ofNat (x.toNat/2^8),UInt8.ofNat x.toNat]:=by
 rw [show x.toUInt64=UInt64.ofNat x.toNat from by apply UInt64.toNat_inj.1;simp]
 exact R3.four_nat x.toNat (by have:=x.toNat_lt;omega)
theorem qY1(x:UInt32):Sha.be32 0 0 16 (UInt8.ofNat (x.toNat/2^24))=4096+Sha.shr x 24:=by
 apply UInt32.toNat_inj.1
 have hx:=x.toNat_lt
 rw [R3.be32_nat,UInt32.toNat_add,R3.shr_nat x 24 (by decide),UInt8.toNat_ofNat']
 show 256*(256*(256*0+0)+16)+x.toNat/2^24%256=(4096+x.toNat/2^24)%4294967296
 omega
theorem qRy(x y:UInt32):Sha.be32 (UInt8.ofNat (x.toNat/2^16)) (UInt8.ofNat (x.toNat/2^8)) (UInt8.ofNat x.toNat) (UInt8.ofNat (y.toNat/2^24))=x*256+Sha.shr y 24:=by
 apply UInt32.toNat_inj.1
 have hx:=x.toNat_lt
 have hy:=y.toNat_lt
 rw [R3.be32_nat,UInt32.toNat_add,UInt32.toNat_mul,R3.shr_nat y 24 (by decide),UInt8.toNat_ofNat',UInt8.toNat_ofNat',UInt8.toNat_ofNat',UInt8.toNat_ofNat']
 show 256*(256*(256*(x.toNat/2^16%256)+x.toNat/2^8%256)+x.toNat%256)+y.toNat/2^24%256=(x.toNat*256%4294967296+y.toNat/2^24)%4294967296
 omega
theorem qY2(x:UInt32):Sha.be32 (UInt8.ofNat (x.toNat/2^16)) (UInt8.ofNat (x.toNat/2^8)) (UInt8.ofNat x.toNat) 128=x*256+128:=by
 apply UInt32.toNat_inj.1
 have hx:=x.toNat_lt
 rw [R3.be32_nat,UInt32.toNat_add,UInt32.toNat_mul,UInt8.toNat_ofNat',UInt8.toNat_ofNat',UInt8.toNat_ofNat']
 show 256*(256*(256*(x.toNat/2^16%256)+x.toNat/2^8%256)+x.toNat%256)+128=(x.toNat*256%4294967296+128)%4294967296
 omega
def plc(leaf chain k:Nat):List UInt8:= [0,0,0,UInt8.ofNat leaf,UInt8.ofNat chain,UInt8.ofNat k]
def qXw(o:List UInt8)(j:Nat):UInt32:=Sha.be32 (o.getD (4*j+3) 0) (o.getD (4*j+4) 0) (o.getD (4*j+5) 0) (o.getD (4*j+6) 0)
def qVr(o:List UInt8)(p:UInt32)(a b c d:UInt32):List UInt32:=
 [33554432,Sha.be32 16 (o.getD 0 0) (o.getD 1 0) (o.getD 2 0),qXw o 0,qXw o 1,qXw o 2,Sha.be32 (o.getD 15 0) 0 0 0,100663296,p,4096+Sha.shr a 24,a*256+Sha.shr b 24,b*256+Sha.shr c 24,c*256+Sha.shr d 24,d*256+128,0,0,408]
theorem n16:Sha.numB (UInt64.ofNat 16) 4= [0,0,0,16]:=by decide+kernel
theorem n6:Sha.numB (UInt64.ofNat 6) 4= [0,0,0,6]:=by decide+kernel
theorem n408:Sha.numB (8*UInt64.ofNat 51) 8= [0,0,0,0,0,0,1,152]:=by decide+kernel
theorem qSm(o0 o1 o2 o3 o4 o5 o6 o7 o8 o9 o10 o11 o12 o13 o14 o15 x0 x1 x2 x3 x4 x5 x6 x7 x8 x9 x10 x11 x12 x13 x14 x15:UInt8)(leaf chain k:Nat):Sha.tagB 2 [[o0,o1,o2,o3,o4,o5,o6,o7,o8,o9,o10,o11,o12,o13,o14,o15],plc leaf chain k,[x0,x1,x2,x3,x4,x5,x6,x7,x8,x9,x10,x11,x12,x13,x14,x15]]= [2,0,0,0,16,o0,o1,o2,o3,o4,o5,o6,o7,o8,o9,o10,o11,o12,o13,o14,o15,0,0,0,6,0,0,0,UInt8.ofNat leaf,UInt8.ofNat chain,UInt8.ofNat k,0,0,0,16,x0,x1,x2,x3,x4,x5,x6,x7,x8,x9,x10,x11,x12,x13,x14,x15]:=by
 show [2]++(Sha.numB (UInt64.ofNat 16) 4++ [o0,o1,o2,o3,o4,o5,o6,o7,o8,o9,o10,o11,o12,o13,o14,o15]++(Sha.numB (UInt64.ofNat 6) 4++plc leaf chain k++(Sha.numB (UInt64.ofNat 16) 4++ [x0,x1,x2,x3,x4,x5,x6,x7,x8,x9,x10,x11,x12,x13,x14,x15]++ [])))=_
 rw [n16,n6];rfl
theorem pad51(l:List UInt8)(h:l.length=51):Sha.pad l=l++ [128,0,0,0,0,0,0,0,0,0,0,1,152]:=by
 unfold Sha.pad
 rw [h,n408,List.append_assoc,List.append_assoc];rfl
theorem be_2:Sha.be32 2 0 0 0=33554432:=by decide+kernel
theorem be_6:Sha.be32 6 0 0 0=100663296:=by decide+kernel
theorem be_0:Sha.be32 0 0 0 0=0:=by decide+kernel
theorem qY3:Sha.be32 0 0 1 152=408:=by decide+kernel
theorem qPa(o0 o1 o2 o3 o4 o5 o6 o7 o8 o9 o10 o11 o12 o13 o14 o15 x0 x1 x2 x3 x4 x5 x6 x7 x8 x9 x10 x11 x12 x13 x14 x15:UInt8)(leaf chain k:Nat):Sha.firsts (Sha.pad [2,0,0,0,16,o0,o1,o2,o3,o4,o5,o6,o7,o8,o9,o10,o11,o12,o13,o14,o15,0,0,0,6,0,0,0,UInt8.ofNat leaf,UInt8.ofNat chain,UInt8.ofNat k,0,0,0,16,x0,x1,x2,x3,x4,x5,x6,x7,x8,x9,x10,x11,x12,x13,x14,x15]) 16= [(Sha.be32 2 0 0 0),(Sha.be32 16 o0 o1 o2),(Sha.be32 o3 o4 o5 o6),(Sha.be32 o7 o8 o9 o10),(Sha.be32 o11 o12 o13 o14),(Sha.be32 o15 0 0 0),(Sha.be32 6 0 0 0),(Sha.be32 (UInt8.ofNat leaf) (UInt8.ofNat chain) (UInt8.ofNat k) 0),(Sha.be32 0 0 16 x0),(Sha.be32 x1 x2 x3 x4),(Sha.be32 x5 x6 x7 x8),(Sha.be32 x9 x10 x11 x12),(Sha.be32 x13 x14 x15 128),(Sha.be32 0 0 0 0),(Sha.be32 0 0 0 0),(Sha.be32 0 0 1 152)]:=by
 rw [pad51 _ rfl];rfl
theorem qN3(o:List UInt8)(ho:o.length=16)(leaf chain k:Nat)(a b c d:UInt32):Sha.firsts (Sha.pad (Sha.tagB 2 [o,plc leaf chain k,x16 a b c d])) 16=qVr o (Sha.be32 (UInt8.ofNat leaf) (UInt8.ofNat chain) (UInt8.ofNat k) 0) a b c d:=by
 unfold qVr
 rw [←qY1 a,←qRy a b,←qRy b c,←qRy c d,←qY2 d]
 unfold x16
 rw [num4,num4,num4,num4]
 match o,ho with
 | [o0,o1,o2,o3,o4,o5,o6,o7,o8,o9,o10,o11,o12,o13,o14,o15],_=>
  show Sha.firsts (Sha.pad (Sha.tagB 2 [[o0,o1,o2,o3,o4,o5,o6,o7,o8,o9,o10,o11,o12,o13,o14,o15],plc leaf chain k,[UInt8.ofNat (a.toNat/2^24),UInt8.ofNat (a.toNat/2^16),UInt8.ofNat (a.toNat/2^8),UInt8.ofNat a.toNat,UInt8.ofNat (b.toNat/2^24),UInt8.ofNat (b.toNat/2^16),UInt8.ofNat (b.toNat/2^8),UInt8.ofNat b.toNat,UInt8.ofNat (c.toNat/2^24),UInt8.ofNat (c.toNat/2^16),UInt8.ofNat (c.toNat/2^8),UInt8.ofNat c.toNat,UInt8.ofNat (d.toNat/2^24),UInt8.ofNat (d.toNat/2^16),UInt8.ofNat (d.toNat/2^8),UInt8.ofNat d.toNat]])) 16=_
  rw [qSm,qPa,be_2,be_6,be_0,qY3]
  rfl
end SM
end Go.Proofs.YtcgcjaflllmlpaaGreatDoor
namespace Go.Proofs.YtcgcjaflllmlpaaGreatDoor
set_option maxRecDepth 100000
set_option maxHeartbeats 1000000
namespace SM
open SN (qAx qAr forceL qA7)
theorem qIf: ∀{n:Nat} {f g:Nat→Nat},(∀i,i<n→f i=g i)→qBF n f=qBF n g
 |0,_,_,_=>rfl
 |n+1,f,g,h=>by rw [qBF,qBF,h 0 (by omega),qIf (λi hi=>h (i+1) (by omega))]
theorem pk_lt{n:Nat}{a b:Nat→UInt32}(h: ∀i,i<n→a i=b i):pk n a=pk n b:=qIf λi hi=>congrArg UInt32.toNat (h i hi)
attribute [local irreducible] qBF Sha.word Sha.be32 Sha.shr
theorem qQp(N:Nat)(a b:Nat→UInt32):qDX (qBP N) (pk N a*256+qJO (qBP N) (pk N b) 24)=pk N λz=>a z*256+Sha.shr (b z) 24:=by
 rw [qIP N b (by decide) (by decide)]
 unfold pk
 rw [qDf,qA8,qEN N (λz=>by
  have h1:=u32 (a z)
  have h2:=u32 (Sha.shr (b z) 24)
  show(a z).toNat*256+(Sha.shr (b z) 24).toNat<2^64
  omega)]
 refine qA2 λz=>?_
 show((a z).toNat*256+(Sha.shr (b z) 24).toNat)%4294967296=(a z*256+Sha.shr (b z) 24).toNat
 rw [UInt32.toNat_add,UInt32.toNat_mul]
 show _=((a z).toNat*256%4294967296+_)%4294967296
 omega
theorem qYq(N:Nat)(a:Nat→UInt32):qDX (qBP N) (pk N a*256+128*qBP N)=pk N λz=>a z*256+128:=by
 rw [show 128*qBP N=pk N λ_=>128 from qBh N 128]
 unfold pk
 rw [qDf,qA8,qEN N (λz=>by
  have h1:=u32 (a z)
  show(a z).toNat*256+128<2^64
  omega)]
 refine qA2 λz=>?_
 show((a z).toNat*256+128)%4294967296=(a z*256+128).toNat
 rw [UInt32.toNat_add,UInt32.toNat_mul]
 show _=((a z).toNat*256%4294967296+128)%4294967296
 omega
theorem qX7(N:Nat)(a:Nat→UInt32):qDX (qBP N) (4096*qBP N+qJO (qBP N) (pk N a) 24)=pk N λz=>4096+Sha.shr (a z) 24:=by
 rw [qIP N a (by decide) (by decide)]
 exact qKs N 4096 _
noncomputable def stepP{α:Type}(u o0 o1 o2 o3 o4 w A B C D:Nat)(g:Nat→Nat→Nat→Nat→α):α:=
 forceL [33554432*u,o0*u,o1*u,o2*u,o3*u,o4*u,100663296*u,w,qDX u (4096*u+qJO u A 24),qDX u (A*256+qJO u B 24),qDX u (B*256+qJO u C 24),qDX u (C*256+qJO u D 24),qDX u (D*256+128*u),0*u,0*u,408*u] λws=>oneP u ws g
def oW(o:List UInt8):Nat→UInt32
 |0=>Sha.be32 16 (o.getD 0 0) (o.getD 1 0) (o.getD 2 0)
 |1=>qXw o 0
 |2=>qXw o 1
 |3=>qXw o 2
 |_=>Sha.be32 (o.getD 15 0) 0 0 0
theorem qSq{α:Type}(N:Nat)(o:List UInt8)(ho:o.length=16)(lf ch:Nat→Nat)(k:Nat)(a b c d:Nat→UInt32)(w:Nat)(hw:w=pk N λz=>Sha.be32 (UInt8.ofNat (lf z)) (UInt8.ofNat (ch z)) (UInt8.ofNat k) 0)(g:Nat→Nat→Nat→Nat→α):
    ∃a' b' c' d':Nat→UInt32,stepP (qBP N) (oW o 0).toNat (oW o 1).toNat (oW o 2).toNat (oW o 3).toNat (oW o 4).toNat w (pk N a) (pk N b) (pk N c) (pk N d) g=g (pk N a') (pk N b') (pk N c') (pk N d')∧
      ∀z,z<N→x16 (a' z) (b' z) (c' z) (d' z)=Sha.tagged 2 [o,plc (lf z) (ch z) k,x16 (a z) (b z) (c z) (d z)]:=by
  obtain ⟨M,hM⟩: ∃M,M=(List.range N).map λz=>Sha.pad (Sha.tagB 2 [o,plc (lf z) (ch z) k,x16 (a z) (b z) (c z) (d z)]):=⟨_,rfl⟩
  have hlen:M.length=N:=by rw [hM,List.length_map,List.length_range]
  have hz: ∀z,z<N→M.getD z []=Sha.pad (Sha.tagB 2 [o,plc (lf z) (ch z) k,x16 (a z) (b z) (c z) (d z)]):=λz h=>by
    rw [hM,List.getD_eq_getElem?_getD,List.getElem?_map,List.getElem?_range h];rfl
  have hwd: ∀j,j<16→pk N (wd M j)=pk N λz=>(qVr o (Sha.be32 (UInt8.ofNat (lf z)) (UInt8.ofNat (ch z)) (UInt8.ofNat k) 0) (a z) (b z) (c z) (d z)).getD j 0:=λj hj=>pk_lt λz h=>by
    have:=qN3 o ho (lf z) (ch z) k (a z) (b z) (c z) (d z)
    rw [←hz z h] at this
    rw [←this]
    unfold Sha.firsts wd
    generalize M.getD z []=q
    rw [List.getD_eq_getElem?_getD,List.getElem?_map,List.getElem?_range hj];rfl
  have hl: [33554432*qBP N,(oW o 0).toNat*qBP N,(oW o 1).toNat*qBP N,(oW o 2).toNat*qBP N,(oW o 3).toNat*qBP N,(oW o 4).toNat*qBP N,100663296*qBP N,w,qDX (qBP N) (4096*qBP N+qJO (qBP N) (pk N a) 24),qDX (qBP N) (pk N a*256+qJO (qBP N) (pk N b) 24),qDX (qBP N) (pk N b*256+qJO (qBP N) (pk N c) 24),qDX (qBP N) (pk N c*256+qJO (qBP N) (pk N d) 24),qDX (qBP N) (pk N d*256+128*qBP N),0*qBP N,0*qBP N,408*qBP N]=(List.range 16).map λj=>pk M.length (wd M j):=by
    rw [hlen,qX7,qQp,qQp,qQp,qYq,qBh,qBh,qBh,qBh,qBh,hw]
    rw [show 33554432*qBP N=pk N λ_=>33554432 from qBh N 33554432,show 100663296*qBP N=pk N λ_=>100663296 from qBh N 100663296,show 0*qBP N=pk N λ_=>0 from qBh N 0,show 408*qBP N=pk N λ_=>408 from qBh N 408]
    show _= [pk N (wd M 0),pk N (wd M 1),pk N (wd M 2),pk N (wd M 3),pk N (wd M 4),pk N (wd M 5),pk N (wd M 6),pk N (wd M 7),pk N (wd M 8),pk N (wd M 9),pk N (wd M 10),pk N (wd M 11),pk N (wd M 12),pk N (wd M 13),pk N (wd M 14),pk N (wd M 15)]
    rw [hwd 0 (by decide),hwd 1 (by decide),hwd 2 (by decide),hwd 3 (by decide),hwd 4 (by decide),hwd 5 (by decide),hwd 6 (by decide),hwd 7 (by decide),hwd 8 (by decide),hwd 9 (by decide),hwd 10 (by decide),hwd 11 (by decide),hwd 12 (by decide),hwd 13 (by decide),hwd 14 (by decide),hwd 15 (by decide)]
    rfl
  refine⟨λz=>(Sha.mix Sha.init (M.getD z [])).a,λz=>(Sha.mix Sha.init (M.getD z [])).b,λz=>(Sha.mix Sha.init (M.getD z [])).c,λz=>(Sha.mix Sha.init (M.getD z [])).d,?_,λz h=>?_⟩
  · unfold stepP
    rw [qA7,hl]
    have:=qQd M g
    rw [hlen] at this
    rw [hlen]
    exact this
  · rw [←qYJ,hz z h]
    unfold Sha.tagged Sha.sum
    have h51:(Sha.tagB 2 [o,plc (lf z) (ch z) k,x16 (a z) (b z) (c z) (d z)]).length=51:=by
      rw [Sha.tagB_length]
      simp only [List.flatten_cons,List.flatten_nil,List.length_append,List.length_cons,List.length_nil,ho]
      unfold x16 plc
      simp only [List.length_append,Sha.numB_length,List.length_cons,List.length_nil]
    rw [show(Sha.pad (Sha.tagB 2 [o,plc (lf z) (ch z) k,x16 (a z) (b z) (c z) (d z)])).length/64=1 by rw [Sha.pad_length,h51],Sha.mixes,Sha.mixes,Nat.mul_zero,List.drop_zero]
end SM
end Go.Proofs.YtcgcjaflllmlpaaGreatDoor
namespace Go.Proofs.YtcgcjaflllmlpaaGreatDoor
open Go Go.Fw Go.Proofs.Tryz
set_option maxRecDepth 100000
set_option maxHeartbeats 1000000
namespace Mk
def node(a b:List UInt8):List UInt8:=Sha.tagged 5 [a,b]
def above(l:List (List UInt8)):List (List UInt8):=(List.range (l.length/2)).map λk=>node (l.getD (2*k) []) (l.getD (2*k+1) [])
def lvl(l:List (List UInt8)):Nat→List (List UInt8)
 |0=>l
 |j+1=>above (lvl l j)
def root(l:List (List UInt8))(h:Nat):List UInt8:=(lvl l h).getD 0 []
def path(l:List (List UInt8))(i h:Nat):List (List UInt8):=(List.range h).map λj=>(lvl l j).getD ((i/2^j)^^^1) []
def climb:List UInt8→Nat→List (List UInt8)→List UInt8
 |x,_,[]=>x
 |x,i,s::r=>climb (if i%2=0 then node x s else node s x) (i/2) r
def Right(n:Nat):Prop:=n=1∨n=2∨n=4∨n=8∨n=16∨n=32∨n=64
instance (n:Nat):Decidable (Right n):=by unfold Right;infer_instance
theorem qPx: ∀n:Fin 65,(1≤n.val∧n.val&&&(n.val-1)=0)↔Right n.val:=by decide+kernel
theorem right_of(n:Nat):(1≤n∧n≤64∧n&&&(n-1)=0)↔Right n:=by
  by_cases h:n<65
  · have:=qPx ⟨n,h⟩
    dsimp only at this
    rw [←this]
    constructor
    · intro ⟨a,_,c⟩;exact⟨a,c⟩
    · intro ⟨a,c⟩;exact⟨a,by omega,c⟩
  · constructor
    · intro ⟨_,b,_⟩;omega
    · intro hr;unfold Right at hr;omega
theorem right_pow(h:Nat)(h6:h≤6):Right (2^h):=by
 have: ∀h:Fin 7,Right (2^h.val):=by decide+kernel
 exact this ⟨h,by omega⟩
theorem node_length(a b:List UInt8):(node a b).length=16:=Sha.tagged_length _ _
theorem qKu(l:List (List UInt8)):(above l).length=l.length/2:=by simp [above]
theorem qMF(l:List (List UInt8)): ∀s∈above l,s.length=16:=λs hs=>by
 simp only [above,zc] at hs
 obtain ⟨k,_,rfl⟩:=hs
 exact node_length _ _
theorem lvl_succ_length(l:List (List UInt8))(j:Nat):(lvl l (j+1)).length=(lvl l j).length/2:=qKu _
theorem lvl_length(l:List (List UInt8))(h:Nat)(hl:l.length=2^h): ∀j,j≤h→(lvl l j).length=2^(h-j)
 |0,_=>hl
 |j+1,hj=>by
  rw [lvl_succ_length,lvl_length l h hl j (by omega),show h-j=(h-(j+1))+1 by omega,jr]
  omega
theorem lvl_small(l:List (List UInt8))(hs: ∀s∈l,s.length≤1048576): ∀j,∀s∈lvl l j,s.length≤1048576
 |0=>hs
 |j+1=>λs h=>by rw [qMF _ s h];decide
theorem xor_one(m k:Nat)(h:m<2*k):m^^^1<2*k:=by
 have e1:(m^^^1)/2=m/2:=by rw [Nat.xor_div_two];simp
 omega
theorem path_succ(l:List (List UInt8))(i h:Nat):path l i (h+1)=path l i h++ [(lvl l h).getD ((i/2^h)^^^1) []]:=by simp [path,jw]
theorem path_length(l:List (List UInt8))(i h:Nat):(path l i h).length=h:=by simp [path]
theorem above_succ(l:List (List UInt8))(k:Nat):((List.range (k+1)).map λk=>node (l.getD (2*k) []) (l.getD (2*k+1) []))=((List.range k).map λk=>node (l.getD (2*k) []) (l.getD (2*k+1) []))++ [node (l.getD (2*k) []) (l.getD (2*k+1) [])]:=by simp [jw]
theorem getS{l:List (List UInt8)}{j:Nat}(h:j<l.length):l[j]?=some (l.getD j []):=by rw [jB,jC h];rfl
theorem getS_mem{l:List (List UInt8)}{j:Nat}(h:j<l.length):l.getD j []∈l:=jL (getS h)
end Mk
theorem ent163:qAD prog 163:=qAD.of func163 rfl (by kernel_rfl)
theorem ent107:qAD prog 107:=qAD.of func107 rfl (by kernel_rfl)
theorem ent108:qAD prog 108:=qAD.of func108 rfl (by kernel_rfl)
theorem ent48:qAD prog 48:=qAD.of func48 rfl (by kernel_rfl)
theorem ent82:qAD prog 82:=qAD.of func82 rfl (by kernel_rfl)
theorem ent182:qAD prog 182:=qAD.of func182 rfl (by kernel_rfl)
theorem qJh(a:List (List UInt8)):(qAI a).all (λx=>x.all Value.oneCell')=true:=by simp [qAI,Value.oneCell']
attribute [local irreducible] Mk.node
theorem qLk(F:Hp)(hK:KF F)(a b:List UInt8)(ha:a.length≤1048576)(hb:b.length≤1048576):
    Cz prog 163 [Str a,Str b] F (Str (Mk.node a b)):=by
  refine Ct.walk func163 rfl ntmps163 rfl (λw0 hw0=>?_)
  exact J.f λ_ j1=>J.b O<|J.c j1<|J.f λ_ j2=>J.q 2 O<|J.p (qAG (l:= [.tmp 5,.tmp 6]) (xs:= [[Str a],[Str b]]) O O O O qAk el9 O (by decide) (by decide) (by simp)) rfl λg7 _=>J.p (qAB rfl rfl ent46 (Ct.use0 (λF' hF=>qA3 F' (hK.mono (Fa hF)) 5 (some ⟨g7,0,none⟩) 2 2 [a,b] (((qAl (q:=True) (xs:=qAI [a,b]) rfl (by simp [qAI])).sl (m:=blk g7 [Str a,Str b] 9)).mono (Fa hF)) (by simp;omega) (by decide)))) rfl λg8 _=>J.b rfl<|J.c j2<|J.A<|J.E hw0 rfl () (by unfold Mk.node;rfl) trivial [0] rfl (by decide)
theorem qMi(F:Hp)(n:Nat)(hn:n<9223372036854775808):Cz prog 107 [I n] F (.bool (decide (Mk.Right n))):=by
 have hR:=Mk.right_of n
 refine Ct.walk func107 rfl ntmps107 rfl (λw0 hw0=>?_)
 refine J.f λ_ j1=>J.b O<|J.c j1<|J.f λ_ j2=>J.b O<|J.g (qBA O O O) O<|J.b O<|J.b9 (d:=5) O (λh5=>?_) (λh5=>?_)
 ·
  refine J.b O<|J.G (qCM O O O) O<|J.q 2 O<|J.b9 (d:=9) O (λh9=>?_) (λh9=>?_)
  ·
   exact J.q 2 O<|J.G ((qA4 O O O (by omega)).nat (n-1) (by omega)) O<|J.G (qLe O O O (by omega)) O<|J.G (qAg O O O) O<|J.q 2 O<|J.c j2<|J.A<|J.E hw0 O () (congrArg Value.bool (decide_eq_decide.2 (by rw [←hR];omega))) trivial [0] rfl (by decide)
  exact J.q 7 O<|J.c j2<|J.A<|J.E hw0 O () (congrArg Value.bool (decide_eq_false (by rw [←hR];omega)).symm) trivial [0] rfl (by decide)
 exact J.q 11 O<|J.c j2<|J.A<|J.E hw0 O () (congrArg Value.bool (decide_eq_false (by rw [←hR];omega)).symm) trivial [0] rfl (by decide)
theorem qNk(F:Hp)(hK:KF F)(A:Option Addr)(n c:Nat)(ls:List (List UInt8))(hl:Sl F 1 A n c (qAI ls))(hsm: ∀s∈ls,s.length≤1048576)(hn:n≤1048576):
    Ct prog 108 [.slice A n c] [F] (λx:Option Addr×Nat×Hp=> .slice x.1 (n/2) x.2.1) (λx=>Row x.2.2 9 1 x.1 (n/2) x.2.1 (qAI (Mk.above ls))) (λx=> [F,x.2.2]):=by
  have hlen:ls.length=n:=by have:=hl.1;simpa [qAI] using this
  refine Ct.walk func108 rfl ntmps108 rfl (λw0 hw0=>?_)
  refine J.f λ_ j1=>J.b O<|J.c j1<|J.f λ_ j2=>J.b O<|J.c j2<|J.k λ_ j3=>J.k λ_ j4=>J.c7 [0,1] [F,(λ_=>none)] O (by decide)<|J.H<|J.b O<|J.c j4<|J.O<|J.b4 (X:=Nat×Option Addr×Nat×Hp) (λx=> [(0,.slice A n c),(3,.slice x.2.1 x.1 x.2.2.1),(4,I ((2*x.1:Nat):Int))]) (λx=> [F,x.2.2.2]) (λx=>2*x.1≤n∧Row x.2.2.2 9 1 x.2.1 x.1 x.2.2.1 (qAI ((List.range x.1).map λk=>Mk.node (ls.getD (2*k) []) (ls.getD (2*k+1) [])))) (λx=>n-x.1) (0,none,0,λ_=>none) (⟨jG _,qBb.nil⟩) ⟨O,O,O,trivial⟩ (λ_ h=>h) ?_
  rintro⟨k,A1,c1,m⟩ ⟨hk,hrow⟩ I0 hI0
  dsimp only at hk hrow⊢
  refine J.k λ_ j5=>J.f λ_ j6=>J.b O<|J.g ((qAS O O O (by omega))) O<|J.b O<|J.g (qAU qAk O O) O<|J.g (qAT O O O) O<|J.c j6<|J.W O (λh9=>?_) (λh9=>?_)
  ·
    refine J.M j5<|J.k λ_ j7=>J.O<|J.b0 [F] [] (.y 0 (.y 1 (.y 2 (.y 3 (.y 4 (.y 5 (.y 6 (.y 7 (.y 8 (.y 9 (.e 10 (.e 11 (.e 12 (.y 13 .nil)))))))))))))) Tryz.wide (by decide+kernel) (by simp) ?_
    iterate 3 refine J.L ?_
    refine J.j O (qAH O O O qAk z9_ hl (by omega)) O O<|J.j O (qAJ O O b9_ (m:=F) (by simp) (hl.elem (qAa (Mk.getS (l:=ls) (j:=2*k) (by omega))))) rfl rfl<|J.L ?_
    refine J.L ?_
    refine J.j O ((qAS O O O (by omega)).nat (2*k+1) (by omega)) O O<|J.j O (qAH O O O qAk z9_ hl (by omega)) O O<|J.j O (qAJ O O b9_ (m:=F) (by simp) (hl.elem (qAa (Mk.getS (l:=ls) (j:=2*k+1) (by omega))))) rfl rfl<|J.Z rfl (qAB rfl rfl ent163 (Ct.use0 (λF' hF=>qLk F' (hK.mono (Fa hF)) (ls.getD (2*k) []) (ls.getD (2*k+1) []) (hsm _ (Mk.getS_mem (by omega))) (hsm _ (Mk.getS_mem (by omega)))))) rfl (by simp) λg22 _=>J.Z rfl (qAG (l:= [.tmp 22]) (xs:= [[Str (Mk.node (ls.getD (2*k) []) (ls.getD (2*k+1) []))]]) rfl rfl rfl rfl qAk el9 rfl (by decide) (by decide) (by simp)) rfl (by simp) λg23 _=>J.Z rfl (qAV (i:=1) (m2:=blk g23 [Str (Mk.node (ls.getD (2*k) []) (ls.getD (2*k+1) []))] 9) rfl rfl rfl qAk qAk el9 rfl hrow (by simp) (qAl (q:=True) (xs:=qAI [Mk.node (ls.getD (2*k) []) (ls.getD (2*k+1) [])]) rfl (by simp [qAI])).sl (qJh _) (by omega) (by omega)) rfl (by simp) ?_
    rintro⟨A24,c24,m24⟩ h24
    try dsimp only at h24
    rw [←qCB,←Mk.above_succ ls k] at h24
    refine J.b6 ?_
    refine J.a8<|J.a2<|J.u (J.D j7 ?_)
    refine J.c1 [0,1] [F,m24] O (by decide)<|J.H<|J.b O<|J.g ((qAS O O O (by omega)).nat (2*(k+1)) (by omega)) O<|J.b O<|J.a3<|J.u<|J.a4 (k+1,A24,c24,m24) (λx (hx:_∧n-x.1<n-k)=>hI0 x hx.1 hx.2) ⟨⟨by dsimp only;omega,h24⟩,by dsimp only;omega⟩ ⟨O,O,O,trivial⟩ (λ_ h=>h)
  refine J.b2<|J.a0<|J.a0<|J.b3 ?_
  refine J.u (J.D j3 ?_)
  refine J.f λ_ j8=>J.q 2 O<|J.c j8<|J.A ?_
  have hk2:k=n/2:=by omega
  subst hk2
  exact J.E hw0 O (A1,c1,m) O (by rw [←hlen] at hrow;unfold Mk.above;rw [←hlen];exact hrow) [0,1] rfl (by decide)
theorem qWA(F:Hp)(hK:KF F)(A:Option Addr)(n c:Nat)(ls:List (List UInt8))(hl:Sl F 1 A n c (qAI ls))(h:Nat)(h6:h≤6)(hn:n=2^h)(hsm: ∀s∈ls,s.length≤1048576):
    Cz prog 48 [.slice A n c] F (.tuple #[Str (Mk.root ls h),I 0]):=by
  have hlen:ls.length=n:=by have:=hl.1;simpa [qAI] using this
  have hR:Mk.Right n:=by rw [hn];exact Mk.right_pow h h6
  have hn64:n≤64:=by unfold Mk.Right at hR;omega
  have hlv: ∀j,j≤h→(Mk.lvl ls j).length=2^(h-j):=Mk.lvl_length ls h (by omega)
  have hle: ∀j,2^(h-j)≤64:=λj=>jb (jf (by decide) (show h-j≤6 by omega)) (by decide)
  refine Ct.walk func48 rfl ntmps48 rfl (λw0 hw0=>?_)
  refine J.f λ_ j1=>J.q 2 O<|J.c j1<|J.k λ_ j2=>J.f λ_ j3=>J.b O<|J.g (qAU qAk O O) O<|J.p (qAB O O ent107 (qMi F n (by omega))) O λg6 _=>J.g ((qGe O O).as (v':= .bool false) (by simp [hR])) rfl<|J.c7 [0,1] [F,(λ_=>none)] rfl (by decide)<|J.c j3<|J.a1 ?_
  refine J.M j2<|J.k λ_ j4=>J.O<|J.b4 (X:=Nat×Option Addr×Nat×Hp) (λx=> [(0,.slice x.2.1 (Mk.lvl ls x.1).length x.2.2.1)]) (λx=> [F,x.2.2.2]) (λx=>x.1≤h∧ ∃mm∈ [F,x.2.2.2],Sl mm 1 x.2.1 (Mk.lvl ls x.1).length x.2.2.1 (qAI (Mk.lvl ls x.1))) (λx=>h-x.1) (0,A,c,λ_=>none) (⟨jG _,F,.head _,by rw [show(Mk.lvl ls (0,A,c,(λ_=>none:Hp)).1).length=n from hlen];exact hl⟩) ⟨by rw [←hlen];rfl,trivial⟩ (λ_ h=>h) ?_
  rintro⟨j,A1,c1,m⟩ ⟨hj,mm,hmm,hsl⟩ I0 hI0
  dsimp only at hj hmm hsl⊢
  have hj2:=hlv j hj
  have hj3:=hle j
  have hpos:0<(Mk.lvl ls j).length:=by rw [hj2];exact jz _
  have hmm2:mm=F∨mm=m:=by simpa using hmm
  refine J.k λ_ j5=>J.f λ_ j6=>J.b O<|J.g (qAU qAk O O) O<|J.g (qA5 O O O) O<|J.c j6<|J.W O (λh10=>?_) (λh10=>?_)
  ·
    refine J.M j5<|J.O ?_
    have hjh:j<h:=by
      rcases zy j h with hlt|hge
      · exact hlt
      · rw [hj2,show h-j=0 by omega] at h10;simp at h10
    refine J.H<|J.b O<|J.p (qAB O O ent108 (Ct.use (λF' hF=>qNk F' (hK.mono (Fa hF)) A1 (Mk.lvl ls j).length c1 (Mk.lvl ls j) (hsl.mono (hF _ (by rcases hmm2 with rfl|rfl<;>simp))) (Mk.lvl_small ls hsm j) (by omega)))) rfl ?_
    rintro⟨A12,c12,m12⟩ h12
    try dsimp only at h12
    refine J.c1 [0,2] [F,m12] O (by decide)<|J.b O<|J.a3<|J.a2<|J.u<|J.a4 (j+1,A12,c12,m12) (λx (hx:_∧h-x.1<h-j)=>hI0 x hx.1 hx.2) ⟨⟨by dsimp only;omega,m12,by simp,by rw [Mk.lvl_succ_length];exact h12.sl⟩,by dsimp only;omega⟩ ⟨by rw [Mk.lvl_succ_length];rfl,trivial⟩ (λ_ h=>h)
  refine J.b2<|J.a0<|J.a0<|J.b3 ?_
  refine J.u (J.D j4 ?_)
  refine J.k λ_ j7=>?_
  have hjh:j=h:=by
    rcases zy j h with hlt|hge
    · have:=Nat.one_lt_two_pow_iff.2 (show h-j≠0 by omega)
      omega
    · omega
  exact J.H<|J.b O<|J.g (qAH O O O qAk z9_ hsl hpos) O<|J.g (qAJ O O b9_ hmm (hsl.elem (qAa (Mk.getS (l:=Mk.lvl ls j) (j:=0) hpos)))) O<|J.q 2 O<|J.c j7<|J.A<|J.a9 hw0 (λ_ _ h=>h) (qCG O O O) (qAq () (by rw [hjh];rfl) trivial [0] rfl (by decide))
theorem qWY(F:Hp)(hK:KF F)(A:Option Addr)(n c:Nat)(ls:List (List UInt8))(hl:Sl F 1 A n c (qAI ls))(h:Nat)(h6:h≤6)(hn:n=2^h)(hsm: ∀s∈ls,s.length≤1048576)(i:Nat)(hi:i<n):
    Ct prog 82 [.slice A n c,I i] [F] (λx:Option Addr×Nat×Hp=> .tuple #[.slice x.1 h x.2.1,I 0]) (λx=>Row x.2.2 9 1 x.1 h x.2.1 (qAI (Mk.path ls i h))) (λx=> [F,x.2.2]):=by
  have hlen:ls.length=n:=by have:=hl.1;simpa [qAI] using this
  have hR:Mk.Right n:=by rw [hn];exact Mk.right_pow h h6
  have hn64:n≤64:=by unfold Mk.Right at hR;omega
  have hlv: ∀j,j≤h→(Mk.lvl ls j).length=2^(h-j):=Mk.lvl_length ls h (by omega)
  have hle: ∀j,2^(h-j)≤64:=λj=>jb (jf (by decide) (show h-j≤6 by omega)) (by decide)
  refine Ct.walk func82 rfl ntmps82 rfl (λw0 hw0=>?_)
  refine J.f λ_ j1=>J.q 2 O<|J.c j1<|J.k λ_ j2=>J.O<|J.f λ_ j3=>J.b O<|J.g (qAU qAk O O) O<|J.p (qAB O O ent107 (qMi F n (by omega))) O λg10 _=>J.g ((qGe O O).as (v':= .bool false) (by simp [hR])) rfl<|J.b rfl<|J.c j3<|J.a1 ?_
  refine J.f λ_ j4=>J.b O<|J.g ((qAT O O O).no (by omega)) O<|J.q 3 O<|J.G (qAU qAk O O) O<|J.G ((qBA O O O).no (by omega)) O<|J.q 2 O<|J.c j4<|J.a1 ?_
  refine J.b5<|J.a2<|J.u (J.D j2 ?_)
  refine J.k λ_ j5=>J.c7 [0,1] [F,(λ_=>none)] O (by decide)<|J.c7 [0,1,2] [F,(λ_=>none),(λ_=>none)] O (by decide)<|J.H<|J.b O<|J.c j5<|J.k λ_ j6=>J.O<|J.b4 (X:=Nat×Option Addr×Nat×Hp×Option Addr×Nat×Hp) (λx=> [(0,.slice x.2.1 (Mk.lvl ls x.1).length x.2.2.1),(1,I ((i/2^x.1:Nat):Int)),(6,.slice x.2.2.2.2.1 x.1 x.2.2.2.2.2.1)]) (λx=> [F,x.2.2.2.2.2.2,x.2.2.2.1]) (λx=>x.1≤h∧(∃mm∈ [F,x.2.2.2.1],Sl mm 1 x.2.1 (Mk.lvl ls x.1).length x.2.2.1 (qAI (Mk.lvl ls x.1)))∧Row x.2.2.2.2.2.2 9 1 x.2.2.2.2.1 x.1 x.2.2.2.2.2.1 (qAI (Mk.path ls i x.1))) (λx=>h-x.1) (0,A,c,(λ_=>none),none,0,λ_=>none) (⟨jG _,⟨F,.head _,by rw [show(Mk.lvl ls (0,A,c,(λ_=>none:Hp)).1).length=n from hlen];exact hl⟩,qBb.nil⟩) ⟨by rw [←hlen];rfl,by rw [Nat.pow_zero,Nat.div_one];rfl,rfl,trivial⟩ (λ_ h=>h) ?_
  rintro⟨j,A1,c1,m,A2,c2,m2⟩ ⟨hj,⟨mm,hmm,hsl⟩,hrow⟩ I0 hI0
  dsimp only at hj hmm hsl hrow⊢
  have hj2:=hlv j hj
  have hj3:=hle j
  have hpos:0<(Mk.lvl ls j).length:=by rw [hj2];exact jz _
  have hmm2:mm=F∨mm=m:=by simpa using hmm
  have hmF:mm∈ [F,m2,m]:=by rcases hmm2 with rfl|rfl<;>simp
  refine J.k λ_ j7=>J.f λ_ j8=>J.b O<|J.g (qAU qAk O O) O<|J.g (qA5 O O O) O<|J.c j8<|J.W O (λh23=>?_) (λh23=>?_)
  ·
    refine J.M j7<|J.k λ_ j9=>J.O ?_
    have hjh:j<h:=by
      rcases zy j h with hlt|hge
      · exact hlt
      · rw [hj2,show h-j=0 by omega] at h23;simp at h23
    have hij:i/2^j<2^(h-j):=by
      rw [z7 (jz j),←Nat.pow_add,show h-j+j=h by omega,←hn];exact hi
    have hx1:i/2^j^^^1<(Mk.lvl ls j).length:=by
      rw [hj2,show h-j=(h-j-1)+1 by omega,jr,zp]
      refine Mk.xor_one _ _ ?_
      rw [show h-j=(h-j-1)+1 by omega,jr,zp] at hij;exact hij
    refine J.H<|J.q 3 O<|J.g (qWb O O O ⟨zQ (zo _ _) (show i<9223372036854775808 by omega),by decide⟩) O<|J.g (qAH O O O qAk z9_ hsl hx1) O<|J.g (qAJ O O b9_ hmF (hsl.elem (qAa (Mk.getS (l:=Mk.lvl ls j) (j:=i/2^j^^^1) hx1)))) O<|J.p (qAG (l:= [.tmp 33]) (xs:= [[Str ((Mk.lvl ls j).getD ((i/2^j)^^^1) [])]]) O O O O qAk el9 O (by decide) (by decide) (by simp)) rfl λg34 _=>J.p (qAV (i:=1) (m2:=blk g34 [Str ((Mk.lvl ls j).getD ((i/2^j)^^^1) [])] 9) rfl rfl rfl qAk qAk el9 rfl hrow (by simp) (qAl (q:=True) (xs:=qAI [((Mk.lvl ls j).getD ((i/2^j)^^^1) [])]) rfl (by simp [qAI])).sl (qJh _) (by omega) (by omega)) rfl ?_
    rintro⟨A35,c35,m35⟩ h35
    try dsimp only at h35
    rw [←qCB,←Mk.path_succ] at h35
    refine J.b O<|J.a3<|J.a2<|J.u (J.D j9 ?_)
    refine J.H<|J.b O<|J.p (qAB O O ent108 (Ct.use (λF' hF=>qNk F' (hK.mono (Fa hF)) A1 (Mk.lvl ls j).length c1 (Mk.lvl ls j) (hsl.mono (hF _ (by rcases hmm2 with rfl|rfl<;>simp))) (Mk.lvl_small ls hsm j) (by omega)))) rfl ?_
    rintro⟨A25,c25,m25⟩ h25
    try dsimp only at h25
    refine J.c1 [0,1,4] [F,m35,m25] O (by decide)<|J.b O<|J.g ((qHh O O O ⟨Int.natCast_nonneg _,by decide,Int.ofNat_le.2 (jb (zo _ _) (show i≤9223372036854775807 by omega))⟩).as (v':=I ((i/2^(j+1):Nat):Int)) (congrArg I (by rw [jr,←zx];rfl))) rfl<|J.q 2 rfl<|J.a3<|J.u<|J.a4 (j+1,A25,c25,m25,A35,c35,m35) (λx (hx:_∧h-x.1<h-j)=>hI0 x hx.1 hx.2) ⟨⟨by dsimp only;omega,⟨m25,by simp,by rw [Mk.lvl_succ_length];exact h25.sl⟩,h35⟩,by dsimp only;omega⟩ ⟨by rw [Mk.lvl_succ_length];rfl,rfl,rfl,trivial⟩ (λ_ h=>h)
  refine J.b2<|J.a0<|J.a0<|J.b3 ?_
  refine J.u (J.D j6 ?_)
  refine J.k λ_ j10=>?_
  have hjh:j=h:=by
    rcases zy j h with hlt|hge
    · have:=Nat.one_lt_two_pow_iff.2 (show h-j≠0 by omega)
      omega
    · omega
  exact J.H<|J.q 3 O<|J.c j10<|J.A<|J.a9 hw0 (λ_ _ h=>h) (qCG O O O) (qAq (A2,c2,m2) (by rw [hjh]) (by rw [hjh] at hrow;exact hrow) [0,1] rfl (by decide))
theorem qUL(F:Hp)(hK:KF F)(xx:List UInt8)(i:Nat)(A:Option Addr)(n c:Nat)(ls:List (List UInt8))(hl:Sl F 1 A n c (qAI ls))(hx:xx.length≤1048576)(hsm: ∀s∈ls,s.length≤1048576)(hi:i<9223372036854775808)(hn:n≤1048576):
    Cz prog 182 [Str xx,I i,.slice A n c] F (Str (Mk.climb xx i ls)):=by
  have hlen:ls.length=n:=by have:=hl.1;simpa [qAI] using this
  refine Ct.walk func182 rfl ntmps182 rfl (λw0 hw0=>?_)
  refine J.f λ_ j1=>J.b O<|J.c j1<|J.k λ_ j2=>J.f λ_ j3=>J.b O<|J.g (qAU qAk O O) O<|J.b O<|J.c j3<|J.O<|J.b4 (X:=Nat×List UInt8×Nat) (λx=> [(0,Str x.2.1),(1,I x.2.2),(9,.slice A n c),(10,I n),(11,I x.1)]) (λ_=> [F]) (λx=>x.1≤n∧x.2.1.length≤1048576∧x.2.2≤i∧Mk.climb x.2.1 x.2.2 (ls.drop x.1)=Mk.climb xx i ls) (λx=>n-x.1) (0,xx,i) (⟨jG _,hx,jK _,O⟩) ⟨O,O,O,O,O,trivial⟩ (λ_ h=>h) ?_
  rintro⟨k,y,j⟩ ⟨hk,hy,hji,hc⟩ I0 hI0
  dsimp only at hk hy hji hc⊢
  refine J.f λ_ j4=>J.g (qAT O O O) O<|J.c j4<|J.k λ_ j5=>J.W O (λh12=>?_) (λh12=>?_)
  ·
    refine J.M j5<|J.k λ_ j6=>J.O<|J.k λ_ j7=>?_
    have hkn:k<n:=by omega
    obtain ⟨s,hs⟩: ∃s,ls[k]?=some s:=⟨_,jC (by omega)⟩
    have hdr:ls.drop k=s::ls.drop (k+1):=by
      obtain ⟨hk2,rfl⟩:=List.getElem?_eq_some_iff.1 hs
      exact zE hk2
    rw [hdr,Mk.climb] at hc
    refine J.H<|J.g (qAH O O O qAk z9_ hl (by omega)) O<|J.g (qAJ O O b9_ (m:=F) (by simp) (hl.elem (qAa hs))) rfl<|J.b rfl<|J.c j7<|J.k λ_ j8=>J.f λ_ j9=>J.b rfl<|J.g (qLe (a:=j) (b:=1) rfl rfl rfl (by omega)) rfl<|J.g (qAg rfl rfl rfl) rfl<|J.c j9<|J.W rfl (λh17=>?_) (λh17=>?_)
    ·
      refine J.H<|J.q 2 O<|J.p (qAB O O ent163 (Ct.use0 (λF' hF=>qLk F' (hK.mono (Fa hF)) y s hy (hsm _ (jL hs))))) O λg20 _=>J.b O<|J.c j8<|J.H<|J.b O<|J.g ((qCp (m:=1) O O O (by omega)).nat (j/2) (by omega)) O<|J.b O<|J.a3<|J.a2<|J.u (J.D j6 ?_)
      refine J.H<|J.g (qAS O O O (by omega)) O<|J.b O<|J.a3<|J.u ?_
      rw [if_pos (by rw [Nat.and_one_is_mod] at h17;omega)] at hc
      refine J.a4 (k+1,Mk.node y s,j/2) (λx (hx:_∧n-x.1<n-k)=>hI0 x hx.1 hx.2) ⟨⟨by dsimp only;omega,by dsimp only;rw [Mk.node_length];decide,by dsimp only;omega,hc⟩,by dsimp only;omega⟩ ⟨rfl,rfl,rfl,rfl,rfl,trivial⟩ (λ_ h=>h)
    refine J.H<|J.q 2 O<|J.p (qAB O O ent163 (Ct.use0 (λF' hF=>qLk F' (hK.mono (Fa hF)) s y (hsm _ (jL hs)) hy))) O λg23 _=>J.b O<|J.c j8<|J.H<|J.b O<|J.g ((qCp (m:=1) O O O (by omega)).nat (j/2) (by omega)) O<|J.b O<|J.a3<|J.a2<|J.u (J.D j6 ?_)
    refine J.H<|J.g (qAS O O O (by omega)) O<|J.b O<|J.a3<|J.u ?_
    rw [if_neg (by rw [Nat.and_one_is_mod] at h17;omega)] at hc
    refine J.a4 (k+1,Mk.node s y,j/2) (λx (hx:_∧n-x.1<n-k)=>hI0 x hx.1 hx.2) ⟨⟨by dsimp only;omega,by dsimp only;rw [Mk.node_length];decide,by dsimp only;omega,hc⟩,by dsimp only;omega⟩ ⟨rfl,rfl,rfl,rfl,rfl,trivial⟩ (λ_ h=>h)
  refine J.b2<|J.a0<|J.a0<|J.b3 ?_
  refine J.u (J.D j2 ?_)
  refine J.k λ_ j10=>?_
  rw [jp (by omega)] at hc
  exact J.H<|J.q 2 O<|J.c j10<|J.A<|J.E hw0 O () (by rw [←hc];rfl) trivial [0] rfl (by decide)
end Go.Proofs.YtcgcjaflllmlpaaGreatDoor
namespace Go.Proofs.YtcgcjaflllmlpaaGreatDoor
open Go Go.Fw Go.Proofs.Tryz
set_option maxRecDepth 100000
set_option maxHeartbeats 1000000
attribute [local irreducible] Mk.node
namespace Mk
theorem qVY(m:Nat):m^^^1=if m%2=0 then m+1 else m-1:=by
 have e1:(m^^^1)/2=m/2:=by rw [Nat.xor_div_two];simp
 have e2:(m^^^1)%2=(m%2)^^^1:=Nat.xor_mod_two_pow (n:=1)
 rcases Nat.mod_two_eq_zero_or_one m with h|h
 · rw [h,show(0:Nat)^^^1=1 from rfl] at e2;rw [if_pos h];omega
 · rw [h,show(1:Nat)^^^1=0 from rfl] at e2;rw [if_neg (by omega)];omega
theorem qSA(l:List (List UInt8))(k:Nat):(above l)[k]?=if k<l.length/2 then some (node (l.getD (2*k) []) (l.getD (2*k+1) [])) else none:=by
 unfold above
 rw [jO]
 by_cases h:k<l.length/2
 · rw [if_pos h,jv h];rfl
 · rw [if_neg h,jg (by simpa using Nat.le_of_not_lt h)];rfl
theorem qJd{k:Nat}(h:0<k):2^k%2=0:=by
 rw [show k=(k-1)+1 by omega,jr];omega
end Mk
attribute [local irreducible] Mk.root Mk.path
end Go.Proofs.YtcgcjaflllmlpaaGreatDoor
