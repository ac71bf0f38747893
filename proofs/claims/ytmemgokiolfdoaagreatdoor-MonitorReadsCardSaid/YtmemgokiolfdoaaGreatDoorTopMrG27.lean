/- A part of the proof. -/
import Derived.Test.YtmemgokiolfdoaaGreatDoorTopMrG21
set_option maxRecDepth 100000
set_option maxHeartbeats 1000000
set_option linter.unusedSimpArgs false
set_option linter.unusedVariables false
namespace Go.Proofs.YtmemgokiolfdoaaGreatDoor
namespace SN
def qBN{α:Type}(n:Nat)(g:Nat→α):α:=Nat.rec (g 0) (λm _=>g (Nat.succ m)) n
theorem qBY{α:Type}(n:Nat)(g:Nat→α):qBN n g=g n:=by cases n<;>rfl
noncomputable def forceL{α:Type}(l:List Nat):(List Nat→α)→α:=List.rec (λg=>g []) (λa _ ih g=>qBN a λx=>ih λr=>g (x::r)) l
theorem qGy{α:Type}: ∀(l:List Nat) (g:List Nat→α),forceL l g=g l
 | [],_=>rfl
 |a::l,g=>by
  show qBN a (λx=>forceL l λr=>g (x::r))=g (a::l)
  rw [qBY,qGy l]
def rot(x r q:Nat):Nat:=x/r+x%r*q
noncomputable def sch(n:Nat):Nat→Nat→Nat→Nat→Nat→Nat→Nat→Nat→Nat→Nat→Nat→Nat→Nat→Nat→Nat→Nat→List Nat:=
 Nat.rec (λa b c d e f g h i j k l m n o p=> [a,b,c,d,e,f,g,h,i,j,k,l,m,n,o,p])
  (λ_ ih a b c d e f g h i j k l m n o p=>a::qBN ((a+Nat.xor (Nat.xor (rot b 128 33554432) (rot b 262144 16384)) (b/8)+j+Nat.xor (Nat.xor (rot o 131072 32768) (rot o 524288 8192)) (o/1024))%4294967296) λx=>ih b c d e f g h i j k l m n o p x) n
noncomputable def rds(kw:List Nat):List Nat→Nat→Nat→Nat→Nat→Nat→Nat→Nat→Nat→List Nat:=
 List.rec (λ_ a b c d e f g h=> [a,b,c,d,e,f,g,h])
  (λk _ ih ws a b c d e f g h=>List.rec [] (λw ws _=>
   qBN ((h+Nat.xor (Nat.xor (rot e 64 67108864) (rot e 2048 2097152)) (rot e 33554432 128)+Nat.xor (Nat.land e f) (Nat.land (4294967295-e) g)+k+w)%4294967296) λt1=>
   qBN ((t1+(Nat.xor (Nat.xor (rot a 4 1073741824) (rot a 8192 524288)) (rot a 4194304 1024)+Nat.xor (Nat.xor (Nat.land a b) (Nat.land a c)) (Nat.land b c)))%4294967296) λx=>
   qBN ((d+t1)%4294967296) λy=>ih ws x a b c y e f g) ws) kw
theorem qSH(k w:Nat)(ks ws:List Nat)(a b c d e f g h:Nat):rds (k::ks) (w::ws) a b c d e f g h=
      qBN ((h+Nat.xor (Nat.xor (rot e 64 67108864) (rot e 2048 2097152)) (rot e 33554432 128)+Nat.xor (Nat.land e f) (Nat.land (4294967295-e) g)+k+w)%4294967296) λt1=>
      qBN ((t1+(Nat.xor (Nat.xor (rot a 4 1073741824) (rot a 8192 524288)) (rot a 4194304 1024)+Nat.xor (Nat.xor (Nat.land a b) (Nat.land a c)) (Nat.land b c)))%4294967296) λx=>
      qBN ((d+t1)%4294967296) λy=>rds ks ws x a b c y e f g:=rfl
theorem qR6(n' a b c d e f g h i j k l m n o p:Nat):sch (n'+1) a b c d e f g h i j k l m n o p=a::qBN ((a+Nat.xor (Nat.xor (rot b 128 33554432) (rot b 262144 16384)) (b/8)+j+Nat.xor (Nat.xor (rot o 131072 32768) (rot o 524288 8192)) (o/1024))%4294967296) λx=>sch n' b c d e f g h i j k l m n o p x:=rfl
theorem qU5(ws:List Nat)(a b c d e f g h:Nat):rds [] ws a b c d e f g h= [a,b,c,d,e,f,g,h]:=rfl
theorem qR5(a b c d e f g h i j k l m n o p:Nat):sch 0 a b c d e f g h i j k l m n o p= [a,b,c,d,e,f,g,h,i,j,k,l,m,n,o,p]:=rfl
attribute [local irreducible] rds sch
theorem qD9(x:UInt32)(r:Nat)(h1:1≤r)(h2:r<32):rot x.toNat (2^r) (4294967296/2^r)=(Sha.rotr x r).toNat:=(R3.rotr_nat x r h1 h2).symm
theorem qDN(a b:UInt32):Nat.xor a.toNat b.toNat=(a^^^b).toNat:=(UInt32.toNat_xor a b).symm
theorem qKg(a b:UInt32):Nat.land a.toNat b.toNat=(a&&&b).toNat:=(UInt32.toNat_and a b).symm
theorem qXC(a:UInt32):4294967295-a.toNat=(~~~ a).toNat:=by simp
theorem qSJ(k w:UInt32)(ks ws:List Nat)(s:Sha.St8):rds (k.toNat::ks) (w.toNat::ws) s.a.toNat s.b.toNat s.c.toNat s.d.toNat s.e.toNat s.f.toNat s.g.toNat s.h.toNat=
    rds ks ws (Sha.rnd w k s).a.toNat (Sha.rnd w k s).b.toNat (Sha.rnd w k s).c.toNat (Sha.rnd w k s).d.toNat (Sha.rnd w k s).e.toNat (Sha.rnd w k s).f.toNat (Sha.rnd w k s).g.toNat (Sha.rnd w k s).h.toNat:=by
  obtain ⟨S1,hS1⟩: ∃x,x=Sha.rotr s.e 6^^^Sha.rotr s.e 11^^^Sha.rotr s.e 25:=⟨_,rfl⟩
  obtain ⟨CH,hCH⟩: ∃x,x=s.e&&&s.f^^^ ~~~ s.e&&&s.g:=⟨_,rfl⟩
  obtain ⟨T1,hT1⟩: ∃x,x=s.h+S1+CH+k+w:=⟨_,rfl⟩
  obtain ⟨S0,hS0⟩: ∃x,x=Sha.rotr s.a 2^^^Sha.rotr s.a 13^^^Sha.rotr s.a 22:=⟨_,rfl⟩
  obtain ⟨MJ,hMJ⟩: ∃x,x=s.a&&&s.b^^^s.a&&&s.c^^^s.b&&&s.c:=⟨_,rfl⟩
  have hrn:Sha.rnd w k s=⟨T1+(S0+MJ),s.a,s.b,s.c,s.d+T1,s.e,s.f,s.g⟩:=by rw [hT1,hS0,hMJ,hS1,hCH];rfl
  have e1:Nat.xor (Nat.xor (rot s.e.toNat 64 67108864) (rot s.e.toNat 2048 2097152)) (rot s.e.toNat 33554432 128)=S1.toNat:=by
    rw [show rot s.e.toNat 64 67108864=_ from qD9 s.e 6 (by decide) (by decide),show rot s.e.toNat 2048 2097152=_ from qD9 s.e 11 (by decide) (by decide),show rot s.e.toNat 33554432 128=_ from qD9 s.e 25 (by decide) (by decide),qDN,qDN,←hS1]
  have e2:Nat.xor (Nat.land s.e.toNat s.f.toNat) (Nat.land (4294967295-s.e.toNat) s.g.toNat)=CH.toNat:=by rw [qXC,qKg,qKg,qDN,←hCH]
  have e3:Nat.xor (Nat.xor (rot s.a.toNat 4 1073741824) (rot s.a.toNat 8192 524288)) (rot s.a.toNat 4194304 1024)=S0.toNat:=by
    rw [show rot s.a.toNat 4 1073741824=_ from qD9 s.a 2 (by decide) (by decide),show rot s.a.toNat 8192 524288=_ from qD9 s.a 13 (by decide) (by decide),show rot s.a.toNat 4194304 1024=_ from qD9 s.a 22 (by decide) (by decide),qDN,qDN,←hS0]
  have e4:Nat.xor (Nat.xor (Nat.land s.a.toNat s.b.toNat) (Nat.land s.a.toNat s.c.toNat)) (Nat.land s.b.toNat s.c.toNat)=MJ.toNat:=by rw [qKg,qKg,qKg,qDN,qDN,←hMJ]
  have t1:(s.h.toNat+S1.toNat+CH.toNat+k.toNat+w.toNat)%4294967296=T1.toNat:=by rw [hT1];simp only [UInt32.toNat_add];omega
  have t2:(T1.toNat+(S0.toNat+MJ.toNat))%4294967296=(T1+(S0+MJ)).toNat:=by simp only [UInt32.toNat_add];omega
  have t3:(s.d.toNat+T1.toNat)%4294967296=(s.d+T1).toNat:=by simp only [UInt32.toNat_add]
  rw [hrn,qSH,qBY,e1,e2,t1,qBY,e3,e4,t2,qBY,t3]
def qV4(ks ws:List UInt32)(s:Sha.St8):Sha.St8:=(ks.zip ws).foldl (λs kw=>Sha.rnd kw.2 kw.1 s) s
theorem qKI(k w:UInt32)(ks ws:List UInt32)(s:Sha.St8):qV4 (k::ks) (w::ws) s=qV4 ks ws (Sha.rnd w k s):=by unfold qV4;rw [List.zip_cons_cons,List.foldl_cons]
theorem qM4(ws:List UInt32)(s:Sha.St8):qV4 [] ws s=s:=by unfold qV4;rw [List.zip_nil_left,List.foldl_nil]
theorem qSI(ks:List UInt32): ∀(ws:List UInt32) (s:Sha.St8),ks.length=ws.length→rds (ks.map UInt32.toNat) (ws.map UInt32.toNat) s.a.toNat s.b.toNat s.c.toNat s.d.toNat s.e.toNat s.f.toNat s.g.toNat s.h.toNat=(qV4 ks ws s).list.map UInt32.toNat:=by
 induction ks with
 |nil=>
  intro ws s h
  cases ws with
  |nil=>rw [List.map_nil,qU5,qM4,Sha.St8.list];rfl
  |cons _ _=>cases h
 |cons k ks ih=>
  intro ws s h
  cases ws with
  |nil=>cases h
  |cons w ws=>
   rw [List.map_cons,List.map_cons,qSJ k w (ks.map UInt32.toNat) (ws.map UInt32.toNat) s,qKI,ih ws (Sha.rnd w k s) (by simpa using h)]
theorem qKH(ws:List UInt32)(s:Sha.St8)(hw:ws.length=64): ∀m i,i+m=64→qV4 (Sha.K.drop i) (ws.drop i) (Sha.rnds ws s i)=Sha.rnds ws s 64
 |0,i,h=>by
  obtain rfl:i=64:=by omega
  rw [List.drop_of_length_le (l:=ws) (by omega),List.drop_of_length_le (l:=Sha.K) (Nat.le_refl 64),qM4]
 |m+1,i,h=>by
  have h1:i<Sha.K.length:=by show i<64;omega
  have h2:i<ws.length:=by omega
  rw [List.drop_eq_getElem_cons h1,List.drop_eq_getElem_cons h2,qKI]
  have e:Sha.rnd ws[i] Sha.K[i] (Sha.rnds ws s i)=Sha.rnds ws s (i+1):=by
   rw [Sha.rnds,List.getD_eq_getElem?_getD,List.getD_eq_getElem?_getD,List.getElem?_eq_getElem h1,List.getElem?_eq_getElem h2];rfl
  rw [e]
  exact qKH ws s hw m (i+1) (by omega)
theorem qH3(l:List UInt32): ∀n,Sha.exts (n+1) l=Sha.exts n (Sha.ext l)
 |0=>rfl
 |n+1=>by rw [Sha.exts,qH3 l n];rfl
theorem qF2(p l:List UInt32)(k:Nat):(p++l).getD (p.length+k) 0=l.getD k 0:=by
 rw [List.getD_eq_getElem?_getD,List.getElem?_append_right (by omega),Nat.add_sub_cancel_left,←List.getD_eq_getElem?_getD]
theorem qWv(b:UInt32):Nat.xor (Nat.xor (rot b.toNat 128 33554432) (rot b.toNat 262144 16384)) (b.toNat/8)=(Sha.sg0 b).toNat:=by
 have h1:rot b.toNat 128 33554432=(Sha.rotr b 7).toNat:=qD9 b 7 (by decide) (by decide)
 have h2:rot b.toNat 262144 16384=(Sha.rotr b 18).toNat:=qD9 b 18 (by decide) (by decide)
 have h3:b.toNat/8=(Sha.shr b 3).toNat:=(R3.shr_nat b 3 (by decide)).symm
 rw [h1,h2,h3,qDN,qDN];unfold Sha.sg0;rfl
theorem qWu(b:UInt32):Nat.xor (Nat.xor (rot b.toNat 131072 32768) (rot b.toNat 524288 8192)) (b.toNat/1024)=(Sha.sg1 b).toNat:=by
 have h1:rot b.toNat 131072 32768=(Sha.rotr b 17).toNat:=qD9 b 17 (by decide) (by decide)
 have h2:rot b.toNat 524288 8192=(Sha.rotr b 19).toNat:=qD9 b 19 (by decide) (by decide)
 have h3:b.toNat/1024=(Sha.shr b 10).toNat:=(R3.shr_nat b 10 (by decide)).symm
 rw [h1,h2,h3,qDN,qDN];unfold Sha.sg1;rfl
theorem qXZ(q:List UInt32)(a b c d e f g h i j k l m n' o p:UInt32):Sha.ext (q++ [a,b,c,d,e,f,g,h,i,j,k,l,m,n',o,p])=(q++ [a])++ [b,c,d,e,f,g,h,i,j,k,l,m,n',o,p,a+Sha.sg0 b+j+Sha.sg1 o]:=by
 have hlen:(q++ [a,b,c,d,e,f,g,h,i,j,k,l,m,n',o,p]).length=q.length+16:=by rw [List.length_append];rfl
 unfold Sha.ext
 have g0:(q++ [a,b,c,d,e,f,g,h,i,j,k,l,m,n',o,p]).getD (q.length+0) 0=a:=qF2 q [a,b,c,d,e,f,g,h,i,j,k,l,m,n',o,p] 0
 have g1:(q++ [a,b,c,d,e,f,g,h,i,j,k,l,m,n',o,p]).getD (q.length+1) 0=b:=qF2 q [a,b,c,d,e,f,g,h,i,j,k,l,m,n',o,p] 1
 have g9:(q++ [a,b,c,d,e,f,g,h,i,j,k,l,m,n',o,p]).getD (q.length+9) 0=j:=qF2 q [a,b,c,d,e,f,g,h,i,j,k,l,m,n',o,p] 9
 have g14:(q++ [a,b,c,d,e,f,g,h,i,j,k,l,m,n',o,p]).getD (q.length+14) 0=o:=qF2 q [a,b,c,d,e,f,g,h,i,j,k,l,m,n',o,p] 14
 rw [hlen,show q.length+16-16=q.length+0 by omega,show q.length+16-15=q.length+1 by omega,show q.length+16-7=q.length+9 by omega,show q.length+16-2=q.length+14 by omega,g0,g1,g9,g14]
 generalize a+Sha.sg0 b+j+Sha.sg1 o=x
 simp only [List.append_assoc,List.cons_append,List.nil_append]
theorem qUn(a b j o:UInt32):(a.toNat+(Sha.sg0 b).toNat+j.toNat+(Sha.sg1 o).toNat)%4294967296=(a+Sha.sg0 b+j+Sha.sg1 o).toNat:=by
 generalize Sha.sg0 b=x
 generalize Sha.sg1 o=y
 simp only [UInt32.toNat_add];omega
theorem qR7(n:Nat): ∀(q:List UInt32) (a b c d e f g h i j k l m n' o p:UInt32),(Sha.exts n (q++ [a,b,c,d,e,f,g,h,i,j,k,l,m,n',o,p])).map UInt32.toNat=q.map UInt32.toNat++sch n a.toNat b.toNat c.toNat d.toNat e.toNat f.toNat g.toNat h.toNat i.toNat j.toNat k.toNat l.toNat m.toNat n'.toNat o.toNat p.toNat:=by
 induction n with
 |zero=>intro q a b c d e f g h i j k l m n' o p;rw [Sha.exts,List.map_append,qR5];rfl
 |succ n ih=>
  intro q a b c d e f g h i j k l m n' o p
  rw [qH3,qXZ,ih (q++ [a]),qR6,qBY,qWv,qWu,qUn]
  generalize sch n b.toNat c.toNat d.toNat e.toNat f.toNat g.toNat h.toNat i.toNat j.toNat k.toNat l.toNat m.toNat n'.toNat o.toNat p.toNat _=z
  simp only [List.map_append,List.append_assoc,List.map_cons,List.map_nil,List.cons_append,List.nil_append]
def w4(l:List Nat):Nat:=((l.getD 0 0*256+l.getD 1 0)*256+l.getD 2 0)*256+l.getD 3 0
theorem qS8(l:List UInt8)(i:Nat):(l.map UInt8.toNat).getD i 0=(l.getD i 0).toNat:=by
 rw [List.getD_eq_getElem?_getD,List.getD_eq_getElem?_getD,List.getElem?_map]
 cases l[i]?<;>rfl
theorem w4_eq(l:List UInt8)(i:Nat):w4 ((l.map UInt8.toNat).drop (4*i))=(Sha.word l i).toNat:=by
 have hg: ∀k,(((l.map UInt8.toNat).drop (4*i)).getD k 0)=(l.getD (4*i+k) 0).toNat:=λk=>by
  rw [List.getD_eq_getElem?_getD,List.getElem?_drop,←List.getD_eq_getElem?_getD,qS8]
 unfold w4 Sha.word
 rw [hg,hg,hg,hg,R3.be32_nat,Nat.add_zero]
 omega
noncomputable def mixN(ks:List Nat)(b:List Nat)(A B C D E F G H:Nat):List Nat:=
 qBN (w4 b) λa0=>qBN (w4 (b.drop 4)) λa1=>qBN (w4 (b.drop 8)) λa2=>qBN (w4 (b.drop 12)) λa3=>
 qBN (w4 (b.drop 16)) λa4=>qBN (w4 (b.drop 20)) λa5=>qBN (w4 (b.drop 24)) λa6=>qBN (w4 (b.drop 28)) λa7=>
 qBN (w4 (b.drop 32)) λa8=>qBN (w4 (b.drop 36)) λa9=>qBN (w4 (b.drop 40)) λa10=>qBN (w4 (b.drop 44)) λa11=>
 qBN (w4 (b.drop 48)) λa12=>qBN (w4 (b.drop 52)) λa13=>qBN (w4 (b.drop 56)) λa14=>qBN (w4 (b.drop 60)) λa15=>
 rds ks (sch 48 a0 a1 a2 a3 a4 a5 a6 a7 a8 a9 a10 a11 a12 a13 a14 a15) A B C D E F G H
def KN:List Nat:= [1116352408,1899447441,3049323471,3921009573,961987163,1508970993,2453635748,2870763221,3624381080,310598401,607225278,1426881987,1925078388,2162078206,2614888103,3248222580,3835390401,4022224774,264347078,604807628,770255983,1249150122,1555081692,1996064986,2554220882,2821834349,2952996808,3210313671,3336571891,3584528711,113926993,338241895,666307205,773529912,1294757372,1396182291,1695183700,1986661051,2177026350,2456956037,2730485921,2820302411,3259730800,3345764771,3516065817,3600352804,4094571909,275423344,430227734,506948616,659060556,883997877,958139571,1322822218,1537002063,1747873779,1955562222,2024104815,2227730452,2361852424,2428436474,2756734187,3204031479,3329325298]
theorem KN_eq:KN=Sha.K.map UInt32.toNat:=by decide+kernel
theorem qVn(b:List UInt8)(s:Sha.St8):mixN KN (b.map UInt8.toNat) s.a.toNat s.b.toNat s.c.toNat s.d.toNat s.e.toNat s.f.toNat s.g.toNat s.h.toNat=(Sha.rnds (Sha.sched b) s 64).list.map UInt32.toNat:=by
 have hw:=λi=>w4_eq b i
 have h0:=hw 0;have h1:=hw 1;have h2:=hw 2;have h3:=hw 3;have h4:=hw 4;have h5:=hw 5;have h6:=hw 6;have h7:=hw 7
 have h8:=hw 8;have h9:=hw 9;have h10:=hw 10;have h11:=hw 11;have h12:=hw 12;have h13:=hw 13;have h14:=hw 14;have h15:=hw 15
 simp only [Nat.reduceMul,Nat.mul_zero,List.drop_zero] at h0 h1 h2 h3 h4 h5 h6 h7 h8 h9 h10 h11 h12 h13 h14 h15
 unfold mixN
 simp only [qBY]
 rw [h0,h1,h2,h3,h4,h5,h6,h7,h8,h9,h10,h11,h12,h13,h14,h15]
 have hs:=qR7 48 [] (Sha.word b 0) (Sha.word b 1) (Sha.word b 2) (Sha.word b 3) (Sha.word b 4) (Sha.word b 5) (Sha.word b 6) (Sha.word b 7) (Sha.word b 8) (Sha.word b 9) (Sha.word b 10) (Sha.word b 11) (Sha.word b 12) (Sha.word b 13) (Sha.word b 14) (Sha.word b 15)
 have hf: []++ [Sha.word b 0,Sha.word b 1,Sha.word b 2,Sha.word b 3,Sha.word b 4,Sha.word b 5,Sha.word b 6,Sha.word b 7,Sha.word b 8,Sha.word b 9,Sha.word b 10,Sha.word b 11,Sha.word b 12,Sha.word b 13,Sha.word b 14,Sha.word b 15]=Sha.firsts b 16:=rfl
 rw [hf,List.map_nil,List.nil_append] at hs
 rw [←hs,show Sha.exts 48 (Sha.firsts b 16)=Sha.sched b from rfl,KN_eq,qSI _ _ _ (by rw [Sha.sched_length];rfl)]
 have:=qKH (Sha.sched b) s (Sha.sched_length b) 64 0 rfl
 rw [List.drop_zero,List.drop_zero] at this
 rw [show Sha.rnds (Sha.sched b) s 0=s from rfl] at this
 rw [this]
noncomputable def blocks(n:Nat):List Nat→Nat→Nat→Nat→Nat→Nat→Nat→Nat→Nat→List Nat:=
 Nat.rec (λ_ a b c d e f g h=> [a,b,c,d,e,f,g,h])
  (λ_ ih p a b c d e f g h=>forceL (mixN KN p a b c d e f g h) λr=>
   qBN ((a+r.getD 0 0)%4294967296) λa'=>qBN ((b+r.getD 1 0)%4294967296) λb'=>qBN ((c+r.getD 2 0)%4294967296) λc'=>qBN ((d+r.getD 3 0)%4294967296) λd'=>
   qBN ((e+r.getD 4 0)%4294967296) λe'=>qBN ((f+r.getD 5 0)%4294967296) λf'=>qBN ((g+r.getD 6 0)%4294967296) λg'=>qBN ((h+r.getD 7 0)%4294967296) λh'=>
   ih (p.drop 64) a' b' c' d' e' f' g' h') n
theorem qHt(s:Sha.St8)(p:List UInt8): ∀k,Sha.mixes s p (k+1)=Sha.mixes (Sha.mix s p) (p.drop 64) k
 |0=>by rw [Sha.mixes,Sha.mixes,Sha.mixes,Nat.mul_zero,List.drop_zero]
 |k+1=>by
  rw [Sha.mixes,qHt s p k,Sha.mixes,List.drop_drop]
  congr 2
  omega
theorem qLr(n:Nat)(p:List Nat)(a b c d e f g h:Nat):blocks (n+1) p a b c d e f g h=forceL (mixN KN p a b c d e f g h) λr=>qBN ((a+r.getD 0 0)%4294967296) λa'=>qBN ((b+r.getD 1 0)%4294967296) λb'=>qBN ((c+r.getD 2 0)%4294967296) λc'=>qBN ((d+r.getD 3 0)%4294967296) λd'=>qBN ((e+r.getD 4 0)%4294967296) λe'=>qBN ((f+r.getD 5 0)%4294967296) λf'=>qBN ((g+r.getD 6 0)%4294967296) λg'=>qBN ((h+r.getD 7 0)%4294967296) λh'=>blocks n (p.drop 64) a' b' c' d' e' f' g' h':=rfl
theorem qLq(p:List Nat)(a b c d e f g h:Nat):blocks 0 p a b c d e f g h= [a,b,c,d,e,f,g,h]:=rfl
attribute [local irreducible] blocks mixN KN
theorem qC5(x y:UInt32):(x.toNat+y.toNat)%4294967296=(x+y).toNat:=by simp only [UInt32.toNat_add]
theorem g0(r:Sha.St8):(r.list.map UInt32.toNat).getD 0 0=r.a.toNat:=rfl
theorem f0(s r:Sha.St8):(s.add r).a=s.a+r.a:=rfl
theorem g1(r:Sha.St8):(r.list.map UInt32.toNat).getD 1 0=r.b.toNat:=rfl
theorem f1(s r:Sha.St8):(s.add r).b=s.b+r.b:=rfl
theorem g2(r:Sha.St8):(r.list.map UInt32.toNat).getD 2 0=r.c.toNat:=rfl
theorem f2(s r:Sha.St8):(s.add r).c=s.c+r.c:=rfl
theorem g3(r:Sha.St8):(r.list.map UInt32.toNat).getD 3 0=r.d.toNat:=rfl
theorem f3(s r:Sha.St8):(s.add r).d=s.d+r.d:=rfl
theorem g4(r:Sha.St8):(r.list.map UInt32.toNat).getD 4 0=r.e.toNat:=rfl
theorem f4(s r:Sha.St8):(s.add r).e=s.e+r.e:=rfl
theorem g5(r:Sha.St8):(r.list.map UInt32.toNat).getD 5 0=r.f.toNat:=rfl
theorem f5(s r:Sha.St8):(s.add r).f=s.f+r.f:=rfl
theorem g6(r:Sha.St8):(r.list.map UInt32.toNat).getD 6 0=r.g.toNat:=rfl
theorem f6(s r:Sha.St8):(s.add r).g=s.g+r.g:=rfl
theorem g7(r:Sha.St8):(r.list.map UInt32.toNat).getD 7 0=r.h.toNat:=rfl
theorem f7(s r:Sha.St8):(s.add r).h=s.h+r.h:=rfl
theorem qQ5(n:Nat): ∀(p:List UInt8) (s:Sha.St8),blocks n (p.map UInt8.toNat) s.a.toNat s.b.toNat s.c.toNat s.d.toNat s.e.toNat s.f.toNat s.g.toNat s.h.toNat=(Sha.mixes s p n).list.map UInt32.toNat:=by
 induction n with
 |zero=>intro p s;rw [qLq,Sha.mixes];rfl
 |succ n ih=>
  intro p s
  have hm:=qVn p s
  generalize hr:Sha.rnds (Sha.sched p) s 64=r at hm
  have hmx:Sha.mix s p=s.add r:=by unfold Sha.mix;rw [hr]
  have hi:=ih (p.drop 64) (s.add r)
  rw [qHt,hmx,←hi,qLr,qGy,hm,qBY,qBY,qBY,qBY,qBY,qBY,qBY,qBY]
  have h0:(s.a.toNat+(r.list.map UInt32.toNat).getD 0 0)%4294967296=(s.add r).a.toNat:=by rw [g0,f0,qC5]
  have h1:(s.b.toNat+(r.list.map UInt32.toNat).getD 1 0)%4294967296=(s.add r).b.toNat:=by rw [g1,f1,qC5]
  have h2:(s.c.toNat+(r.list.map UInt32.toNat).getD 2 0)%4294967296=(s.add r).c.toNat:=by rw [g2,f2,qC5]
  have h3:(s.d.toNat+(r.list.map UInt32.toNat).getD 3 0)%4294967296=(s.add r).d.toNat:=by rw [g3,f3,qC5]
  have h4:(s.e.toNat+(r.list.map UInt32.toNat).getD 4 0)%4294967296=(s.add r).e.toNat:=by rw [g4,f4,qC5]
  have h5:(s.f.toNat+(r.list.map UInt32.toNat).getD 5 0)%4294967296=(s.add r).f.toNat:=by rw [g5,f5,qC5]
  have h6:(s.g.toNat+(r.list.map UInt32.toNat).getD 6 0)%4294967296=(s.add r).g.toNat:=by rw [g6,f6,qC5]
  have h7:(s.h.toNat+(r.list.map UInt32.toNat).getD 7 0)%4294967296=(s.add r).h.toNat:=by rw [g7,f7,qC5]
  rw [List.map_drop,h0,h1,h2,h3,h4,h5,h6,h7]
def qED(x:Nat):List Nat:= [x/16777216%256,x/65536%256,x/256%256,x%256]
theorem qKZ(x:Nat)(h:x<18446744073709551616):qED x=(Sha.numB (UInt64.ofNat x) 4).map UInt8.toNat:=by
 rw [R3.four_nat x h]
 simp [qED,UInt8.toNat_ofNat']
noncomputable def padN(l:List Nat):List Nat:=l++128::List.replicate ((119-l.length%64)%64) 0++(qED (8*l.length/4294967296)++qED (8*l.length))
theorem qVH(l:List UInt8)(h:l.length<1152921504606846976):padN (l.map UInt8.toNat)=(Sha.pad l).map UInt8.toNat:=by
 unfold padN Sha.pad
 simp only [List.map_append,List.length_map,List.map_replicate,List.map_cons,List.map_nil,List.append_assoc,List.cons_append,List.nil_append]
 have e:(8*UInt64.ofNat l.length).toNat=8*l.length:=by
  rw [UInt64.toNat_mul,UInt64.toNat_ofNat',Nat.mod_eq_of_lt (show l.length<2^64 by omega)]
  exact Nat.mod_eq_of_lt (by show 8*l.length<18446744073709551616;omega)
 have h8:(Sha.numB (8*UInt64.ofNat l.length) 8).map UInt8.toNat=qED (8*l.length/4294967296)++qED (8*l.length):=by
  unfold Sha.numB
  rw [e]
  simp [List.range_succ,R3.u8_of64,qED,UInt8.toNat_ofNat',Nat.div_div_eq_div_mul]
 rw [h8]
 rfl
noncomputable def sumN(l:List Nat):List Nat:=forceL (padN l) λp=>(blocks (p.length/64) p 1779033703 3144134277 1013904242 2773480762 1359893119 2600822924 528734635 1541459225).flatMap qED
theorem qUY(l:List UInt8)(h:l.length<1152921504606846976):sumN (l.map UInt8.toNat)=(Sha.sum l).map UInt8.toNat:=by
 unfold sumN
 rw [qGy,qVH l h,List.length_map]
 have hb:=qQ5 ((Sha.pad l).length/64) (Sha.pad l) Sha.init
 rw [show blocks ((Sha.pad l).length/64) ((Sha.pad l).map UInt8.toNat) 1779033703 3144134277 1013904242 2773480762 1359893119 2600822924 528734635 1541459225=_ from hb]
 unfold Sha.sum Sha.out
 generalize (Sha.mixes Sha.init (Sha.pad l) ((Sha.pad l).length/64)).list=L
 induction L with
 |nil=>rfl
 |cons x L ih=>
  rw [List.map_cons,List.flatMap_cons,List.flatMap_cons,List.map_append,ih,qKZ _ (by have:=x.toNat_lt;omega)]
  congr 2
  rw [show x.toUInt64=UInt64.ofNat x.toNat from by apply UInt64.toNat_inj.1;simp]
noncomputable def tagN(tag:Nat)(ls:List (List Nat)):List Nat:=(sumN (tag::ls.flatMap λs=>qED s.length++s)).take 16
theorem tagN_eq(tag:UInt8)(ls:List (List UInt8))(h:ls.flatten.length+4*ls.length<1152921504606846975):tagN tag.toNat (ls.map (List.map UInt8.toNat))=(Sha.tagged tag ls).map UInt8.toNat:=by
 unfold tagN Sha.tagged
 have e:tag.toNat::(ls.map (List.map UInt8.toNat)).flatMap (λs=>qED s.length++s)=(Sha.tagB tag ls).map UInt8.toNat:=by
  unfold Sha.tagB
  simp only [List.map_append,List.map_cons,List.map_nil,List.cons_append,List.nil_append]
  congr 1
  induction ls with
  |nil=>rfl
  |cons a l ih=>
   simp only [List.flatten_cons,List.length_append,List.length_cons] at h
   rw [List.map_cons,List.flatMap_cons,List.flatMap_cons,List.map_append,List.map_append,List.length_map,ih (by omega),qKZ _ (by omega)]
 rw [e,qUY _ (by rw [Sha.tagB_length];omega),List.map_take]
end SN
end Go.Proofs.YtmemgokiolfdoaaGreatDoor
namespace Go.Proofs.YtmemgokiolfdoaaGreatDoor
def qMU:List (List Nat):= [[105,72,128,237,61,5,50,182,223,75,24,94,147,245,19,39],
 [88,245,185,155,41,107,180,138,125,166,83,171,115,216,18,165],
 [93,80,203,230,14,126,127,19,21,244,174,144,89,226,94,228],
 [148,10,18,170,77,162,171,186,8,98,48,154,194,169,63,108],
 [236,85,91,97,199,175,137,90,50,65,185,193,130,224,18,81],
 [79,166,20,31,51,117,145,24,240,79,98,79,106,240,3,239],
 [238,121,90,181,53,208,204,57,93,94,55,236,103,150,52,189],
 [206,246,68,71,242,240,44,227,11,163,124,42,109,136,184,223],
 [102,153,141,118,18,20,90,81,197,162,183,200,132,241,168,231],
 [105,185,227,83,69,124,42,97,92,121,35,66,28,255,32,8],
 [63,79,253,228,120,212,65,1,74,138,77,92,45,83,29,6],
 [6,68,43,83,187,176,175,5,40,111,126,28,241,42,58,162],
 [84,209,206,161,181,40,188,84,7,18,199,241,13,30,46,161],
 [176,37,113,44,248,46,217,3,30,200,199,117,42,191,130,40],
 [31,198,219,239,77,143,38,133,43,141,86,40,35,16,12,192]]
attribute [local irreducible] SN.tagN Sha.tagged
theorem qPX:(List.range 15).map (λi=>SN.tagN 15 [[0,i]])=qMU:=by decide+kernel
def qAN(n:Nat):List UInt8:=Sha.tagged 15 [[UInt8.ofNat (n/256),UInt8.ofNat n]]
theorem qBc(n:Nat):(qAN n).length=16:=Sha.tagged_length _ _
theorem qHi{i:Nat}(hi:i<15):(qAN i).map UInt8.toNat=qMU.getD i []:=by
 have h:=SN.tagN_eq 15 [[UInt8.ofNat (i/256),UInt8.ofNat i]] (by simp)
 have h2:SN.tagN 15 [[0,i]]=(qAN i).map UInt8.toNat:=by
  rw [←qAN] at h
  rw [←h]
  have e1:(UInt8.ofNat (i/256)).toNat=0:=by rw [show i/256=0 by omega];rfl
  have e2:(UInt8.ofNat i).toNat=i:=by rw [UInt8.toNat_ofNat'];omega
  show SN.tagN 15 [[0,i]]=SN.tagN 15 [[(UInt8.ofNat (i/256)).toNat,(UInt8.ofNat i).toNat]]
  rw [e1,e2]
 rw [←h2,←qPX,List.getD_eq_getElem?_getD,List.getElem?_map,List.getElem?_range hi];rfl
theorem qPW: ∀i j:Fin 15,i≠j→qMU.getD i.val []≠qMU.getD j.val []:=by decide+kernel
theorem qPY{i j:Nat}(hi:i<15)(hj:j<15)(h:i≠j):qAN i≠qAN j:=λe=>
 qPW ⟨i,hi⟩ ⟨j,hj⟩ (λq=>h (congrArg Fin.val q)) (by rw [←qHi hi,←qHi hj,e])
end Go.Proofs.YtmemgokiolfdoaaGreatDoor
namespace Go.Proofs.YtmemgokiolfdoaaGreatDoor
open Go Go.Fw Go.Proofs.Tryz
namespace Mk
def node(a b:xA):xA:=Sha.tagged 5 [a,b]
def above(l:List xA):List xA:=(List.range (l.length/2)).map λk=>node (l.getD (2*k) []) (l.getD (2*k+1) [])
def lvl(l:List xA):Nat→List xA
 |0=>l
 |j+1=>above (lvl l j)
def root(l:List xA)(h:Nat):xA:=(lvl l h).getD 0 []
def path(l:List xA)(i h:Nat):List xA:=(List.range h).map λj=>(lvl l j).getD ((i/2^j)^^^1) []
def climb:xA→Nat→List xA→xA
 |x,_,[]=>x
 |x,i,s::r=>climb (if i%2=0 then node x s else node s x) (i/2) r
def Right(n:Nat):Prop:=n=1∨n=2∨n=4∨n=8∨n=16∨n=32∨n=64
instance (n:Nat):Decidable (Right n):=by unfold Right;infer_instance
theorem qPH: ∀n:Fin 65,(1≤n.val∧n.val&&&(n.val-1)=0)↔Right n.val:=by decide+kernel
theorem right_of(n:Nat):(1≤n∧n≤64∧n&&&(n-1)=0)↔Right n:=by
  by_cases h:n<65
  · have:=qPH ⟨n,h⟩
    dsimp only at this
    rw [←this]
    constructor
    · intro ⟨a,_,c⟩;exact⟨a,c⟩
    · intro ⟨a,c⟩;exact⟨a,xB,c⟩
  · constructor
    · intro ⟨_,b,_⟩;omega
    · intro hr;unfold Right at hr;omega
theorem right_pow(h:Nat)(h6:h≤6):Right (2^h):=by
 have: ∀h:Fin 7,Right (2^h.val):=by decide+kernel
 exact this ⟨h,xB⟩
theorem node_length(a b:xA):(node a b).length=16:=Sha.tagged_length _ _
theorem qKj(l:List xA):(above l).length=l.length/2:=by simp [above]
theorem qLv(l:List xA): ∀s∈above l,s.length=16:=λs hs=>by
 simp only [above,zY] at hs
 obtain ⟨k,_,rfl⟩:=hs
 exact node_length _ _
theorem lvl_succ_length(l:List xA)(j:Nat):(lvl l (j+1)).length=(lvl l j).length/2:=qKj _
theorem lvl_length(l:List xA)(h:Nat)(hl:l.length=2^h): ∀j,j≤h→(lvl l j).length=2^(h-j)
 |0,_=>hl
 |j+1,hj=>by
  rw [lvl_succ_length,lvl_length l h hl j xB,show h-j=(h-(j+1))+1 by omega,jv]
  omega
theorem lvl_small(l:List xA)(hs: ∀s∈l,s.length≤1048576): ∀j,∀s∈lvl l j,s.length≤1048576
 |0=>hs
 |j+1=>λs h=>by rw [qLv _ s h];decide
theorem xor_one(m k:Nat)(h:m<2*k):m^^^1<2*k:=by
 have e1:(m^^^1)/2=m/2:=by rw [Nat.xor_div_two];simp
 omega
theorem path_succ(l:List xA)(i h:Nat):path l i (h+1)=path l i h++ [(lvl l h).getD ((i/2^h)^^^1) []]:=by simp [path,jz]
theorem path_length(l:List xA)(i h:Nat):(path l i h).length=h:=by simp [path]
theorem above_succ(l:List xA)(k:Nat):((List.range (k+1)).map λk=>node (l.getD (2*k) []) (l.getD (2*k+1) []))=((List.range k).map λk=>node (l.getD (2*k) []) (l.getD (2*k+1) []))++ [node (l.getD (2*k) []) (l.getD (2*k+1) [])]:=by simp [jz]
theorem getS{l:List xA}{j:Nat}(h:j<l.length):l[j]?=some (l.getD j []):=by rw [jB,jC h];rfl
theorem getS_mem{l:List xA}{j:Nat}(h:j<l.length):l.getD j []∈l:=jM (getS h)
end Mk
theorem qJU(a:List xA):(qAH a).all (λx=>x.all Value.oneCell')=true:=by simp [qAH,Value.oneCell']
attribute [local irreducible] Mk.node
theorem qLQ(F:Hp)(hK:qAG F ⟨3,0,none⟩ (Sha.K.map W32))(a b:xA)(ha:a.length≤1048576)(hb:b.length≤1048576):
    Cz prog 207 [Str a,Str b] F (Str (Mk.node a b)):=by
  refine Ct.walk func207 O ntmps207 O (λw0 hw0=>?_)
  exact J.f λ_ j1=>J.b O<|J.c j1<|J.f λ_ j2=>J.j 2 O<|J.q (qAE (l:= [.tmp 5,.tmp 6]) (xs:= [[Str a],[Str b]]) O O O O qAj el9 O xC xC xD) O λg7 _=>J.q (qAa O O (λF' hF=>qAy F' (hK.mono (Fa hF)) 5 (some ⟨g7,0,none⟩) 2 2 [a,b] (((qAm (q:=True) (xs:=qAH [a,b]) O (by simp [qAH])).sl (m:=blk g7 [Str a,Str b] 9)).mono (Fa hF)) xJ xC)) O λg8 _=>J.b O<|J.c j2<|J.A<|J.E hw0 O () (by unfold Mk.node;rfl) trivial [0] O xC
theorem qMK(F:Hp)(n:Nat)(hn:n<9223372036854775808):Cz prog 130 [I n] F (.bool (decide (Mk.Right n))):=by
 have hR:=Mk.right_of n
 refine Ct.walk func130 O ntmps130 O (λw0 hw0=>?_)
 refine J.f λ_ j1=>J.b O<|J.c j1<|J.f λ_ j2=>J.b O<|J.g (qBA O O O) O<|J.b O<|J.b9 (d:=5) O (λh5=>?_) (λh5=>?_)
 ·
  refine J.b O<|J.G (qCH O O O) O<|J.j 2 O<|J.b9 (d:=9) O (λh9=>?_) (λh9=>?_)
  ·
   exact J.j 2 O<|J.G ((qA1 O O O xB).nat (n-1) xB) O<|J.G (qLL O O O xB) O<|J.G (qAZ O O O) O<|J.j 2 O<|J.c j2<|J.A<|J.E hw0 O () (congrArg Value.bool (decide_eq_decide.2 (by rw [←hR];omega))) trivial [0] O xC
  exact J.j 7 O<|J.c j2<|J.A<|J.E hw0 O () (congrArg Value.bool (decide_eq_false (by rw [←hR];omega)).symm) trivial [0] O xC
 exact J.j 11 O<|J.c j2<|J.A<|J.E hw0 O () (congrArg Value.bool (decide_eq_false (by rw [←hR];omega)).symm) trivial [0] O xC
theorem qNI(F:Hp)(hK:qAG F ⟨3,0,none⟩ (Sha.K.map W32))(A:Option Addr)(n c:Nat)(ls:List xA)(hl:Sl F 1 A n c (qAH ls))(hsm: ∀s∈ls,s.length≤1048576)(hn:n≤1048576):
    Ct prog 131 [.slice A n c] [F] (λx:Option Addr×Nat×Hp=> .slice x.1 (n/2) x.2.1) (λx=>Row x.2.2 9 1 x.1 (n/2) x.2.1 (qAH (Mk.above ls))) (λx=> [F,x.2.2]):=by
  have hlen:ls.length=n:=by have:=hl.1;simpa [qAH] using this
  refine Ct.walk func131 O ntmps131 O (λw0 hw0=>?_)
  refine J.f λ_ j1=>J.b O<|J.c j1<|J.f λ_ j2=>J.b O<|J.c j2<|J.p λ_ j3=>J.p λ_ j4=>J.c5 [0,1] [F,(λ_=>none)] O xC<|J.H<|J.b O<|J.c j4<|J.T<|J.b6 (X:=Nat×Option Addr×Nat×Hp) (λx=> [(0,.slice A n c),(3,.slice x.2.1 x.1 x.2.2.1),(4,I (2*x.1:Nat))]) (λx=> [F,x.2.2.2]) (λx=>2*x.1≤n∧Row x.2.2.2 9 1 x.2.1 x.1 x.2.2.1 (qAH ((List.range x.1).map λk=>Mk.node (ls.getD (2*k) []) (ls.getD (2*k+1) [])))) (λx=>n-x.1) (0,none,0,λ_=>none) (⟨jF _,qBS.nil⟩) ⟨O,O,O,trivial⟩ (λ_ h=>h) ?_
  rintro⟨k,A1,c1,m⟩ ⟨hk,hrow⟩ I0 hI0
  dsimp only at hk hrow⊢
  refine J.p λ_ j5=>J.f λ_ j6=>J.b O<|J.g ((qAR O O O xB)) O<|J.b O<|J.g (qAP qAj O O) O<|J.g (qAQ O O O) O<|J.c j6<|J.Z O (λh9=>?_) (λh9=>?_)
  ·
    refine J.M j5<|J.p λ_ j7=>J.T<|J.b1 [F] [] (.y 0 (.y 1 (.y 2 (.y 3 (.y 4 (.y 5 (.y 6 (.y 7 (.y 8 (.y 9 (.e 10 (.e 11 (.e 12 (.y 13 .nil)))))))))))))) Tryz.wide xF xD ?_
    iterate 3 refine J.L ?_
    refine J.k O (qAF O O O qAj z9_ hl xB) O O<|J.k O (qAI O O b9_ (m:=F) xD (hl.elem (qAb (Mk.getS (l:=ls) (j:=2*k) xB)))) O O<|J.L ?_
    refine J.L ?_
    refine J.k O ((qAR O O O xB).nat (2*k+1) xB) O O<|J.k O (qAF O O O qAj z9_ hl xB) O O<|J.k O (qAI O O b9_ (m:=F) xD (hl.elem (qAb (Mk.getS (l:=ls) (j:=2*k+1) xB)))) O O<|J.a2 O (qAa O O (λF' hF=>qLQ F' (hK.mono (Fa hF)) (ls.getD (2*k) []) (ls.getD (2*k+1) []) (hsm _ (Mk.getS_mem xB)) (hsm _ (Mk.getS_mem xB)))) O xD λg22 _=>J.a2 O (qAE (l:= [.tmp 22]) (xs:= [[Str (Mk.node (ls.getD (2*k) []) (ls.getD (2*k+1) []))]]) O O O O qAj el9 O xC xC xD) O xD λg23 _=>J.a2 O (qAW (i:=1) (m2:=blk g23 [Str (Mk.node (ls.getD (2*k) []) (ls.getD (2*k+1) []))] 9) O O O qAj qAj el9 O hrow xD (qAm (q:=True) (xs:=qAH [Mk.node (ls.getD (2*k) []) (ls.getD (2*k+1) [])]) O (by simp [qAH])).sl (qJU _) xB xB) O xD ?_
    rintro⟨A24,c24,m24⟩ h24
    try dsimp only at h24
    rw [←qB5,←Mk.above_succ ls k] at h24
    refine J.b7 ?_
    refine J.b0<|J.a1<|J.u (J.D j7 ?_)
    refine J.c3 [0,1] [F,m24] O xC<|J.H<|J.b O<|J.g ((qAR O O O xB).nat (2*(k+1)) xB) O<|J.b O<|J.a4<|J.u<|J.a7 (k+1,A24,c24,m24) (λx (hx:_∧n-x.1<n-k)=>hI0 x hx.1 hx.2) ⟨⟨by dsimp only;omega,h24⟩,by dsimp only;omega⟩ ⟨O,O,O,trivial⟩ (λ_ h=>h)
  refine J.b4<|J.a0<|J.a0<|J.b5 ?_
  refine J.u (J.D j3 ?_)
  refine J.f λ_ j8=>J.j 2 O<|J.c j8<|J.A ?_
  have hk2:k=n/2:=xB
  subst hk2
  exact J.E hw0 O (A1,c1,m) O (by rw [←hlen] at hrow;unfold Mk.above;rw [←hlen];exact hrow) [0,1] O xC
theorem qUu(F:Hp)(hK:qAG F ⟨3,0,none⟩ (Sha.K.map W32))(A:Option Addr)(n c:Nat)(ls:List xA)(hl:Sl F 1 A n c (qAH ls))(h:Nat)(h6:h≤6)(hn:n=2^h)(hsm: ∀s∈ls,s.length≤1048576):
    Cz prog 55 [.slice A n c] F (.tuple #[Str (Mk.root ls h),I 0]):=by
  have hlen:ls.length=n:=by have:=hl.1;simpa [qAH] using this
  have hR:Mk.Right n:=by rw [hn];exact Mk.right_pow h h6
  have hn64:n≤64:=by unfold Mk.Right at hR;omega
  have hlv: ∀j,j≤h→(Mk.lvl ls j).length=2^(h-j):=Mk.lvl_length ls h xB
  have hle: ∀j,2^(h-j)≤64:=λj=>jg (jm xC (show h-j≤6 by omega)) xC
  refine Ct.walk func55 O ntmps55 O (λw0 hw0=>?_)
  refine J.f λ_ j1=>J.j 2 O<|J.c j1<|J.p λ_ j2=>J.f λ_ j3=>J.b O<|J.g (qAP qAj O O) O<|J.q (qAK O O ent (qMK F n xB)) O λg6 _=>J.g ((qFP O O).as (v':= .bool false) (by simp [hR])) O<|J.c5 [0,1] [F,(λ_=>none)] O xC<|J.c j3<|J.a3 ?_
  refine J.M j2<|J.p λ_ j4=>J.T<|J.b6 (X:=Nat×Option Addr×Nat×Hp) (λx=> [(0,.slice x.2.1 (Mk.lvl ls x.1).length x.2.2.1)]) (λx=> [F,x.2.2.2]) (λx=>x.1≤h∧ ∃mm∈ [F,x.2.2.2],Sl mm 1 x.2.1 (Mk.lvl ls x.1).length x.2.2.1 (qAH (Mk.lvl ls x.1))) (λx=>h-x.1) (0,A,c,λ_=>none) (⟨jF _,F,.head _,by rw [show(Mk.lvl ls (0,A,c,(λ_=>none:Hp)).1).length=n from hlen];exact hl⟩) ⟨by rw [←hlen];rfl,trivial⟩ (λ_ h=>h) ?_
  rintro⟨j,A1,c1,m⟩ ⟨hj,mm,hmm,hsl⟩ I0 hI0
  dsimp only at hj hmm hsl⊢
  have hj2:=hlv j hj
  have hj3:=hle j
  have hpos:0<(Mk.lvl ls j).length:=by rw [hj2];exact jy _
  have hmm2:mm=F∨mm=m:=by simpa using hmm
  refine J.p λ_ j5=>J.f λ_ j6=>J.b O<|J.g (qAP qAj O O) O<|J.g (qA0 O O O) O<|J.c j6<|J.Z O (λh10=>?_) (λh10=>?_)
  ·
    refine J.M j5<|J.T ?_
    have hjh:j<h:=by
      rcases zm j h with hlt|hge
      · exact hlt
      · rw [hj2,show h-j=0 by omega] at h10;simp at h10
    refine J.H<|J.b O<|J.q (qBV O O (λF' hF=>qNI F' (hK.mono (Fa hF)) A1 (Mk.lvl ls j).length c1 (Mk.lvl ls j) (hsl.mono (hF _ (by rcases hmm2 with rfl|rfl<;>simp))) (Mk.lvl_small ls hsm j) xB)) O ?_
    rintro⟨A12,c12,m12⟩ h12
    try dsimp only at h12
    refine J.c3 [0,2] [F,m12] O xC<|J.b O<|J.a4<|J.a1<|J.u<|J.a7 (j+1,A12,c12,m12) (λx (hx:_∧h-x.1<h-j)=>hI0 x hx.1 hx.2) ⟨⟨by dsimp only;omega,m12,by simp,by rw [Mk.lvl_succ_length];exact h12.sl⟩,by dsimp only;omega⟩ ⟨by rw [Mk.lvl_succ_length];rfl,trivial⟩ (λ_ h=>h)
  refine J.b4<|J.a0<|J.a0<|J.b5 ?_
  refine J.u (J.D j4 ?_)
  refine J.p λ_ j7=>?_
  have hjh:j=h:=by
    rcases zm j h with hlt|hge
    · have:=Nat.one_lt_two_pow_iff.2 (show h-j≠0 by omega)
      omega
    · omega
  exact J.H<|J.b O<|J.g (qAF O O O qAj z9_ hsl hpos) O<|J.g (qAI O O b9_ hmm (hsl.elem (qAb (Mk.getS (l:=Mk.lvl ls j) (j:=0) hpos)))) O<|J.j 2 O<|J.c j7<|J.A<|J.a9 hw0 (λ_ _ h=>h) (qBk O O O) (qAg () (by rw [hjh];rfl) trivial [0] O xC)
theorem qVG(F:Hp)(hK:qAG F ⟨3,0,none⟩ (Sha.K.map W32))(A:Option Addr)(n c:Nat)(ls:List xA)(hl:Sl F 1 A n c (qAH ls))(h:Nat)(h6:h≤6)(hn:n=2^h)(hsm: ∀s∈ls,s.length≤1048576)(i:Nat)(hi:i<n):
    Ct prog 167 [.slice A n c,I i] [F] (λx:Option Addr×Nat×Hp=> .tuple #[.slice x.1 h x.2.1,I 0]) (λx=>Row x.2.2 9 1 x.1 h x.2.1 (qAH (Mk.path ls i h))) (λx=> [F,x.2.2]):=by
  have hlen:ls.length=n:=by have:=hl.1;simpa [qAH] using this
  have hR:Mk.Right n:=by rw [hn];exact Mk.right_pow h h6
  have hn64:n≤64:=by unfold Mk.Right at hR;omega
  have hlv: ∀j,j≤h→(Mk.lvl ls j).length=2^(h-j):=Mk.lvl_length ls h xB
  have hle: ∀j,2^(h-j)≤64:=λj=>jg (jm xC (show h-j≤6 by omega)) xC
  refine Ct.walk func167 O ntmps167 O (λw0 hw0=>?_)
  refine J.f λ_ j1=>J.j 2 O<|J.c j1<|J.p λ_ j2=>J.T<|J.f λ_ j3=>J.b O<|J.g (qAP qAj O O) O<|J.q (qAK O O ent (qMK F n xB)) O λg10 _=>J.g ((qFP O O).as (v':= .bool false) (by simp [hR])) O<|J.b O<|J.c j3<|J.a3 ?_
  refine J.f λ_ j4=>J.b O<|J.g ((qAQ O O O).no xB) O<|J.j 3 O<|J.G (qAP qAj O O) O<|J.G ((qBA O O O).no xB) O<|J.j 2 O<|J.c j4<|J.a3 ?_
  refine J.b2<|J.a1<|J.u (J.D j2 ?_)
  refine J.p λ_ j5=>J.c5 [0,1] [F,(λ_=>none)] O xC<|J.c5 [0,1,2] [F,(λ_=>none),(λ_=>none)] O xC<|J.H<|J.b O<|J.c j5<|J.p λ_ j6=>J.T<|J.b6 (X:=Nat×Option Addr×Nat×Hp×Option Addr×Nat×Hp) (λx=> [(0,.slice x.2.1 (Mk.lvl ls x.1).length x.2.2.1),(1,I (i/2^x.1:Nat)),(6,.slice x.2.2.2.2.1 x.1 x.2.2.2.2.2.1)]) (λx=> [F,x.2.2.2.2.2.2,x.2.2.2.1]) (λx=>x.1≤h∧(∃mm∈ [F,x.2.2.2.1],Sl mm 1 x.2.1 (Mk.lvl ls x.1).length x.2.2.1 (qAH (Mk.lvl ls x.1)))∧Row x.2.2.2.2.2.2 9 1 x.2.2.2.2.1 x.1 x.2.2.2.2.2.1 (qAH (Mk.path ls i x.1))) (λx=>h-x.1) (0,A,c,(λ_=>none),none,0,λ_=>none) (⟨jF _,⟨F,.head _,by rw [show(Mk.lvl ls (0,A,c,(λ_=>none:Hp)).1).length=n from hlen];exact hl⟩,qBS.nil⟩) ⟨by rw [←hlen];rfl,by rw [Nat.pow_zero,Nat.div_one];rfl,O,trivial⟩ (λ_ h=>h) ?_
  rintro⟨j,A1,c1,m,A2,c2,m2⟩ ⟨hj,⟨mm,hmm,hsl⟩,hrow⟩ I0 hI0
  dsimp only at hj hmm hsl hrow⊢
  have hj2:=hlv j hj
  have hj3:=hle j
  have hpos:0<(Mk.lvl ls j).length:=by rw [hj2];exact jy _
  have hmm2:mm=F∨mm=m:=by simpa using hmm
  have hmF:mm∈ [F,m2,m]:=by rcases hmm2 with rfl|rfl<;>simp
  refine J.p λ_ j7=>J.f λ_ j8=>J.b O<|J.g (qAP qAj O O) O<|J.g (qA0 O O O) O<|J.c j8<|J.Z O (λh23=>?_) (λh23=>?_)
  ·
    refine J.M j7<|J.p λ_ j9=>J.T ?_
    have hjh:j<h:=by
      rcases zm j h with hlt|hge
      · exact hlt
      · rw [hj2,show h-j=0 by omega] at h23;simp at h23
    have hij:i/2^j<2^(h-j):=by
      rw [zz (jy j),←Nat.pow_add,show h-j+j=h by omega,←hn];exact hi
    have hx1:i/2^j^^^1<(Mk.lvl ls j).length:=by
      rw [hj2,show h-j=(h-j-1)+1 by omega,jv,zx]
      refine Mk.xor_one _ _ ?_
      rw [show h-j=(h-j-1)+1 by omega,jv,zx] at hij;exact hij
    refine J.H<|J.j 3 O<|J.g (qVL O O O ⟨zN (zq _ _) (show i<9223372036854775808 by omega),xC⟩) O<|J.g (qAF O O O qAj z9_ hsl hx1) O<|J.g (qAI O O b9_ hmF (hsl.elem (qAb (Mk.getS (l:=Mk.lvl ls j) (j:=i/2^j^^^1) hx1)))) O<|J.q (qAE (l:= [.tmp 33]) (xs:= [[Str ((Mk.lvl ls j).getD ((i/2^j)^^^1) [])]]) O O O O qAj el9 O xC xC xD) O λg34 _=>J.q (qAW (i:=1) (m2:=blk g34 [Str ((Mk.lvl ls j).getD ((i/2^j)^^^1) [])] 9) O O O qAj qAj el9 O hrow xD (qAm (q:=True) (xs:=qAH [((Mk.lvl ls j).getD ((i/2^j)^^^1) [])]) O (by simp [qAH])).sl (qJU _) xB xB) O ?_
    rintro⟨A35,c35,m35⟩ h35
    try dsimp only at h35
    rw [←qB5,←Mk.path_succ] at h35
    refine J.b O<|J.a4<|J.a1<|J.u (J.D j9 ?_)
    refine J.H<|J.b O<|J.q (qBV O O (λF' hF=>qNI F' (hK.mono (Fa hF)) A1 (Mk.lvl ls j).length c1 (Mk.lvl ls j) (hsl.mono (hF _ (by rcases hmm2 with rfl|rfl<;>simp))) (Mk.lvl_small ls hsm j) xB)) O ?_
    rintro⟨A25,c25,m25⟩ h25
    try dsimp only at h25
    refine J.c3 [0,1,4] [F,m35,m25] O xC<|J.b O<|J.g ((qHl O O O ⟨Int.natCast_nonneg _,xC,Int.ofNat_le.2 (jg (zq _ _) (show i≤9223372036854775807 by omega))⟩).as (v':=I (i/2^(j+1):Nat)) (congrArg I (by rw [jv,←zw];rfl))) O<|J.j 2 O<|J.a4<|J.u<|J.a7 (j+1,A25,c25,m25,A35,c35,m35) (λx (hx:_∧h-x.1<h-j)=>hI0 x hx.1 hx.2) ⟨⟨by dsimp only;omega,⟨m25,by simp,by rw [Mk.lvl_succ_length];exact h25.sl⟩,h35⟩,by dsimp only;omega⟩ ⟨by rw [Mk.lvl_succ_length];rfl,O,O,trivial⟩ (λ_ h=>h)
  refine J.b4<|J.a0<|J.a0<|J.b5 ?_
  refine J.u (J.D j6 ?_)
  refine J.p λ_ j10=>?_
  have hjh:j=h:=by
    rcases zm j h with hlt|hge
    · have:=Nat.one_lt_two_pow_iff.2 (show h-j≠0 by omega)
      omega
    · omega
  exact J.H<|J.j 3 O<|J.c j10<|J.A<|J.a9 hw0 (λ_ _ h=>h) (qBk O O O) (qAg (A2,c2,m2) (by rw [hjh]) (by rw [hjh] at hrow;exact hrow) [0,1] O xC)
theorem qTJ(F:Hp)(hK:qAG F ⟨3,0,none⟩ (Sha.K.map W32))(xx:xA)(i:Nat)(A:Option Addr)(n c:Nat)(ls:List xA)(hl:Sl F 1 A n c (qAH ls))(hx:xx.length≤1048576)(hsm: ∀s∈ls,s.length≤1048576)(hi:i<9223372036854775808)(hn:n≤1048576):
    Cz prog 245 [Str xx,I i,.slice A n c] F (Str (Mk.climb xx i ls)):=by
  have hlen:ls.length=n:=by have:=hl.1;simpa [qAH] using this
  refine Ct.walk func245 O ntmps245 O (λw0 hw0=>?_)
  refine J.f λ_ j1=>J.b O<|J.c j1<|J.p λ_ j2=>J.f λ_ j3=>J.b O<|J.g (qAP qAj O O) O<|J.b O<|J.c j3<|J.T<|J.b6 (X:=Nat×xA×Nat) (λx=> [(0,Str x.2.1),(1,I x.2.2),(9,.slice A n c),(10,I n),(11,I x.1)]) (λ_=> [F]) (λx=>x.1≤n∧x.2.1.length≤1048576∧x.2.2≤i∧Mk.climb x.2.1 x.2.2 (ls.drop x.1)=Mk.climb xx i ls) (λx=>n-x.1) (0,xx,i) (⟨jF _,hx,jK _,O⟩) ⟨O,O,O,O,O,trivial⟩ (λ_ h=>h) ?_
  rintro⟨k,y,j⟩ ⟨hk,hy,hji,hc⟩ I0 hI0
  dsimp only at hk hy hji hc⊢
  refine J.f λ_ j4=>J.g (qAQ O O O) O<|J.c j4<|J.p λ_ j5=>J.Z O (λh12=>?_) (λh12=>?_)
  ·
    refine J.M j5<|J.p λ_ j6=>J.T<|J.p λ_ j7=>?_
    have hkn:k<n:=xB
    obtain ⟨s,hs⟩: ∃s,ls[k]?=some s:=⟨_,jC xB⟩
    have hdr:ls.drop k=s::ls.drop (k+1):=by
      obtain ⟨hk2,rfl⟩:=List.getElem?_eq_some_iff.1 hs
      exact zC hk2
    rw [hdr,Mk.climb] at hc
    refine J.H<|J.g (qAF O O O qAj z9_ hl xB) O<|J.g (qAI O O b9_ (m:=F) xD (hl.elem (qAb hs))) O<|J.b O<|J.c j7<|J.p λ_ j8=>J.f λ_ j9=>J.b O<|J.g (qLL (a:=j) (b:=1) O O O xB) O<|J.g (qAZ O O O) O<|J.c j9<|J.Z O (λh17=>?_) (λh17=>?_)
    ·
      refine J.H<|J.j 2 O<|J.q (qAa O O (λF' hF=>qLQ F' (hK.mono (Fa hF)) y s hy (hsm _ (jM hs)))) O λg20 _=>J.b O<|J.c j8<|J.H<|J.b O<|J.g ((qCo (m:=1) O O O xB).nat (j/2) xB) O<|J.b O<|J.a4<|J.a1<|J.u (J.D j6 ?_)
      refine J.H<|J.g (qAR O O O xB) O<|J.b O<|J.a4<|J.u ?_
      rw [if_pos (by rw [Nat.and_one_is_mod] at h17;omega)] at hc
      refine J.a7 (k+1,Mk.node y s,j/2) (λx (hx:_∧n-x.1<n-k)=>hI0 x hx.1 hx.2) ⟨⟨by dsimp only;omega,by dsimp only;rw [Mk.node_length];decide,by dsimp only;omega,hc⟩,by dsimp only;omega⟩ ⟨O,O,O,O,O,trivial⟩ (λ_ h=>h)
    refine J.H<|J.j 2 O<|J.q (qAa O O (λF' hF=>qLQ F' (hK.mono (Fa hF)) s y (hsm _ (jM hs)) hy)) O λg23 _=>J.b O<|J.c j8<|J.H<|J.b O<|J.g ((qCo (m:=1) O O O xB).nat (j/2) xB) O<|J.b O<|J.a4<|J.a1<|J.u (J.D j6 ?_)
    refine J.H<|J.g (qAR O O O xB) O<|J.b O<|J.a4<|J.u ?_
    rw [if_neg (by rw [Nat.and_one_is_mod] at h17;omega)] at hc
    refine J.a7 (k+1,Mk.node s y,j/2) (λx (hx:_∧n-x.1<n-k)=>hI0 x hx.1 hx.2) ⟨⟨by dsimp only;omega,by dsimp only;rw [Mk.node_length];decide,by dsimp only;omega,hc⟩,by dsimp only;omega⟩ ⟨O,O,O,O,O,trivial⟩ (λ_ h=>h)
  refine J.b4<|J.a0<|J.a0<|J.b5 ?_
  refine J.u (J.D j2 ?_)
  refine J.p λ_ j10=>?_
  rw [js xB] at hc
  exact J.H<|J.j 2 O<|J.c j10<|J.A<|J.E hw0 O () (by rw [←hc];rfl) trivial [0] O xC
end Go.Proofs.YtmemgokiolfdoaaGreatDoor
namespace Go.Proofs.YtmemgokiolfdoaaGreatDoor
open Go Go.Fw Go.Proofs.Tryz
attribute [local irreducible] Mk.node
namespace Mk
theorem qUL(m:Nat):m^^^1=if m%2=0 then m+1 else m-1:=by
 have e1:(m^^^1)/2=m/2:=by rw [Nat.xor_div_two];simp
 have e2:(m^^^1)%2=(m%2)^^^1:=Nat.xor_mod_two_pow (n:=1)
 rcases Nat.mod_two_eq_zero_or_one m with h|h
 · rw [h,show(0:Nat)^^^1=1 from rfl] at e2;rw [if_pos h];omega
 · rw [h,show(1:Nat)^^^1=0 from rfl] at e2;rw [if_neg xB];omega
theorem qRJ(l:List xA)(k:Nat):(above l)[k]?=if k<l.length/2 then some (node (l.getD (2*k) []) (l.getD (2*k+1) [])) else none:=by
 unfold above
 rw [jN]
 by_cases h:k<l.length/2
 · rw [if_pos h,zA h];rfl
 · rw [if_neg h,jc (by simpa using Nat.le_of_not_lt h)];rfl
theorem qJQ{k:Nat}(h:0<k):2^k%2=0:=by
 rw [show k=(k-1)+1 by omega,jv];omega
end Mk
attribute [local irreducible] Mk.root Mk.path
end Go.Proofs.YtmemgokiolfdoaaGreatDoor
namespace Go.Proofs.YtmemgokiolfdoaaGreatDoor
open Go Go.Fw Go.Proofs.Tryz
attribute [local irreducible] Mk.node
namespace Mk
theorem qH5(s:xA): ∀(p:List xA) (x:xA) (i:Nat),climb x i (p++ [s])=if i/2^p.length%2=0 then node (climb x i p) s else node s (climb x i p)
 | [],x,i=>by simp [climb]
 |a::p,x,i=>by
  rw [zu,climb,climb,qH5 s p,jD,jv,zx,←zw]
theorem qKX(l:List xA)(h i:Nat)(hl:l.length=2^h)(hi:i<2^h): ∀j,j≤h→climb (l.getD i []) i (path l i j)=(lvl l j).getD (i/2^j) []
  |0,_=>by simp [path,climb,lvl]
  |j+1,hj=>by
    have hlen:=lvl_length l h hl j xB
    have h1:i/2^j<2^(h-j):=by rw [zz (jy j),←Nat.pow_add,show h-j+j=h by omega];exact hi
    have h2:=qJQ (show 0<h-j by omega)
    rw [path_succ,qH5,qKX l h i hl hi j xB,path_length,jv,←zw]
    generalize i/2^j=q at*
    rw [show lvl l (j+1)=above (lvl l j) from rfl,jB (l:=above (lvl l j)),qRJ,hlen,if_pos (show q/2<2^(h-j)/2 by omega),qUL]
    split
    · rename_i e
      rw [show 2*(q/2)=q by omega];rfl
    · rename_i e
      rw [show 2*(q/2)=q-1 by omega,show q-1+1=q by omega];rfl
theorem climb_root(l:List xA)(h i:Nat)(hl:l.length=2^h)(hi:i<2^h):climb (l.getD i []) i (path l i h)=root l h:=by
 rw [qKX l h i hl hi h (jK _),zJ hi];rfl
theorem flat_small{ls:List xA}{w:Nat}(h: ∀s∈ls,s.length≤w):ls.flatten.length≤w*ls.length:=by
 induction ls with
 |nil=>simp
 |cons a l ih=>
  have:=ih (λs hs=>h s (.tail _ hs))
  have h2:=h a (.head _)
  rw [ji,jA,jD,Nat.mul_add];omega
end Mk
namespace Sha
end Sha
attribute [local irreducible] Sha.tagB Mk.root Mk.path
end Go.Proofs.YtmemgokiolfdoaaGreatDoor
namespace Go.Proofs.YtmemgokiolfdoaaGreatDoor
open Go Go.Fw Go.Proofs.Tryz
def qBg(v:Nat)(o r:xA)(h:Int)(p:xA):Int:=if v<1∨4294967295<v then 13 else if qBE o r h=0∧p.length=16 then 0 else 10
def qBG(v:Nat)(o r:xA)(h:Int)(p:xA):xA:=if qBg v o r h p=0 then Sha.numB (UInt64.ofNat v) 4++qBQ o r h++p else []
def enV(v:Nat)(o r:xA)(h:Int)(p:xA):Value:= .tuple #[Str (qBG v o r h p),I (qBg v o r h p)]
theorem qQg{v:Nat}{o r:xA}{h:Int}{p:xA}{e:Int}(he:qBg v o r h p=e)(h0:e≠0):Value.tuple #[Str [],I e]=enV v o r h p:=by
 unfold enV qBG
 rw [he,if_neg h0]
theorem qXf{v:Nat}{o r:xA}{h:Int}{p:xA}(hv:v<1∨4294967295<v):qBg v o r h p=13:=if_pos hv
theorem qPM{o r:xA}{h:Int}(he: ¬qBE o r h=0):qBE o r h=10:=by
 unfold qBE at he⊢
 split at he
 · omega
 · rename_i h1;rw [if_neg h1]
theorem en_10{v:Nat}{o r:xA}{h:Int}{p:xA}(h1: ¬v<1)(h2: ¬4294967295<v)(he: ¬qBE o r h=0):qBg v o r h p=10:=by
 unfold qBg
 rw [if_neg xB,if_neg (λe=>he e.1)]
theorem qXd{v:Nat}{o r:xA}{h:Int}{p:xA}(h1: ¬v<1)(h2: ¬4294967295<v)(he:qBE o r h=0):
    Value.tuple #[Str (if qCC (okF p 16) 10 0=0 then qKz p 16 (Sha.numB (UInt64.ofNat v) 4++qBQ o r h) 0 else []),I (qCC (okF p 16) 10 0)]=enV v o r h p:=by
  unfold enV qBG
  by_cases h3:p.length=16
  · have e:qBg v o r h p=0:=by unfold qBg;rw [if_neg xB,if_pos ⟨he,h3⟩]
    rw [e,qLO h3,qBv,if_pos rfl,if_pos rfl,qGL h3]
  · have e:qBg v o r h p=10:=by unfold qBg;rw [if_neg xB,if_neg (λe=>h3 e.2)]
    have e2:qCC (okF p 16) 10 0=10:=by rw [okF_f h3];rfl
    rw [e,e2,if_neg xC,if_neg xC]
theorem qH4(F:Hp)(v:Nat)(o r:xA)(h:Int)(p:xA)(hv:v<18446744073709551616)(ho:o.length≤1048576)(hr:r.length≤1048576)(hp:p.length≤1048576):
    Cz prog 107 [.agg #[N64 v,Str o,Str r,I h,Str p]] F (enV v o r h p):=by
  refine Ct.walk func107 O ntmps107 O (λw0 hw0=>?_)
  refine J.f λ_ j1=>J.q (qAd O O O) O λg1 _=>J.j 2 O<|J.c j1 ?_
  refine J.p λ_ j2=>J.f λ_ j3=>J.W 0 qCv qD8 O O O O O<|J.a5 1 qFC O O O O O<|J.g (qAQ O O O) O<|J.b O<|J.b9 (d:=10) O (λh10=>?_) (λh10=>?_)
  ·
    refine J.j 4 O<|J.c j3 ?_
    refine J.c4 ?_
    refine J.f λ_ j4=>J.j 2 O<|J.c j4 ?_
    exact J.A<|J.V<|J.a9 hw0 (λ_ _ h=>h) (qBk O O O) (qAg () (qQg (qXf xB) xC) trivial [0] O xC)
  refine J.G (qAA O O qCv O qD8 O) O<|J.G (qAC 1 O O O qFC O) O<|J.G (qA0 O O O) O<|J.b O<|J.c j3 ?_
  refine J.Z O (λh14=>?_) (λh14=>?_)
  ·
    refine J.f λ_ j5=>J.j 2 O<|J.c j5 ?_
    exact J.A<|J.V<|J.a9 hw0 (λ_ _ h=>h) (qBk O O O) (qAg () (qQg (qXf xB) xC) trivial [0] O xC)
  refine J.M j2 ?_
  refine J.f λ_ j6=>J.W 1 qCv qDp O O O O O<|J.g (qEj 1 O O qKf qDp (vs:= [Str o,Str r,I h]) O (qAG.blk 1 (λj u hj=>by match j with|0=>exact hj|1=>exact hj|2=>exact hj)) O) O<|J.q (qAa O O (λF' hF=>qDx F' o r h ho hr)) O λg18 _=>J.j 5 O<|J.c j6 ?_
  refine J.p λ_ j7=>J.f λ_ j8=>J.b O<|J.g (qAY O O O) O<|J.c j8 ?_
  refine J.Z O (λh22=>?_) (λh22=>?_)
  ·
    refine J.f λ_ j9=>J.j 3 O<|J.c j9 ?_
    exact J.A<|J.V<|J.a9 hw0 (λ_ _ h=>h) (qBk O O O) (qAg () (qQg ((en_10 xB xB xB).trans (qPM xB).symm) xB) trivial [0] O xC)
  refine J.M j7 ?_
  refine J.p λ_ j10=>?_
  have hk0:qBE o r h=0:=xB
  have hkl:=qFK hk0
  refine J.H<|J.q (qAJ O qKP O) O λg6 _=>J.c j10 ?_
  refine J.p λ_ j11=>J.b1 [blk g1 [N64 v,Str o,Str r,I h,Str p] 102] [] (.y 0 (.y 1 (.y 3 (.y 5 (.y 6 (.e 2 (.e 4 (.e 7 (.e 8 (.y 9 (.y 10 (.y 11 (.y 12 .nil))))))))))))) Tryz.wide xF xD ?_
  refine J.k O (qAA O O qCv O qD8 O) O O<|J.k O (qAC 0 O O O qFC O) O O<|J.L ?_
  refine J.k O (qAA O O qCv O z9_ O) O O<|J.k O (qAC 0 O O O b9_ O) O O<|J.a2 O (qAK O O ent (Ct.use1 2 O (λF' _=>qLP F' (blk g6 [.pointer none,.slice none 0 0,I 0] 148) g6 [] 0 (qGF g6) xC v hv 4 xB xB))) O xD ?_
  rintro m26 hw26
  rw [qHM (size:=4) hv xB,qBv,qCV (qHM (size:=4) hv xB),jq] at hw26
  refine J.a2 O (qAK O O ent (Ct.use1 2 O (λF' _=>qDH F' m26 g6 (Sha.numB (UInt64.ofNat v) 4) 0 hw26 (by rw [Sha.numB_length];omega) (qBQ o r h) xB 33))) O xD ?_
  rintro m28 hw28
  rw [qGL hkl,qLO hkl,qBv] at hw28
  refine J.a2 O (qAK O O ent (Ct.use1 2 O (λF' _=>qDH F' m28 g6 ((Sha.numB (UInt64.ofNat v) 4)++qBQ o r h) 0 hw28 (by rw [jA,Sha.numB_length];omega) p xB 16))) O xD ?_
  rintro m31 hw31
  refine J.a2 O (qAK O O ent (Ct.use1 2 O (λF' _=>qDJ F' m31 g6 (qKz p 16 ((Sha.numB (UInt64.ofNat v) 4)++qBQ o r h) 0) (qCC (okF p 16) 10 0) hw31 (by have:=qDq p 16 ((Sha.numB (UInt64.ofNat v) 4)++qBQ o r h) 0;rw [jA,Sha.numB_length] at this;omega)))) O xD ?_
  rintro m32 hw32
  refine J.c8 (Str (if qCC (okF p 16) 10 0=0 then qKz p 16 ((Sha.numB (UInt64.ofNat v) 4)++qBQ o r h) 0 else [])) ?_
  refine J.c8 (I (qCC (okF p 16) 10 0)) ?_
  refine J.b7 ?_
  refine J.b7 ?_
  refine J.b0<|J.u (J.D j11 ?_)
  exact J.A<|J.a9 hw0 (λ_ _ h=>h) (qBk O O O) (qAg () (qXd xB xB hk0) trivial [0] O xC)
def deE(s:xA):Int:=if s.length<53 then 3 else if 53<s.length then 2 else if 6<(s.getD 36 0).toNat then 4 else if qFR (s.take 4)<1 then 13 else 0
def deN(s:xA):Nat:=if deE s=0 then qFR (s.take 4) else 0
def qCr(v:Nat)(o r:xA)(h:Int)(p:xA):xA:=if qBg v o r h p=0 then Sha.tagged 12 [qBG v o r h p] else []
theorem qB8{v:Nat}{o r:xA}{h:Int}{p:xA}(he:qBg v o r h p=0):(qBG v o r h p).length=53:=by
  unfold qBG
  rw [if_pos he]
  unfold qBg at he
  split at he
  · omega
  · split at he
    · rename_i h2
      rw [jA,jA,Sha.numB_length,qFK h2.1,h2.2]
    · omega
structure En where
 v:Nat
 o:xA
 r:xA
 h:Int
 p:xA
 deriving DecidableEq
def En.cells(x:En):List Value:= [N64 x.v,Str x.o,Str x.r,I x.h,Str x.p]
def En.good(x:En):Prop:=x.v<18446744073709551616∧x.o.length≤1048576∧x.r.length≤1048576∧x.p.length≤1048576
def En.val(x:En):xA:=qCr x.v x.o x.r x.h x.p
def En.next(x y:En):Int:=if x.v=18446744073709551615∨y.v≠x.v+1 then 13 else if x.val= []∨y.p≠x.val then 15 else 0
def En.chain:List En→Int
 | []=>0
 | [_]=>0
 |x::y::r=>if x.next y≠0 then x.next y else En.chain (y::r)
def En.hist:List En→Int
 | []=>20
 |x::r=>if x.v≠1 then 13 else if x.p≠qAk then 15 else En.chain (x::r)
theorem qE5(F:Hp)(hK:qAG F ⟨3,0,none⟩ (Sha.K.map W32))(v:Nat)(o r:xA)(h:Int)(p:xA)(hv:v<18446744073709551616)(ho:o.length≤1048576)(hr:r.length≤1048576)(hp:p.length≤1048576):
    Cz prog 42 [.agg #[N64 v,Str o,Str r,I h,Str p]] F (Str (qCr v o r h p)):=by
  refine Ct.walk func42 O ntmps42 O (λw0 hw0=>?_)
  refine J.f λ_ j1=>J.q (qAd O O O) O λg1 _=>J.b O<|J.c j1 ?_
  refine J.f λ_ j2=>J.c0 1 qBZ qAw O O O O O<|J.q (qAa O O (λF' hF=>qH4 F' v o r h p hv ho hr hp)) O λg7 _=>J.j 5 O<|J.c j2 ?_
  refine J.p λ_ j3=>J.f λ_ j4=>J.b O<|J.g (qAY O O O) O<|J.c j4 ?_
  refine J.Z O (λh11=>?_) (λh11=>?_)
  ·
    refine J.f λ_ j5=>J.b O<|J.c j5 ?_
    exact J.A<|J.V<|J.E hw0 O () (by unfold qCr;rw [if_neg xB]) trivial [0] O xC
  refine J.M j3 ?_
  refine J.p λ_ j6=>?_
  have he0:qBg v o r h p=0:=xB
  refine J.H<|J.b O<|J.q (qAE (l:= [.tmp 12]) (xs:= [[Str (qBG v o r h p)]]) O O O O qAj el9 O xC xC xD) O λg13 _=>J.q (qAa O O (λF' hF=>qAy F' (hK.mono (Fa hF)) 12 (some ⟨g13,0,none⟩) 1 1 [qBG v o r h p] ((slS [qBG v o r h p] O).mono (hF (blk g13 (([qBG v o r h p]:List xA).map λs=>Str s) 9) xD)) (by have:=qB8 he0;simp [this]) xC)) O λg14 _=>J.b O<|J.c j6 ?_
  exact J.A<|J.E hw0 O () (by unfold qCr;rw [if_pos he0]) trivial [0] O xC
theorem qF4(F:Hp)(hK:qAG F ⟨3,0,none⟩ (Sha.K.map W32))(s:xA)(hs:s.length≤1048576):
    Cz prog 41 [Str s] F (Str (Sha.tagged 11 [s])):=by
  refine Ct.walk func41 O ntmps41 O (λw0 hw0=>?_)
  refine J.f λ_ j1=>J.b O<|J.c j1 ?_
  refine J.f λ_ j2=>J.b O<|J.q (qAE (l:= [.tmp 3]) (xs:= [[Str (s)]]) O O O O qAj el9 O xC xC xD) O λg4 _=>J.q (qAa O O (λF' hF=>qAy F' (hK.mono (Fa hF)) 11 (some ⟨g4,0,none⟩) 1 1 [s] ((slS [s] O).mono (hF (blk g4 (([s]:List xA).map λs=>Str s) 9) xD)) xJ xC)) O λg5 _=>J.b O<|J.c j2 ?_
  exact J.A<|J.E hw0 O () O trivial [0] O xC
theorem qTD(F:Hp)(hK:qAG F ⟨3,0,none⟩ (Sha.K.map W32))(x y:En)(hx:x.good)(hy:y.good):
    Cz prog 156 [.agg x.cells.toArray,.agg y.cells.toArray] F (I (x.next y)):=by
  obtain ⟨hx1,hx2,hx3,hx4⟩:=hx
  obtain ⟨hy1,hy2,hy3,hy4⟩:=hy
  have hxv:x.val=qCr x.v x.o x.r x.h x.p:=rfl
  refine Ct.walk func156 O ntmps156 O (λw0 hw0=>?_)
  refine J.f λ_ j1=>J.q (qAd O O O) O λg2 _=>J.q (qAd O O O) O λg3 _=>?_
  change J _ _ _ [_,_,blk g3 [N64 y.v,Str y.o,Str y.r,I y.h,Str y.p] 102] _
  refine J.b O<|J.c j1 ?_
  refine J.p λ_ j2=>J.f λ_ j3=>J.c0 1 qBZ qAw O O O O O<|J.q (qAa O O (λF' hF=>qE5 F' (hK.mono (Fa hF)) x.v x.o x.r x.h x.p hx1 hx2 hx3 hx4)) O λg7 _=>J.b O<|J.c j3 ?_
  refine J.T<|J.f λ_ j4=>J.W 0 qCv qD8 O O O O O<|J.a5 1 qFC O O O O O<|J.g (qAZ O O O) O<|J.b O<|J.b9 (d:=12) O (λh12=>?_) (λh12=>?_)
  ·
    refine J.j 8 O<|J.c j4 ?_
    refine J.c4 ?_
    refine J.f λ_ j5=>J.b O<|J.c j5 ?_
    exact J.A<|J.a6<|J.V<|J.E hw0 O () (congrArg I (by unfold En.next;rw [if_pos xB])) trivial [0] O xC
  refine J.G (qAA (j:=0) O O qCv O qD8 O) O<|J.G (qAC 2 O O O qFC O) O<|J.G (qAA (j:=0) O O qCv O qD8 O) O<|J.G (qAC 1 O O O qFC O) O<|J.G (qGk (b:=1) O O O xB) O<|J.G (qAY O O O) O<|J.j 2 O<|J.c j4 ?_
  refine J.Z O (λh8=>?_) (λh8=>?_)
  ·
    refine J.f λ_ j6=>J.b O<|J.c j6 ?_
    exact J.A<|J.a6<|J.V<|J.E hw0 O () (congrArg I (by unfold En.next;rw [if_pos xB])) trivial [0] O xC
  refine J.f λ_ j7=>J.b O<|J.g (qBF O O O) O<|J.b O<|J.b9 (d:=23) O (λh23=>?_) (λh23=>?_)
  ·
    refine J.j 6 O<|J.c j7 ?_
    refine J.c4 ?_
    refine J.f λ_ j8=>J.b O<|J.c j8 ?_
    exact J.A<|J.a6<|J.V<|J.E hw0 O () (congrArg I (by unfold En.next;rw [if_neg xB,if_pos (.inl h23)])) trivial [0] O xC
  refine J.G (qAA (j:=4) O O qCv O z9_ O) O<|J.G (qAC 2 O O O b9_ O) O<|J.b O<|J.G (qCy O O O) O<|J.j 2 O<|J.c j7 ?_
  refine J.Z O (λh20=>?_) (λh20=>?_)
  ·
    refine J.f λ_ j9=>J.b O<|J.c j9 ?_
    exact J.A<|J.a6<|J.V<|J.E hw0 O () (congrArg I (by unfold En.next;rw [if_neg xB,if_pos (.inr h20)])) trivial [0] O xC
  refine J.b2<|J.a1<|J.u (J.D j2 ?_)
  refine J.f λ_ j10=>J.b O<|J.c j10 ?_
  exact J.A<|J.E hw0 O () (congrArg I (by unfold En.next;rw [if_neg xB,if_neg (λe=>e.elim h23 h20)])) trivial [0] O xC
def qBD:En:=⟨0,[],[],0,[]⟩
theorem qGB{l:List En}{j:Nat}(h:j<l.length):(l.map En.cells)[j]?=some (l.getD j qBD).cells:=by rw [jN,qAh qBD h];rfl
theorem qE3{l:List En}(h:0<l.length):En.hist l=if(l.getD 0 qBD).v≠1 then 13 else if(l.getD 0 qBD).p≠qAk then 15 else En.chain l:=by
 cases l with
 |nil=>simp at h
 |cons x r=>rfl
theorem qH7{l:List En}{k:Nat}(h:k+1<l.length):En.chain (l.drop k)=if(l.getD k qBD).next (l.getD (k+1) qBD)≠0 then(l.getD k qBD).next (l.getD (k+1) qBD) else En.chain (l.drop (k+1)):=by
 rw [zC (show k<l.length by omega),zC h]
 rw [jB,jB,jC (show k<l.length by omega),jC h];rfl
theorem qQr{l:List En}{k:Nat}(h:k+1=l.length):En.chain (l.drop k)=0:=by
 rw [zC (show k<l.length by omega),js xB];rfl
theorem qKG{l:List En}{k:Nat}(hg: ∀x∈l,x.good)(h:k<l.length):(l.getD k qBD).good:=by
 rw [jB,jC h]
 exact hg _ (jS h)
theorem qKO(F:Hp)(A:Option Addr)(c:Nat):
    Cz prog 83 [.slice A 0 c] F (I 20):=by
  refine Ct.walk func83 O ntmps83 O (λw0 hw0=>?_)
  refine J.f λ_ j1=>J.b O<|J.c j1 ?_
  refine J.p λ_ j2=>J.T<|J.f λ_ j3=>J.b O<|J.g (qAP qCt O O) O<|J.g ((qAZ O O O).yes xC) O<|J.b O<|J.c j3 ?_
  refine J.c4 ?_
  refine J.f λ_ j4=>J.b O<|J.c j4 ?_
  exact J.A<|J.a6<|J.V<|J.E hw0 O () O trivial [0] O xC
theorem qCO(F:Hp)(hK:qAG F ⟨3,0,none⟩ (Sha.K.map W32))(l:List En)(hg: ∀x∈l,x.good)(g o c:Nat)(hl:Sl F 5 (some ⟨g,o,none⟩) l.length c (l.map En.cells))(hn:0<l.length)(hn2:l.length≤1073741824):
    Cz prog 83 [.slice (some ⟨g,o,none⟩) l.length c] F (I (En.hist l)):=by
  refine Ct.walk func83 O ntmps83 O (λw0 hw0=>?_)
  refine J.f λ_ j1=>J.b O<|J.c j1 ?_
  refine J.p λ_ j2=>J.T<|J.f λ_ j3=>J.b O<|J.g (qAP qCt O O) O<|J.g ((qAZ O O O).no xB) O<|J.b O<|J.c j3 ?_
  refine J.a3 ?_
  refine J.f λ_ j4=>J.b O<|J.g (qAF O O O qCt qAw hl (hn)) O<|J.g ((qAA (g:=g) O O qCv O qD8 O)) O<|J.g (qAI O O qFC (m:=F) xD (hl.cell (i:=0) (x:=(l.getD 0 qBD).cells) (qGB hn) (k:=0) (v:=N64 (l.getD 0 qBD).v) O)) O<|J.g (qAY O O O) O<|J.b O<|J.c j4 ?_
  refine J.Z O (λh9=>?_) (λh9=>?_)
  ·
    refine J.f λ_ j5=>J.b O<|J.c j5 ?_
    exact J.A<|J.a6<|J.V<|J.E hw0 O () (congrArg I (by rw [qE3 hn,if_pos xB])) trivial [0] O xC
  refine J.p λ_ j6=>J.b1 [F] [] (.y 0 (.y 1 (.y 2 (.y 3 (.e 4 (.y 5 (.y 6 .nil))))))) Tryz.wide xF xD ?_
  refine J.L ?_
  refine J.k O (qAF O O O qCt qAw hl (hn)) O O<|J.k O ((qAA (g:=g) O O qCv O z9_ O)) O O<|J.k O (qAI O O b9_ (m:=F) xD (hl.cell (i:=0) (x:=(l.getD 0 qBD).cells) (qGB hn) (k:=4) (v:=Str (l.getD 0 qBD).p) O)) O O<|J.a2 O (qAa O O (λF' hF=>qGa F' 16 xC xC)) O xD λg20 _=>J.k O (qCy O O O) O O<|J.b7 ?_
  refine J.b0<|J.u (J.D j6 ?_)
  refine J.Z O (λh15=>?_) (λh15=>?_)
  ·
    change(l.getD 0 qBD).p≠qAk at h15
    refine J.f λ_ j7=>J.b O<|J.c j7 ?_
    exact J.A<|J.a6<|J.V<|J.E hw0 O () (congrArg I (by rw [qE3 hn,if_neg xB,if_pos h15])) trivial [0] O xC
  change¬(l.getD 0 qBD).p≠qAk at h15
  refine J.b2<|J.a1<|J.u (J.D j2 ?_)
  refine J.p λ_ j8=>J.f λ_ j9=>J.b O<|J.g (qAP qCt O O) O<|J.g (qA1 O O O xB) O<|J.b O<|J.c j9 ?_
  refine J.T<|J.b6 (X:=Nat) (λk=> [(0,.slice (some ⟨g,o,none⟩) l.length c),(24,I ((l.length:Int)-1)),(25,I k)]) (λ_=> [F]) (λk=>k+1≤l.length∧En.chain (l.drop k)=En.chain l) (λk=>l.length-k) 0 (⟨xB,O⟩) ⟨O,O,O,trivial⟩ (λ_ h=>h) ?_
  intro k ⟨hk,hch⟩ I0 hI0
  refine J.f λ_ j10=>J.g (qAQ O O O) O<|J.c j10 ?_
  refine J.p λ_ j11=>J.Z O (λh26=>?_) (λh26=>?_)
  ·
    refine J.M j11 ?_
    refine J.p λ_ j12=>J.T<|J.f λ_ j13=>J.j 2 O<|J.c j13 ?_
    refine J.p λ_ j14=>J.b1 [F] [] (.y 0 (.y 1 (.y 2 (.y 3 (.y 4 (.y 5 (.y 6 (.y 7 (.y 8 (.e 9 (.y 10 .nil))))))))))) Tryz.wide xF xD ?_
    refine J.L ?_
    refine J.L ?_
    refine J.k O (qAF O O O qCt qAw hl xB) O O<|J.k O (qAT O O qBZ qAw (m:=F) xD (hl.elem (qGB xB)) O) O O<|J.L ?_
    refine J.L ?_
    refine J.k O ((qAR O O O xB).nat (k+1) xB) O O<|J.k O (qAF O O O qCt qAw hl xB) O O<|J.k O (qAT O O qBZ qAw (m:=F) xD (hl.elem (qGB xB)) O) O O<|J.a2 O (qAa O O (λF' hF=>qTD F' (hK.mono (Fa hF)) (l.getD k qBD) (l.getD (k+1) qBD) (qKG hg xB) (qKG hg xB))) O xD λg37 _=>J.b7 ?_
    refine J.b0<|J.u (J.D j14 ?_)
    refine J.f λ_ j15=>J.b O<|J.g (qAY O O O) O<|J.c j15 ?_
    refine J.Z O (λh39=>?_) (λh39=>?_)
    ·
      refine J.f λ_ j16=>J.j 2 O<|J.c j16 ?_
      exact J.A<|J.a6<|J.V<|J.V<|J.a6<|J.V<|J.E hw0 O () (congrArg I (by rw [qE3 hn,if_neg xB,if_neg h15,←hch,qH7 (l:=l) (k:=k) xB,if_pos xB])) trivial [0] O xC
    refine J.b2<|J.a1<|J.u (J.D j12 ?_)
    exact J.H<|J.g ((qAR O O O xB).nat (k+1) xB) O<|J.b O<|J.a4<|J.u<|J.a7 (k+1) (λx (hx:_∧l.length-x<l.length-k)=>hI0 x hx.1 hx.2) ⟨⟨xB,by have:=qH7 (l:=l) (k:=k) xB;rw [if_neg xB] at this;rw [←this];exact hch⟩,xB⟩ ⟨O,O,O,trivial⟩ (λ_ h=>h)
  refine J.b4<|J.a0<|J.a0<|J.b5 ?_
  refine J.u (J.D j8 ?_)
  refine J.p λ_ j17=>?_
  have hce:=qQr (l:=l) (k:=k) xB
  refine J.H<|J.b O<|J.c j17 ?_
  exact J.A<|J.E hw0 O () (congrArg I (by rw [qE3 hn,if_neg xB,if_neg h15,←hch,hce])) trivial [0] O xC
theorem qLj(F:Hp)(hK:qAG F ⟨3,0,none⟩ (Sha.K.map W32))(l:List En)(hg: ∀x∈l,x.good)(A:Option Addr)(n c:Nat)(hl:Sl F 5 A n c (l.map En.cells))(hn2:n≤1073741824):
    Cz prog 83 [.slice A n c] F (I (En.hist l)):=by
  have hln:l.length=n:=by have:=hl.1;rwa [jP] at this
  subst hln
  cases l with
  |nil=>exact qKO F A c
  |cons x r=>
    obtain ⟨g,o,rfl⟩:=hl.at (by rw [jD];omega)
    exact qCO F hK (x::r) hg g o c hl (by rw [jD];omega) hn2
theorem en_0{v:Nat}{o r:xA}{h:Int}{p:xA}(h1: ¬v<1)(h2: ¬4294967295<v)(h3: ¬h<0)(h4: ¬6<h)(ho:o.length=16)(hr:r.length=16)(hp:p.length=16):qBg v o r h p=0∧qBG v o r h p=Sha.numB (UInt64.ofNat v) 4++o++r++ [UInt8.ofNat h.toNat]++p:=by
 have hq:qGb o r h:=⟨xB,xB,ho,hr⟩
 have e:qBg v o r h p=0:=by
  unfold qBg qBE
  rw [if_neg xB,if_pos hq,if_pos ⟨rfl,hp⟩]
 refine⟨e,?_⟩
 unfold qBG qBQ
 rw [if_pos e,if_pos hq]
 simp
theorem qWb(a b:Nat):(((a:Int)==(b:Int))=decide (a=b)):=by
 by_cases h:a=b
 · simp [h]
 · rw [decide_eq_false h,beq_eq_false_iff_ne];omega
theorem eqEn(x y:En)(w:World):(Op.equalIn 10000 102 (.agg x.cells.toArray) (.agg y.cells.toArray)).run prog w= .ok (decide (x=y)) w:=by
 have uu:=qEF
 have au:=qFC
 have us:=u9_
 have ag:=b9_
 have ap:=qKf
 have zp:=qDp
 have hS:prog.underlying 102=some (.struct (prog.fieldsOf 102)):=xH
 have hp:prog.stoodInHeld 102=false:=xH
 rw [show(10000:Nat)=9999+1 from rfl,run_equalIn_struct w 9999 102 _ _ hS hp]
 simp only [Program.fieldsOf,qCv]
 obtain ⟨v,o,r,h,p⟩:=x
 obtain ⟨v',o',r',h',p'⟩:=y
 have hi: ∀(a b:Int) (w:World),(Op.equalIn 9999 49 (.int .u64 a) (.int .u64 b)).run prog w= .ok (a==b) w:=λa b w=>run_equalIn_int w 9998 49 .u64 .u64 a b uu
 have hs: ∀(a b:xA) (w:World),(Op.equalIn 9999 9 (Str a) (Str b)).run prog w= .ok (decide (a=b)) w:=λa b w=>by rw [run_equalIn_string w 9998 9 _ _ us,qFA]
 have hq:=qXc 9997 o r o' r' h h'
 simp only [Op.eqFields,En.cells]
 simp [part,au,ag,ap,zp,hi,hs,qWb,hq]
 by_cases h1:v=v'<;>by_cases h2:p=p'<;>by_cases h3:o=o'<;>by_cases h4:r=r'<;>by_cases h5:h=h'<;>simp [h1,h2,h3,h4,h5]
theorem qKN{v:Nat}{o r:xA}{h:Int}{p:xA}(he:qBg v o r h p=0):1≤v∧v≤4294967295∧(0≤h∧h≤6)∧o.length=16∧r.length=16∧p.length=16:=by
  unfold qBg at he
  split at he
  · omega
  · split at he
    · rename_i h1 h2
      have h3:=h2.1
      unfold qBE at h3
      split at h3
      · rename_i h4
        have h5:=h4
        unfold qGb at h5
        omega
      · omega
    · omega
end Go.Proofs.YtmemgokiolfdoaaGreatDoor