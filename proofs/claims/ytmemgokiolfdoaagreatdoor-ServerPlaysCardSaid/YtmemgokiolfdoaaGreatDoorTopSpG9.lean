/- A part of the proof. -/
import Derived.KernelRfl
set_option maxRecDepth 100000
set_option maxHeartbeats 1000000
set_option linter.unusedSimpArgs false
set_option linter.unusedVariables false
namespace Go.Proofs.YtmemgokiolfdoaaGreatDoor
namespace Sha
def K:List UInt32:= [1116352408,1899447441,3049323471,3921009573,961987163,1508970993,2453635748,2870763221,3624381080,310598401,607225278,1426881987,1925078388,2162078206,2614888103,3248222580,3835390401,4022224774,264347078,604807628,770255983,1249150122,1555081692,1996064986,2554220882,2821834349,2952996808,3210313671,3336571891,3584528711,113926993,338241895,666307205,773529912,1294757372,1396182291,1695183700,1986661051,2177026350,2456956037,2730485921,2820302411,3259730800,3345764771,3516065817,3600352804,4094571909,275423344,430227734,506948616,659060556,883997877,958139571,1322822218,1537002063,1747873779,1955562222,2024104815,2227730452,2361852424,2428436474,2756734187,3204031479,3329325298]
def rotr(x:UInt32)(r:Nat):UInt32:=UInt32.ofNat (x.toNat*2^min (32-r) 32)|||UInt32.ofNat (x.toNat/2^min r 32)
def shr(x:UInt32)(r:Nat):UInt32:=UInt32.ofNat (x.toNat/2^min r 32)
def be32(a b c d:UInt8):UInt32:=UInt32.ofNat (a.toUInt32.toNat*2^min 24 32)|||UInt32.ofNat (b.toUInt32.toNat*2^min 16 32)|||UInt32.ofNat (c.toUInt32.toNat*2^min 8 32)|||d.toUInt32
def word(b:List UInt8)(i:Nat):UInt32:=be32 (b.getD (4*i) 0) (b.getD (4*i+1) 0) (b.getD (4*i+2) 0) (b.getD (4*i+3) 0)
def sg0(x:UInt32):UInt32:=rotr x 7^^^rotr x 18^^^shr x 3
def sg1(x:UInt32):UInt32:=rotr x 17^^^rotr x 19^^^shr x 10
def ext(l:List UInt32):List UInt32:=l++ [l.getD (l.length-16) 0+sg0 (l.getD (l.length-15) 0)+l.getD (l.length-7) 0+sg1 (l.getD (l.length-2) 0)]
def exts:Nat->List UInt32->List UInt32
 |0,l=>l
 |n+1,l=>ext (exts n l)
def firsts(b:List UInt8)(k:Nat):List UInt32:=(List.range k).map (word b)
def sched(b:List UInt8):List UInt32:=exts 48 (firsts b 16)
structure St8 where
 a:UInt32
 b:UInt32
 c:UInt32
 d:UInt32
 e:UInt32
 f:UInt32
 g:UInt32
 h:UInt32
def rnd(w k:UInt32)(s:St8):St8:=
 let s1:=rotr s.e 6^^^rotr s.e 11^^^rotr s.e 25
 let t1:=s.h+s1+(s.e&&&s.f^^^ ~~~ s.e&&&s.g)+k+w
 let s0:=rotr s.a 2^^^rotr s.a 13^^^rotr s.a 22
 let t2:=s0+(s.a&&&s.b^^^s.a&&&s.c^^^s.b&&&s.c)
 {a:=t1+t2,b:=s.a,c:=s.b,d:=s.c,e:=s.d+t1,f:=s.e,g:=s.f,h:=s.g}
def rnds(ws:List UInt32)(s:St8):Nat->St8
 |0=>s
 |i+1=>rnd (ws.getD i 0) (K.getD i 0) (rnds ws s i)
def St8.list(s:St8):List UInt32:= [s.a,s.b,s.c,s.d,s.e,s.f,s.g,s.h]
def St8.add(s t:St8):St8:=⟨s.a+t.a,s.b+t.b,s.c+t.c,s.d+t.d,s.e+t.e,s.f+t.f,s.g+t.g,s.h+t.h⟩
def mix(s:St8)(b:List UInt8):St8:=s.add (rnds (sched b) s 64)
def init:St8:=⟨0x6a09e667,0xbb67ae85,0x3c6ef372,0xa54ff53a,0x510e527f,0x9b05688c,0x1f83d9ab,0x5be0cd19⟩
def numB(n:UInt64)(size:Nat):List UInt8:=(List.range size).map λi=>(UInt64.ofNat (n.toNat/2^min (8*(size-1-i)) 64)).toUInt8
def pad(l:List UInt8):List UInt8:=l++ [0x80]++List.replicate ((119-l.length%64)%64) 0++numB (8*UInt64.ofNat l.length) 8
def mixes(s:St8)(p:List UInt8):Nat->St8
 |0=>s
 |k+1=>mix (mixes s p k) (p.drop (64*k))
def out(s:St8):List UInt8:=s.list.flatMap λx=>numB x.toUInt64 4
def sum(l:List UInt8):List UInt8:=out (mixes init (pad l) ((pad l).length/64))
theorem qPc(l:List UInt32):(ext l).length=l.length+1:=by simp [ext]
theorem exts_length(l:List UInt32): ∀n,(exts n l).length=l.length+n
 |0=>rfl
 |n+1=>by simp only [exts,qPc,exts_length l n];omega
theorem firsts_length(b:List UInt8)(k:Nat):(firsts b k).length=k:=by simp [firsts]
theorem sched_length(b:List UInt8):(sched b).length=64:=by simp [sched,exts_length,firsts_length]
theorem numB_length(n:UInt64)(k:Nat):(numB n k).length=k:=by simp [numB]
theorem pad_length(l:List UInt8):(pad l).length=l.length+1+(119-l.length%64)%64+8:=by simp [pad,numB_length];omega
theorem pad_mod(l:List UInt8):(pad l).length%64=0:=by rw [pad_length];omega
theorem qPE(s:St8):(out s).length=32:=by simp [out,St8.list,numB_length]
theorem sum_length(l:List UInt8):(sum l).length=32:=qPE _
end Sha
end Go.Proofs.YtmemgokiolfdoaaGreatDoor
namespace Go.Proofs.YtmemgokiolfdoaaGreatDoor
namespace R3
def row(ai:Nat)(b:List Nat)(i:Nat)(out:List Nat):Nat->List Nat×Nat
 |0=>(out,0)
 |k+1=>let r:=row ai b i out k
  let t:=r.1.getD (i+k) 0+ai*b.getD k 0+r.2
  (r.1.set (i+k) (t%65536),t/65536)
def rows(a b:List Nat):Nat->List Nat
 |0=>List.replicate (a.length+b.length) 0
 |i+1=>let r:=row (a.getD i 0) b i (rows a b i) b.length
  r.1.set (i+b.length) (r.1.getD (i+b.length) 0+r.2)
def times(a b:List Nat):List Nat:=rows a b a.length
def val:List Nat->Nat
 | []=>0
 |a::l=>a+65536*val l
def parts(m:List Nat)(n:Nat):Nat->Nat×Bool
 |0=>(0,false)
 |j+1=>let r:=parts m n j
  let i:=m.length-1-j
  if n<=i then(r.1*65536+m.getD i 0,r.2) else(r.1,if 0<m.getD i 0 then true else r.2)
def pieces(y:Nat):List Nat:= [y%65536,y/65536%65536,y/4294967296]
def power(y:Nat)(cube:Bool):List Nat:=if cube then times (times (pieces y) (pieces y)) (pieces y) else times (pieces y) (pieces y)
def whole(cube:Bool):Nat:=if cube then 6 else 4
def above(y p:Nat)(cube:Bool):Bool:=
 let m:=power y cube
 let r:=parts m (whole cube) m.length
 decide (p<r.1)||(decide (r.1=p)&&r.2)
def qTI(y p:Nat)(cube:Bool):Bool:=if cube then decide (p*79228162514264337593543950336<y*y*y) else decide (p*18446744073709551616<y*y)
def rootK(p:Nat)(cube:Bool):Nat->Nat
 |0=>0
 |j+1=>let x:=rootK p cube j
  let y:=x+68719476736/2^j
  if above y p cube then x else y
def qUE(p:Nat)(cube:Bool):Nat->Nat
 |0=>0
 |j+1=>let x:=qUE p cube j
  let y:=x+68719476736/2^j
  if qTI y p cube then x else y
def root(p:Nat)(cube:Bool):Nat:=rootK p cube 37%4294967296
def ploop(p d:Nat)(acc:Bool):Nat->Bool
 |0=>acc
 |f+1=>if d*d<=p then ploop p (d+1) (if p%d=0 then false else acc) f else acc
def prime(p:Nat):Bool:=ploop p 2 true 20
def primes:Nat->List Nat
 |0=> []
 |k+1=>if prime (k+2) then primes k++ [k+2] else primes k
def roots(cube:Bool)(k:Nat):List Nat:=(primes k).map λp=>root p cube
theorem qMD: ∀(l:List Nat) (i x:Nat),i<l.length->val (l.set i x)+l.getD i 0*65536^i=val l+x*65536^i
 | [],i,x,h=>by simp at h
 |a::l,0,x,_=>by simp [val];omega
 |a::l,i+1,x,h=>by
  have ih:=qMD l i x (by simpa using h)
  have e:(a::l).getD (i+1) 0=l.getD i 0:=rfl
  rw [e,List.set_cons_succ,val,val,Nat.pow_succ]
  generalize val (l.set i x)=u at*
  generalize l.getD i 0=g at*
  generalize 65536^i=z at*
  have e1:g*(z*65536)=65536*(g*z):=by rw [<-Nat.mul_assoc,Nat.mul_comm]
  have e2:x*(z*65536)=65536*(x*z):=by rw [<-Nat.mul_assoc,Nat.mul_comm]
  rw [e1,e2];omega
theorem qJT: ∀(l:List Nat) (k:Nat),k<l.length->val (l.take (k+1))=val (l.take k)+l.getD k 0*65536^k
 | [],k,h=>by simp at h
 |a::l,0,_=>by simp [val]
 |a::l,k+1,h=>by
  have ih:=qJT l k (by simpa using h)
  have e:(a::l).getD (k+1) 0=l.getD k 0:=rfl
  rw [e,List.take_succ_cons,List.take_succ_cons,val,val,ih,Nat.pow_succ]
  generalize 65536^k=z
  generalize l.getD k 0=g
  have e2:g*(z*65536)=65536*(g*z):=by rw [<-Nat.mul_assoc,Nat.mul_comm]
  rw [e2];omega
theorem qXE(n:Nat):val (List.replicate n 0)=0:=by
 induction n with
 |zero=>rfl
 |succ n ih=>rw [List.replicate_succ,val,ih]
theorem qG4(l:List Nat)(i x j:Nat)(h:i<l.length):(l.set i x).getD j 0=if j=i then x else l.getD j 0:=by
 rw [List.getD_eq_getElem?_getD,List.getElem?_set]
 by_cases e:i=j
 . subst e;rw [if_pos rfl,if_pos h,if_pos rfl];rfl
 . rw [if_neg e,if_neg (Ne.symm e),<-List.getD_eq_getElem?_getD]
structure RowOk (ai:Nat) (b:List Nat) (i:Nat) (out:List Nat) (k:Nat):Prop where
 len:(row ai b i out k).1.length=out.length
 val:val (row ai b i out k).1+(row ai b i out k).2*65536^(i+k)=val out+ai*val (b.take k)*65536^i
 dig: ∀j,(row ai b i out k).1.getD j 0<65536
 car:(row ai b i out k).2<65536
 top: ∀j,i+k<=j->(row ai b i out k).1.getD j 0=out.getD j 0
theorem row_ok(ai:Nat)(b:List Nat)(i:Nat)(out:List Nat)(hai:ai<65536)(hb: ∀j,b.getD j 0<65536)(hout: ∀j,out.getD j 0<65536)(hl:i+b.length<=out.length): ∀k,k<=b.length->RowOk ai b i out k
  |0,_=>⟨rfl,by simp [row,R3.val],hout,by simp [row],λ_ _=>rfl⟩
  |k+1,hk=>by
    obtain ⟨h1,h2,h3,h4,h5⟩:=row_ok ai b i out hai hb hout hl k (by omega)
    have hbk:=hb k
    have ho:=h3 (i+k)
    have e:row ai b i out (k+1)=((row ai b i out k).1.set (i+k) (((row ai b i out k).1.getD (i+k) 0+ai*b.getD k 0+(row ai b i out k).2)%65536),((row ai b i out k).1.getD (i+k) 0+ai*b.getD k 0+(row ai b i out k).2)/65536):=rfl
    have hp:ai*b.getD k 0<=65535*65535:=Nat.mul_le_mul (by omega) (by omega)
    have hset:=qMD (row ai b i out k).1 (i+k) (((row ai b i out k).1.getD (i+k) 0+ai*b.getD k 0+(row ai b i out k).2)%65536) (by omega)
    have htk:=qJT b k (by omega)
    refine⟨?_,?_,?_,?_,?_⟩
    . rw [e,List.length_set];exact h1
    . rw [e]
      dsimp only
      rw [htk,show i+(k+1)=(i+k)+1 by omega,Nat.pow_succ]
      generalize hgo:(row ai b i out k).1.getD (i+k) 0=o at*
      generalize hgc:(row ai b i out k).2=c at*
      generalize hgt:o+ai*b.getD k 0+c=t at*
      generalize R3.val ((row ai b i out k).1.set (i+k) (t%65536))=v' at*
      generalize R3.val (row ai b i out k).1=v at*
      have hsplit:t=t%65536+65536*(t/65536):=(Nat.mod_add_div t 65536).symm
      have e1:t/65536*(65536^(i+k)*65536)=65536*(t/65536)*65536^(i+k):=by rw [Nat.mul_comm (65536^(i+k)) 65536,<-Nat.mul_assoc,Nat.mul_comm (t/65536) 65536]
      have e2:ai*(R3.val (b.take k)+b.getD k 0*65536^k)*65536^i=ai*R3.val (b.take k)*65536^i+ai*b.getD k 0*65536^(i+k):=by
        rw [Nat.mul_add,Nat.add_mul,Nat.pow_add,Nat.mul_comm (65536^i),<-Nat.mul_assoc ai (b.getD k 0),Nat.mul_assoc (ai*b.getD k 0)]
      have e3:t*65536^(i+k)=o*65536^(i+k)+ai*b.getD k 0*65536^(i+k)+c*65536^(i+k):=by rw [<-hgt,Nat.add_mul,Nat.add_mul]
      have e4:t*65536^(i+k)=t%65536*65536^(i+k)+65536*(t/65536)*65536^(i+k):=by rw [<-Nat.add_mul,<-hsplit]
      rw [e1,e2]
      omega
    . intro j
      rw [e]
      dsimp only
      rw [qG4 _ _ _ _ (by omega)]
      split
      . exact Nat.mod_lt _ (by decide)
      . exact h3 j
    . rw [e];dsimp only;omega
    . intro j hj
      rw [e]
      dsimp only
      rw [qG4 _ _ _ _ (by omega),if_neg (by omega)]
      exact h5 j (by omega)
structure qag (a b:List Nat) (i:Nat):Prop where
 len:(rows a b i).length=a.length+b.length
 val:val (rows a b i)=val (a.take i)*val b
 dig: ∀j,(rows a b i).getD j 0<65536
 top: ∀j,i+b.length<=j->(rows a b i).getD j 0=0
theorem qOP(n j:Nat):(List.replicate n 0).getD j 0=0:=by
 rw [List.getD_eq_getElem?_getD,List.getElem?_replicate];split<;>rfl
theorem rows_ok(a b:List Nat)(ha: ∀j,a.getD j 0<65536)(hb: ∀j,b.getD j 0<65536): ∀i,i<=a.length->qag a b i
  |0,_=>⟨by simp [rows],by simp [rows,qXE,R3.val],λj=>by rw [rows,qOP];decide,λj _=>by rw [rows,qOP]⟩
  |i+1,hi=>by
    obtain ⟨h1,h2,h3,h4⟩:=rows_ok a b ha hb i (by omega)
    have hr:=row_ok (a.getD i 0) b i (rows a b i) (ha i) hb h3 (by omega) b.length (Nat.le_refl _)
    obtain ⟨r1,r2,r3,r4,r5⟩:=hr
    have e:rows a b (i+1)=(row (a.getD i 0) b i (rows a b i) b.length).1.set (i+b.length) ((row (a.getD i 0) b i (rows a b i) b.length).1.getD (i+b.length) 0+(row (a.getD i 0) b i (rows a b i) b.length).2):=rfl
    have h0:(row (a.getD i 0) b i (rows a b i) b.length).1.getD (i+b.length) 0=0:=by rw [r5 _ (Nat.le_refl _),h4 _ (Nat.le_refl _)]
    have hset:=qMD (row (a.getD i 0) b i (rows a b i) b.length).1 (i+b.length) ((row (a.getD i 0) b i (rows a b i) b.length).1.getD (i+b.length) 0+(row (a.getD i 0) b i (rows a b i) b.length).2) (by omega)
    rw [h0,Nat.zero_add,Nat.zero_mul,Nat.add_zero] at hset
    rw [h0,Nat.zero_add] at e
    refine⟨?_,?_,?_,?_⟩
    . rw [e,List.length_set,r1,h1]
    . rw [e,hset,r2,h2,List.take_of_length_le (Nat.le_refl _),qJT a i (by omega),Nat.add_mul]
      congr 1
      rw [Nat.mul_assoc,Nat.mul_comm (R3.val b),<-Nat.mul_assoc]
    . intro j
      rw [e,qG4 _ _ _ _ (by omega)]
      split
      . exact r4
      . exact r3 j
    . intro j hj
      rw [e,qG4 _ _ _ _ (by omega),if_neg (by omega),r5 _ (by omega)]
      exact h4 j (by omega)
theorem times_val(a b:List Nat)(ha: ∀j,a.getD j 0<65536)(hb: ∀j,b.getD j 0<65536):(times a b).length=a.length+b.length/\val (times a b)=val a*val b/\ ∀j,(times a b).getD j 0<65536:=by
 obtain ⟨h1,h2,h3,_⟩:=rows_ok a b ha hb a.length (Nat.le_refl _)
 rw [List.take_of_length_le (Nat.le_refl _)] at h2
 exact⟨h1,h2,h3⟩
theorem qFG(m:List Nat)(i:Nat)(h:i<m.length):val (m.drop i)=m.getD i 0+65536*val (m.drop (i+1)):=by
 rw [List.drop_eq_getElem_cons h,val,List.getD_eq_getElem?_getD,List.getElem?_eq_getElem h];rfl
theorem qKa: ∀(m:List Nat) (n:Nat),val m=val (m.take n)+65536^n*val (m.drop n)
 | [],n=>by simp [val]
 |a::l,0=>by simp [val]
 |a::l,n+1=>by
  have ih:=qKa l n
  rw [List.take_succ_cons,List.drop_succ_cons,val,val,ih,Nat.pow_succ,Nat.mul_add,Nat.add_assoc]
  congr 2
  rw [<-Nat.mul_assoc,Nat.mul_comm 65536]
theorem val_lt(m:List Nat)(h: ∀j,m.getD j 0<65536):val m<65536^m.length:=by
 induction m with
 |nil=>simp [val]
 |cons a l ih=>
  have h0:a<65536:=h 0
  have:=ih (λj=>h (j+1))
  rw [val,List.length_cons,Nat.pow_succ];omega
theorem parts_ok(m:List Nat)(n:Nat)(hn:n<=m.length): ∀j,j<=m.length->parts m n j=(val (m.drop (max n (m.length-j))),decide (0<val ((m.take n).drop (m.length-j))))
  |0,_=>by
    rw [parts,Nat.sub_zero,Nat.max_eq_right hn,List.drop_of_length_le (Nat.le_refl _),List.drop_of_length_le (by rw [List.length_take];omega)]
    rfl
  |j+1,hj=>by
    rw [parts,parts_ok m n hn j (by omega)]
    have e:m.length-(j+1)=m.length-1-j:=by omega
    have e2:m.length-j=m.length-1-j+1:=by omega
    rw [e,e2]
    generalize hi:m.length-1-j=i
    have hil:i<m.length:=by omega
    dsimp only
    split
    . rename_i h
      have t1:(m.take n).drop (i+1)= []:=List.drop_of_length_le (by rw [List.length_take];omega)
      have t2:(m.take n).drop i= []:=List.drop_of_length_le (by rw [List.length_take];omega)
      rw [Nat.max_eq_right (by omega),Nat.max_eq_right h,qFG m i hil,t1,t2]
      exact Prod.ext (by dsimp only;omega) rfl
    . rename_i h
      have hit:i<(m.take n).length:=by rw [List.length_take];omega
      have eg:(m.take n).getD i 0=m.getD i 0:=by
        rw [List.getD_eq_getElem?_getD,List.getD_eq_getElem?_getD,List.getElem?_take,if_pos (by omega)]
      rw [Nat.max_eq_left (by omega),Nat.max_eq_left (by omega),qFG (m.take n) i hit,eg]
      generalize val ((m.take n).drop (i+1))=v
      generalize m.getD i 0=d
      refine Prod.ext rfl ?_
      dsimp only
      split
      . rename_i h0;exact(decide_eq_true (by omega)).symm
      . exact decide_eq_decide.2 (by omega)
theorem qO7(y:Nat):val (pieces y)=y:=by simp only [pieces,val];omega
theorem pieces_dig(y:Nat)(h:y<281474976710656): ∀j,(pieces y).getD j 0<65536
 |0=>by show y%65536<65536;omega
 |1=>by show y/65536%65536<65536;omega
 |2=>by show y/4294967296<65536;omega
 |_+3=>by show 0<65536;omega
theorem power_ok(y:Nat)(cube:Bool)(h:y<281474976710656):(power y cube).length=(if cube then 9 else 6)/\val (power y cube)=(if cube then y*y*y else y*y)/\ ∀j,(power y cube).getD j 0<65536:=by
 have hd:=pieces_dig y h
 have hv:=qO7 y
 obtain ⟨h1,h2,h3⟩:=times_val _ _ hd hd
 cases cube with
 |false=>
  have e:power y false=times (pieces y) (pieces y):=by unfold power;rw [if_neg (by decide)]
  rw [e,if_neg (by decide),if_neg (by decide),h2,hv]
  exact⟨h1,rfl,h3⟩
 |true=>
  obtain ⟨h4,h5,h6⟩:=times_val _ _ h3 hd
  have e:power y true=times (times (pieces y) (pieces y)) (pieces y):=by unfold power;rw [if_pos rfl]
  rw [e,if_pos rfl,if_pos rfl,h5,h2,hv,h4,h1]
  exact⟨rfl,rfl,h6⟩
theorem qWE(y p:Nat)(cube:Bool)(h:y<281474976710656):above y p cube=qTI y p cube:=by
 obtain ⟨h1,h2,h3⟩:=power_ok y cube h
 have hn:whole cube<=(power y cube).length:=by rw [h1];cases cube<;>decide
 have hp:=parts_ok (power y cube) (whole cube) hn _ (Nat.le_refl _)
 rw [Nat.sub_self,Nat.max_eq_left (Nat.zero_le _),List.drop_zero] at hp
 have hs:=qKa (power y cube) (whole cube)
 have hlt:=val_lt ((power y cube).take (whole cube)) (λj=>by
  rw [List.getD_eq_getElem?_getD,List.getElem?_take]
  split
  . rw [<-List.getD_eq_getElem?_getD];exact h3 j
  . decide)
 rw [List.length_take,Nat.min_eq_left hn] at hlt
 unfold above qTI
 dsimp only
 rw [hp]
 rw [h2] at hs
 generalize val ((power y cube).take (whole cube))=lo at*
 generalize val ((power y cube).drop (whole cube))=hi at*
 cases cube with
 |false=>
  simp only [whole,if_false,Bool.false_eq_true] at hs hlt⊢
  rw [show 65536^4=18446744073709551616 from rfl] at hs hlt
  rw [Bool.eq_iff_iff];simp;omega
 |true=>
  simp only [whole,if_true] at hs hlt⊢
  rw [show 65536^6=79228162514264337593543950336 from rfl] at hs hlt
  rw [Bool.eq_iff_iff];simp;omega
theorem pow_half(j:Nat):68719476736/2^(j+1)=68719476736/2^j/2:=by rw [Nat.pow_succ,Nat.div_div_eq_div_mul]
theorem rootK_lt(p:Nat)(cube:Bool): ∀j,rootK p cube j+2*(68719476736/2^j)<=137438953472
 |0=>by simp [rootK]
 |j+1=>by
  have:=rootK_lt p cube j
  rw [rootK,pow_half]
  split<;>omega
theorem qNa(p:Nat)(cube:Bool): ∀j,rootK p cube j=qUE p cube j
 |0=>rfl
 |j+1=>by
  have:=rootK_lt p cube j
  rw [rootK,qUE,qWE _ _ _ (by omega),qNa p cube j]
def qWU(cube:Bool)(k:Nat):List Nat:=(primes k).map λp=>qUE p cube 37%4294967296
theorem qNZ(cube:Bool)(k:Nat):roots cube k=qWU cube k:=by
 unfold roots qWU root
 congr 1
 funext p
 rw [qNa]
theorem qHW(k:Nat):(primes k).length<=(primes (k+1)).length:=by
 rw [primes];split<;>simp
theorem primes_len(k d:Nat):(primes k).length<=(primes (k+d)).length:=by
 induction d with
 |zero=>exact Nat.le_refl _
 |succ d ih=>exact Nat.le_trans ih (qHW _)
theorem primes_tab:(primes 310).length=64/\(primes 309).length=63/\(primes 18).length=8/\(primes 17).length=7:=by decide+kernel
theorem rotr_nat(x:UInt32)(r:Nat)(h1:1<=r)(h2:r<32):(Sha.rotr x r).toNat=x.toNat/2^r+x.toNat%2^r*(4294967296/2^r):=by
 have hx:=x.toNat_lt
 have hpw:2^r*2^(32-r)=4294967296:=by rw [<-Nat.pow_add,show r+(32-r)=32 by omega]
 have hq:4294967296/2^r=2^(32-r):=by rw [<-hpw,Nat.mul_div_cancel_left _ (Nat.two_pow_pos r)]
 have e1:x.toNat*2^(32-r)%4294967296=x.toNat%2^r*2^(32-r):=by rw [<-hpw,Nat.mul_mod_mul_right]
 have hlt:x.toNat/2^r<2^(32-r):=by rw [Nat.div_lt_iff_lt_mul (Nat.two_pow_pos r),Nat.mul_comm,hpw];exact hx
 unfold Sha.rotr
 rw [UInt32.toNat_or,UInt32.toNat_ofNat',UInt32.toNat_ofNat',Nat.min_eq_left (by omega),Nat.min_eq_left (by omega),show 2^32=4294967296 from rfl,e1,Nat.mod_eq_of_lt (Nat.lt_of_le_of_lt (Nat.div_le_self _ _) hx),Nat.mul_comm (x.toNat%2^r),<-Nat.two_pow_add_eq_or_of_lt hlt,hq,Nat.mul_comm,Nat.add_comm]
theorem shr_nat(x:UInt32)(r:Nat)(h2:r<32):(Sha.shr x r).toNat=x.toNat/2^r:=by
 have hx:=x.toNat_lt
 unfold Sha.shr
 rw [UInt32.toNat_ofNat',Nat.min_eq_left (by omega),Nat.mod_eq_of_lt (Nat.lt_of_le_of_lt (Nat.div_le_self _ _) hx)]
theorem qMG(m:Nat):(UInt64.ofNat m).toUInt8=UInt8.ofNat m:=by
 apply UInt8.toNat_inj.1
 rw [UInt64.toNat_toUInt8,UInt64.toNat_ofNat',UInt8.toNat_ofNat',show(2:Nat)^64=18446744073709551616 from rfl,show(2:Nat)^8=256 from rfl];omega
theorem four_nat(n:Nat)(h:n<18446744073709551616):Sha.numB (UInt64.ofNat n) 4= [UInt8.ofNat (n/2^24),UInt8.ofNat (n/2^16),UInt8.ofNat (n/2^8),UInt8.ofNat n]:=by
 have e:(UInt64.ofNat n).toNat=n:=by rw [UInt64.toNat_ofNat'];exact Nat.mod_eq_of_lt h
 unfold Sha.numB
 rw [e]
 simp [List.range_succ,qMG]
theorem roots_K:roots true 310=Sha.K.map UInt32.toNat:=by rw [qNZ];decide+kernel
theorem roots_H:roots false 18=Sha.init.list.map UInt32.toNat:=by rw [qNZ];decide+kernel
theorem qVx(a b c d:UInt8):(Sha.be32 a b c d).toNat=256*(256*(256*a.toNat+b.toNat)+c.toNat)+d.toNat:=by
 have ha:=a.toNat_lt;have hb:=b.toNat_lt;have hc:=c.toNat_lt;have hd:=d.toNat_lt
 have e (x:UInt8):x.toUInt32.toNat=x.toNat:=by simp
 unfold Sha.be32
 rw [UInt32.toNat_or,UInt32.toNat_or,UInt32.toNat_or,UInt32.toNat_ofNat',UInt32.toNat_ofNat',UInt32.toNat_ofNat',e,e,e,e]
 rw [show min 24 32=24 from rfl,show min 16 32=16 from rfl,show min 8 32=8 from rfl,Nat.mod_eq_of_lt (by omega),Nat.mod_eq_of_lt (by omega),Nat.mod_eq_of_lt (by omega)]
 have h1:=Nat.two_pow_add_eq_or_of_lt (i:=24) (b:=b.toNat*2^16) (by omega) a.toNat
 have h2:=Nat.two_pow_add_eq_or_of_lt (i:=16) (b:=c.toNat*2^8) (by omega) (a.toNat*256+b.toNat)
 have h3:=Nat.two_pow_add_eq_or_of_lt (i:=8) (b:=d.toNat) (by omega) ((a.toNat*256+b.toNat)*256+c.toNat)
 rw [Nat.mul_comm a.toNat,<-h1,show 2^24*a.toNat+b.toNat*2^16=2^16*(a.toNat*256+b.toNat) by omega,<-h2,show 2^16*(a.toNat*256+b.toNat)+c.toNat*2^8=2^8*((a.toNat*256+b.toNat)*256+c.toNat) by omega,<-h3]
 omega
def pv(b:List UInt8)(i:Nat):Nat->Nat
 |0=>0
 |j+1=>256*pv b i j+(b.getD (4*i+j) 0).toNat
theorem pv_lt(b:List UInt8)(i:Nat): ∀j,j<=4->pv b i j<256^j
 |0,_=>by simp [pv]
 |j+1,h=>by
  have:=pv_lt b i j (by omega)
  have h2:=(b.getD (4*i+j) 0).toNat_lt
  rw [pv,Nat.pow_succ];omega
theorem pv_word(b:List UInt8)(i:Nat):pv b i 4=(Sha.word b i).toNat:=by
 unfold Sha.word
 rw [qVx]
 simp [pv]
def wn(l:List UInt32):List Nat:=l.map UInt32.toNat++List.replicate (64-l.length) 0
theorem wn_length(l:List UInt32)(h:l.length<=64):(wn l).length=64:=by simp [wn];omega
theorem wn_get(l:List UInt32)(i:Nat)(h:i<l.length):(wn l).getD i 0=(l.getD i 0).toNat:=by
 unfold wn
 rw [List.getD_eq_getElem?_getD,List.getElem?_append_left (by simpa using h),List.getElem?_map,List.getElem?_eq_getElem h,List.getD_eq_getElem?_getD,List.getElem?_eq_getElem h]
 rfl
theorem wn_set(l:List UInt32)(x:UInt32)(h:l.length<64):(wn l).set l.length x.toNat=wn (l++ [x]):=by
 unfold wn
 have e:64-l.length=(64-(l++ [x]).length)+1:=by simp;omega
 rw [e,List.replicate_succ,List.set_append_right _ _ (by simp),List.length_map,Nat.sub_self,List.set_cons_zero]
 simp
theorem wn_zero(l:List UInt32)(h:l.length<64):(wn l).set l.length 0=wn l:=by
 unfold wn
 have e:64-l.length=(63-l.length)+1:=by omega
 rw [e,List.replicate_succ,List.set_append_right _ _ (by simp),List.length_map,Nat.sub_self,List.set_cons_zero]
theorem firsts_succ(b:List UInt8)(k:Nat):Sha.firsts b (k+1)=Sha.firsts b k++ [Sha.word b k]:=by simp [Sha.firsts,List.range_succ]
theorem ext_eq(l:List UInt32)(j:Nat)(hj:l.length=16+j):Sha.ext l=l++ [l.getD j 0+Sha.sg0 (l.getD (j+1) 0)+l.getD (j+9) 0+Sha.sg1 (l.getD (j+14) 0)]:=by
 unfold Sha.ext
 rw [hj,show 16+j-16=j by omega,show 16+j-15=j+1 by omega,show 16+j-7=j+9 by omega,show 16+j-2=j+14 by omega]
def hv(a b:List UInt32)(i:Nat):List UInt32:=b.take i++a.drop i
theorem hv_zero(a b:List UInt32):hv a b 0=a:=by simp [hv]
theorem hv_full(a b:List UInt32)(h:a.length=b.length):hv a b b.length=b:=by simp [hv,List.drop_of_length_le (Nat.le_of_eq h)]
theorem hv_length(a b:List UInt32)(i:Nat)(h:a.length=b.length)(hi:i<=b.length):(hv a b i).length=b.length:=by simp [hv];omega
theorem hv_get(a b:List UInt32)(i:Nat)(h:a.length=b.length)(hi:i<b.length):(hv a b i).getD i 0=a.getD i 0:=by
 unfold hv
 rw [List.getD_eq_getElem?_getD,List.getElem?_append_right (by simp;omega),List.length_take,Nat.min_eq_left (by omega),Nat.sub_self,List.getElem?_drop,Nat.add_zero,List.getD_eq_getElem?_getD]
theorem hv_set(a b:List UInt32)(i:Nat)(h:a.length=b.length)(hi:i<b.length):(hv a b i).set i (b.getD i 0)=hv a b (i+1):=by
 unfold hv
 rw [List.set_append_right _ _ (by simp;omega),List.length_take,Nat.min_eq_left (by omega),Nat.sub_self,List.drop_eq_getElem_cons (by omega),List.set_cons_zero,List.take_succ_eq_append_getElem hi,List.getD_eq_getElem?_getD,List.getElem?_eq_getElem hi,List.append_assoc]
 rfl
theorem add_get(s t:Sha.St8)(i:Nat)(h:i<8):(s.add t).list.getD i 0=s.list.getD i 0+t.list.getD i 0:=by
 have: ∀i:Fin 8,(s.add t).list.getD i.val 0=s.list.getD i.val 0+t.list.getD i.val 0:=λi=>by
  match i with
  |0=>rfl
  |1=>rfl
  |2=>rfl
  |3=>rfl
  |4=>rfl
  |5=>rfl
  |6=>rfl
  |7=>rfl
 exact this ⟨i,h⟩
theorem map_getD(l:List UInt32)(i:Nat)(h:i<l.length):(l.map UInt32.toNat).getD i 0=(l.getD i 0).toNat:=by
 rw [List.getD_eq_getElem?_getD,List.getElem?_map,List.getElem?_eq_getElem h,List.getD_eq_getElem?_getD,List.getElem?_eq_getElem h];rfl
theorem num8(n:Nat)(h:8*n<18446744073709551616)(i:Nat)(hi:i<8):(Sha.numB (8*UInt64.ofNat n) 8).take (i+1)=(Sha.numB (8*UInt64.ofNat n) 8).take i++ [UInt8.ofNat (8*n/2^(8*(7-i)))]:=by
 have e:(8*UInt64.ofNat n).toNat=8*n:=by
  rw [UInt64.toNat_mul,UInt64.toNat_ofNat',Nat.mod_eq_of_lt (show n<2^64 by omega)]
  exact Nat.mod_eq_of_lt h
 rw [List.take_succ_eq_append_getElem (by rw [Sha.numB_length];exact hi)]
 congr 2
 unfold Sha.numB
 rw [e]
 simp [qMG]
 rw [show min (8*(7-i)) 64=8*(7-i) by omega]
theorem num4(x:UInt32)(i:Nat)(hi:i<4):(Sha.numB x.toUInt64 4).take (i+1)=(Sha.numB x.toUInt64 4).take i++ [UInt8.ofNat (x.toNat/2^(8*(3-i)))]:=by
 rw [List.take_succ_eq_append_getElem (by rw [Sha.numB_length];exact hi)]
 congr 2
 unfold Sha.numB
 simp [qMG]
 rw [show min (8*(3-i)) 64=8*(3-i) by omega]
def outs(l:List UInt32)(i:Nat):List UInt8:=(l.take i).flatMap λx=>Sha.numB x.toUInt64 4
theorem outs_succ(l:List UInt32)(i:Nat)(h:i<l.length):outs l (i+1)=outs l i++Sha.numB (l.getD i 0).toUInt64 4:=by
 unfold outs
 rw [List.take_succ_eq_append_getElem h,List.flatMap_append,List.getD_eq_getElem?_getD,List.getElem?_eq_getElem h];simp
theorem outs_length(l:List UInt32)(i:Nat):(outs l i).length<=4*l.length:=by
 have: ∀l:List UInt32,(l.flatMap λx=>Sha.numB x.toUInt64 4).length=4*l.length:=λl=>by
  induction l with
  |nil=>rfl
  |cons a l ih=>simp [Sha.numB_length,ih];omega
 unfold outs
 rw [this,List.length_take];omega
theorem outs_full(s:Sha.St8):outs s.list 8=Sha.out s:=rfl
end R3
end Go.Proofs.YtmemgokiolfdoaaGreatDoor