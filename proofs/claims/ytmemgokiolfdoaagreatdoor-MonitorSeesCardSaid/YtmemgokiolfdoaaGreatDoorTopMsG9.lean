/- A part of the proof. -/
import Derived.KernelRfl
set_option maxRecDepth 100000
set_option maxHeartbeats 1000000
set_option linter.unusedSimpArgs false
set_option linter.unusedVariables false
namespace Go.Proofs.YtmemgokiolfdoaaGreatDoor
namespace Sha
def K:List UInt32:= [1116352408,1899447441,3049323471,3921009573,961987163,1508970993,2453635748,2870763221,3624381080,310598401,607225278,1426881987,1925078388,2162078206,2614888103,3248222580,3835390401,4022224774,264347078,604807628,770255983,1249150122,1555081692,1996064986,2554220882,2821834349,2952996808,3210313671,3336571891,3584528711,113926993,338241895,666307205,773529912,1294757372,1396182291,1695183700,1986661051,2177026350,2456956037,2730485921,2820302411,3259730800,3345764771,3516065817,3600352804,4094571909,275423344,430227734,506948616,659060556,883997877,958139571,1322822218,1537002063,1747873779,1955562222,2024104815,2227730452,2361852424,2428436474,2756734187,3204031479,3329325298]
def rotr(x:UInt32)(r:Nat):UInt32:=UInt32.ofNat (x.toNat*2^min (32-r) 32)|||UInt32.ofNat (x.toNat/2^min r 32)
def shr(x:UInt32)(r:Nat):UInt32:=UInt32.ofNat (x.toNat/2^min r 32)
def be32(a b c d:UInt8):UInt32:=UInt32.ofNat (a.toUInt32.toNat*2^min 24 32)|||UInt32.ofNat (b.toUInt32.toNat*2^min 16 32)|||UInt32.ofNat (c.toUInt32.toNat*2^min 8 32)|||d.toUInt32
def word(b:List UInt8)(i:Nat):UInt32:=be32 (b.getD (4*i) 0) (b.getD (4*i+1) 0) (b.getD (4*i+2) 0) (b.getD (4*i+3) 0)
def sg0(x:UInt32):UInt32:=rotr x 7^^^rotr x 18^^^shr x 3
def sg1(x:UInt32):UInt32:=rotr x 17^^^rotr x 19^^^shr x 10
def ext(l:List UInt32):List UInt32:=l++ [l.getD (l.length-16) 0+sg0 (l.getD (l.length-15) 0)+l.getD (l.length-7) 0+sg1 (l.getD (l.length-2) 0)]
def exts:Nat→List UInt32→List UInt32
 |0,l=>l
 |n+1,l=>ext (exts n l)
def firsts(b:List UInt8)(k:Nat):List UInt32:=(List.range k).map (word b)
def sched(b:List UInt8):List UInt32:=exts 48 (firsts b 16)
structure St8 where
 a:UInt32
 b:UInt32
 c:UInt32
 d:UInt32
 e:UInt32
 f:UInt32
 g:UInt32
 h:UInt32
def rnd(w k:UInt32)(s:St8):St8:=
 let s1:=rotr s.e 6^^^rotr s.e 11^^^rotr s.e 25
 let t1:=s.h+s1+(s.e&&&s.f^^^ ~~~ s.e&&&s.g)+k+w
 let s0:=rotr s.a 2^^^rotr s.a 13^^^rotr s.a 22
 let t2:=s0+(s.a&&&s.b^^^s.a&&&s.c^^^s.b&&&s.c)
 {a:=t1+t2,b:=s.a,c:=s.b,d:=s.c,e:=s.d+t1,f:=s.e,g:=s.f,h:=s.g}
def rnds(ws:List UInt32)(s:St8):Nat→St8
 |0=>s
 |i+1=>rnd (ws.getD i 0) (K.getD i 0) (rnds ws s i)
def St8.list(s:St8):List UInt32:= [s.a,s.b,s.c,s.d,s.e,s.f,s.g,s.h]
def St8.add(s t:St8):St8:=⟨s.a+t.a,s.b+t.b,s.c+t.c,s.d+t.d,s.e+t.e,s.f+t.f,s.g+t.g,s.h+t.h⟩
def mix(s:St8)(b:List UInt8):St8:=s.add (rnds (sched b) s 64)
def init:St8:=⟨0x6a09e667,0xbb67ae85,0x3c6ef372,0xa54ff53a,0x510e527f,0x9b05688c,0x1f83d9ab,0x5be0cd19⟩
def numB(n:UInt64)(size:Nat):List UInt8:=(List.range size).map λi=>(UInt64.ofNat (n.toNat/2^min (8*(size-1-i)) 64)).toUInt8
def pad(l:List UInt8):List UInt8:=l++ [0x80]++List.replicate ((119-l.length%64)%64) 0++numB (8*UInt64.ofNat l.length) 8
def mixes(s:St8)(p:List UInt8):Nat→St8
 |0=>s
 |k+1=>mix (mixes s p k) (p.drop (64*k))
def out(s:St8):List UInt8:=s.list.flatMap λx=>numB x.toUInt64 4
def sum(l:List UInt8):List UInt8:=out (mixes init (pad l) ((pad l).length/64))
theorem qPG(l:List UInt32):(ext l).length=l.length+1:=by simp [ext]
theorem exts_length(l:List UInt32): ∀n,(exts n l).length=l.length+n
 |0=>rfl
 |n+1=>by simp only [exts,qPG,exts_length l n];omega
theorem firsts_length(b:List UInt8)(k:Nat):(firsts b k).length=k:=by simp [firsts]
theorem sched_length(b:List UInt8):(sched b).length=64:=by simp [sched,exts_length,firsts_length]
theorem numB_length(n:UInt64)(k:Nat):(numB n k).length=k:=by simp [numB]
theorem pad_length(l:List UInt8):(pad l).length=l.length+1+(119-l.length%64)%64+8:=by simp [pad,numB_length];omega
theorem pad_mod(l:List UInt8):(pad l).length%64=0:=by rw [pad_length];omega
theorem qOr(s:St8):(out s).length=32:=by simp [out,St8.list,numB_length]
theorem sum_length(l:List UInt8):(sum l).length=32:=qOr _
end Sha
end Go.Proofs.YtmemgokiolfdoaaGreatDoor
namespace Go.Proofs.YtmemgokiolfdoaaGreatDoor
namespace R3
def row(ai:Nat)(b:List Nat)(i:Nat)(out:List Nat):Nat→List Nat×Nat
 |0=>(out,0)
 |k+1=>let r:=row ai b i out k
  let t:=r.1.getD (i+k) 0+ai*b.getD k 0+r.2
  (r.1.set (i+k) (t%65536),t/65536)
def rows(a b:List Nat):Nat→List Nat
 |0=>List.replicate (a.length+b.length) 0
 |i+1=>let r:=row (a.getD i 0) b i (rows a b i) b.length
  r.1.set (i+b.length) (r.1.getD (i+b.length) 0+r.2)
def qWR(a b:List Nat):List Nat:=rows a b a.length
def val:List Nat→Nat
 | []=>0
 |a::l=>a+65536*val l
def qEX(m:List Nat)(n:Nat):Nat→Nat×Bool
 |0=>(0,false)
 |j+1=>let r:=qEX m n j
  let i:=m.length-1-j
  if n≤i then(r.1*65536+m.getD i 0,r.2) else(r.1,if 0<m.getD i 0 then true else r.2)
def qKf(y:Nat):List Nat:= [y%65536,y/65536%65536,y/4294967296]
def power(y:Nat)(cube:Bool):List Nat:=if cube then qWR (qWR (qKf y) (qKf y)) (qKf y) else qWR (qKf y) (qKf y)
def whole(cube:Bool):Nat:=if cube then 6 else 4
def above(y p:Nat)(cube:Bool):Bool:=
 let m:=power y cube
 let r:=qEX m (whole cube) m.length
 decide (p<r.1)||(decide (r.1=p)&&r.2)
def qY6(p:Nat)(cube:Bool):Nat→Nat
 |0=>0
 |j+1=>let x:=qY6 p cube j
  let y:=x+68719476736/2^j
  if above y p cube then x else y
def root(p:Nat)(cube:Bool):Nat:=qY6 p cube 37%4294967296
theorem rotr_nat(x:UInt32)(r:Nat)(h1:1≤r)(h2:r<32):(Sha.rotr x r).toNat=x.toNat/2^r+x.toNat%2^r*(4294967296/2^r):=by
 have hx:=x.toNat_lt
 have hpw:2^r*2^(32-r)=4294967296:=by rw [←Nat.pow_add,show r+(32-r)=32 by omega]
 have hq:4294967296/2^r=2^(32-r):=by rw [←hpw,Nat.mul_div_cancel_left _ (Nat.two_pow_pos r)]
 have e1:x.toNat*2^(32-r)%4294967296=x.toNat%2^r*2^(32-r):=by rw [←hpw,Nat.mul_mod_mul_right]
 have hlt:x.toNat/2^r<2^(32-r):=by rw [Nat.div_lt_iff_lt_mul (Nat.two_pow_pos r),Nat.mul_comm,hpw];exact hx
 unfold Sha.rotr
 rw [UInt32.toNat_or,UInt32.toNat_ofNat',UInt32.toNat_ofNat',Nat.min_eq_left (by omega),Nat.min_eq_left (by omega),show 2^32=4294967296 from rfl,e1,Nat.mod_eq_of_lt (Nat.lt_of_le_of_lt (Nat.div_le_self _ _) hx),Nat.mul_comm (x.toNat%2^r),←Nat.two_pow_add_eq_or_of_lt hlt,hq,Nat.mul_comm,Nat.add_comm]
theorem shr_nat(x:UInt32)(r:Nat)(h2:r<32):(Sha.shr x r).toNat=x.toNat/2^r:=by
 have hx:=x.toNat_lt
 unfold Sha.shr
 rw [UInt32.toNat_ofNat',Nat.min_eq_left (by omega),Nat.mod_eq_of_lt (Nat.lt_of_le_of_lt (Nat.div_le_self _ _) hx)]
theorem u8_of64(m:Nat):(UInt64.ofNat m).toUInt8=UInt8.ofNat m:=by
 apply UInt8.toNat_inj.1
 rw [UInt64.toNat_toUInt8,UInt64.toNat_ofNat',UInt8.toNat_ofNat',show(2:Nat)^64=18446744073709551616 from rfl,show(2:Nat)^8=256 from rfl];omega
theorem four_nat(n:Nat)(h:n<18446744073709551616):Sha.numB (UInt64.ofNat n) 4= [UInt8.ofNat (n/2^24),UInt8.ofNat (n/2^16),UInt8.ofNat (n/2^8),UInt8.ofNat n]:=by
 have e:(UInt64.ofNat n).toNat=n:=by rw [UInt64.toNat_ofNat'];exact Nat.mod_eq_of_lt h
 unfold Sha.numB
 rw [e]
 simp [List.range_succ,u8_of64]
theorem be32_nat(a b c d:UInt8):(Sha.be32 a b c d).toNat=256*(256*(256*a.toNat+b.toNat)+c.toNat)+d.toNat:=by
 have ha:=a.toNat_lt;have hb:=b.toNat_lt;have hc:=c.toNat_lt;have hd:=d.toNat_lt
 have e (x:UInt8):x.toUInt32.toNat=x.toNat:=by simp
 unfold Sha.be32
 rw [UInt32.toNat_or,UInt32.toNat_or,UInt32.toNat_or,UInt32.toNat_ofNat',UInt32.toNat_ofNat',UInt32.toNat_ofNat',e,e,e,e]
 rw [show min 24 32=24 from rfl,show min 16 32=16 from rfl,show min 8 32=8 from rfl,Nat.mod_eq_of_lt (by omega),Nat.mod_eq_of_lt (by omega),Nat.mod_eq_of_lt (by omega)]
 have h1:=Nat.two_pow_add_eq_or_of_lt (i:=24) (b:=b.toNat*2^16) (by omega) a.toNat
 have h2:=Nat.two_pow_add_eq_or_of_lt (i:=16) (b:=c.toNat*2^8) (by omega) (a.toNat*256+b.toNat)
 have h3:=Nat.two_pow_add_eq_or_of_lt (i:=8) (b:=d.toNat) (by omega) ((a.toNat*256+b.toNat)*256+c.toNat)
 rw [Nat.mul_comm a.toNat,←h1,show 2^24*a.toNat+b.toNat*2^16=2^16*(a.toNat*256+b.toNat) by omega,←h2,show 2^16*(a.toNat*256+b.toNat)+c.toNat*2^8=2^8*((a.toNat*256+b.toNat)*256+c.toNat) by omega,←h3]
 omega
def pv(b:List UInt8)(i:Nat):Nat→Nat
 |0=>0
 |j+1=>256*pv b i j+(b.getD (4*i+j) 0).toNat
def hv(a b:List UInt32)(i:Nat):List UInt32:=b.take i++a.drop i
end R3
end Go.Proofs.YtmemgokiolfdoaaGreatDoor