/- A part of the proof. -/
import Derived.Test.YtmemgokiolfdoaaGreatDoorTopSpG14
import Derived.Test.YtmemgokiolfdoaaGreatDoorTopSpG15
set_option maxRecDepth 100000
set_option maxHeartbeats 1000000
set_option linter.unusedSimpArgs false
set_option linter.unusedVariables false
namespace Go.Proofs.YtmemgokiolfdoaaGreatDoor
open Go Go.Fw Go.Proofs.Tryz
theorem qVy{k:xA}(hk:k.length=16){i:Nat}(hi:i<=16):Sm.kv k/2^(128-i)<2^i:=by
 have h:=Sm.kv_lt k
 rw [hk] at h
 rw [yG (jy _),<-Nat.pow_add,show i+(128-i)=128 by omega]
 exact yE h xC
theorem qX5{i:Nat}(hi:i<=16):2^i<=65536:=jf (jZ xC hi) xC
theorem qPj{k:xA}(hk:k.length=16){i:Nat}(hi:i<16):(Sm.kv k/2^(128-i))*2^1|||Sm.bit k i=Sm.kv k/2^(128-(i+1)):=by
 have hb:=Sm.bit_le k i
 have e:=Nat.two_pow_add_eq_or_of_lt (i:=1) (b:=Sm.bit k i) xB (Sm.kv k/2^(128-i))
 have e1:=Sm.pre_succ (Sm.kv k) (127-i)
 rw [show 127-i+1=128-i by omega] at e1
 rw [zi,<-e,Sm.bit_kv hk xB,show 128-(i+1)=127-i by omega]
 omega
def qEu(k:xA):Nat->Nat
 |0=>0
 |i+1=>qEu k i*2^1|||Sm.bit k i
theorem qHC(k:xA): ∀i,qEu k i<2^i
 |0=>Nat.one_pos
 |i+1=>by
  have h1:=qHC k i
  have h2:=Sm.bit_le k i
  have h3:2^(i+1)=2^i*2:=ju 2 i
  have e:=Nat.two_pow_add_eq_or_of_lt (i:=1) (b:=Sm.bit k i) xB (qEu k i)
  rw [qEu,zi,<-e]
  omega
theorem qKL{k:xA}(hk:k.length=16): ∀{i:Nat},i<=16->qEu k i=Sm.kv k/2^(128-i)
 |0,_=>by rw [zC (yE (Sm.kv_lt k) (by rw [hk]))];rfl
 |i+1,hi=>by rw [qEu,qKL hk xB,qPj hk xB]
def kF(n d:Nat):xA:= [UInt8.ofNat (n*2^(16-d)/2^8),UInt8.ofNat (n*2^(16-d)),0,0,0,0,0,0,0,0,0,0,0,0,0,0]
theorem qFc(n d:Nat):(kF n d).length=16:=rfl
theorem qWO{n d:Nat}(hd:d<=16)(hn:n<2^d):n*2^(16-d)<65536:=by
 have h:=Nat.mul_lt_mul_of_pos_right hn (jy (16-d))
 rw [<-Nat.pow_add,show d+(16-d)=16 by omega] at h
 exact h
theorem kF_kv{n d:Nat}(hd:d<=16)(hn:n<2^d):Sm.kv (kF n d)=n*2^(128-d):=by
 have ht:=qWO hd hn
 obtain ⟨t,hte⟩: ∃t,t=n*2^(16-d):=⟨_,rfl⟩
 have e:n*2^(128-d)=t*2^112:=by rw [hte,Nat.mul_assoc,<-Nat.pow_add,show 16-d+112=128-d by omega]
 have h1:(UInt8.ofNat (t/2^8)).toNat=t/2^8:=UInt8.toNat_ofNat_of_lt' (by show _<256;omega)
 have h2:(UInt8.ofNat t).toNat=t%256:=xD
 rw [e]
 unfold kF
 rw [<-hte]
 simp only [Sm.kv,jC,jG,h1,h2]
 show t/2^8*256^15+(t%256*256^14+0)=_
 rw [show(256:Nat)^15=256*2^112 by decide,show(256:Nat)^14=2^112 by decide,<-Nat.mul_assoc,zc,<-zj]
 congr 1
 omega
theorem qLO{n d:Nat}(hd:d<=16)(hn:n<2^d):Sm.kv (kF n d)/2^(128-d)=n:=by rw [kF_kv hd hn,Nat.mul_div_cancel _ (jy _)]
theorem qZI(F:Hp)(k:xA)(hk:k.length<=1000000)(d:Nat)(hd:d<=16):Cz prog 211 [Str (k),I (d:Nat)] F (I (qEu k d:Nat)):=by
 refine y7 func211 O ntmps211 O (λw0 hw0=>?_)
 refine yl λ_ C1=>yh O<|yi C1<|ym λ_ C2=>yl λ_ C3=>yh O<|yj (qAP O O O) O<|yh O<|vO (d:=9) O (λh9=>?_) (λh9=>?_)
 .
  refine yn 3 O<|yi C3<|vV ?_
  exact yl λ_ C4=>yh O<|yi C4<|yr<|y5<|yw hw0 O () (by exfalso;omega) yd [0] O xC
 refine yh O<|yv (qAs O O O) O<|yh O<|yi C3<|y1 O (λh12=>?_) (λh12=>?_)
 .
  exact yl λ_ C5=>yh O<|yi C5<|yr<|y5<|yw hw0 O () (by exfalso;omega) yd [0] O xC
 refine yy C2<|yl λ_ C6=>yh O<|yi C6<|ym λ_ C7=>yl λ_ C8=>yn 2 O<|yi C8<|yz<|vN (X:=Nat) (λζ=> [(0,Str (k)),(5,I (qEu k ζ:Nat)),(13,I (d:Nat)),(14,I (ζ:Nat))]) (λζ=> [F]) (λζ=>ζ<=d) (λζ=>d-ζ) 0 (jH _) (Sub.of O) (λ_ h=>h) ?_
 rintro i hi I0 hI0
 have hlt:=qHC k i
 have hp16:=qX5 (i:=i) xB
 have hbl:=Sm.bit_le k i
 refine yl λ_ C9=>yj (qAP O O O) O<|yi C9<|ym λ_ C10=>y1 O (λh15=>?_) (λh15=>?_)
 .
  refine yy C10<|ym λ_ C11=>yz<|yl λ_ C12=>yn 2 O<|yi C12<|yt<|yh O<|yj (qHb (a:=qEu k i) (m:=1) O O O xB) O<|yn 2 O<|yp (qAZ O O (λF' hF=>qGS F' k (by first|omega|exact hsm _) i xB)) O λg21 _=>yj (qRY (a:=(qEu k i)*2^1) (b:=Sm.bit k i) O O O xB) O<|yh O<|y8<|vB<|yq (yu C11 ?_)
  exact yt<|yj ((qAM O O O xB).nat (i+1) xB) O<|yh O<|y8<|yq<|vE (i+1) hI0 xB (Sub.of O) (λ_ h=>h)
 refine vK<|y6<|y6<|vL ?_
 refine yq (yu C7 ?_)
 exact yl λ_ C13=>yn 2 O<|yi C13<|yr<|yw hw0 O () (by rw [show i=d by omega]) yd [0] O xC
theorem qLa(F:Hp)(n d:Nat)(hd:d<=16)(hn:n<2^d):Cz prog 197 [I (n:Nat),I (d:Nat)] F (Str (kF n d)):=by
 have hp16:=qX5 hd
 have htl:=qWO hd hn
 have hpe:2^(16-d)<=65536:=qX5 (Nat.sub_le _ _)
 refine y7 func197 O ntmps197 O (λw0 hw0=>?_)
 refine yl λ_ C1=>yh O<|yi C1<|yl λ_ C2=>yp (qCY (n':=16) O O qBo el5 xB xB) O ?_
 rintro g7 _
 change J _ ((7,.slice (some ⟨g7,0,none⟩) 16 16)::_) _ [F,blk g7 (List.replicate 16 [.int .u8 0]).flatten 5] _
 refine yh O<|yi C2<|ym λ_ C3=>yl λ_ C4=>yh O<|yj ((qA1 O O O).yes xB) O<|yn 2 O<|yv ((qBQ O O O).yes xB) O<|yn 3 O<|yv ((qA1 O O O).yes xB) O<|yn 4 O<|yv ((qHb (a:=1) (m:=d) O O O ⟨xB,xB⟩)) O<|yv ((qAP O O O).yes xB) O<|yh O<|yi C4<|vV ?_
 refine yl λ_ C5=>yn 2 O<|yj ((qAm O O O xB).nat (16-d) xB) O<|yj (qHb O O O xK) O<|yh O<|yi C5<|yt<|yn 3 O<|yj (qRU O O O xK) O<|yj (qAu O O u3_ u5_) O<|yh O<|yj (qAu O O u3_ u5_) O<|yj (qAY (i:=0) (j:=0+0*1) O O O qBo z5_ xK xB) O<|vG (qBr (i:=1) (k:=0) (off:=0) (b:= [B8 (UInt8.ofNat ((n*2^(16-d))/2^8))]) O O O O (qAj (q:=True) (sz:=1) (xs:=qAe (List.replicate 16 0)) O (by intro x hx;obtain ⟨_,_,rfl⟩:=List.mem_map.1 hx;rfl)) (vs:= [B8 (UInt8.ofNat ((n*2^(16-d))/2^8))]) O z5_ O xB (qBw (qAc 0 xK)) O (jL _)) O O ?_
 rintro m4_1 hm4_1
 rw [qGH] at hm4_1
 refine yj (qAY (i:=1) (j:=0+1*1) O O O qBo z5_ xK xB) O<|vG (qBr (i:=1) (k:=1) (off:=0) (b:= [B8 (UInt8.ofNat (n*2^(16-d)))]) O O O O hm4_1 (vs:= [B8 (UInt8.ofNat (n*2^(16-d)))]) O z5_ O xB (qBw (qAc 0 xK)) O (jL _)) O O ?_
 rintro m4_2 hm4_2
 rw [qGH] at hm4_2
 exact yi C3<|yl λ_ C6=>yh O<|yj (qBO O O qBo u5_ u9_ (m:=m4_2) xD hm4_2.sl) O<|yh O<|yi C6<|yr<|yw hw0 O () (by unfold kF;rfl) yd [0] O xC
theorem qFZ(l:List Sm.PR)(b:xA)(d:Nat):(Sm.ndB l b d).length<=17:=Sm.nd_small _ _
theorem qPO{kv:List Sm.PR}(hf:qCD kv){k:xA}(hk:k.length=16){d:Nat}(hd:d<=15){n:Nat}(hn:n=Sm.kv k/2^(128-d)):
    Sb.join (Sm.ndB kv (kF (2*n) (d+1)) (d+1)) (Sm.ndB kv (kF (2*n+1) (d+1)) (d+1))=Sm.ndB kv k d:=by
  have hlt:=qVy hk (i:=d) xB
  have h2:2^(d+1)=2^d*2:=ju 2 d
  have f0:=qLO (n:=2*n) (d:=d+1) xB xB
  have f1:=qLO (n:=2*n+1) (d:=d+1) xB xB
  rw [show 128-(d+1)=127-d by omega] at f0 f1
  exact Sm.ndB_join hf.once hf.k16 hk (qFc _ _) (qFc _ _) xB (by rw [f0,hn]) (by rw [f1,hn])
theorem qW8(x m j:Nat):(x^^^2^m)/2^j%2=if j=m then 1-x/2^j%2 else x/2^j%2:=by
  have h1:=zb (x:=x^^^2^m) (i:=j)
  have h2:=zb (x:=x) (i:=j)
  rw [Nat.testBit_xor,Nat.testBit_two_pow,h2] at h1
  have a1:(x^^^2^m)/2^j%2<2:=Nat.mod_lt _ xC
  have a2:x/2^j%2<2:=Nat.mod_lt _ xC
  by_cases h:j=m
  . rw [yX h]
    rw [ya h.symm] at h1
    by_cases h3:x/2^j%2=1
    . rw [ya h3] at h1
      have: ¬(x^^^2^m)/2^j%2=1:=by simpa using h1.symm
      omega
    . rw [yb h3] at h1
      have:(x^^^2^m)/2^j%2=1:=by simpa using h1.symm
      omega
  . rw [yW h]
    rw [show decide (m=j)=false from yb (λe=>h e.symm),Bool.xor_false] at h1
    have:=decide_eq_decide.1 h1
    omega
def turn(k:xA)(d:Nat):xA:=k.set (d/8) (k.getD (d/8) 0^^^UInt8.ofNat (1*2^(7-d%8)))
theorem qCR(k:xA)(d:Nat):(turn k d).length=k.length:=by unfold turn;rw [j6]
theorem qDm{k:xA}(hk:k.length=16){d i:Nat}(hd:d<128)(hi:i<128):Sm.bit (turn k d) i=if i=d then 1-Sm.bit k i else Sm.bit k i:=by
  have hlt:i<8*k.length:=xB
  unfold Sm.bit
  rw [qCR,yX hlt,yX hlt]
  unfold turn
  have h1:(1*2^(7-d%8))%256=2^(7-d%8):=by
    rw [Nat.one_mul]
    exact jX (jx (jZ xC (show 7-d%8<=7 by omega)) xC)
  by_cases hq:i/8=d/8
  . rw [hq]
    have hg:(k.set (d/8) (k.getD (d/8) 0^^^UInt8.ofNat (1*2^(7-d%8)))).getD (d/8) 0=k.getD (d/8) 0^^^UInt8.ofNat (1*2^(7-d%8)):=by
      rw [jB,List.getElem?_set_self xB];rfl
    rw [hg,UInt8.toNat_xor,show(UInt8.ofNat (1*2^(7-d%8))).toNat=2^(7-d%8) by rw [jm];exact h1,qW8]
    by_cases hid:i=d
    . rw [yX (by rw [hid]),yX hid]
    . rw [yW xB,yW hid]
  . rw [jB,List.getElem?_set_ne (λe=>hq e.symm),<-jB,yW (λe=>hq (by rw [e]))]
theorem qQH{k:xA}(hk:k.length=16){d:Nat}(hd:d<128):Sm.kv (turn k d)/2^(127-d)=2*(Sm.kv k/2^(128-d))+(1-Sm.bit k d):=by
 have h1:Sm.belowB (turn k d) k d=true:=Sm.belowB_yes λi hi=>by rw [qDm hk hd xB,yW xB]
 have h2:=(Sm.belowB_kv ((qCR k d).trans hk) hk xB).1 h1
 have e:=Sm.pre_succ (Sm.kv (turn k d)) (127-d)
 rw [show 127-d+1=128-d by omega,h2,<-Sm.bit_kv ((qCR k d).trans hk) hd,qDm hk hd hd,yX O] at e
 exact e
theorem qQg{k:xA}(hk:k.length=16){d:Nat}(hd:d<128):Sm.kv k/2^(127-d)=2*(Sm.kv k/2^(128-d))+Sm.bit k d:=by
 have e:=Sm.pre_succ (Sm.kv k) (127-d)
 rw [show 127-d+1=128-d by omega,<-Sm.bit_kv hk hd] at e
 exact e
def up(k:xA)(d:Nat)(x s:xA):xA:=if Sm.bit k d=0 then Sb.join x s else Sb.join s x
theorem qMF{kv:List Sm.PR}(hf:qCD kv){k:xA}(hk:k.length=16){d:Nat}(hd:d<128):up k d (Sm.ndB kv k (d+1)) (Sm.ndB kv (turn k d) (d+1))=Sm.ndB kv k d:=by
  have hb:=Sm.bit_le k d
  have ht:=qQH hk hd
  have hs:=qQg hk hd
  unfold up
  split
  . rename_i h
    rw [h] at ht hs
    exact Sm.ndB_join hf.once hf.k16 hk hk ((qCR k d).trans hk) hd hs ht
  . rename_i h
    rw [show Sm.bit k d=1 by omega] at ht hs
    exact Sm.ndB_join hf.once hf.k16 hk ((qCR k d).trans hk) hk hd ht hs
def bsd(kv:List Sm.PR)(k:xA)(d n:Nat):List xA:=(List.range n).map λi=>Sm.ndB kv (turn k (d+i)) (d+i+1)
theorem qVs(kv:List Sm.PR)(k:xA)(d n:Nat):bsd kv k d (n+1)=bsd kv k d n++ [Sm.ndB kv (turn k (d+n)) (d+n+1)]:=by unfold bsd;rw [jt,jN];rfl
theorem qDA(kv:List Sm.PR)(k:xA)(d n:Nat):(bsd kv k d n).length=n:=by unfold bsd;rw [jJ,zF]
theorem qM0(kv:List Sm.PR)(k:xA)(d:Nat){n i:Nat}(hi:i<n):(bsd kv k d n).getD i []=Sm.ndB kv (turn k (d+i)) (d+i+1):=by
 unfold bsd
 rw [jB,jO,zD hi];rfl
def clm(k:xA)(d:Nat)(bs:List xA)(x:xA):Nat->xA
 |0=>x
 |i+1=>up k (d+(bs.length-1-i)) (clm k d bs x i) (bs.getD (bs.length-1-i) [])
theorem qKI{kv:List Sm.PR}(hf:qCD kv){k:xA}(hk:k.length=16){d n:Nat}(hd:d+n<=128): ∀i,i<=n->clm k d (bsd kv k d n) (Sm.ndB kv k (d+n)) i=Sm.ndB kv k (d+n-i)
 |0,_=>rfl
 |i+1,hi=>by
  rw [clm,qKI hf hk hd i xB,qDA,qM0 _ _ _ xB]
  have h:=qMF hf hk (d:=d+(n-1-i)) xB
  rw [show d+(n-1-i)+1=d+n-i by omega] at h⊢
  rw [h,show d+(n-1-i)=d+n-(i+1) by omega]
theorem qOG{a b:xA}(ha:a.length<=17)(hb:b.length<=17):(Sb.join a b).length<=17:=by
  have e:Sb.join a b=if a= [0]/\(b= [0]\/Sb.isLf b) then b else if b= [0]/\Sb.isLf a then a else 2::Sha.tagged 10 [a,b]:=by unfold Sb.join;rfl
  rw [e]
  split
  . exact hb
  . split
    . exact ha
    . rw [jC,Sha.tagged_length];decide
theorem qLo{k:xA}{d:Nat}{bs:List xA}{x:xA}(hb: ∀s∈bs,s.length<=17)(hx:x.length<=17): ∀i,(clm k d bs x i).length<=17
 |0=>hx
 |i+1=>by
  have h1:=qLo (k:=k) (d:=d) hb hx i
  have h2:(bs.getD (bs.length-1-i) []).length<=17:=by
   by_cases h:bs.length-1-i<bs.length
   . rw [jB,jD h];exact hb _ (jU h)
   . rw [jB,je xB];exact jH _
  rw [clm,up]
  split
  . exact qOG h1 h2
  . exact qOG h2 h1
def cur(kv:List Sm.PR)(k:xA)(d:Nat):List Sm.PR:=Sm.bel kv k d
def kd(kv:List Sm.PR)(k:xA)(d:Nat):List xA:=(Sm.keysS kv).filter λq=>Sm.belowB q k d
theorem qI4{kv:List Sm.PR}(ho:Sm.Once kv)(k:xA)(d:Nat):(kd kv k d).length=(cur kv k d).length:=by
 have h:(Sm.prs kv (kd kv k d)).length=(kd kv k d).length:=Sm.prs_len _ _
 rw [<-h]
 unfold kd
 rw [Sm.prs_filter]
 exact((Sm.prs_perm ho).filter _).length_eq
theorem qPi{q k:xA}{d:Nat}(h:Sm.belowB q k (d+1)=true):Sm.belowB q k d=true:=by
 rw [Sm.belowB_succ,jh] at h;exact h.1
theorem qYg(kv:List Sm.PR)(k:xA)(d:Nat):(kd kv k d).filter (λq=>Sm.belowB q k (d+1))=kd kv k (d+1):=by
 unfold kd
 rw [zt]
 refine zz λq _=>?_
 cases h:Sm.belowB q k (d+1) with
 |false=>rfl
 |true=>rw [qPi h];rfl
structure qNA (kv:List Sm.PR) (k:xA) (d s:Nat):Prop where
 ge:d<=s
 le:s<=128
 one:(cur kv k s).length<=1
 two: ∀e,d<=e->e<s->2<=(cur kv k e).length
theorem qNA.from{kv:List Sm.PR}{k:xA}{d e s:Nat}(h:qNA kv k d s)(h1:d<=e)(h2:e<=s):qNA kv k e s:=⟨h2,h.le,h.one,λx q1 q2=>h.two x xB q2⟩
theorem qY6{kv:List Sm.PR}(hf:qCD kv){k:xA}(hk:k.length=16):(cur kv k 128).length<=1:=(Sm.bel_wf hf.once hf.k16 hk (d:=128) (jL _)).short
def qBB(kv:List Sm.PR)(k:xA)(s:Nat):Bool:=decide ((kd kv k s).length=1)
def qC0(kv:List Sm.PR)(k:xA)(s:Nat):xA:=if(kd kv k s).length=1 then(kd kv k s).getD 0 [] else []
def qDL(kv:List Sm.PR)(k:xA)(s:Nat):xA:=if(kd kv k s).length=1 then(Sm.getP kv ((kd kv k s).getD 0 [])).getD [] else []
theorem qKF{kv:List Sm.PR}(ho:Sm.Once kv){k:xA}{s:Nat}(h:(kd kv k s).length=1):cur kv k s= [(qC0 kv k s,qDL kv k s)]:=by
 obtain ⟨q,hq⟩:=List.length_eq_one_iff.1 h
 have h1:(cur kv k s).Perm (Sm.prs kv (kd kv k s)):=by
  unfold kd
  rw [Sm.prs_filter]
  exact(Sm.prs_perm ho).symm.filter _
 unfold qC0 qDL
 rw [yX h,yX h,hq]
 rw [hq] at h1
 exact List.perm_singleton.1 h1
theorem qJ2: ∀{f:Nat} {l:List Sm.PR},Sm.WF f l->Sm.nd f l= [0]\/((Sm.nd f l).length=17/\(((Sm.nd f l).getD 0 0).toNat=1\/((Sm.nd f l).getD 0 0).toNat=2))
  |f,[],_=> .inl (Sm.nd_nil f)
  |f,[p],_=> .inr (by rw [Sm.nd_one];unfold Sb.leafN;exact⟨by rw [jC,Sha.tagged_length],.inl O⟩)
  |0,a::b::r,hw=>by have:=hw.short;simp at this
  |f+1,a::b::r,hw=>by
    rw [Sm.nd_two f xD]
    have e: ∀x y,Sb.join x y=if x= [0]/\(y= [0]\/Sb.isLf y) then y else if y= [0]/\Sb.isLf x then x else 2::Sha.tagged 10 [x,y]:=λx y=>by unfold Sb.join;rfl
    rw [e]
    split
    . exact qJ2 (hw.side false)
    . split
      . exact qJ2 (hw.side true)
      . exact .inr ⟨by rw [jC,Sha.tagged_length],.inr O⟩
theorem qMe: ∀{f:Nat} {l:List Sm.PR},Sm.WF f l->2<=l.length->((Sm.nd f l).getD 0 0).toNat=2
  |0,l,hw,h=>by have:=hw.short;omega
  |f+1,l,hw,h=>by
    rw [Sm.nd_two f h]
    have e: ∀x y,Sb.join x y=if x= [0]/\(y= [0]\/Sb.isLf y) then y else if y= [0]/\Sb.isLf x then x else 2::Sha.tagged 10 [x,y]:=λx y=>by unfold Sb.join;rfl
    have hs:=Sm.side_len f l
    have z1:=Sm.nd_eq0 (hw.side true)
    have z2:=Sm.nd_eq0 (hw.side false)
    rw [e]
    split
    . rename_i hc
      have h0:(Sm.side f true l).length=0:=by rw [z1.1 hc.1];rfl
      have h2:=qMe (hw.side false) xB
      exact h2
    . split
      . rename_i hc
        have h0:(Sm.side f false l).length=0:=by rw [z2.1 hc.1];rfl
        exact qMe (hw.side true) xB
      . rfl
def qRp(s:xA):Bool:=decide (s= [0]\/(s.length=17/\((s.getD 0 0).toNat=1\/(s.getD 0 0).toNat=2)))
structure qNB (bs:List xA) (th:Bool) (pk pv k:xA) (d:Nat):Prop where
 k16:k.length=16
 le:d+bs.length<=128
 nodes: ∀j,j<bs.length->qRp (bs.getD j [])=true
 last:0<bs.length->bs.getD (bs.length-1) []≠ [0]/\(th=false->((bs.getD (bs.length-1) []).getD 0 0).toNat=2)
 no:th=false->pk= []/\pv= []
 yes:th=true->pk.length=16/\Sm.belowB pk k (d+bs.length)=true
 small: ∀s∈bs,s.length<=17
theorem qS7(kv:List Sm.PR)(k:xA)(d n:Nat): ∀s∈bsd kv k d n,s.length<=17:=λs hs=>by
 unfold bsd at hs
 obtain ⟨i,_,rfl⟩:=List.mem_map.1 hs
 exact qFZ _ _ _
theorem qWr{kv:List Sm.PR}{k q:xA}{s:Nat}(h:q∈kd kv k s):(∃v,(q,v)∈kv)/\Sm.belowB q k s=true:=by
 obtain ⟨h1,h2⟩:=List.mem_filter.1 h
 exact⟨Sm.keysS_mem.1 h1,h2⟩
theorem qRR{kv:List Sm.PR}(hf:qCD kv){k:xA}(hk:k.length=16){e:Nat}(he:e<128):(cur kv k (e+1)).length+(Sm.bel kv (turn k e) (e+1)).length=(cur kv k e).length:=by
  have hb:=Sm.bit_le k e
  have ht:=qQH hk he
  have hs:=qQg hk he
  have h:=Sm.side_len (127-e) (Sm.bel kv k e)
  have hl:=hf.k16
  unfold cur
  by_cases h0:Sm.bit k e=0
  . rw [h0] at ht hs
    rw [Sm.bel_half hl hk hk he true (by rw [yX rfl];exact hs),Sm.bel_half hl hk ((qCR k e).trans hk) he false (by rw [yW xC];exact ht)]
    exact h
  . rw [show Sm.bit k e=1 by omega] at ht hs
    rw [Sm.bel_half hl hk hk he false (by rw [yW xC];exact hs),Sm.bel_half hl hk ((qCR k e).trans hk) he true (by rw [yX rfl];exact ht)]
    omega
theorem qF9{kv:List Sm.PR}(hf:qCD kv){k:xA}(hk:k.length=16){d s:Nat}(h:qNA kv k d s):qNB (bsd kv k d (s-d)) (qBB kv k s) (qC0 kv k s) (qDL kv k s) k d:=by
  have hle:=h.le
  have hge:=h.ge
  have ht16: ∀e,(turn k e).length=16:=λe=>(qCR k e).trans hk
  refine⟨hk,by rw [qDA];omega,λj hj=>?_,λh0=>?_,λht=>?_,λht=>?_,qS7 _ _ _ _⟩
  . rw [qDA] at hj
    rw [qM0 _ _ _ hj]
    exact ya (qJ2 (Sm.bel_wf hf.once hf.k16 (ht16 _) xB))
  . rw [qDA] at h0⊢
    rw [qM0 _ _ _ xB]
    have h2:=h.two (d+(s-d-1)) xB xB
    have ho:=qRR hf hk (e:=d+(s-d-1)) xB
    have hone:=h.one
    rw [show d+(s-d-1)+1=s by omega] at ho⊢
    have hw:=Sm.bel_wf hf.once hf.k16 (ht16 (d+(s-d-1))) (d:=s) hle
    refine⟨λe=>?_,λhth=>?_⟩
    . have:=(Sm.nd_eq0 hw).1 e
      rw [this] at ho
      simp at ho
      omega
    . have h3:(kd kv k s).length≠1:=of_decide_eq_false hth
      rw [qI4 hf.once] at h3
      exact qMe hw xB
  . have h3:(kd kv k s).length≠1:=of_decide_eq_false ht
    unfold qC0 qDL
    rw [yW h3,yW h3];exact⟨O,O⟩
  . have h3:(kd kv k s).length=1:=yc ht
    obtain ⟨q,hq⟩:=List.length_eq_one_iff.1 h3
    have hm:q∈kd kv k s:=by rw [hq];exact .head _
    obtain ⟨⟨v,hv⟩,hb⟩:=qWr hm
    unfold qC0
    rw [yX h3,hq,qDA,show d+(s-d)=s by omega]
    exact⟨hf.k16 _ hv,hb⟩
theorem qVb{kv:List Sm.PR}(hf:qCD kv){k:xA}{d s:Nat}(h:qNA kv k d s):(if qBB kv k s=true then Sb.leafN (qC0 kv k s) (qDL kv k s) else [0])=Sm.ndB kv k s:=by
  unfold Sm.ndB
  have e1:Sm.bel kv k s=cur kv k s:=rfl
  have hone:=h.one
  by_cases h3:(kd kv k s).length=1
  . rw [yX (show qBB kv k s=true from ya h3),e1,qKF hf.once h3,Sm.nd_one]
  . rw [yW (by unfold qBB;rw [yb h3];decide)]
    rw [qI4 hf.once] at h3
    rw [e1,jT (show(cur kv k s).length=0 by omega),Sm.nd_nil]
theorem qZa{kv:List Sm.PR}(hf:qCD kv){k:xA}{d s:Nat}(h:qNA kv k d s):
    (Sm.getP kv k).isSome=(qBB kv k s&&decide (qC0 kv k s=k))/\(qBB kv k s=true->qC0 kv k s=k->Sm.getP kv k=some (qDL kv k s)):=by
  have hself:Sm.belowB k k s=true:=Sm.belowB_yes λ_ _=>rfl
  have hone:=h.one
  have hmem: ∀v,Sm.getP kv k=some v->(k,v)∈cur kv k s:=λv hv=>List.mem_filter.2 ⟨Sm.getP_some hv,hself⟩
  by_cases h3:(kd kv k s).length=1
  . have hc:=qKF hf.once h3
    have ht:qBB kv k s=true:=ya h3
    have hin:(qC0 kv k s,qDL kv k s)∈kv:=(List.mem_filter.1 (show(qC0 kv k s,qDL kv k s)∈cur kv k s by rw [hc];exact .head _)).1
    rw [ht,Bool.true_and]
    by_cases hk:qC0 kv k s=k
    . have hg:=Sm.getP_mem hf.once hin
      rw [show(qC0 kv k s,qDL kv k s).1=k from hk] at hg
      rw [hg,ya hk]
      exact⟨O,λ_ _=>rfl⟩
    . rw [yb hk]
      refine⟨?_,λ_ q=>absurd q hk⟩
      cases hg:Sm.getP kv k with
      |none=>rfl
      |some v=>
        have:=hmem v hg
        rw [hc,ji] at this
        injection this with e _
        exact absurd e.symm hk
  . have ht:qBB kv k s=false:=yb h3
    rw [ht,Bool.false_and]
    refine⟨?_,λq=>by cases q⟩
    rw [qI4 hf.once] at h3
    have h0:cur kv k s= []:=jT xB
    cases hg:Sm.getP kv k with
    |none=>rfl
    |some v=>
      have:=hmem v hg
      rw [h0] at this;cases this
theorem qNz{s:xA}(h:s= [0]):qRp s=true:=ya (.inl h)
theorem qGN{s:xA}(h1:s.length=17)(h2:(s.getD 0 0).toNat=1\/(s.getD 0 0).toNat=2):qRp s=true:=ya (.inr ⟨h1,h2⟩)
theorem qES{s:xA}(h0: ¬s= [0])(h: ¬(s.length=17/\((s.getD 0 0).toNat=1\/(s.getD 0 0).toNat=2))):qRp s=false:=yb (λq=>q.elim h0 h)
theorem qVG{s:xA}(h:(s.getD 0 0).toNat=2):0<s.length:=by
 cases s with
 |nil=>cases h
 |cons a r=>exact Nat.zero_lt_succ _
theorem qK0(F:Hp)(k:xA)(z:Int):Cz prog 143 [Str (k),I (z)] F (.bool (decide (k.length=16/\0<=z/\z<=128))):=by
 refine y7 func143 O ntmps143 O (λw0 hw0=>?_)
 refine yl λ_ C1=>yh O<|yi C1<|yl λ_ C2=>yh O<|yj (qAn u9_ O O) O<|yj (qAR O O O) O<|yh O<|vO (d:=8) O (λh8=>?_) (λh8=>?_)
 .
  refine yh O<|yv (qA1 O O O) O<|yn 2 O<|vO (d:=12) O (λh12=>?_) (λh12=>?_)
  .
   exact yh O<|yv (qBQ O O O) O<|yn 2 O<|yi C2<|yr<|yw hw0 O () (by first|rw [yb xB]|rw [ya xB]|exact yY Value.bool (decide_eq_decide.2 xB)) yd [0] O xC
  exact yn 4 O<|yi C2<|yr<|yw hw0 O () (by first|rw [yb xB]|rw [ya xB]|exact yY Value.bool (decide_eq_decide.2 xB)) yd [0] O xC
 exact yn 8 O<|yi C2<|yr<|yw hw0 O () (by first|rw [yb xB]|rw [ya xB]|exact yY Value.bool (decide_eq_decide.2 xB)) yd [0] O xC
theorem qQG(F:Hp)(k:xA)(hk:k.length=16)(d:Nat)(hd:d<128):Cz prog 179 [Str (k),I (d:Nat)] F (Str (turn k d)):=by
 refine y7 func179 O ntmps179 O (λw0 hw0=>?_)
 refine yl λ_ C1=>yh O<|yi C1<|yl λ_ C2=>yh O<|yp (qIr O O u9_ qBo u5_) O ?_
 rintro⟨g7,c7,m7⟩ h7
 try dsimp only at h7
 change J _ ((7,.slice (some ⟨g7,0,none⟩) k.length c7)::_) _ [F,m7] _
 refine yh O<|yi C2<|ym λ_ C3=>vQ [F,m7] [11] (.y 0 (.y 1 (.y 2 (.y 3 (.y 4 (.y 5 (.y 6 (.y 7 (.y 8 (.y 9 (.y 10 (.e 11 .nil)))))))))))) ye xF xD ?_
 refine yx ?_
 refine yx ?_
 refine yo O ((qFV O O O xE).nat (d/8) xB) O O<|yo O (qAY (i:=d/8) (j:=0+(d/8)*1) O O O qBo z5_ xE xB) O O<|yo O (qAH O O b5_ (m:=m7) xD (h7.sl.cells (qBw (qAc 0 xE)))) O O<|yx ?_
 refine yo O ((qDM O O O xE).nat (d%8) xB) O O<|yo O ((qAm O O O xB).nat (7-d%8) xB) O O<|yo O ((qYC (a:=1) (m:=7-d%8) O O O).as (v':=B8 (UInt8.ofNat (1*2^(7-d%8)))) (by rw [jq xB];rfl)) O O<|yo O (qRS O O O) O O<|yo O (qAY (i:=d/8) (j:=0+(d/8)*1) O O O qBo z5_ xE xB) O O<|vZ O (qBr (i:=1) (k:=d/8) (off:=0) (b:= [B8 (k.getD (d/8) 0^^^UInt8.ofNat (1*2^(7-d%8)))]) O O O O h7 (vs:= [B8 (k.getD (d/8) 0^^^UInt8.ofNat (1*2^(7-d%8)))]) O z5_ O xB (qBw (qAc 0 xE)) O (jL _)) O O O ?_
 rintro m2_1 hm2_1
 rw [qGH] at hm2_1
 refine vM<|yq (yu C3 ?_)
 exact yl λ_ C4=>yh O<|yj (qBO O O qBo u5_ u9_ (m:=m2_1) xD hm2_1.sl) O<|yh O<|yi C4<|yr<|yw hw0 O () (by unfold turn;rfl) yd [0] O xC
theorem qUe(F:Hp)(s:xA):Cz prog 144 [Str (s)] F (.bool (qRp s)):=by
 refine y7 func144 O ntmps144 O (λw0 hw0=>?_)
 refine yl λ_ C1=>yh O<|yi C1<|yl λ_ C2=>yh O<|yj (qBP O O O) O<|yh O<|vO (d:=5) O (λh5=>?_) (λh5=>?_)
 .
  refine yn 4 O<|vX (Wan.un O O O O) O O ?_
  refine vX (Wan.un O O O O) O O ?_
  refine vX (Wan.un O O O O) O O ?_
  refine vX (Wan.un O O O O) O O ?_
  refine vX (Wan.un O O O O) O O ?_
  refine vX (Wan.un O O O O) O O ?_
  refine vX (Wan.un O O O O) O O ?_
  refine vX (Wan.un O O O O) O O ?_
  exact yn 3 O<|yi C2<|yr<|yw hw0 O () (by first|rw [qNz xG]|rw [qGN xB xB]|rw [qES xG xB]|(by_cases q:(s.getD 0 0).toNat=2;rw [qGN xB (.inr q),ya xB];rw [qES xG xB,yb xB])) yd [0] O xC
 refine yh O<|yv (qAn u9_ O O) O<|yv (qAR O O O) O<|yh O<|vO (d:=9) O (λh9=>?_) (λh9=>?_)
 .
  refine yh O<|yv (qA9 (c:=s.getD 0 0) u9_ O O O (qAc 0 xE)) O<|yv (qAR O O O) O<|yh O<|vO (d:=13) O (λh13=>?_) (λh13=>?_)
  .
   exact yn 7 O<|yi C2<|yr<|yw hw0 O () (by first|rw [qNz xG]|rw [qGN xB xB]|rw [qES xG xB]|(by_cases q:(s.getD 0 0).toNat=2;rw [qGN xB (.inr q),ya xB];rw [qES xG xB,yb xB])) yd [0] O xC
  exact yh O<|yv (qA9 (c:=s.getD 0 0) u9_ O O O (qAc 0 xE)) O<|yv (qAR O O O) O<|yn 4 O<|yi C2<|yr<|yw hw0 O () (by first|rw [qNz xG]|rw [qGN xB xB]|rw [qES xG xB]|(by_cases q:(s.getD 0 0).toNat=2;rw [qGN xB (.inr q),ya xB];rw [qES xG xB,yb xB])) yd [0] O xC
 refine yn 4 O<|vX (Wan.un O O O O) O O ?_
 refine vX (Wan.un O O O O) O O ?_
 refine vX (Wan.un O O O O) O O ?_
 exact yn 4 O<|yi C2<|yr<|yw hw0 O () (by first|rw [qNz xG]|rw [qGN xB xB]|rw [qES xG xB]|(by_cases q:(s.getD 0 0).toNat=2;rw [qGN xB (.inr q),ya xB];rw [qES xG xB,yb xB])) yd [0] O xC
theorem qHv(F:Hp)(A:yS)(c:Nat)(bs:List xA)(hs:Sl F 1 A bs.length c (qAG bs))(th:Bool)(pk pv k:xA)(d:Nat)(hg:qNB bs th pk pv k d):Cz prog 72 [.agg #[.slice A bs.length c,.bool (th),Str (pk),Str (pv)],Str (k),I (d:Nat)] F (.bool true):=by
 have hle:=hg.le
 have hk16:=hg.k16
 refine y7 func72 O ntmps72 O (λw0 hw0=>?_)
 refine yl λ_ C1=>yp (qAi O O O) O λg3 _=>yh O<|yi C1<|yl λ_ C2=>vA 0 qDj qBs O O O O O<|vF 1 qB7 O O O O O<|yj (qAN qAg O O) O<|yh O<|yi C2<|ym λ_ C3=>yl λ_ C4=>yn 2 O<|yp (qAZ O O (λF' hF=>qK0 F' k ((d:Nat):Int))) O λg16 _=>yj ((qA5 O O).as (v':= .bool false) (by rw [ya (show k.length=16/\(0:Int)<=((d:Nat):Int)/\((d:Nat):Int)<=128 from⟨hk16,xB,xB⟩)];rfl)) O<|yn 3 O<|yv (qAm O O O xE) O<|yv ((qAs O O O).no xB) O<|yh O<|yi C4<|vC ?_
 refine yy C3<|ym λ_ C5=>yl λ_ C6=>vA 0 qDj qBs O O O O O<|vF 1 qB7 O O O O O<|yj (qAN qAg O O) O<|yh O<|yi C6<|yz<|vN (X:=Nat) (λζ=> [(1,Str (k)),(2,I (d:Nat)),(3,Ptr g3),(7,I (bs.length:Nat)),(25,.slice A bs.length c),(26,I (bs.length:Nat)),(27,I (ζ:Nat))]) (λζ=> [F,blk g3 [.slice A bs.length c,.bool (th),Str (pk),Str (pv)] 87]) (λζ=>ζ<=bs.length) (λζ=>bs.length-ζ) 0 (jH _) (Sub.of O) (λ_ h=>h) ?_
 rintro i hi I0 hI0
 refine yl λ_ C7=>yj (qAP O O O) O<|yi C7<|ym λ_ C8=>y1 O (λh28=>?_) (λh28=>?_)
 .
  refine yy C8<|ym λ_ C9=>yz<|yl λ_ C10=>yj (qAC O O O qAg z9_ hs xE) O<|yj (qAH O O b9_ (m:=F) xD (hs.elem (qAa (qAc [] xE)))) O<|yh O<|yi C10<|yl λ_ C11=>yh O<|yp (qAZ O O (λF' hF=>qUe F' (bs.getD i []))) O λg32 _=>yj ((qA5 O O).as (v':= .bool false) (by rw [hg.nodes i xB];rfl)) O<|yi C11<|vC ?_
  refine vP<|vB<|yq (yu C9 ?_)
  exact yt<|yj ((qAM O O O xE).nat (i+1) xB) O<|yh O<|y8<|yq<|vE (i+1) hI0 xB (Sub.of O) (λ_ h=>h)
 refine vK<|y6<|y6<|vL ?_
 refine yq (yu C5 ?_)
 refine ym λ_ C12=>yl λ_ C13=>yh O<|yj (qAs O O O) O<|yi C13<|y1 O (λh36=>?_) (λh36=>?_)
 .
  obtain ⟨hl1,hl2⟩:=hg.last xB
  refine yl λ_ C14=>vA 0 qDj qBs O O O O O<|vF 1 qB7 O O O O O<|yh O<|yj ((qAm O O O xB).nat (bs.length-1) xB) O<|yj (qAC O O O qAg z9_ hs xE) O<|yj (qAH O O b9_ (m:=F) xD (hs.elem (qAa (qAc [] xE)))) O<|yh O<|yi C14<|yl λ_ C15=>yh O<|yj ((qBP O O O).no (hl1)) O<|yh O<|yv (qAA O O qDj O z4_ O) O<|yv (qAD 1 O O O b4_ O) O<|yv (qA5 O O) O<|yh O<|vz (d:=49) O (λh49=>?_) (λh49=>?_)
  .
   refine yh O ?_
   have hl3:=qVG (hl2 (by simpa using h49))
   refine yv (qA9 (c:=(bs.getD (bs.length-1) []).getD 0 0) u9_ O O O (qAc 0 xE)) O<|yv ((qAQ O O O).no (by have:=hl2 (by simpa using h49);omega)) O<|yn 2 O<|yi C15<|vC ?_
   refine yy C12<|ym λ_ C16=>yl λ_ C17=>vA 1 qDj z4_ O O O O O<|vF 1 b4_ O O O O O<|yj (qA5 O O) O<|yi C17<|vf O (λh57=>?_) (λh57=>?_)
   .
    exact yl λ_ C18=>vA 2 qDj z9_ O O O O O<|vF 1 b9_ O O O O O<|yj ((qBP O O O).yes ((hg.no (by simpa using h57)).1)) O<|yh O<|yv (qAA O O qDj O z9_ O) O<|yv (qAD 1 O O O b9_ O) O<|yv ((qBP O O O).yes ((hg.no (by simpa using h57)).2)) O<|yn 2 O<|yi C18<|yr<|y5<|yw hw0 O () (by first|rfl|(rw [jd,jq xB,(hg.yes (by simpa using h57)).2])) yd [0] O xC
   refine yy C16<|yl λ_ C19=>vA 2 qDj z9_ O O O O O<|vF 1 b9_ O O O O O<|yj (qAn u9_ O O) O<|yj ((qAR O O O).yes (by have:=(hg.yes (by simpa using h57)).1;omega)) O<|yh O<|yv (qAA O O qDj O z9_ O) O<|yv (qAD 1 O O O b9_ O) O<|yn 3 O<|yv ((qAM O O O xE).nat (d+bs.length) xB) O ?_
   have hpl:=(hg.yes (by simpa using h57)).1
   exact vg (qAZ O O (λF' hF=>qFi F' pk xB k xB ((d+bs.length:Nat):Int))) O λg77 _=>yn 2 O<|yi C19<|yr<|yw hw0 O () (by first|rfl|(rw [jd,jq xB,(hg.yes (by simpa using h57)).2])) yd [0] O xC
  refine yn 5 O<|yi C15<|vC ?_
  refine yy C12<|ym λ_ C20=>yl λ_ C21=>vA 1 qDj z4_ O O O O O<|vF 1 b4_ O O O O O<|yj (qA5 O O) O<|yi C21<|vf O (λh57=>?_) (λh57=>?_)
  .
   exact yl λ_ C22=>vA 2 qDj z9_ O O O O O<|vF 1 b9_ O O O O O<|yj ((qBP O O O).yes ((hg.no (by simpa using h57)).1)) O<|yh O<|yv (qAA O O qDj O z9_ O) O<|yv (qAD 1 O O O b9_ O) O<|yv ((qBP O O O).yes ((hg.no (by simpa using h57)).2)) O<|yn 2 O<|yi C22<|yr<|y5<|yw hw0 O () (by first|rfl|(rw [jd,jq xB,(hg.yes (by simpa using h57)).2])) yd [0] O xC
  refine yy C20<|yl λ_ C23=>vA 2 qDj z9_ O O O O O<|vF 1 b9_ O O O O O<|yj (qAn u9_ O O) O<|yj ((qAR O O O).yes (by have:=(hg.yes (by simpa using h57)).1;omega)) O<|yh O<|yv (qAA O O qDj O z9_ O) O<|yv (qAD 1 O O O b9_ O) O<|yn 3 O<|yv ((qAM O O O xE).nat (d+bs.length) xB) O ?_
  have hpl:=(hg.yes (by simpa using h57)).1
  exact vg (qAZ O O (λF' hF=>qFi F' pk xB k xB ((d+bs.length:Nat):Int))) O λg77 _=>yn 2 O<|yi C23<|yr<|yw hw0 O () (by first|rfl|(rw [jd,jq xB,(hg.yes (by simpa using h57)).2])) yd [0] O xC
 refine yy C12<|ym λ_ C24=>yl λ_ C25=>vA 1 qDj z4_ O O O O O<|vF 1 b4_ O O O O O<|yj (qA5 O O) O<|yi C25<|vf O (λh57=>?_) (λh57=>?_)
 .
  exact yl λ_ C26=>vA 2 qDj z9_ O O O O O<|vF 1 b9_ O O O O O<|yj ((qBP O O O).yes ((hg.no (by simpa using h57)).1)) O<|yh O<|yv (qAA O O qDj O z9_ O) O<|yv (qAD 1 O O O b9_ O) O<|yv ((qBP O O O).yes ((hg.no (by simpa using h57)).2)) O<|yn 2 O<|yi C26<|yr<|y5<|yw hw0 O () (by first|rfl|(rw [jd,jq xB,(hg.yes (by simpa using h57)).2])) yd [0] O xC
 refine yy C24<|yl λ_ C27=>vA 2 qDj z9_ O O O O O<|vF 1 b9_ O O O O O<|yj (qAn u9_ O O) O<|yj ((qAR O O O).yes (by have:=(hg.yes (by simpa using h57)).1;omega)) O<|yh O<|yv (qAA O O qDj O z9_ O) O<|yv (qAD 1 O O O b9_ O) O<|yn 3 O<|yv ((qAM O O O xE).nat (d+bs.length) xB) O ?_
 have hpl:=(hg.yes (by simpa using h57)).1
 exact vg (qAZ O O (λF' hF=>qFi F' pk xB k xB ((d+bs.length:Nat):Int))) O λg77 _=>yn 2 O<|yi C27<|yr<|yw hw0 O () (by first|rfl|(rw [jd,jq xB,(hg.yes (by simpa using h57)).2])) yd [0] O xC
theorem qV0(F:Hp)(B:yS)(n e:Nat):Ct prog 214 [.slice B n e] [F] (λx:Nat=> .func (.func 264) #[] #[Ptr x]) (λ_=>True) (λx=> [F,blk x [.slice B n e] 50]):=by
 refine y7 func214 O ntmps214 O (λw0 hw0=>?_)
 exact yl λ_ C1=>yp (qAi O O O) O λg1 _=>yh O<|yi C1<|yl λ_ C2=>yj (qBt O O) O<|yh O<|yi C2<|yr<|yw hw0 O g1 O yd [0,1] O xC
theorem qTA(Fr:Hp)(gB:Nat)(B:yS)(W:List xA)(e:Nat)(hn2:W.length<=1073741824)(ha:qAI Fr ⟨gB,0,none⟩ [.slice B W.length e])(hs:Sl Fr 1 B W.length e (qAG W)):
    qGh prog 264 [Ptr gB] Fr (λi=> [I (W.length-1-i:Nat),Str (W.getD (W.length-1-i) [])]) W.length:=by
  refine qGh.walk func264 O ntmps264 O (λ{X} M IY S l x0 w0 hw0 h0 hY=>?_)
  refine yl λ_ C1=>yj (qAH O O qB7 (m:=Fr) xD (ha)) O<|yj (qAN qAg O O) O<|yj ((qAm O O O xB).as (v':=I ((W.length:Int)-1-((0:Nat):Int))) (yY I xB)) O<|yh O<|yi C1<|yz<|vN (X:=Nat×X) (λy=> [(0,.func (.yield l) #[] #[]),(1,Ptr gB),(3,I ((W.length:Int)-1-(y.1:Int)))]) (λy=> [Fr,M y.2]) (λy=>y.1<=W.length/\IY y.1 y.2) (λy=>W.length-y.1) (0,x0) (⟨jH _,h0⟩) (Sub.of O) (λ_ h=>h) ?_
  rintro⟨i,x⟩ ⟨hi,hI⟩ I0 hI0
  dsimp only at hi hI⊢
  refine ym λ_ C2=>yl λ_ C3=>yh O<|yj (qA1 O O O) O<|yi C3<|y1 O (λh8=>?_) (λh8=>?_)
  .
    refine yy C2<|ym λ_ C4=>yz<|ym λ_ C5=>wN ?_
    refine vc (qAT O O) O O O ?_
    refine vc ((qAT O O).nat (W.length-1-i) xB) O O O ?_
    refine vc (qAH O O qB7 (m:=Fr) xD (ha)) O O O ?_
    refine vc ((qAT O O).nat (W.length-1-i) xB) O O O ?_
    refine vc (qAC O O O qAg z9_ hs xE) O O O ?_
    refine vc (qAH O O b9_ (m:=Fr) xD (hs.elem (qAa (qAc [] xE)))) O O O ?_
    refine wO (ex:= []) O O O O O O (hY i x xB hI) ?_
    rintro x' b hb1 hb2
    cases b
    .
      have hyb:=hb2 O
      refine vc (qA5 O O) O O O ?_
      refine vy ?_
      refine yq (yu C5 ?_)
      refine vV ?_
      exact yr<|vI<|y5<|y5<|vI<|vH hw0 (λ_ _ h=>h) (qIj O) (λw hs=>⟨x',⟨_,O⟩,.inr hyb,hs⟩)
    have hyb:=hb1 O
    refine vc (qA5 O O) O O O ?_
    refine vy ?_
    refine yq (yu C5 ?_)
    refine vC ?_
    refine vP<|vB<|yq (yu C4 ?_)
    exact yt<|yh O<|yj ((qAm O O O xB).as (v':=I ((W.length:Int)-1-((i+1:Nat):Int))) (yY I xB)) O<|yh O<|y8<|yq<|vE (i+1,x') hI0 ⟨by dsimp only;omega,hyb⟩ (Sub.of O) (λ_ h=>h)
  refine vK<|y6<|y6<|vL ?_
  exact vo hw0 (λ_ _ h=>h) (qIj O) (λw hs=>⟨x,⟨_,O⟩,.inl (by rw [show W.length=i by omega];exact hI),hs⟩)
theorem qEN(F:Hp)(hK:yf F)(A:yS)(c:Nat)(bs:List xA)(hs:Sl F 1 A bs.length c (qAG bs))(th:Bool)(pk pv xx k:xA)(d:Nat)(hle:d+bs.length<=128)(hk16:k.length=16)(hsm: ∀s∈bs,s.length<=17)(hx:xx.length<=17):
    Cz prog 147 [.agg #[.slice A bs.length c,.bool (th),Str (pk),Str (pv)],Str xx,Str k,I (d:Nat)] F (Str (clm k d bs xx bs.length)):=by
  refine y7 func147 O ntmps147 O (λw0 hw0=>?_)
  refine yl λ_ C1=>yp (qAi O O O) O λg4 _=>yp (qAi O O O) O λg5 _=>yp (qAi O O O) O λg6 _=>yp (qAi O O O) O λg7 _=>yh O<|yi C1<|ym λ_ C2=>yl λ_ C3=>vA 0 qDj qBs O O O O O<|vF 1 qB7 O O O O O<|yp (qBx O O (λF' _=>qV0 F' A bs.length c)) O ?_
  rintro gB _
  refine yi C3<|yz<|vW [2,0,1,3,4,5] [blk g5 [Str (xx)] 9,F,blk g4 [.slice A bs.length c,.bool (th),Str (pk),Str (pv)] 87,blk g6 [Str (k)] 9,blk g7 [I (d:Nat)] 3,blk gB [.slice A bs.length c] 50] O xC<|wQ (λx:xA=> [blk g5 [Str (x)] 9]) [F,blk g4 [.slice A bs.length c,.bool (th),Str (pk),Str (pv)] 87,blk g6 [Str (k)] 9,blk g7 [I (d:Nat)] 3,blk gB [.slice A bs.length c] 50] (λi x=>x=clm k d bs xx i) (λ_ _=>False) xx O ent (λFr hF=>qTA Fr gB A bs c xB (qAI.blk0.mono (hF (blk gB [.slice A bs.length c] 50) xD)) (hs.mono (Fa hF))) (λ_ _=>rfl) O (O) ?_ ?_ ?_
  .
    intro i x l wa wb hi hI K4 Post4 C4 hN4 hR4 hE4
    subst hI
    obtain ⟨y,hy⟩: ∃y,y=clm k d bs xx i:=⟨_,rfl⟩
    obtain ⟨s,hsd⟩: ∃s,s=bs.getD (bs.length-1-i) []:=⟨_,rfl⟩
    have hyl:y.length<=17:=by rw [hy];exact qLo hsm hx i
    have hsl:s.length<=17:=by rw [hsd,jB,jD (show bs.length-1-i<bs.length by omega)];exact hsm _ (jU _)
    rw [<-hy,<-hsd]
    refine wK (λ_ C5=>?_)
    refine vt ?_
    refine yh O<|vu ?_
    refine yq (yu C5 ?_)
    refine vt ?_
    refine yh O<|vu ?_
    refine yq (C4 _ _ ?_)
    refine wM ?_
    refine wK (λ_ C6=>?_)
    refine vt ?_
    refine vF 3 b9_ O O O O O<|vF 4 b3_ O O O O O<|yh O<|yj ((qAM O O O xB).nat (d+(bs.length-1-i)) xB) O<|yp (qAZ O O (λF' hF=>qGS F' k xB (d+(bs.length-1-i)) xB)) O λg20 _=>yj (qAR O O O) O<|vu ?_
    refine yq (yu C6 ?_)
    refine wX O (λh21=>?_) (λh21=>?_)
    .
      refine vt ?_
      refine vF 0 b9_ O O O O O<|yh O<|yp (qAZ O O (λF' hF=>qCS F' (hK.mo hF) y s xB xB)) O λg24 _=>vG (qAF (l:= [Str (y)]) (i:=0) (vs:= [Str (Sb.join y s)]) O O O O O z9_ O O) O O λ_ _=>vu ?_
      refine vB ?_
      exact hN4 _ (Sb.join y s) (by rw [clm,up,yX xB,<-hy,<-hsd])
    refine vt ?_
    refine yh O<|vF 0 b9_ O O O O O<|yp (qAZ O O (λF' hF=>qCS F' (hK.mo hF) s y xB xB)) O λg27 _=>vG (qAF (l:= [Str (y)]) (i:=0) (vs:= [Str (Sb.join s y)]) O O O O O z9_ O O) O O λ_ _=>vu ?_
    refine vB ?_
    exact hN4 _ (Sb.join s y) (by rw [clm,up,yW xB,<-hy,<-hsd])
  .
    intro w4 x hx4 hI
    subst hI
    refine vB<|yq (yu C2 ?_)
    exact yl λ_ C7=>vF 0 b9_ O O O O O<|yh O<|yi C7<|yr<|wG hw0 hx4 (λ_ _ h=>h) (qIM O O) (qAf () O yd [1] O xC)
  intro w4 x c hx4 hS
  exact hS.elim
def qFS(bs:List xA)(th:Bool)(pk pv k:xA)(d:Nat):xA:=clm k d bs (if th=true then Sb.leafN pk pv else [0]) bs.length
def qYl(bs:List xA)(th:Bool)(pk pv nd k v:xA)(d:Nat):Bool:=th&&(decide (pk=k)&&(decide (pv=v)&&decide (qFS bs th pk pv k d=nd)))
def qIx(bs:List xA)(th:Bool)(pk pv nd k:xA)(d:Nat):Bool:=(!th||decide (pk≠k))&&decide (qFS bs th pk pv k d=nd)
theorem qDT(k v:xA):(Sb.leafN k v).length<=17:=by unfold Sb.leafN;rw [jC,Sha.tagged_length];exact jL _
theorem qGv(F:Hp)(hK:yf F)(A:yS)(c:Nat)(bs:List xA)(hs:Sl F 1 A bs.length c (qAG bs))(th:Bool)(pk pv k:xA)(d:Nat)(hg:qNB bs th pk pv k d)(hpv:pv.length<=1000000):Cz prog 73 [.agg #[.slice A bs.length c,.bool (th),Str (pk),Str (pv)],Str (k),I (d:Nat)] F (Str (qFS bs th pk pv k d)):=by
 have hle:=hg.le
 have hk16:=hg.k16
 have hsm:=hg.small
 refine y7 func73 O ntmps73 O (λw0 hw0=>?_)
 refine yl λ_ C1=>yp (qAi O O O) O λg3 _=>yh O<|yi C1 ?_
 refine ym λ_ C2=>yl λ_ C3=>vT 1 qHD qEa O O O O O<|yn 2 O<|yp (qAZ O O (λF' hF=>qHv F' A c bs (hs.mono (Fa hF)) th pk pv k d xG)) O λg11 _=>yj (qA5 O O) O<|yi C3 ?_
 refine vC ?_
 refine yy C2 ?_
 refine yl λ_ C4=>yh O<|yi C4 ?_
 refine ym λ_ C5=>yl λ_ C6=>vA 1 qDj z4_ O O O O O<|vF 1 b4_ O O O O O<|yi C6 ?_
 refine vf O (λh14=>?_) (λh14=>?_)
 .
  have hpl:=(hg.yes h14).1
  refine yt<|vA 2 qDj z9_ O O O O O<|vF 1 b9_ O O O O O<|vA 3 qDj z9_ O O O O O<|vF 1 b9_ O O O O O<|yp (qAZ O O (λF' hF=>qGn F' (hK.mo hF) pk pv (by first|omega|exact jW O) (by first|omega|exact jW O))) O λg19 _=>yh O<|yi C5 ?_
  refine yl λ_ C7=>vT 1 qHD qEa O O O O O<|yn 3 O<|yp (qAZ O O (λF' hF=>qEN F' (hK.mo hF) A c bs (hs.mono (Fa hF)) th pk pv (Sb.leafN pk pv) k d xG xG xG (by first|assumption|exact qDT _ _|exact jW O))) O λg24 _=>yh O<|yi C7 ?_
  exact yr<|yw hw0 O () (by unfold qFS;first|rw [yX xG]|rw [yW (by simp [*])]) yd [0] O xC
 refine yy C5 ?_
 refine yl λ_ C8=>vT 1 qHD qEa O O O O O<|yn 3 O<|yp (qAZ O O (λF' hF=>qEN F' (hK.mo hF) A c bs (hs.mono (Fa hF)) th pk pv ([0]) k d xG xG xG (by first|assumption|exact qDT _ _|exact jW O))) O λg24 _=>yh O<|yi C8 ?_
 exact yr<|yw hw0 O () (by unfold qFS;first|rw [yX xG]|rw [yW (by simp [*])]) yd [0] O xC
theorem qVV(F:Hp)(hK:yf F)(A:yS)(c:Nat)(bs:List xA)(hs:Sl F 1 A bs.length c (qAG bs))(th:Bool)(pk pv k:xA)(d:Nat)(hg:qNB bs th pk pv k d)(nd v:xA)(hpv:pv.length<=1000000):Cz prog 39 [.agg #[.slice A bs.length c,.bool (th),Str (pk),Str (pv)],Str (nd),Str (k),Str (v),I (d:Nat)] F (.bool (qYl bs th pk pv nd k v d)):=by
 have hle:=hg.le
 have hk16:=hg.k16
 have hsm:=hg.small
 refine y7 func39 O ntmps39 O (λw0 hw0=>?_)
 refine yl λ_ C1=>yp (qAi O O O) O λg5 _=>yh O<|yi C1 ?_
 refine yl λ_ C2=>vT 1 qHD qEa O O O O O<|yn 2 O<|yp (qAZ O O (λF' hF=>qHv F' A c bs (hs.mono (Fa hF)) th pk pv k d xG)) O λg14 _=>yh O<|yv (qAA O O qDj O z4_ O) O<|yv (qAD 1 O O O b4_ O) O<|yn 2 O<|vz (d:=19) O (λh19=>?_) (λh19=>?_)
 .
  refine yv (qAA O O qDj O z9_ O) O<|yv (qAD 1 O O O b9_ O) O<|yh O<|yv (qBP O O O) O<|yn 2 O<|vO (d:=25) O (λh25=>?_) (λh25=>?_)
  .
   refine yv (qAA O O qDj O z9_ O) O<|yv (qAD 1 O O O b9_ O) O<|yh O<|yv (qBP O O O) O<|yn 2 O<|vO (d:=31) O (λh31=>?_) (λh31=>?_)
   .
    refine yv (qAx 1 O O O qHD qEa O) O<|yn 2 O<|vg (qAZ O O (λF' hF=>qGv F' (hK.mo hF) A c bs (hs.mono (Fa hF)) th pk pv k d xG xG)) O λg35 _=>yh O<|yv (qBP O O O) O<|yn 2 O<|yi C2 ?_
    exact yr<|yw hw0 O () (by unfold qYl;simp [*]) yd [0] O xC
   refine yn 8 O<|yi C2 ?_
   exact yr<|yw hw0 O () (by unfold qYl;simp [*]) yd [0] O xC
  refine yn 14 O<|yi C2 ?_
  exact yr<|yw hw0 O () (by unfold qYl;simp [*]) yd [0] O xC
 refine yn 20 O<|yi C2 ?_
 exact yr<|yw hw0 O () (by unfold qYl;simp [*]) yd [0] O xC
theorem qPT(F:Hp)(hK:yf F)(A:yS)(c:Nat)(bs:List xA)(hs:Sl F 1 A bs.length c (qAG bs))(th:Bool)(pk pv k:xA)(d:Nat)(hg:qNB bs th pk pv k d)(nd:xA)(hpv:pv.length<=1000000):Cz prog 82 [.agg #[.slice A bs.length c,.bool (th),Str (pk),Str (pv)],Str (nd),Str (k),I (d:Nat)] F (.bool (qIx bs th pk pv nd k d)):=by
 have hle:=hg.le
 have hk16:=hg.k16
 have hsm:=hg.small
 refine y7 func82 O ntmps82 O (λw0 hw0=>?_)
 refine yl λ_ C1=>yp (qAi O O O) O λg4 _=>yh O<|yi C1 ?_
 refine yl λ_ C2=>vT 1 qHD qEa O O O O O<|yn 2 O<|yp (qAZ O O (λF' hF=>qHv F' A c bs (hs.mono (Fa hF)) th pk pv k d xG)) O λg12 _=>yh O<|yv (qAA O O qDj O z4_ O) O<|yv (qAD 1 O O O b4_ O) O<|yv (qA5 O O) O<|yh O<|vz (d:=17) O (λh17=>?_) (λh17=>?_)
 .
  refine yn 7 O<|yv (qAx 1 O O O qHD qEa O) O<|yn 2 O<|vg (qAZ O O (λF' hF=>qGv F' (hK.mo hF) A c bs (hs.mono (Fa hF)) th pk pv k d xG xG)) O λg28 _=>yh O<|yv (qBP O O O) O<|yn 2 O<|yi C2 ?_
  exact yr<|yw hw0 O () (by unfold qIx;simp [*]) yd [0] O xC
 refine yv (qAA O O qDj O z9_ O) O<|yv (qAD 1 O O O b9_ O) O<|yh O<|yv (qB9 O O O) O<|yn 3 O<|vO (d:=24) O (λh24=>?_) (λh24=>?_)
 .
  refine yv (qAx 1 O O O qHD qEa O) O<|yn 2 O<|vg (qAZ O O (λF' hF=>qGv F' (hK.mo hF) A c bs (hs.mono (Fa hF)) th pk pv k d xG xG)) O λg28 _=>yh O<|yv (qBP O O O) O<|yn 2 O<|yi C2 ?_
  exact yr<|yw hw0 O () (by unfold qIx;simp [*]) yd [0] O xC
 refine yn 8 O<|yi C2 ?_
 exact yr<|yw hw0 O () (by unfold qIx;simp [*]) yd [0] O xC
theorem qLF(F:Hp)(k:xA)(hk:k.length<=1000000)(pb pd:Nat)(b:xA)(d:Int)(hpb:qAI F ⟨pb,0,none⟩ [Str b])(hpd:qAI F ⟨pd,0,none⟩ [I d])(hb:b.length<=1000000):Cz prog 177 [Str (k),Ptr pb,Ptr pd] F (.bool (nbl b d k)):=by
 refine y7 func177 O ntmps177 O (λw0 hw0=>?_)
 refine yl λ_ C1=>yh O<|yi C1 ?_
 refine yl λ_ C2=>yh O<|yj (qAH O O b9_ (m:=F) xD (hpb)) O<|yj (qAH O O b3_ (m:=F) xD (hpd)) O<|yp (qAZ O O (λF' hF=>qFi F' k xB b xB d)) O λg8 _=>yj (qA5 O O) O<|yh O<|yi C2 ?_
 exact yr<|yw hw0 O () (by unfold nbl;rfl) yd [0] O xC
theorem qT6(F:Hp)(A:yS)(n c:Nat)(ks:List xA)(hs:Sl F 1 A n c (qAG ks))(hn:n<=1000000)(hsm: ∀k:Nat,(ks.getD k []).length<=1000000)(pb pd:Nat)(b:xA)(d:Int)(hpb:qAI F ⟨pb,0,none⟩ [Str b])(hpd:qAI F ⟨pd,0,none⟩ [I d])(hb:b.length<=1000000):Cz prog 240 [.slice A n c,.func (.func 177) #[] #[Ptr pb,Ptr pd]] F (I (ixS (nbl b d) ks)):=by
 have hkn:ks.length=n:=by have:=hs.1;simpa [qAG] using this
 refine y7 func240 O ntmps240 O (λw0 hw0=>?_)
 refine yl λ_ C1=>yh O<|yi C1 ?_
 refine ym λ_ C2=>yl λ_ C3=>yh O<|yj (qAN qAg O O) O<|yh O<|yi C3 ?_
 refine yz<|vN (X:=Nat) (λζ=> [(0,.slice A n c),(1,.func (.func 177) #[] #[Ptr pb,Ptr pd]),(7,I (n:Nat)),(8,I (ζ:Nat))]) (λζ=> [F]) (λζ=>ζ<=n/\ ∀j<ζ,nbl b d (ks.getD j [])=false) (λζ=>n-ζ) 0 (⟨jH _,λj h=>absurd h (jz j)⟩) (Sub.of O) (λ_ h=>h) ?_
 rintro k ⟨hk,hno⟩ I0 hI0
 refine yl λ_ C4=>yj (qAP O O O) O<|yi C4 ?_
 refine ym λ_ C5=>y1 O (λh9=>?_) (λh9=>?_)
 .
  refine yy C5 ?_
  refine ym λ_ C6=>yz<|yl λ_ C7=>yn 2 O<|yi C7 ?_
  refine yl λ_ C8=>yn 3 O<|yj (qAC O O O qAg z9_ hs xB) O<|yj (qAH O O b9_ (m:=F) xD (hs.elem (qAa (qAc [] xB)))) O<|yp (qDv O O O ent (Ct.use0 (λF' hF=>qLF F' (ks.getD k []) (by first|omega|(exact hsm _)) pb pd b d (hpb.mono (Fa hF)) (hpd.mono (Fa hF)) xB))) O λg16 _=>yi C8 ?_
  refine vf O (λh16=>?_) (λh16=>?_)
  .
   refine yl λ_ C9=>yn 2 O<|yi C9 ?_
   exact yr<|vI<|y5<|y5<|vI<|y5<|yw hw0 O () (by rw [qWv (k:=k) xB (by simpa using h16) hno]) yd [0] O xC
  refine vP<|vB<|yq (yu C6 ?_)
  exact yt<|yj ((qAM O O O xB).nat (k+1) xB) O<|yh O<|y8<|yq<|vE (k+1) hI0 ⟨xB,λj hj=>by rcases Nat.lt_succ_iff_lt_or_eq.1 hj with h|rfl;exact hno j h;simpa using h16⟩ (Sub.of O) (λ_ h=>h)
 refine vK<|y6<|y6<|vL ?_
 refine yq (yu C2 ?_)
 refine yl λ_ C10=>yh O<|yi C10 ?_
 exact yr<|yw hw0 O () (by rw [qWt (λj hj=>hno j xB)]) yd [0] O xC
theorem qUA(F m:Hp)(A:yS)(n c:Nat)(ks:List xA)(hr:Row m 9 1 A n c (qAG ks))(hn:n<=1000000)(hsm: ∀k:Nat,(ks.getD k []).length<=1000000)(pb pd:Nat)(b:xA)(d:Int)(hpb:qAI F ⟨pb,0,none⟩ [Str b])(hpd:qAI F ⟨pd,0,none⟩ [I d])(hb:b.length<=1000000):
    Ct prog 176 [.slice A n c,.func (.func 177) #[] #[Ptr pb,Ptr pd]] [m,F] (λ_:Hp=> .slice A (ks.filter λk=>!nbl b d k).length c) (λm'=>Row m' 9 1 A (ks.filter λk=>!nbl b d k).length c (qAG (ks.filter λk=>!nbl b d k))) (λm'=> [m',F]):=by
  have hkn:ks.length=n:=by have:=hr.len;simpa [qAG] using this
  have hnc:=hr.2.2.1
  refine y7 func176 O ntmps176 O (λw0 hw0=>?_)
  change J _ [(0,_),(1,_)] _ _ _
  refine yl λ_ C1=>yh O<|yi C1 ?_
  refine yl λ_ C2=>yn 2 O<|yp (qAZ O O (λF' hF=>qT6 F' A n c ks (hr.sl.mono (Fa hF)) xB (hsm) pb pd b d (hpb.mono (Fa hF)) (hpd.mono (Fa hF)) xB)) O λg10 _=>yh O<|yi C2 ?_
  refine ym λ_ C3=>yl λ_ C4=>yh O<|yj (qAR O O O) O<|yi C4 ?_
  refine y1 O (λh12=>?_) (λh12=>?_)
  .
    refine yl λ_ C5=>yn 2 O<|yi C5 ?_
    refine yr<|y5 ?_
    have hf:(ks.filter λk=>!nbl b d k)=ks:=qOH h12
    exact yw hw0 O m (by rw [hf,hkn]) (by rw [hf,hkn];exact hr) [0,1] O xC
  refine yy C3 ?_
  refine ym λ_ C6=>ym λ_ C7=>?_
  obtain ⟨i0,h5,hi0,hf0⟩:=qWu h12
  obtain ⟨ga,rfl⟩:=hr.at xB
  rw [h5]
  refine yt<|yh O<|yj ((qAM O O O xB).nat (i0+1) xB) O<|yh O<|yi C7 ?_
  refine yz<|vN (X:=Nat×Nat×List xA×Hp) (λζ=> [(0,.slice (some ⟨ga,0,none⟩) n c),(1,.func (.func 177) #[] #[Ptr pb,Ptr pd]),(5,I (ζ.1:Nat)),(6,I (ζ.2.1:Nat))]) (λζ=> [ζ.2.2.2,F]) (λζ=>ζ.1<ζ.2.1/\ζ.2.1<=n/\ζ.2.2.1.length=n/\ζ.2.2.1.take ζ.1=(ks.take ζ.2.1).filter (λk=>!nbl b d k)/\ζ.2.2.1.drop ζ.2.1=ks.drop ζ.2.1/\Row ζ.2.2.2 9 1 (some ⟨ga,0,none⟩) n c (qAG ζ.2.2.1)) (λζ=>n-ζ.2.1) (i0,i0+1,ks,m) (⟨by dsimp only;omega,by dsimp only;omega,hkn,hf0,O,hr⟩) (Sub.of O) (λ_ h=>h) ?_
  rintro⟨w,j,L,m⟩ ⟨hw,hj,hL,hA,hB,hr⟩ I0 hI0
  dsimp only at hw hj hL hA hB hr⊢
  refine ym λ_ C8=>yl λ_ C9=>yn 2 O<|yj (qAN qAg O O) O<|yj (qAP O O O) O<|yi C9 ?_
  refine y1 O (λh19=>?_) (λh19=>?_)
  .
    refine yy C8 ?_
    refine ym λ_ C10=>yz<|yl λ_ C11=>yn 2 O<|yj (qAY (i:=j) (j:=0+j*1) O O O qAg z9_ xB xB) O ?_
    have hnw:w<j:=hw
    refine yj (qAH O O b9_ (m:=m) xD (hr.sl.cells (qAa (qAc [] xB)))) O<|yh O<|yi C11 ?_
    refine ym λ_ C12=>?_
    have hgj:(L.getD j []).length<=1000000:=by
      have e0:=yY (λz=>z.getD 0 []) hB
      have e1:L.getD j []=ks.getD j []:=by simpa [jB,js] using e0
      rw [e1];exact hsm j
    refine yt<|yn 2 O<|yp (qDv O O O ent (Ct.use0 (λF' hF=>qLF F' (L.getD j []) (by first|omega|(exact hsm _)) pb pd b d (hpb.mono (Fa hF)) (hpd.mono (Fa hF)) xB))) O λg28 _=>yj (qA5 O O) O<|yi C12 ?_
    refine vf O (λh29=>?_) (λh29=>?_)
    .
      refine yl λ_ C13=>yn 3 O<|yj (qAY (i:=w) (j:=0+w*1) O O O qAg z9_ xB xB) O<|vG (qBr (i:=0) (k:=w) (off:=0) (b:= [Str (L.getD j [])]) O O O O hr (vs:= [Str (L.getD j [])]) O z9_ O xB (qAa (qAc [] xB)) O (jL _)) O O ?_
      rintro m9_1 hm9_1
      rw [qEK] at hm9_1
      refine yi C13 ?_
      refine yt<|yh O<|yj ((qAM O O O xB).nat (w+1) xB) O<|yh O<|y8<|vB<|yq (yu C10 ?_)
      exact yt<|yh O<|yj ((qAM O O O xB).nat (j+1) xB) O<|yh O<|y8<|yq<|vE (w+1,j+1,L.set w (L.getD j []),m9_1) hI0 ⟨by dsimp only;omega,by dsimp only;omega,by dsimp only;rw [j6];exact hL,(qG6 hw xB xB hA hB (by simpa using h29)).1,(qG6 hw xB xB hA hB (by simpa using h29)).2,by assumption⟩ (Sub.of O) (λ_ h=>h)
    refine vP<|vB<|yq (yu C10 ?_)
    exact yt<|yh O<|yj ((qAM O O O xB).nat (j+1) xB) O<|yh O<|y8<|yq<|vE (w,j+1,L,m) hI0 ⟨by dsimp only;omega,by dsimp only;omega,hL,(qG7 xB hA hB (by simpa using h29)).1,(qG7 xB hA hB (by simpa using h29)).2,hr⟩ (Sub.of O) (λ_ h=>h)
  refine vK<|y6<|y6<|vL ?_
  refine yq (yu C6 ?_)
  refine yl λ_ C14=>yn 2 O<|yj (qCi O O qAg z9_ O O xB) O<|vG (qFW (i:=0) (l:=w) (h:=n) O O (by split<;>simp [Addr.add_lit]) qAg el9 O O O (hr.shrink xB) O xB xB) O O ?_
  rintro mc hmc
  refine yi C14 ?_
  refine yl λ_ C15=>yn 2 O<|yj (qEi O O qAg z9_ O xB) O<|yh O<|yi C15 ?_
  refine yr ?_
  have hfl:(ks.filter λk=>!nbl b d k)=L.take w:=by rw [hA,jV xB]
  have hfw:(ks.filter λk=>!nbl b d k).length=w:=by rw [hfl,jF];omega
  rw [qEd,<-hfl] at hmc
  exact yw hw0 O mc (by rw [hfw]) (by rw [hfw];exact hmc) [0,1] O xC
theorem qOW(F:Hp)(A:yS)(n c:Nat)(ks:List xA)(hs:Sl F 1 A n c (qAG ks))(hn:n<=1000000):Ct prog 126 [.slice A n c] [F] (λx:yS×Nat×Hp=> .slice x.1 (ks).length x.2.1) (λx=>Row x.2.2 9 1 x.1 (ks).length x.2.1 (qAG ks)) (λx=> [F,x.2.2]):=by
 have hkn:ks.length=n:=by have:=hs.1;simpa [qAG] using this
 refine y7 func126 O ntmps126 O (λw0 hw0=>?_)
 refine yl λ_ C1=>yh O<|yi C1 ?_
 refine ym λ_ C2=>yl λ_ C3=>yh O<|yj ((qFT qAg O O O).as (v':= .bool (decide (A.isNone=true))) (yY Value.bool (by cases A<;>rfl))) O<|yi C3 ?_
 refine y1 O (λh4=>?_) (λh4=>?_)
 .
  refine yl λ_ C4=>yh O<|yi C4 ?_
  refine yr<|y5 ?_
  have hk0:ks= []:=by
   refine jT ?_
   rcases yR n with h|h
   . omega
   . obtain ⟨g,o,rfl⟩:=hs.at h;cases h4
  exact ve [0,1] [F,(λ_=>none)] O xC<|yw hw0 O (none,0,(λ_=>none)) (by rw [hk0];rfl) (by rw [hk0];exact qBf.nil) [0,1] O xC
 refine yy C2 ?_
 refine yl λ_ C5=>yp (qBN O qAg el9) O λg5 _=>yh O<|yp (qAV (i:=1) (m2:=F) O O O qAg qAg el9 O (qAj (q:=True) (xs:=qAG ([])) O (by intro x hx;first|exact absurd hx (jr)|(rw [List.mem_singleton.1 hx];rfl))) xD (hs) (qDR _) xB xB) O ?_
 rintro⟨A7,c7,m7⟩ h7
 try dsimp only at h7
 replace h7:Row m7 9 1 A7 (0+n) c7 (qAG (ks)):=h7
 refine yh O<|yi C5 ?_
 refine yr ?_
 rw [show 0+n=ks.length by omega] at h7
 exact yw hw0 O (A7,c7,m7) (by rw [<-hkn,jl]) h7 [0,1] O xC
theorem qKz(F:Hp)(d:Int)(p9 p4:Nat)(A:yS)(n c:Nat)(ks:List xA)(hs:Sl F 1 A n c (qAG ks))(h9:qAI F ⟨p9,0,none⟩ [.slice A n c])(b:xA)(h4:qAI F ⟨p4,0,none⟩ [Str b])(hn:n<=1000000)(hb:b.length<=1000000)(hsm: ∀k:Nat,(ks.getD k []).length<=1000000):Ct prog 175 [I (d),Ptr p9,Ptr p4] [F] (λx:yS×Nat×Hp=> .slice x.1 (ks.filter (λq=>!nbl b d q)).length x.2.1) (λx=>Row x.2.2 9 1 x.1 (ks.filter (λq=>!nbl b d q)).length x.2.1 (qAG (ks.filter (λq=>!nbl b d q)))) (λx=> [F,x.2.2]):=by
 have hkn:ks.length=n:=by have:=hs.1;simpa [qAG] using this
 refine y7 func175 O ntmps175 O (λw0 hw0=>?_)
 refine yl λ_ C1=>yp (qAi O O O) O λg3 _=>yh O<|yi C1 ?_
 refine yl λ_ C2=>yj (qAH O O qB7 (m:=F) xD (h9)) O<|yp (qBx O O (λF' hF=>qOW F' A n c ks (hs.mono (Fa hF)) xB)) O ?_
 rintro⟨A6,c6,m6⟩ h6
 try dsimp only at h6
 refine yj (qBt O O) O<|yp (qAJ O O ent (vR 2 O (λF' hF=>qUA F' m6 A6 ks.length c6 ks h6 xB hsm p4 g3 b d (h4.mono (Fa hF)) (qAI.blk0.mono (hF (blk g3 [I (d)] 3) xD)) hb))) O ?_
 rintro m8 h8
 refine yh O<|yi C2 ?_
 exact yr<|yw hw0 O (A6,c6,m8) O h8 [0,2] O xC
theorem qaO(l:List Sm.PR)(k:xA){d:Nat}(hd:d<=128):(Sm.keysS l).filter (λq=>!nbl k ((d:Nat):Int) q)=kd l k d:=by
 unfold kd nbl
 refine zz λq _=>?_
 rw [Bool.not_not,jd,jq hd]
theorem qYr(l:List Sm.PR)(k:xA){d:Nat}(hd:d+1<=128):(kd l k d).filter (λq=>!nbl k ((d+1:Nat):Int) q)=kd l k (d+1):=by
 rw [<-qYg]
 refine zz λq _=>?_
 unfold nbl
 rw [Bool.not_not,jd,jq hd]
theorem qVN{l:List Sm.PR}(hf:qCD l)(k:xA)(d j:Nat):((kd l k d).getD j []).length<=1000000:=by
  by_cases hj:j<(kd l k d).length
  . rw [jB,jD hj]
    obtain ⟨⟨v,hv⟩,_⟩:=qWr (jU hj)
    show((kd l k d)[j]).length<=1000000
    rw [show(kd l k d)[j].length=16 from hf.k16 _ hv];decide
  . rw [jB,je xB];decide
theorem qaG(l:List Sm.PR)(k:xA)(d:Nat):(kd l k d).length<=l.length:=by
 have:=yI (λq=>Sm.belowB q k d) (Sm.keysS l)
 rw [Sm.keysS_len] at this;exact this
theorem qNp(F:Hp)(hK:yf F)(g:Nat)(l:List Sm.PR)(hT:qCo F g l)(hf:qCD l)(k:xA)(hk:k.length=16)(d:Nat)(hd:d<=128):
    Ct prog 96 [Ptr g,Str k,I (d:Nat)] [F] (λx:Nat×yS×Nat×Hp=> .tuple #[.agg #[.slice x.2.1 (bsd l k d (x.1-d)).length x.2.2.1,.bool (qBB l k x.1),Str (qC0 l k x.1),Str (qDL l k x.1)],I 0]) (λx=>qNA l k d x.1/\Row x.2.2.2 9 1 x.2.1 (bsd l k d (x.1-d)).length x.2.2.1 (qAG (bsd l k d (x.1-d)))) (λx=> [F,x.2.2.2]):=by
  have hln:=hf.few
  have hkl:=Sm.keysS_len l
  have hsm:=qHq hf.k16
  have hk0:=qaO l k hd
  have hkd0:=qaG l k d
  refine y7 func96 O ntmps96 O (λw0 hw0=>?_)
  refine yl λ_ C1=>yp (qAi O O O) O λg4 _=>yp (qAO O zeroValue87 O) O λg6 _=>yh O<|yi C1 ?_
  refine ym λ_ C2=>yl λ_ C3=>vF 1 b9_ O O O O O<|yh O<|yp (qAZ O O (λF' hF=>qK0 F' k ((d:Nat):Int))) O λg14 _=>yj ((qA5 O O).as (v':= .bool false) (by rw [ya (show k.length=16/\(0:Int)<=((d:Nat):Int)/\((d:Nat):Int)<=128 from⟨hk,xB,xB⟩)];rfl)) O<|yi C3 ?_
  refine vC ?_
  refine yy C2 ?_
  refine yl λ_ C4=>yp (qAO O zeroValue87 O) O λg8 _=>yi C4 ?_
  refine yl λ_ C5=>yh O<|yp (qBx O O (λF' hF=>qNQ F' g l (hT.mono (Fa hF)) xB)) O ?_
  rintro⟨A18,c18,m18⟩ h18
  try dsimp only at h18
  refine yp (qAO O zeroValue50 O) O λg9 _=>vG (qAF (i:=5) (l:= [.slice none 0 0]) (vs:= [.slice A18 ((Sm.keysS l).length) c18]) O O O O O qBs O O) O O λ_ _=>yi C5 ?_
  refine yl λ_ C6=>yj (qBt O O) O<|yh O<|yi C6 ?_
  refine yl λ_ C7=>yn 2 O<|yp (qDv O O O ent (Ct.use (λF' hF=>qKz F' ((d:Nat):Int) g9 g4 A18 ((Sm.keysS l).length) c18 (Sm.keysS l) (h18.sl.mono (Fa hF)) (qAI.blk0.mono (hF (blk g9 [.slice A18 ((Sm.keysS l).length) c18] 50) xD)) k (qAI.blk0.mono (hF (blk g4 [Str (k)] 9) xD)) xB xB xG))) O ?_
  rintro⟨A22,c22,m22⟩ h22
  try dsimp only at h22
  rw [hk0] at h22⊢
  refine vG (qAF (i:=5) (l:= [.slice A18 ((Sm.keysS l).length) c18]) (vs:= [.slice A22 ((kd l k (d)).length) c22]) O O O O O qBs O O) O O λ_ _=>yi C7 ?_
  refine ym λ_ C8=>yl λ_ C9=>yn 2 O<|yi C9 ?_
  refine yz<|vN (X:=Nat×yS×Nat×Hp×yS×Nat×Hp) (λζ=> [(0,Ptr g),(4,Ptr g4),(6,Ptr g6),(8,Ptr g8),(9,Ptr g9),(10,.func (.func 175) #[] #[Ptr g9,Ptr g4]),(11,I (d+ζ.1:Nat))]) (λζ=> [F,blk g4 [Str (k)] 9,blk g6 [.slice none 0 0,.bool false,Str [],Str []] 87,blk g8 [.slice ζ.2.2.2.2.1 (bsd l k d (ζ.1)).length ζ.2.2.2.2.2.1,.bool false,Str [],Str []] 87,blk g9 [.slice ζ.2.1 (kd l k (d+ζ.1)).length ζ.2.2.1] 50,ζ.2.2.2.1,ζ.2.2.2.2.2.2]) (λζ=>d+ζ.1<=128/\(∀x,d<=x->x<d+ζ.1->2<=(cur l k x).length)/\Row ζ.2.2.2.1 9 1 ζ.2.1 (kd l k (d+ζ.1)).length ζ.2.2.1 (qAG (kd l k (d+ζ.1)))/\Row ζ.2.2.2.2.2.2 9 1 ζ.2.2.2.2.1 (bsd l k d (ζ.1)).length ζ.2.2.2.2.2.1 (qAG (bsd l k d (ζ.1)))) (λζ=>128-(d+ζ.1)) (0,A22,c22,m22,none,0,(λ_=>none)) (⟨hd,λx h1 h2=>absurd h2 xB,h22,qBf.nil⟩) (Sub.of O) (λ_ h=>h.empty.pick [0,1,2,3,5,6,7] xC) ?_
  rintro⟨n,A9,c9,m9,Ab,cb,mb⟩ ⟨he,htw,hr9,hrb⟩ I0 hI0
  dsimp only at he htw hr9 hrb⊢
  have hbl:=qDA l k d n
  refine ym λ_ C10=>yl λ_ C11=>vF 4 qB7 O O O O O<|yj (qAN qAg O O) O<|yj (qAs O O O) O<|yi C11 ?_
  refine y1 O (λh26=>?_) (λh26=>?_)
  .
    have hcl:=qI4 hf.once k (d+n)
    have hlt:d+n<128:=by
      rcases zR (d+n) 128 with h|h
      . exact h
      . have hct:=qY6 hf hk
        rw [show d+n=128 by omega] at h26 hcl
        omega
    have htl:(turn k (d+n)).length=16:=(qCR k _).trans hk
    have hmn:min (((d+n+1:Nat):Int)).toNat 128=d+n+1:=by rw [jd];omega
    have hsmk:=qVN hf k (d+n)
    have hkdl:=qaG l k (d+n)
    refine yy C10 ?_
    refine ym λ_ C12=>yz<|ym λ_ C13=>vQ [blk g8 [.slice Ab (bsd l k d (n)).length cb,.bool false,Str [],Str []] 87,blk g4 [Str (k)] 9] [12] (.y 0 (.y 1 (.y 2 (.y 3 (.y 4 (.y 6 (.y 7 (.e 5 (.e 8 (.e 9 (.e 10 (.y 11 (.e 12 .nil))))))))))))) ye xF xD ?_
    refine yo O (qAA O O qDj O qBs O) O O<|yo O (qAD 0 O O O qB7 O) O O<|yx ?_
    refine yo O (qAD 1 O O O b9_ O) O O<|yx ?_
    refine yx ?_
    refine yo O ((qAM O O O xB).nat (d+n+1) xB) O O<|vD O (qAZ O O (λF' hF=>qQG F' k xG (d+n) xB)) O xD λg34 _=>vD O (qAZ O O (λF' hF=>qGl F' (hK.mo hF) g l (hT.mono (Fa hF)) xG (turn k (d+n)) xM ((d+n+1:Nat):Int) (by first|assumption|exact qJR xG|exact qNJ xG xG))) O xD λg37 _=>vD O (qAE (l:= [.tmp 37]) (xs:= [[Str (Sm.ndB l (turn k (d+n)) (min ((d+n+1:Nat):Int).toNat 128))]]) O O O O qAg el9 O xC xC xD) O xD λg38 _=>?_
    change J _ _ _ [F,blk g4 [Str (k)] 9,blk g6 [.slice none 0 0,.bool false,Str [],Str []] 87,blk g8 [.slice Ab (bsd l k d (n)).length cb,.bool false,Str [],Str []] 87,blk g9 [.slice A9 (kd l k (d+n)).length c9] 50,m9,mb,blk g38 [Str (Sm.ndB l (turn k (d+n)) (min ((d+n+1:Nat):Int).toNat 128))] 9] _
    refine vD O (qAV (i:=6) (xs:=qAG (bsd l k d (n))) (m2:=blk g38 [Str (Sm.ndB l (turn k (d+n)) (min ((d+n+1:Nat):Int).toNat 128))] 9) (ys:= [[Str (Sm.ndB l (turn k (d+n)) (min ((d+n+1:Nat):Int).toNat 128))]]) O O O qAg qAg el9 O hrb xD ((qAz (q:=True) (qAG [Sm.ndB l (turn k (d+n)) (min ((d+n+1:Nat):Int).toNat 128)]) O (by simp [qAG]) O).sl) O xB xB) O xD ?_
    rintro⟨A39,c39,m39⟩ h39
    try dsimp only at h39
    change J _ ((39,.slice A39 (((bsd l k d (n)).length)+1) c39)::_) _ [_,_,_,_,_,_,m39,_] _
    rw [<-qBh,hmn,<-qVs] at h39
    rw [show(bsd l k d (n)).length+1=(bsd l k d (n+1)).length by rw [qDA,qDA]] at h39⊢
    refine yo O (qAA O O qDj O qBs O) O O<|vZ O (qAU (i:=3) O O O O O qBs O xD) O O O λ_ _=>vM<|yq (yu C13 ?_)
    refine yt<|yn 2 O<|yj ((qAM O O O xB).nat (d+n+1) xB) O<|yp (qDv O O O ent (Ct.use (λF' hF=>qKz F' ((d+n+1:Nat):Int) g9 g4 A9 ((kd l k (d+n)).length) c9 (kd l k (d+n)) (hr9.sl.mono (Fa hF)) (qAI.blk0.mono (hF (blk g9 [.slice A9 (kd l k (d+n)).length c9] 50) xD)) k (qAI.blk0.mono (hF (blk g4 [Str (k)] 9) xD)) xB xB xG))) O ?_
    rintro⟨A44,c44,m44⟩ h44
    try dsimp only at h44
    rw [qYr l k xB] at h44⊢
    refine vG (qAF (i:=4) (l:= [.slice A9 (kd l k (d+n)).length c9]) (vs:= [.slice A44 ((kd l k (d+n+1)).length) c44]) O O O O O qBs O O) O O λ_ _=>y8<|vB<|yq (yu C12 ?_)
    exact yt<|yh O<|yj ((qAM O O O xB).nat (d+n+1) xB) O<|yh O<|y8<|yq<|vE (n+1,A44,c44,m44,A39,c39,m39) hI0 ⟨by dsimp only;omega,λx h1 h2=>by rcases zR x (d+n) with h|h;exact htw x h1 h;rw [show x=d+n by dsimp only at h2;omega,<-hcl];omega,h44,h39⟩ (Sub.of O) (λ_ h=>h.pick [0,1,2,3,4,8,6] xC)
  have hst:qNA l k d (d+n):=⟨xB,he,by rw [<-qI4 hf.once];omega,λx h1 h2=>htw x h1 h2⟩
  have hdn:d+n-d=n:=xB
  refine vK<|y6<|y6<|vL ?_
  refine yq (yu C8 ?_)
  refine ym λ_ C14=>yl λ_ C15=>vF 4 qB7 O O O O O<|yj (qAN qAg O O) O<|yj (qAR O O O) O<|yi C15 ?_
  refine y1 O (λh47=>?_) (λh47=>?_)
  .
    refine ym λ_ C16=>vQ [blk g9 [.slice A9 (kd l k (d+n)).length c9] 50,m9] [] (.y 0 (.y 1 (.y 2 (.y 3 (.e 4 (.y 5 (.e 6 .nil))))))) ye xF xD ?_
    refine yo O (qAD 0 (v:= .slice A9 (kd l k (d+n)).length c9) O O O qB7 O) O O<|yo O (qAC (i:=0) O O O qAg z9_ hr9.sl xB) O O<|yo O (qAH O O b9_ (m:=m9) xD (hr9.sl.elem (qAa (qAc [] xB)))) O O<|yo O (qAA O O qDj O z4_ O) O O<|wW O (qAU (i:=3) O O O O O z4_ O xD) O O xD λ_ _=>yo O (qAA O O qDj O z9_ O) O O<|wW O (qAU (i:=3) (l:= [.slice Ab (bsd l k d (n)).length cb,.bool true,Str [],Str []]) (vs:= [Str ((kd l k (d+n)).getD 0 [])]) O O O O O z9_ O xD) O O xD λ_ _=>vM<|yq (yu C16 ?_)
    refine yt<|yh O<|vA 2 qDj z9_ O O O O O<|vF 3 b9_ O O O O O<|yp (qAZ O O (λF' hF=>qXL F' g l (hT.mono (Fa hF)) ((kd l k (d+n)).getD 0 []))) O λg57 _=>yn 3 O<|vA 3 qDj z9_ O O O O O<|vG (qAU (i:=3) (l:= [.slice Ab (bsd l k d (n)).length cb,.bool true,Str ((kd l k (d+n)).getD 0 []),Str []]) (vs:= [Str ((Sm.getP l ((kd l k (d+n)).getD 0 [])).getD [])]) O O O O O z9_ O xD) O O λ_ _=>yi C14 ?_
    refine yl λ_ C17=>vT 3 qHD qEa O O O O O<|vG (qAF (i:=2) (l:= [.slice none 0 0,.bool false,Str [],Str []]) (vs:= [.slice Ab (bsd l k d (n)).length cb,.bool true,Str ((kd l k (d+n)).getD 0 []),Str ((Sm.getP l ((kd l k (d+n)).getD 0 [])).getD [])]) O O O O O qEa O O) O O λ_ _=>yh O<|yi C17 ?_
    exact yr<|vH hw0 (λ_ _ h=>h) (rv2 O (RV.blkA 2 O O qHD qEa) O) (qAf (d+n,Ab,cb,mb) (by dsimp only;rw [hdn];unfold qBB qC0 qDL;rw [yX xB,yX xB,ya xB]) ⟨hst,by dsimp only;rw [hdn];exact hrb⟩ [0,6] O xC)
  refine yy C14 ?_
  refine yl λ_ C18=>vT 3 qHD qEa O O O O O<|vG (qAF (i:=2) (l:= [.slice none 0 0,.bool false,Str [],Str []]) (vs:= [.slice Ab (bsd l k d (n)).length cb,.bool false,Str [],Str []]) O O O O O qEa O O) O O λ_ _=>yh O<|yi C18 ?_
  exact yr<|vH hw0 (λ_ _ h=>h) (rv2 O (RV.blkA 2 O O qHD qEa) O) (qAf (d+n,Ab,cb,mb) (by dsimp only;rw [hdn];unfold qBB qC0 qDL;rw [yW xB,yW xB,yb xB]) ⟨hst,by dsimp only;rw [hdn];exact hrb⟩ [0,6] O xC)
structure Pz where
 a:UInt8
 b:UInt8
 v:xA
 deriving DecidableEq
def Pz.cells(x:Pz):yU:= [B8 (x.a),B8 (x.b),Str (x.v)]
theorem qF8{kv:List Sm.PR}(hf:qCD kv){k:xA}(hk:k.length=16){d s:Nat}(h:qNA kv k d s):qFS (bsd kv k d (s-d)) (qBB kv k s) (qC0 kv k s) (qDL kv k s) k d=Sm.ndB kv k d:=by
 have h1:=h.le
 have h2:=h.ge
 have h3:=qKI hf hk (d:=d) (n:=s-d) xB (s-d) (jL _)
 rw [show d+(s-d)=s by omega,show s-(s-d)=d by omega] at h3
 unfold qFS
 rw [qVb hf h,qDA]
 exact h3
theorem qRG{kv:List Sm.PR}(hf:qCD kv){k:xA}(hk:k.length=16){d s:Nat}(h:qNA kv k d s):
    qYl (bsd kv k d (s-d)) (qBB kv k s) (qC0 kv k s) (qDL kv k s) (Sm.ndB kv k d) k ((Sm.getP kv k).getD []) d=(Sm.getP kv k).isSome:=by
  obtain ⟨t1,t2⟩:=qZa hf h
  unfold qYl
  rw [qF8 hf hk h,ya rfl,Bool.and_true,t1]
  cases ht:qBB kv k s with
  |false=>rfl
  |true=>
    by_cases hkk:qC0 kv k s=k
    . rw [t2 ht hkk,ya hkk];simp
    . rw [yb hkk];rfl
theorem qMS{kv:List Sm.PR}(hf:qCD kv){k:xA}(hk:k.length=16){d s:Nat}(h:qNA kv k d s):
    qIx (bsd kv k d (s-d)) (qBB kv k s) (qC0 kv k s) (qDL kv k s) (Sm.ndB kv k d) k d=!(Sm.getP kv k).isSome:=by
  obtain ⟨t1,_⟩:=qZa hf h
  unfold qIx
  rw [qF8 hf hk h,ya rfl,Bool.and_true,t1]
  cases qBB kv k s<;>by_cases hkk:qC0 kv k s=k<;>simp [hkk]
theorem qGB{kv:List Sm.PR}(hf:qCD kv)(k:xA)(s:Nat):(qDL kv k s).length<=1000000:=by
 unfold qDL
 split
 . exact qI8 hf.small _
 . exact jH _
theorem qNj{kv:List Sm.PR}(ho:Sm.Once kv){k v:xA}{p:Sm.PR}:p∈Sm.putP kv k v↔(p∈kv/\p.1≠k)\/p=(k,v):=by
 rw [(Sm.putP_perm k v ho).mem_iff]
 unfold Sm.setP
 rw [List.mem_append,List.mem_filter,yZ,ji]
theorem qCD.put{kv:List Sm.PR}(hf:qCD kv){k v:xA}(hk:k.length=16)(hv:v.length<=1000000)(hl:kv.length<=100000):qCD (Sm.putP kv k v):=by
  refine⟨(Sm.setP_once k v hf.once).perm (Sm.putP_perm k v hf.once).symm,λp q=>?_,λp q=>?_,jf (Sm.putP_len kv k v) xB⟩
  . rcases(qNj hf.once).1 q with ⟨q,_⟩|rfl
    . exact hf.k16 p q
    . exact hk
  . rcases(qNj hf.once).1 q with ⟨q,_⟩|rfl
    . exact hf.small p q
    . exact hv
theorem qIn{kv:List Sm.PR}(hf:qCD kv){k v:xA}(hk:k.length=16){b:xA}(hb:b.length=16){d:Nat}(hd:d<=128)(hn:Sm.belowB k b d=false)(hv:v.length<=1000000)(hl:kv.length<=100000):
    Sm.ndB (Sm.putP kv k v) b d=Sm.ndB kv b d:=by
  have hf':=hf.put hk hv hl
  have h1:Sm.ndB (Sm.putP kv k v) b d=Sm.ndB (Sm.setP kv k v) b d:=Sm.ndB_perm hf'.once hf'.k16 (Sm.putP_perm k v hf.once) hb hd
  rw [h1]
  unfold Sm.ndB Sm.bel Sm.setP
  rw [zG,jp,yW (by rw [hn];decide),zo,jS,zt]
  congr 1
  refine zz λp hp=>?_
  by_cases h:p.1=k
  . rw [h,hn];rfl
  . rw [ya h,Bool.and_true]
theorem qZF{kv:List Sm.PR}(hf:qCD kv){k v:xA}(hk:k.length=16)(hv:v.length<=1000000)(hl:kv.length<=100000){d n:Nat}(hd:d+n<=128):bsd (Sm.putP kv k v) k d n=bsd kv k d n:=by
 unfold bsd
 refine yA λi hi=>?_
 have:=List.mem_range.1 hi
 have hb:=Sm.bit_le k (d+i)
 refine qIn hf hk ((qCR _ _).trans hk) xB (Sm.belowB_no (i:=d+i) xB ?_) hv hl
 rw [qDm hk xB xB,yX rfl]
 omega
theorem qXz{kv:List Sm.PR}(hf:qCD kv){k v:xA}(hk:k.length=16)(hv:v.length<=1000000)(hl:kv.length<=100000){s:Nat}(hs:s<=128)(ho: ∀p∈cur kv k s,p.1=k):Sm.ndB (Sm.putP kv k v) k s=Sb.leafN k v:=by
 have hf':=hf.put hk hv hl
 have h1:Sm.ndB (Sm.putP kv k v) k s=Sm.ndB (Sm.setP kv k v) k s:=Sm.ndB_perm hf'.once hf'.k16 (Sm.putP_perm k v hf.once) hk hs
 have hself:Sm.belowB k k s=true:=Sm.belowB_yes λ_ _=>rfl
 rw [h1]
 unfold Sm.ndB Sm.bel Sm.setP
 rw [zG,jp,yX hself,zo,zt,List.filter_eq_nil_iff.2 (λp hp=>by
  intro q
  rw [jh,yZ] at q
  exact q.2 (ho p (List.mem_filter.2 ⟨hp,q.1⟩))),j7,Sm.nd_one]
theorem qUT{kv:List Sm.PR}(hf:qCD kv){k v q w:xA}(hk:k.length=16)(hv:v.length<=1000000)(hl:kv.length<=100000){s:Nat}(hs:s<=128)(hc:cur kv k s= [(q,w)])(hq:q≠k):Sm.ndB (Sm.putP kv k v) k s=Sm.ndB [(k,v),(q,w)] k s:=by
 have hf':=hf.put hk hv hl
 have h1:Sm.ndB (Sm.putP kv k v) k s=Sm.ndB (Sm.setP kv k v) k s:=Sm.ndB_perm hf'.once hf'.k16 (Sm.putP_perm k v hf.once) hk hs
 have hself:Sm.belowB k k s=true:=Sm.belowB_yes λ_ _=>rfl
 have hqb:Sm.belowB q k s=true:=(List.mem_filter.1 (show(q,w)∈cur kv k s by rw [hc];exact .head _)).2
 have e1:Sm.bel (Sm.setP kv k v) k s= [(q,w),(k,v)]:=by
  unfold Sm.bel Sm.setP
  rw [zG,jp,yX hself,zo,zt]
  have e2:kv.filter (λp=>Sm.belowB p.1 k s&&decide (p.1≠k))=(cur kv k s).filter (λp=>decide (p.1≠k)):=by
   show _=(kv.filter λp=>Sm.belowB p.1 k s).filter (λp=>decide (p.1≠k))
   rw [zt]
   refine zz λp _=>?_
   rw [Bool.and_comm]
  rw [e2,hc,jp,yX (ya hq),zo];rfl
 have e3:Sm.bel [(k,v),(q,w)] k s= [(k,v),(q,w)]:=by unfold Sm.bel;rw [jp,yX hself,jp,yX hqb,zo]
 have hw:Sm.WF (128-s) (Sm.bel (Sm.setP kv k v) k s):=(Sm.bel_wf hf'.once hf'.k16 hk hs).perm ((Sm.putP_perm k v hf.once).filter _)
 rw [h1]
 unfold Sm.ndB
 rw [e3]
 exact Sm.nd_perm _ hw (show(Sm.bel (Sm.setP kv k v) k s).Perm [(k,v),(q,w)] by rw [e1];exact List.Perm.swap _ _ _)
structure Two (k q:xA) (a:Nat):Prop where
 k16:k.length=16
 q16:q.length=16
 lt:a<128
 same: ∀i,i<a->Sm.bit k i=Sm.bit q i
 differ:Sm.bit k a≠Sm.bit q a
theorem Two.ne{k q:xA}{a:Nat}(h:Two k q a):q≠k:=λe=>h.differ (by rw [e])
theorem Two.fine{k q v w:xA}{a:Nat}(h:Two k q a)(hv:v.length<=1000000)(hw:w.length<=1000000):qCD [(k,v),(q,w)]:=by
  refine⟨?_,λp hp=>?_,λp hp=>?_,by simp⟩
  . unfold Sm.Once
    rw [zB]
    exact⟨λp hp=>by rw [List.mem_singleton.1 hp];exact λe=>h.ne e.symm,by simp⟩
  . rcases List.mem_cons.1 hp with rfl|hp
    . exact h.k16
    . rw [List.mem_singleton.1 hp];exact h.q16
  . rcases List.mem_cons.1 hp with rfl|hp
    . exact hv
    . rw [List.mem_singleton.1 hp];exact hw
theorem Two.top{k q v w:xA}{a:Nat}(h:Two k q a)(hv:v.length<=1000000)(hw:w.length<=1000000):Sm.ndB [(k,v),(q,w)] k a=up k a (Sb.leafN k v) (Sb.leafN q w):=by
 rw [<-qMF (h.fine hv hw) h.k16 h.lt]
 have hb:=Sm.bit_le k a
 have hb2:=Sm.bit_le q a
 have hd:=h.differ
 have h1:Sm.belowB k k (a+1)=true:=Sm.belowB_yes λ_ _=>rfl
 have h2:Sm.belowB q k (a+1)=false:=Sm.belowB_no (i:=a) xB λe=>h.differ e.symm
 have h3:Sm.belowB k (turn k a) (a+1)=false:=Sm.belowB_no (i:=a) xB (by rw [qDm h.k16 h.lt h.lt,yX rfl];omega)
 have h4:Sm.belowB q (turn k a) (a+1)=true:=Sm.belowB_yes λi hi=>by
  have hlt:=h.lt
  rw [qDm h.k16 h.lt xB]
  by_cases hia:i=a
  . rw [yX hia,hia];omega
  . rw [yW hia];exact(h.same i xB).symm
 unfold Sm.ndB
 have e1:Sm.bel [(k,v),(q,w)] k (a+1)= [(k,v)]:=by unfold Sm.bel;rw [jp,yX h1,jp,yW (by rw [h2];decide),zo]
 have e2:Sm.bel [(k,v),(q,w)] (turn k a) (a+1)= [(q,w)]:=by unfold Sm.bel;rw [jp,yW (by rw [h3];decide),jp,yX h4,zo]
 rw [e1,e2,Sm.nd_one,Sm.nd_one]
theorem Two.step{k q v w:xA}{a:Nat}(h:Two k q a)(hv:v.length<=1000000)(hw:w.length<=1000000){e:Nat}(he:e<a):Sm.ndB [(k,v),(q,w)] k e=up k e (Sm.ndB [(k,v),(q,w)] k (e+1)) [0]:=by
 have hlt:=h.lt
 rw [<-qMF (h.fine hv hw) h.k16 (d:=e) xB]
 have hb:=Sm.bit_le k e
 have hs:=h.same e he
 have h3:Sm.belowB k (turn k e) (e+1)=false:=Sm.belowB_no (i:=e) xB (by rw [qDm h.k16 xB xB,yX rfl];omega)
 have h4:Sm.belowB q (turn k e) (e+1)=false:=Sm.belowB_no (i:=e) xB (by rw [qDm h.k16 xB xB,yX rfl];omega)
 have e2:Sm.bel [(k,v),(q,w)] (turn k e) (e+1)= []:=by unfold Sm.bel;rw [jp,yW (by rw [h3];decide),jp,yW (by rw [h4];decide),zo]
 congr 1
 unfold Sm.ndB
 rw [e2,Sm.nd_nil]
theorem Two.le{k q:xA}{a s:Nat}(h:Two k q a)(hs:Sm.belowB q k s=true):s<=a:=by
  rcases zR a s with h1|h1
  . have:=List.all_eq_true.1 hs a (List.mem_range.2 h1)
    exact absurd (yc this).symm h.differ
  . exact h1
def qKS(x:Nat):Nat:=if x=0 then 0 else Nat.log2 x+1
theorem qZC: ∀x:Fin 256,x.val≠0->1<=qKS x.val/\qKS x.val<=8/\x.val/2^(qKS x.val-1)%2=1/\x.val<2^qKS x.val:=by decide+kernel
theorem qNE(x y j:Nat):(x^^^y)/2^j%2=1↔x/2^j%2≠y/2^j%2:=by
 have h1:=zb (x:=x^^^y) (i:=j)
 have h2:=zb (x:=x) (i:=j)
 have h3:=zb (x:=y) (i:=j)
 rw [Nat.testBit_xor,h2,h3] at h1
 have a2:x/2^j%2<2:=Nat.mod_lt _ xC
 have a3:y/2^j%2<2:=Nat.mod_lt _ xC
 have hx:x/2^j%2=0\/x/2^j%2=1:=xB
 have hy:y/2^j%2=0\/y/2^j%2=1:=xB
 rcases hx with hx|hx<;>rcases hy with hy|hy<;>rw [hx,hy] at h1⊢ <;>simp at h1<;>omega
theorem qZY{k q:xA}(hk:k.length=16)(hq:q.length=16){i:Nat}(hi:i<16)(hs: ∀j,j<i->k.getD j 0=q.getD j 0)(hn:(k.getD i 0^^^q.getD i 0).toNat≠0):
    Two k q (8*i+(8-qKS (k.getD i 0^^^q.getD i 0).toNat)):=by
  obtain ⟨x,hx⟩: ∃x,x=(k.getD i 0^^^q.getD i 0).toNat:=⟨_,rfl⟩
  rw [<-hx] at hn⊢
  have hxl:x<256:=by rw [hx];exact(k.getD i 0^^^q.getD i 0).toNat_lt
  obtain ⟨h1,h2,h3,h4⟩:=qZC ⟨x,hxl⟩ hn
  dsimp only at h1 h2 h3 h4
  have hxe:x=(k.getD i 0).toNat^^^(q.getD i 0).toNat:=by rw [hx,UInt8.toNat_xor]
  have hbit: ∀(z:Nat),z<8->Sm.bit k (8*i+z)=(k.getD i 0).toNat/2^(7-z)%2/\Sm.bit q (8*i+z)=(q.getD i 0).toNat/2^(7-z)%2:=λz hz=>by
    unfold Sm.bit
    rw [yX xB,yX xB,show(8*i+z)/8=i by omega,show(8*i+z)%8=z by omega]
    exact⟨O,O⟩
  refine⟨hk,hq,xB,λj hj=>?_,?_⟩
  . by_cases hji:j/8<i
    . unfold Sm.bit
      rw [yX xB,yX xB,hs _ hji]
    . have hj8:j=8*i+(j-8*i):=by omega
      obtain ⟨b1,b2⟩:=hbit (j-8*i) xB
      rw [<-hj8] at b1 b2
      rw [b1,b2]
      have h5: ¬(x/2^(7-(j-8*i))%2=1):=by
        have h6:x/2^(7-(j-8*i))=0:=zC (j8 h4 (jZ xC xB))
        rw [h6];decide
      rw [hxe] at h5
      exact Decidable.by_contra λh=>h5 ((qNE _ _ _).2 h)
  . obtain ⟨b1,b2⟩:=hbit (8-qKS x) xB
    rw [b1,b2,show 7-(8-qKS x)=qKS x-1 by omega]
    rw [hxe] at h3
    exact(qNE _ _ _).1 (by rw [<-hxe];rw [<-hxe] at h3;exact h3)
def qYZ:xA:= [0,1,2,2,3,3,3,3,4,4,4,4,4,4,4,4,5,5,5,5,5,5,5,5,5,5,5,5,5,5,5,5,6,6,6,6,6,6,6,6,6,6,6,6,6,6,6,6,6,6,6,6,6,6,6,6,6,6,6,6,6,6,6,6,7,7,7,7,7,7,7,7,7,7,7,7,7,7,7,7,7,7,7,7,7,7,7,7,7,7,7,7,7,7,7,7,7,7,7,7,7,7,7,7,7,7,7,7,7,7,7,7,7,7,7,7,7,7,7,7,7,7,7,7,7,7,7,7,8,8,8,8,8,8,8,8,8,8,8,8,8,8,8,8,8,8,8,8,8,8,8,8,8,8,8,8,8,8,8,8,8,8,8,8,8,8,8,8,8,8,8,8,8,8,8,8,8,8,8,8,8,8,8,8,8,8,8,8,8,8,8,8,8,8,8,8,8,8,8,8,8,8,8,8,8,8,8,8,8,8,8,8,8,8,8,8,8,8,8,8,8,8,8,8,8,8,8,8,8,8,8,8,8,8,8,8,8,8,8,8,8,8,8,8,8,8,8,8,8,8,8,8,8,8,8,8]
theorem qU8: ∀x:Fin 256,qYZ[x.val]?=some (UInt8.ofNat (qKS x.val)):=by decide+kernel
theorem qYY(x:UInt8):qYZ[x.toNat]?=some (UInt8.ofNat (qKS x.toNat)):=qU8 ⟨x.toNat,x.toNat_lt⟩
theorem qR4: ∀x:Fin 256,qKS x.val<=8:=by decide+kernel
theorem qaB(x:UInt8):(UInt8.ofNat (qKS x.toNat)).toNat=qKS x.toNat:=by
 have:=qR4 ⟨x.toNat,x.toNat_lt⟩
 dsimp only at this
 rw [jm];omega
theorem qaC(x:UInt8):qKS x.toNat<=8:=qR4 ⟨x.toNat,x.toNat_lt⟩
theorem qZh{k q:xA}(hk:k.length=16)(hq:q.length=16)(h: ∀j,j<16->k.getD j 0=q.getD j 0):q=k:=by
 refine List.ext_getElem xB λj h1 h2=>?_
 have:=h j xB
 rw [jB,jB,jD h1,jD h2] at this
 exact this.symm
def qLx(bs:List xA)(th:Bool)(pk pv k v:xA)(d:Nat):xA:=if th=true/\pk≠k then Sm.ndB [(k,v),(pk,pv)] k (d+bs.length) else Sb.leafN k v
def qGT(bs:List xA)(th:Bool)(pk pv k v:xA)(d:Nat):xA:=clm k d bs (qLx bs th pk pv k v d) bs.length
theorem qMT{kv:List Sm.PR}(hf:qCD kv){k v:xA}(hk:k.length=16)(hv:v.length<=1000000)(hl:kv.length<=100000){d s:Nat}(h:qNA kv k d s):
    qGT (bsd kv k d (s-d)) (qBB kv k s) (qC0 kv k s) (qDL kv k s) k v d=Sm.ndB (Sm.putP kv k v) k d:=by
  have h1:=h.le
  have h2:=h.ge
  have hone:=h.one
  have hf':=hf.put hk hv hl
  have h3:=qKI hf' hk (d:=d) (n:=s-d) xB (s-d) (jL _)
  rw [show d+(s-d)=s by omega,show s-(s-d)=d by omega,qZF hf hk hv hl xB] at h3
  unfold qGT
  rw [qDA,<-h3]
  congr 1
  unfold qLx
  rw [qDA,show d+(s-d)=s by omega]
  split
  . rename_i hc
    have hc1:(kd kv k s).length=1:=yc hc.1
    exact(qUT hf hk hv hl h1 (qKF hf.once hc1) hc.2).symm
  . rename_i hc
    refine(qXz hf hk hv hl h1 λp hp=>?_).symm
    have hc1:(kd kv k s).length=1:=by
      rw [qI4 hf.once]
      have:=List.length_pos_of_mem hp
      omega
    have ht:qBB kv k s=true:=ya hc1
    rw [qKF hf.once hc1,ji] at hp
    rw [hp]
    exact Decidable.by_contra λq=>hc ⟨ht,q⟩
theorem qZS{x y:UInt8}(h:(x^^^y).toNat=0):x=y:=by
 have:x^^^y=0:=UInt8.toNat_inj.1 h
 exact UInt8.xor_eq_zero_iff.1 this
theorem qYX(F:Hp)(x:UInt8):Cz prog 291 [B8 (x)] F (I (qKS x.toNat:Nat)):=by
 refine y7 func291 O ntmps291 O (λw0 hw0=>?_)
 change J _ [(0,_)] _ _ _
 exact yl λ_ C1=>yh O<|yi C1<|yl λ_ C2=>yh O<|yj (qA9 (a:=qYZ) u9_ O O O (qYY x)) O<|yj (qBG O O u5_ u3_) O<|yh O<|yi C2<|yr<|yw hw0 O () (by rw [qaB]) yd [0] O xC
theorem qVB(F:Hp)(x:UInt8):Cz prog 265 [B8 (x)] F (I (8-qKS x.toNat:Nat)):=by
 have h8:=qaC x
 refine y7 func265 O ntmps265 O (λw0 hw0=>?_)
 change J _ [(0,_)] _ _ _
 exact yl λ_ C1=>yh O<|yi C1<|yl λ_ C2=>yh O<|yp (qAZ O O (λF' hF=>qYX F' x)) O λg4 _=>yj (qAm O O O xB) O<|yh O<|yi C2<|yr<|yw hw0 O () (yY I xB) yd [0] O xC
theorem qSq(F:Hp)(k q:xA)(hk:k.length=16)(hq:q.length=16)(hne:q≠k):Ct prog 215 [Str k,Str q] [F] (λx:Nat=>I (x:Nat)) (λx=>Two k q x) (λ_=> [F]):=by
 refine y7 func215 O ntmps215 O (λw0 hw0=>?_)
 change J _ [(0,_),(1,_)] _ _ _
 refine yl λ_ C1=>yh O<|yi C1<|yl λ_ C2=>yh O<|yj (qAn u9_ O O) O<|yh O<|yj (qAn u9_ O O) O<|yj ((qEx O O O).nat (min k.length q.length) xB) O<|yh O<|yi C2<|ym λ_ C3=>yl λ_ C4=>yn 2 O<|yi C4<|yz<|vN (X:=Nat) (λζ=> [(0,Str (k)),(1,Str (q)),(5,I (min k.length q.length:Nat)),(13,I (min k.length q.length:Nat)),(14,I (ζ:Nat))]) (λζ=> [F]) (λζ=>ζ<=16/\ ∀j,j<ζ->k.getD j 0=q.getD j 0) (λζ=>16-ζ) 0 (⟨jH _,λj h=>absurd h (jz j)⟩) (Sub.of O) (λ_ h=>h) ?_
 rintro i ⟨hi,hs⟩ I0 hI0
 refine yl λ_ C5=>yj (qAP O O O) O<|yi C5<|ym λ_ C6=>y1 O (λh15=>?_) (λh15=>?_)
 .
  refine yy C6<|ym λ_ C7=>yz<|yl λ_ C8=>yn 2 O<|yi C8<|ym λ_ C9=>vQ [F] [] (.y 0 (.y 1 (.y 2 (.y 3 (.y 4 (.y 5 (.y 6 (.y 7 .nil)))))))) ye xF xD ?_
  refine yx ?_
  refine yx ?_
  refine yo O (qA9 (c:=k.getD i 0) u9_ O O O (qAc 0 xB)) O O<|yx ?_
  refine yx ?_
  refine yo O (qA9 (c:=q.getD i 0) u9_ O O O (qAc 0 xB)) O O<|yo O (qRS O O O) O O<|vU ?_
  refine vM<|yq (yu C9 ?_)
  refine yl λ_ C10=>yh O<|yj (qAQ O O O) O<|yi C10<|y1 O (λh25=>?_) (λh25=>?_)
  .
   exact yl λ_ C11=>yh O<|yj ((qCA O O O xB).nat (8*i) xB) O<|yh O<|yp (qAZ O O (λF' hF=>qVB F' ((k.getD i 0)^^^(q.getD i 0)))) O λg29 _=>yj ((qAM O O O xB).as (v':=I (8*i+(8-qKS ((k.getD i 0)^^^(q.getD i 0)).toNat):Nat)) (yY I xB)) O<|yh O<|yi C11<|yr<|vI<|y5<|y5<|vI<|y5<|yw hw0 O (8*i+(8-qKS (k.getD i 0^^^q.getD i 0).toNat)) O (qZY hk hq xB hs xB) [0] O xC
  refine vP<|vB<|yq (yu C7 ?_)
  exact yt<|yj ((qAM O O O xB).nat (i+1) xB) O<|yh O<|y8<|yq<|vE (i+1) hI0 ⟨xB,λj hj=>by rcases Nat.lt_succ_iff_lt_or_eq.1 hj with h|rfl;exact hs j h;exact qZS xB⟩ (Sub.of O) (λ_ h=>h)
 refine vK<|y6<|y6<|vL ?_
 refine yq (yu C3 ?_)
 refine ym λ_ C12=>?_
 have hfalse:False:=hne (qZh hk hq λj hj=>hs j xB)
 exact yt<|yh O<|yj ((qCA O O O xB).nat (8*(min k.length q.length)) xB) O<|yh O<|yi C12<|yr<|vH hw0 (λ_ _ h=>h) (qIM O O) hfalse.elim
theorem qUd(F:Hp)(hK:yf F)(k q:xA)(hk:k.length=16)(hq:q.length=16)(hne:q≠k)(v w:xA)(hv:v.length<=1000000)(hw:w.length<=1000000)(d:Nat)(hb:Sm.belowB q k d=true):Cz prog 148 [Str k,Str q,Str (Sb.leafN k v),Str (Sb.leafN q w),I (d:Nat)] F (Str (Sm.ndB [(k,v),(q,w)] k d)):=by
 have hl1:=qDT k v
 have hl2:=qDT q w
 refine y7 func148 O ntmps148 O (λw0 hw0=>?_)
 change J _ [(0,_),(1,_),(2,_),(3,_),(4,_)] _ _ _
 refine yl λ_ C1=>yh O<|yi C1<|yl λ_ C2=>yn 2 O<|yp (qAJ O O ent (Ct.use (new:=λ_:Nat=> []) (λF' _=>qSq F' k q hk hq hne))) O ?_
 rintro a15 h15
 change J _ ((15,I (a15:Nat))::_) _ [F] _
 refine yh O<|yi C2<|ym λ_ C3=>ym λ_ C4=>?_
 have hlt:=h15.lt
 have hda:=h15.le hb
 have htop:=h15.top hv hw
 unfold up at htop
 refine yt<|yn 2 O<|yp (qAZ O O (λF' hF=>qGS F' k (by first|omega|exact hsm _) a15 xB)) O λg18 _=>yj (qAR O O O) O<|yi C4<|y1 O (λh19=>?_) (λh19=>?_)
 .
  refine yt<|yn 4 O<|yi C3<|yl λ_ C5=>yn 2 O<|yp (qAZ O O (λF' hF=>qCS F' (hK.mo hF) (Sb.leafN q w) (Sb.leafN k v) xB xB)) O λg24 _=>yh O<|yi C5<|ym λ_ C6=>ym λ_ C7=>?_
  first|rw [yW xB] at htop|rw [yX (by have:=Sm.bit_le k a15;omega)] at htop
  rw [<-htop]
  refine yt<|yh O<|yj (qAm O O O xB) O<|yh O<|yi C7<|yz<|vN (X:=Nat) (λζ=> [(0,Str (k)),(4,I (d:Nat)),(11,I (((ζ:Nat):Int)-1)),(12,Str (Sm.ndB [(k,v),(q,w)] k ζ))]) (λζ=> [F]) (λζ=>d<=ζ/\ζ<=a15) (λζ=>ζ) a15 (⟨hda,jL _⟩) (Sub.of O) (λ_ h=>h) ?_
  rintro e ⟨he1,he2⟩ I0 hI0
  have hone:([0]:xA).length=1:=rfl
  have hns:=qFZ [(k,v),(q,w)] k e
  refine ym λ_ C8=>yl λ_ C9=>yn 2 O<|yj (qA1 O O O) O<|yi C9<|y1 O (λh29=>?_) (λh29=>?_)
  .
   refine yy C8<|ym λ_ C10=>yz<|yl λ_ C11=>yh O<|yj ((qAT O O).nat (e-1) xB) O<|yp (qAZ O O (λF' hF=>qGS F' k (by first|omega|exact hsm _) (e-1) xB)) O λg34 _=>yj (qAR O O O) O<|yi C11<|y1 O (λh35=>?_) (λh35=>?_)
   .
    refine yt<|yh O<|yp (qAZ O O (λF' hF=>qCS F' (hK.mo hF) (Sm.ndB [(k,v),(q,w)] k e) ([0]) xB xB)) O λg37 _=>yh O<|y8<|vB<|yq (yu C10 ?_)
    exact yt<|yh O<|yj (qAm O O O xB) O<|yh O<|y8<|yq<|vE (e-1) hI0 ⟨xB,xB⟩ ⟨O,O,yY (λz=>some (I z)) xB,yY (λz=>some (Str z)) (by rw [h15.step hv hw (show e-1<a15 by omega),show e-1+1=e by omega];unfold up;first|rw [yX xB]|rw [yW xB]),yd⟩ (λ_ h=>h)
   refine yt<|yh O<|yp (qAZ O O (λF' hF=>qCS F' (hK.mo hF) ([0]) (Sm.ndB [(k,v),(q,w)] k e) xB xB)) O λg39 _=>yh O<|y8<|vB<|yq (yu C10 ?_)
   exact yt<|yh O<|yj (qAm O O O xB) O<|yh O<|y8<|yq<|vE (e-1) hI0 ⟨xB,xB⟩ ⟨O,O,yY (λz=>some (I z)) xB,yY (λz=>some (Str z)) (by rw [h15.step hv hw (show e-1<a15 by omega),show e-1+1=e by omega];unfold up;first|rw [yX xB]|rw [yW xB]),yd⟩ (λ_ h=>h)
  refine vK<|y6<|y6<|vL ?_
  refine yq (yu C6 ?_)
  exact yl λ_ C12=>yn 2 O<|yi C12<|yr<|yw hw0 O () (yY Str (by rw [show e=d by omega])) yd [0] O xC
 refine yy C3<|yl λ_ C13=>yn 2 O<|yp (qAZ O O (λF' hF=>qCS F' (hK.mo hF) (Sb.leafN k v) (Sb.leafN q w) xB xB)) O λg24 _=>yh O<|yi C13<|ym λ_ C14=>ym λ_ C15=>?_
 first|rw [yW xB] at htop|rw [yX (by have:=Sm.bit_le k a15;omega)] at htop
 rw [<-htop]
 refine yt<|yh O<|yj (qAm O O O xB) O<|yh O<|yi C15<|yz<|vN (X:=Nat) (λζ=> [(0,Str (k)),(4,I (d:Nat)),(11,I (((ζ:Nat):Int)-1)),(12,Str (Sm.ndB [(k,v),(q,w)] k ζ))]) (λζ=> [F]) (λζ=>d<=ζ/\ζ<=a15) (λζ=>ζ) a15 (⟨hda,jL _⟩) (Sub.of O) (λ_ h=>h) ?_
 rintro e ⟨he1,he2⟩ I0 hI0
 have hone:([0]:xA).length=1:=rfl
 have hns:=qFZ [(k,v),(q,w)] k e
 refine ym λ_ C16=>yl λ_ C17=>yn 2 O<|yj (qA1 O O O) O<|yi C17<|y1 O (λh29=>?_) (λh29=>?_)
 .
  refine yy C16<|ym λ_ C18=>yz<|yl λ_ C19=>yh O<|yj ((qAT O O).nat (e-1) xB) O<|yp (qAZ O O (λF' hF=>qGS F' k (by first|omega|exact hsm _) (e-1) xB)) O λg34 _=>yj (qAR O O O) O<|yi C19<|y1 O (λh35=>?_) (λh35=>?_)
  .
   refine yt<|yh O<|yp (qAZ O O (λF' hF=>qCS F' (hK.mo hF) (Sm.ndB [(k,v),(q,w)] k e) ([0]) xB xB)) O λg37 _=>yh O<|y8<|vB<|yq (yu C18 ?_)
   exact yt<|yh O<|yj (qAm O O O xB) O<|yh O<|y8<|yq<|vE (e-1) hI0 ⟨xB,xB⟩ ⟨O,O,yY (λz=>some (I z)) xB,yY (λz=>some (Str z)) (by rw [h15.step hv hw (show e-1<a15 by omega),show e-1+1=e by omega];unfold up;first|rw [yX xB]|rw [yW xB]),yd⟩ (λ_ h=>h)
  refine yt<|yh O<|yp (qAZ O O (λF' hF=>qCS F' (hK.mo hF) ([0]) (Sm.ndB [(k,v),(q,w)] k e) xB xB)) O λg39 _=>yh O<|y8<|vB<|yq (yu C18 ?_)
  exact yt<|yh O<|yj (qAm O O O xB) O<|yh O<|y8<|yq<|vE (e-1) hI0 ⟨xB,xB⟩ ⟨O,O,yY (λz=>some (I z)) xB,yY (λz=>some (Str z)) (by rw [h15.step hv hw (show e-1<a15 by omega),show e-1+1=e by omega];unfold up;first|rw [yX xB]|rw [yW xB]),yd⟩ (λ_ h=>h)
 refine vK<|y6<|y6<|vL ?_
 refine yq (yu C14 ?_)
 exact yl λ_ C20=>yn 2 O<|yi C20<|yr<|yw hw0 O () (yY Str (by rw [show e=d by omega])) yd [0] O xC
theorem qPo(F:Hp)(hK:yf F)(A:yS)(c:Nat)(bs:List xA)(hs:Sl F 1 A bs.length c (qAG bs))(th:Bool)(pk pv k:xA)(d:Nat)(hg:qNB bs th pk pv k d)(v:xA)(hv:v.length<=1000000)(hpv:pv.length<=1000000):Cz prog 74 [.agg #[.slice A bs.length c,.bool (th),Str (pk),Str (pv)],Str (k),Str (v),I (d:Nat)] F (.tuple #[Str (qGT bs th pk pv k v d),I (0:Nat)]):=by
 have hle:=hg.le
 have hk16:=hg.k16
 have hsm:=hg.small
 have hl17:=qDT k v
 have hn17:=qFZ [(k,v),(pk,pv)] k (d+bs.length)
 refine y7 func74 O ntmps74 O (λw0 hw0=>?_)
 change J _ [(0,_),(1,_),(2,_),(3,_)] _ _ _
 refine yl λ_ C1=>yp (qAi (l:= [.slice A bs.length c,.bool (th),Str (pk),Str (pv)]) O O O) O λg4 _=>?_
 change J _ _ _ [F,blk g4 [.slice A bs.length c,.bool (th),Str (pk),Str (pv)] 87] _
 refine yn 2 O<|yi C1<|ym λ_ C2=>yl λ_ C3=>vT 1 qHD qEa O O O O O<|yn 2 O<|yp (qAZ O O (λF' hF=>qHv F' A c bs (hs.mono (Fa hF)) th pk pv k d xG)) O λg14 _=>yj ((qA5 O O).as (v':= .bool false) O) O<|yi C3<|vC ?_
 refine yy C2<|yl λ_ C4=>yn 2 O<|yp (qAZ O O (λF' hF=>qGn F' (hK.mo hF) k v (by first|omega|exact jW O) (by first|omega|exact jW O))) O λg18 _=>yh O<|yi C4<|ym λ_ C5=>yl λ_ C6=>vA 1 qDj z4_ O O O O O<|yj (qAD 1 (v:= .bool (th)) O O O b4_ O) O<|yh O<|vz (d:=21) O (λh21=>?_) (λh21=>?_)
 .
  refine yv (qAA (j:=2) O O qDj O z9_ O) O<|yv (qAD 1 (v:=Str (pk)) O O O b9_ O) O<|yh O<|yv (qB9 O O O) O<|yh O<|yi C6<|y1 O (λh26=>?_) (λh26=>?_)
  .
   obtain ⟨hpt,hpn⟩:th=true/\pk≠k:=⟨h21,h26⟩
   obtain ⟨hpl,hpb⟩:=hg.yes hpt
   have haE:qLx bs th pk pv k v d=Sm.ndB [(k,v),(pk,pv)] k (d+bs.length):=yX ⟨hpt,hpn⟩
   refine vQ [F,blk g4 [.slice A bs.length c,.bool (th),Str (pk),Str (pv)] 87] [] (.y 0 (.y 1 (.y 2 (.y 3 (.y 4 (.y 5 (.y 6 (.y 7 (.y 9 (.y 10 (.y 11 (.y 12 (.y 13 (.e 8 (.e 14 (.y 15 .nil)))))))))))))))) ye xF xD ?_
   refine yx ?_
   refine yo O (qAA (j:=2) O O qDj O z9_ O) O O<|yo O (qAD 1 (v:=Str (pk)) O O O b9_ O) O O<|yx ?_
   refine yo O (qAA (j:=2) O O qDj O z9_ O) O O<|yo O (qAD 1 (v:=Str (pk)) O O O b9_ O) O O<|yo O (qAA (j:=3) O O qDj O z9_ O) O O<|yo O (qAD 1 (v:=Str (pv)) O O O b9_ O) O O<|yx ?_
   refine yo O (qAA (j:=0) O O qDj O qBs O) O O<|yo O (qAD 1 (v:= .slice A bs.length c) O O O qB7 O) O O<|yo O (qAN qAg O O) O O<|yo O ((qAM O O O xB).nat (d+bs.length) xB) O O<|vD O (qAZ O O (λF' hF=>qGn F' (hK.mo hF) pk pv (by first|omega|exact jW O) (by first|omega|exact jW O))) O xD λg35 _=>vD O (qAZ O O (λF' hF=>qUd F' (hK.mo hF) k pk hk16 hpl hpn v pv hv hpv (d+bs.length) hpb)) O xD λg41 _=>vU ?_
   refine vM<|yq (yu C5 ?_)
   exact yl λ_ C7=>vT 1 qHD qEa O O O O O<|yn 3 O<|yp (qAZ O O (λF' hF=>qEN F' (hK.mo hF) A c bs (hs.mono (Fa hF)) th pk pv (Sm.ndB [(k,v),(pk,pv)] k (d+bs.length)) k d xG xG xG (by first|assumption|exact qDT _ _|exact jW O))) O λg46 _=>yn 2 O<|yi C7<|yr<|vH hw0 (λ_ _ h=>h) (qB5 O O O) (qAf () (by unfold qGT;rw [haE];rfl) yd [0] O xC)
  have haE:qLx bs th pk pv k v d=Sb.leafN k v:=yW (λh=>h26 h.2)
  exact yy C5<|yl λ_ C8=>vT 1 qHD qEa O O O O O<|yn 3 O<|yp (qAZ O O (λF' hF=>qEN F' (hK.mo hF) A c bs (hs.mono (Fa hF)) th pk pv (Sb.leafN k v) k d xG xG xG (by first|assumption|exact qDT _ _|exact jW O))) O λg46 _=>yn 2 O<|yi C8<|yr<|vH hw0 (λ_ _ h=>h) (qB5 O O O) (qAf () (by unfold qGT;rw [haE];rfl) yd [0] O xC)
 have haE:qLx bs th pk pv k v d=Sb.leafN k v:=yW (λh=>by rw [h21] at h;exact absurd h.1 xC)
 refine yn 5 O<|yi C6<|vC ?_
 exact yy C5<|yl λ_ C9=>vT 1 qHD qEa O O O O O<|yn 3 O<|yp (qAZ O O (λF' hF=>qEN F' (hK.mo hF) A c bs (hs.mono (Fa hF)) th pk pv (Sb.leafN k v) k d xG xG xG (by first|assumption|exact qDT _ _|exact jW O))) O λg46 _=>yn 2 O<|yi C9<|yr<|vH hw0 (λ_ _ h=>h) (qB5 O O O) (qAf () (by unfold qGT;rw [haE];rfl) yd [0] O xC)
attribute [local irreducible] Sha.tagged Sb.join Sb.lvl Sb.lvls Sb.root
theorem qVk(F:Hp)(A:yS)(n c:Nat):Ct prog 187 [.slice A n c,I 2] [F] (λx:Nat×Nat=> .func (.func 246) #[] #[Ptr x.1,Ptr x.2]) (λ_=>True) (λx=> [F,blk x.1 [.slice A n c] 50,blk x.2 [I 2] 3]):=by
 refine y7 func187 O ntmps187 O (λw0 hw0=>?_)
 refine yl λ_ C1=>yp (qAi O O O) O λg2 _=>yp (qAi O O O) O λg3 _=>yh O<|yi C1<|ym λ_ C2=>yl λ_ C3=>vF 2 b3_ O O O O O<|yj ((qAP O O O).no xB) O<|yi C3<|vC ?_
 exact yy C2<|yl λ_ C4=>yj (qBt O O) O<|yh O<|yi C4<|yr<|yw hw0 O (g2,g3) O yd [0,1,2] O xC
theorem qSv(Fr:Hp)(gA gB:Nat)(A:yS)(N n c:Nat)(hn:n=2*N)(hnc:n<=c)(hn2:n<=1073741824)(ha:qAI Fr ⟨gA,0,none⟩ [.slice A n c])(hb:qAI Fr ⟨gB,0,none⟩ [I 2]):
    qGh prog 246 [Ptr gA,Ptr gB] Fr (λi=> [.slice (A.map (·.add (2*i*1))) 2 2]) N:=by
  refine qGh.walk func246 O ntmps246 O (λ{X} M IY S l x0 w0 hw0 h0 hY=>?_)
  refine yl λ_ C1=>yh O<|yi C1<|yz<|vN (X:=Nat×X) (λy=> [(0,.func (.yield l) #[] #[]),(1,Ptr gA),(2,Ptr gB),(4,I (2*y.1:Nat))]) (λy=> [Fr,M y.2]) (λy=>y.1<=N/\IY y.1 y.2) (λy=>N-y.1) (0,x0) (⟨jH _,h0⟩) (Sub.of O) (λ_ h=>h) ?_
  rintro⟨i,x⟩ ⟨hi,hI⟩ I0 hI0
  dsimp only at hi hI⊢
  refine ym λ_ C2=>yl λ_ C3=>yh O<|yj (qAH O O qB7 (m:=Fr) xD (ha)) O<|yj (qAN qAg O O) O<|yj (qAP O O O) O<|yi C3<|y1 O (λh9=>?_) (λh9=>?_)
  .
    refine yy C2<|ym λ_ C4=>yz<|ym λ_ C5=>vQ [Fr,M x] [] (.y 0 (.y 1 (.y 2 (.y 3 (.y 4 (.y 5 (.y 6 .nil))))))) ye xF xD ?_
    refine yo O (qAH O O b3_ (m:=Fr) xD (hb)) O O<|yo O (qAH O O qB7 (m:=Fr) xD (ha)) O O<|yx ?_
    refine yo O (qCi O O qAg z9_ O O xB) O O<|yo O (qAN qAg O O) O O<|yo O ((qEx O O O).nat (2) xB) O O<|vU ?_
    refine vM<|yq (yu C5 ?_)
    refine ym λ_ C6=>wN ?_
    refine vc (qAT O O) O O O ?_
    refine vc (qAH O O qB7 (m:=Fr) xD (ha)) O O O ?_
    refine vc (qAT O O) O O O ?_
    refine vc (qAT O O) O O O ?_
    refine vc (qAT O O) O O O ?_
    refine vc ((qAM O O O xB).nat (2*i+2) xB) O O O ?_
    refine vc (qAT O O) O O O ?_
    refine vc (qAT O O) O O O ?_
    refine vc ((qAM O O O xB).nat (2*i+2) xB) O O O ?_
    refine vc ((qPF O O qAg z9_ O O O xB).as (v':= .slice (A.map (·.add (2*i*1))) 2 2) (by rw [yW xB,show 2*i+2-2*i=2 by omega])) O O O ?_
    refine wO (ex:= []) O O O O O O (hY i x xB hI) ?_
    rintro x' b hb1 hb2
    cases b
    .
      have hyb:=hb2 O
      refine vc (qA5 O O) O O O ?_
      refine vy ?_
      refine yq (yu C6 ?_)
      refine vV ?_
      exact yr<|vI<|y5<|y5<|vI<|vH hw0 (λ_ _ h=>h) (qIj O) (λw hs=>⟨x',⟨_,O⟩,.inr hyb,hs⟩)
    have hyb:=hb1 O
    refine vc (qA5 O O) O O O ?_
    refine vy ?_
    refine yq (yu C6 ?_)
    refine vC ?_
    refine vP<|vB<|yq (yu C4 ?_)
    exact yt<|yh O<|yj (qAH O O b3_ (m:=Fr) xD (hb)) O<|yj ((qAM O O O xB).nat (2*(i+1)) xB) O<|yh O<|y8<|yq<|vE (i+1,x') hI0 ⟨by dsimp only;omega,hyb⟩ (Sub.of O) (λ_ h=>h)
  refine vK<|y6<|y6<|vL ?_
  exact vo hw0 (λ_ _ h=>h) (qIj O) (λw hs=>⟨x,⟨_,O⟩,.inl (by rw [show N=i by omega];exact hI),hs⟩)
theorem qDB(F:Hp)(d:Int):Cz prog 44 [I d] F (I (cnt d)):=by
 refine y7 func44 O ntmps44 O (λw0 hw0=>?_)
 refine yl λ_ C1=>yh O<|yi C1<|ym λ_ C2=>yl λ_ C3=>yh O<|yj (qAP O O O) O<|yh O<|vO (d:=5) O (λh5=>?_) (λh5=>?_)
 .
  refine yn 3 O<|yi C3<|vV ?_
  exact yl λ_ C4=>yh O<|yi C4<|yr<|y5<|yw hw0 O () (by rw [qG9.2 xB];rfl) yd [0] O xC
 refine yh O<|yv (qAs O O O) O<|yh O<|yi C3<|y1 O (λh8=>?_) (λh8=>?_)
 .
  exact yl λ_ C5=>yh O<|yi C5<|yr<|y5<|yw hw0 O () (by rw [qG9.2 xB];rfl) yd [0] O xC
 exact yy C2<|yl λ_ C6=>yh O<|yj ((qJl O O (by show some (I d)=_;rw [show((d.toNat:Nat):Int)=d by omega]) ⟨xB,by have:=Int.pow_pos (n:=2) (m:=d.toNat) xC;omega,by rw [Int.one_mul];have h1:=jZ (n:=2) xC (show d.toNat<=4 by omega);have h2:((2^d.toNat:Nat):Int)<=((2^4:Nat):Int):=Int.ofNat_le.2 h1;simp only [Int.natCast_pow] at h2;exact Int.le_trans h2 xC⟩).as (v':=I (cnt d)) (yY I (by unfold cnt;rw [yW xB];simp))) O<|yh O<|yi C6<|yr<|yw hw0 O () O yd [0] O xC
theorem qVt(F:Hp)(hK:yf F)(d:Int)(l:List xA)(A:yS)(c:Nat)(hsl:Sl F 1 A l.length c (qAG l))(hsm: ∀s∈l,s.length<=1048576):
    Cz prog 105 [.slice A l.length c,I d] F (.tuple #[Str (qLs l d),I (qLt l d)]):=by
  refine y7 func105 O ntmps105 O (λw0 hw0=>?_)
  refine yl λ_ C1=>yn 2 O<|yi C1<|ym λ_ C2=>yl λ_ C3=>yh O<|yp (qAZ O O (λF' hF=>qDB F' d)) O λg10 _=>yh O<|yi C3<|yz<|yl λ_ C4=>yh O<|yj (qAR O O O) O<|yh O<|yi C4<|y1 O (λh11=>?_) (λh11=>?_)
  .
    exact yl λ_ C5=>yn 2 O<|yi C5<|yr<|vI<|y5<|vH hw0 (λ_ _ h=>h) (qB5 O O O) (qAf () (by unfold qLs qLt;rw [yX (show cnt d=0 by omega)];rfl) yd [0] O xC)
  refine yl λ_ C6=>yn 2 O<|yj (qAN qAg O O) O<|yj (qAQ O O O) O<|yh O<|ve [0,1] [F,(λ_=>none)] O xC<|yi C6<|y1 O (λh14=>?_) (λh14=>?_)
  .
    exact yl λ_ C7=>yn 2 O<|yi C7<|yr<|vI<|y5<|vH hw0 (λ_ _ h=>h) (qB5 O O O) (qAf () (by unfold qLs qLt;rw [yW (show¬cnt d=0 by omega),yX (show l.length≠cnt d by omega)];rfl) yd [0] O xC)
  refine vP<|vB<|yq (yu C2 ?_)
  refine ym λ_ C8=>yz ?_
  have hd0:cnt d≠0:=xB
  have hld:l.length=2^d.toNat:=by rw [<-qZB hd0];omega
  have hd4: ¬(d<0\/4<d):=λe=>hd0 (qG9.2 e)
  refine wm (X:=Nat×yS×Nat×Hp) (λx=> [(0,.slice x.2.1 (Sb.lvls l x.1).length x.2.2.1)]) (λx=> [F,x.2.2.2]) (λx=>x.1<=d.toNat/\ ∃m,(m=F\/m=x.2.2.2)/\Sl m 1 x.2.1 (Sb.lvls l x.1).length x.2.2.1 (qAG (Sb.lvls l x.1))) (λx=>d.toNat-x.1) (0,A,c,λ_=>none) (⟨jH _,F,.inl O,by rw [Sb.lvls_zero];exact hsl⟩) ⟨by rw [Sb.lvls_zero];rfl,yd⟩ (λ_ h=>h) ?_
  rintro⟨k,A',c',mm⟩ wL ⟨hk,m,hm,hsl'⟩ hxL I0 hI0
  dsimp only at hk hm hsl'⊢
  obtain ⟨L,hL⟩: ∃L,L=Sb.lvls l k:=⟨_,rfl⟩
  have hlen:=Sb.lvls_length hld k hk
  have hLs:=Sb.lvls_small hsm k
  have hp16:2^(d.toNat-k)<=16:=jf (jZ xC (show d.toNat-k<=4 by omega)) xC
  have hp1:=jy (d.toNat-k)
  refine ym λ_ C9=>yl λ_ C10=>yh O<|yj (qAN qAg O O) O<|yj (qAs O O O) O<|yi C10<|y1 O (λh21=>?_) (λh21=>?_)
  .
    refine yy C9<|yz<|yl λ_ C11=>yp (qAO O zeroValue50 O) O λg7 _=>yi C11<|ym λ_ C12=>ym λ_ C13=>?_
    rw [<-hL]
    refine yt<|yh O<|yp (qBx O O (λF' _=>qVk F' A' L.length c')) O ?_
    rintro⟨gA,gB⟩ _
    refine yi C13<|yz<|ve [2,5,0,1,3,4] [blk g7 [.slice none 0 0] 50,(λ_=>none),F,mm,blk gA [.slice A' L.length c'] 50,blk gB [I 2] 3] O xC ?_
    rw [<-hL] at hlen hsl' hLs h21
    obtain ⟨q,hq⟩: ∃q,d.toNat-k=q+1:=Nat.exists_eq_succ_of_ne_zero (λe=>by rw [e,Nat.pow_zero] at hlen;omega)
    have hev:L.length=2*(L.length/2):=by rw [hlen,hq,ju];omega
    have hLn:L.length<=1073741824:=xB
    have hlc:=hsl'.2.1
    refine wQ (λx:yS×Nat×Nat×Hp=> [blk g7 [.slice x.1 x.2.1 x.2.2.1] 50,x.2.2.2]) [F,mm,blk gA [.slice A' L.length c'] 50,blk gB [I 2] 3] (λi x=>x.2.1=i/\Row x.2.2.2 9 1 x.1 i x.2.2.1 (qAG ((Sb.lvl L).take i))) (λ_ _=>False) (none,0,0,λ_=>none) O ent (λFr hF=>qSv Fr gA gB A' (L.length/2) L.length c' hev hlc hLn (qAI.blk0.mono (hF (blk gA [.slice A' L.length c'] 50) xD)) (qAI.blk0.mono (hF (blk gB [I 2] 3) xD))) (λ_ _=>rfl) O (⟨O,by rw [zV];exact qBf.nil⟩) ?_ ?_ ?_
    .
      intro i x l wa wb hi hI K14 Post14 C14 hN14 hR14 hE14
      obtain ⟨Ax,nx,cx,mx⟩:=x
      obtain ⟨hnx,hr⟩:=hI
      dsimp only at hnx hr
      subst hnx
      have hc:=hsl'.cut (lo:=2*nx) (hi:=2*nx+2) (mx:=2*nx+2) xB xB xB
      rw [yW xB,show 2*nx+2-2*nx=2 by omega,qEd,qId] at hc
      have hcl:((L.take (2*nx+2)).drop (2*nx)).length=2:=by rw [jE,jF];omega
      have hc0:((L.take (2*nx+2)).drop (2*nx)).getD 0 []=L.getD (2*nx) []:=by simp [jB,js,zY]
      have hc1:((L.take (2*nx+2)).drop (2*nx)).getD 1 []=L.getD (2*nx+1) []:=by simp [jB,js,zY]
      refine vt ?_
      refine yh O<|vu ?_
      refine yq (C14 _ _ ?_)
      refine wM ?_
      refine we [blk g7 [.slice Ax nx cx] 50,F,mm,blk gA [.slice A' L.length c'] 50,blk gB [I 2] 3] [10] (.y 0 (.y 1 (.y 2 (.y 3 (.y 4 (.y 5 (.y 6 (.e 7 (.e 8 (.e 9 (.e 10 .nil))))))))))) ye xF xD ?_
      refine yo O (qAD 0 O O O qB7 O) O O<|yx ?_
      refine yo O (qAC (i:=0) O O O qAg z9_ hc xB) O O<|yo O (qAH O O b9_ (m:=m) (by rcases hm with rfl|rfl<;>simp) (hc.elem (qAa (qAc [] (show 0<((L.take (2*nx+2)).drop (2*nx)).length by rw [hcl];omega))|>.trans (by rw [hc0])))) O O<|yx ?_
      refine yo O (qAC (i:=1) O O O qAg z9_ hc xB) O O<|yo O (qAH O O b9_ (m:=m) (by rcases hm with rfl|rfl<;>simp) (hc.elem (qAa (qAc [] (show 1<((L.take (2*nx+2)).drop (2*nx)).length by rw [hcl];omega))|>.trans (by rw [hc1])))) O O<|vD O (qAZ O O (λF' hF=>qCS F' (hK.mo hF) (L.getD (2*nx) []) (L.getD (2*nx+1) []) (Sb.getD_small hLs _) (Sb.getD_small hLs _))) O xD λg32 _=>vD O (qAE (l:= [.tmp 32]) (xs:= [[Str (Sb.join (L.getD (2*nx) []) (L.getD (2*nx+1) []))]]) O O O O qAg el9 O xC xC xD) O xD λg33 _=>vD O (qAV (i:=1) (m2:=blk g33 [Str (Sb.join (L.getD (2*nx) []) (L.getD (2*nx+1) []))] 9) O O O qAg qAg el9 O hr xD (slS [Sb.join (L.getD (2*nx) []) (L.getD (2*nx+1) [])] O) (qDR _) xB xB) O xD ?_
      rintro⟨A34,c34,m34⟩ h34
      try dsimp only at h34
      refine vZ O (qAU (i:=0) O O O O O qBs O xD) O O O λ_ _=>vW [0,1,2,3,4,5] [blk g7 [.slice A34 (nx+1) c34] 50,m34,F,mm,blk gA [.slice A' L.length c'] 50,blk gB [I 2] 3] O xC<|wg ?_
      refine vB ?_
      exact hN14 _ (A34,nx+1,c34,m34) ⟨O,by rw [Sb.lvl_take xB];rw [show∀a b,qAG (a++b)=qAG a++qAG b from λa b=>by simp [qAG]];exact h34⟩
    .
      intro w14 x hx14 hI
      obtain ⟨Ax,nx,cx,mx⟩:=x
      obtain ⟨hnx,hr⟩:=hI
      dsimp only at hnx hr
      subst hnx
      have hlen1:(Sb.lvls l (k+1)).length=L.length/2:=by rw [Sb.lvls_succ,Sb.lvl_length,hL]
      have hfin:Sl mx 1 Ax (Sb.lvls l (k+1)).length cx (qAG (Sb.lvls l (k+1))):=by
        rw [hlen1,Sb.lvls_succ,<-hL]
        rw [jV (by rw [Sb.lvl_length];exact jL _)] at hr
        exact hr.sl
      refine vB<|yq (yu C12 ?_)
      refine yt<|vF 0 qB7 O O O O O<|vW [2,1] [F,mx] O xC<|yh O<|y8<|vB<|yq ?_
      rw [show Ax=Ax from rfl]
      exact vY (k+1,Ax,cx,mx) (λx (hx:_/\d.toNat-x.1<d.toNat-k)=>hI0 x _ hx.1 hx.2 hx14) ⟨⟨by dsimp only;omega,mx,.inr O,hfin⟩,by dsimp only;omega⟩ ⟨by dsimp only;rw [hlen1];rfl,yd⟩ (λ_ h=>h)
    intro w14 x c hx14 hS
    exact hS.elim
  refine vK<|y6<|y6<|vL ?_
  refine yq (yu C8 ?_)
  refine ym λ_ C15=>?_
  have hkd:k=d.toNat:=by
    by_cases e:k=d.toNat
    . exact e
    . have:=jZ (n:=2) xC (show 1<=d.toNat-k by omega)
      omega
  exact yt<|yh O<|yj (qAC (i:=0) O O O qAg z9_ hsl' xB) O<|yj (qAH O O b9_ (m:=m) (by rcases hm with rfl|rfl<;>simp) (v:=Str ((Sb.lvls l k).getD 0 [])) (hsl'.elem (qAa (qAc [] xB)))) O<|yn 2 O<|yi C15<|yr<|wG hw0 hxL (λ_ _ h=>h) (qB5 O O O) (qAf () (by unfold qLs qLt;rw [yW hd0,yW (show¬l.length≠cnt d by omega),yX rfl,Sb.root,<-hkd]) yd [0] O xC)
end Go.Proofs.YtmemgokiolfdoaaGreatDoor
namespace Go.Proofs.YtmemgokiolfdoaaGreatDoor
open Go Go.Fw Go.Proofs.Tryz
structure Tw where
 a:UInt8
 b:UInt8
 deriving DecidableEq
def Tw.cells(x:Tw):yU:= [B8 (x.a),B8 (x.b)]
def qC4(l:List Sm.PR)(d i:Nat):List xA:=(List.range i).map λj=>Sm.ndB l (kF j d) d
abbrev qAl(l:List Sm.PR)(d:Nat):List xA:=qC4 l d (2^d)
theorem qHj(l:List Sm.PR)(d i:Nat):qC4 l d (i+1)=qC4 l d i++ [Sm.ndB l (kF i d) d]:=by unfold qC4;rw [jt,jN];rfl
theorem qBk(l:List Sm.PR)(d i:Nat):(qC4 l d i).length=i:=by unfold qC4;rw [jJ,zF]
theorem qDZ(l:List Sm.PR)(d:Nat){i j:Nat}(h:j<i):(qC4 l d i).getD j []=Sm.ndB l (kF j d) d:=by
 unfold qC4
 rw [jB,jO,zD h];rfl
theorem qD2{d:Nat}(hd:d<=4):cnt ((d:Nat):Int)=2^d:=by
 unfold cnt
 rw [yW xB];rfl
theorem qTO{d:Nat}(hd:d<=4):0<2^d/\2^d<=16:=⟨jy _,jf (jZ xC hd) xC⟩
theorem qRo{l:List Sm.PR}(hf:qCD l){e:Nat}(he:e<=15):Sb.lvl (qAl l (e+1))=qAl l e:=by
 have e2:2^(e+1)/2=2^e:=by rw [ju,Nat.mul_div_cancel _ xC]
 have h2:2^(e+1)=2^e*2:=ju 2 e
 unfold Sb.lvl
 rw [qBk,e2]
 show _=(List.range (2^e)).map _
 refine yA λj hj=>?_
 have hj2:=List.mem_range.1 hj
 rw [qDZ _ _ xB,qDZ _ _ xB]
 exact qPO hf (qFc j e) he (qLO xB hj2).symm
theorem qIs{l:List Sm.PR}(hf:qCD l){d:Nat}(hd:d<=16): ∀j,j<=d->Sb.lvls (qAl l d) j=qAl l (d-j)
 |0,_=>rfl
 |j+1,hj=>by
  rw [Sb.lvls_succ,qIs hf hd j xB,show d-j=(d-(j+1))+1 by omega,qRo hf xB]
theorem qPM{l:List Sm.PR}(hf:qCD l){d:Nat}(hd:d<=16):Sb.root (qAl l d) d=Sm.nd 128 l:=by
 have e:Sb.root (qAl l d) d=(Sb.lvls (qAl l d) d).getD 0 []:=by unfold Sb.root;rfl
 rw [e,qIs hf hd d (jL _),zK,qDZ _ _ xC,Sm.ndB_zero]
theorem qUy{l:List Sm.PR}(hf:qCD l){d:Nat}(hd:d<=4):qLt (qAl l d) ((d:Nat):Int)=0/\qLs (qAl l d) ((d:Nat):Int)=Sm.nd 128 l:=by
 have h1:qLt (qAl l d) ((d:Nat):Int)=0:=by
  unfold qLt
  rw [qD2 hd,yW (by have:=qTO hd;omega),qBk,yW (λh=>h rfl)]
 refine⟨h1,?_⟩
 unfold qLs
 rw [yX h1]
 exact qPM hf xB
def ofV(k:xA)(d:Nat):Nat:=if k.length=16 then qEu k d else 0
def ofE(k:xA):Nat:=if k.length=16 then 0 else 10
theorem qS8(F:Hp)(hK:yf F)(g:Nat)(l:List Sm.PR)(hT:qCo F g l)(hf:qCD l)(d:Nat)(hd:d<=4):Ct prog 118 [Ptr g,I (d:Nat)] [F] (λx:yS×Nat×Hp=> .tuple #[.slice x.1 (qAl l d).length x.2.1,I (0:Nat)]) (λx=>Row x.2.2 9 1 x.1 (qAl l d).length x.2.1 (qAG (qAl l d))) (λx=> [F,x.2.2]):=by
 have hpw:=qTO hd
 have hcn:=qD2 hd
 refine y7 func118 O ntmps118 O (λw0 hw0=>?_)
 refine yl λ_ C1=>yn 2 O<|yi C1<|yl λ_ C2=>yh O<|yp (qAZ O O (λF' hF=>qDB F' ((d:Nat):Int))) O λg10 _=>yh O<|yi C2<|ym λ_ C3=>ym λ_ C4=>?_
 rw [hcn]
 refine yt<|yh O<|yj ((qAR O O O).no xB) O<|yi C4<|vC ?_
 refine yy C3<|yl λ_ C5=>yh O<|yi C5<|ym λ_ C6=>yl λ_ C7=>yn 2 O<|yi C7<|yz<|vN (X:=Nat×yS×Nat×Hp) (λζ=> [(0,Ptr g),(1,I (d:Nat)),(7,.slice ζ.2.1 ((qC4 l d ζ.1).length) ζ.2.2.1),(13,I (2^d:Nat)),(14,I (ζ.1:Nat))]) (λζ=> [F,ζ.2.2.2]) (λζ=>ζ.1<=2^d/\Row ζ.2.2.2 9 1 ζ.2.1 (qC4 l d ζ.1).length ζ.2.2.1 (qAG (qC4 l d ζ.1))) (λζ=>2^d-ζ.1) (0,none,0,(λ_=>none)) (⟨jH _,qBf.nil⟩) (Sub.of O) (λ_ h=>h.empty.pick [0,1] xC) ?_
 rintro⟨i,A,c,m⟩ ⟨hi,hr⟩ I0 hI0
 dsimp only at hi hr⊢
 have hnl:=qBk l d i
 refine yl λ_ C8=>yj (qAP O O O) O<|yi C8<|ym λ_ C9=>y1 O (λh15=>?_) (λh15=>?_)
 .
  have hi2:i<2^d:=xB
  have hkf:=qFc i d
  have hmd:min (((d:Nat):Int)).toNat 128=d:=by rw [jd];omega
  refine yy C9<|ym λ_ C10=>yz<|yl λ_ C11=>yn 2 O<|yi C11<|yt<|yn 4 O<|yp (qAZ O O (λF' hF=>qLa F' i d xB xG)) O λg21 _=>yh O<|yp (qAZ O O (λF' hF=>qGl F' (hK.mo hF) g l (hT.mono (Fa hF)) xG (kF i d) xM ((d:Nat):Int) (by first|assumption|exact qJR xG|exact qNJ xG xG))) O λg23 _=>yp (qAE (l:= [.tmp 23]) (xs:= [[Str (Sm.ndB l (kF i d) (min ((d:Nat):Int).toNat 128))]]) O O O O qAg el9 O xC xC xD) O λg24 _=>?_
  change J _ _ _ [F,m,blk g24 [Str (Sm.ndB l (kF i d) (min ((d:Nat):Int).toNat 128))] 9] _
  refine yp (qAV (i:=1) (xs:=qAG (qC4 l d i)) (m2:=blk g24 [Str (Sm.ndB l (kF i d) (min ((d:Nat):Int).toNat 128))] 9) (ys:= [[Str (Sm.ndB l (kF i d) (min ((d:Nat):Int).toNat 128))]]) O O O qAg qAg el9 O hr xD ((qAz (q:=True) (qAG [Sm.ndB l (kF i d) (min ((d:Nat):Int).toNat 128)]) O (by simp [qAG]) O).sl) O xB xB) O ?_
  rintro⟨A25,c25,m25⟩ h25
  try dsimp only at h25
  change J _ ((25,.slice A25 (((qC4 l d i).length)+1) c25)::_) _ [_,m25,_] _
  rw [<-qBh] at h25
  refine yh O<|y8<|vB<|yq (yu C10 ?_)
  exact yt<|yj ((qAM O O O xB).nat (i+1) xB) O<|yh O<|y8<|yq<|vE (i+1,A25,c25,m25) hI0 ⟨by dsimp only;omega,by dsimp only;rw [qHj,jA];rw [hmd] at h25;exact h25⟩ ⟨O,O,by dsimp only;rw [qHj,jA];rfl,O,O,yd⟩ (λ_ h=>h.pick [0,1] xC)
 refine vK<|y6<|y6<|vL ?_
 refine yq (yu C6 ?_)
 refine yl λ_ C12=>yn 3 O<|yi C12<|yr ?_
 obtain rfl:i=2^d:=by omega
 exact vH hw0 (λ_ _ h=>h) (qB5 O O O) (qAf (A,c,m) O hr [0,1] O xC)
theorem qW3(F:Hp)(k:xA)(hk:k.length<=1000000)(d:Nat)(hd:d<=4):Cz prog 138 [Str (k),I (d:Nat)] F (.tuple #[I (ofV k d:Nat),I (ofE k:Nat)]):=by
 have hpw:=qTO hd
 have hcn:=qD2 hd
 refine y7 func138 O ntmps138 O (λw0 hw0=>?_)
 refine yl λ_ C1=>yn 2 O<|yi C1<|ym λ_ C2=>yz<|yl λ_ C3=>yh O<|yp (qAZ O O (λF' hF=>qDB F' ((d:Nat):Int))) O λg8 _=>yj ((qAR O O O).no xB) O<|yh O<|yi C3<|vC ?_
 refine yl λ_ C4=>yh O<|yj (qAn u9_ O O) O<|yj (qAQ O O O) O<|yh O<|yi C4<|y1 O (λh10=>?_) (λh10=>?_)
 .
  exact yl λ_ C5=>yn 2 O<|yi C5<|yr<|vI<|y5<|vH hw0 (λ_ _ h=>h) (qB5 O O O) (qAf () (by unfold ofV ofE;rw [yW xB,yW xB];rfl) yd [0] O xC)
 refine vP<|vB<|yq (yu C2 ?_)
 exact yl λ_ C6=>yn 2 O<|yp (qAZ O O (λF' hF=>qZI F' k (by first|omega|exact hsm _) d xB)) O λg16 _=>yn 2 O<|yi C6<|yr<|vH hw0 (λ_ _ h=>h) (qB5 O O O) (qAf () (by unfold ofV ofE;rw [yX xB,yX xB];rfl) yd [0] O xC)
theorem qNG{s bs:xA}(h:s.length<=4096):qL5 s bs 0=bs++Sha.numB (UInt64.ofNat s.length) 2++s/\qCd (okT s) 2 0=0:=by
 have h1:okT s=true:=ya h
 unfold qL5
 rw [h1,qC7,yX rfl]
 exact⟨O,O⟩
structure Hd where
 ep:Nat
 par:xA
 dep:Int
 aud:Int
 nodes:List xA
def qE7(s:xA):Prop:=s= [0]\/(s.length=17/\(s.getD 0 0=1\/s.getD 0 0=2))
instance (s:xA):Decidable (qE7 s):=by unfold qE7;infer_instance
def Hd.cells(x:Hd)(A:yS)(c:Nat):yU:= [N64 x.ep,Str x.par,I x.dep,I x.aud,.slice A x.nodes.length c]
def Hd.out(x:Hd):Prop:=4294967295<x.ep\/x.par.length≠16\/cnt x.dep=0\/x.aud<0\/64<x.aud
instance (x:Hd):Decidable x.out:=by unfold Hd.out;infer_instance
def Hd.err(x:Hd):Int:=if x.out then 10 else if x.nodes.length≠cnt x.dep then 22 else if∀s∈x.nodes,qE7 s then 0 else 4
def ndB(s:xA):xA:=Sha.numB (UInt64.ofNat s.length) 2++s
def Hd.bytes(x:Hd):xA:=Sha.numB (UInt64.ofNat x.ep) 4++x.par++ [UInt8.ofNat x.dep.toNat]++ [UInt8.ofNat x.aud.toNat]++(x.nodes.map ndB).flatten
def Hd.enc(x:Hd):xA:=if x.err=0 then x.bytes else []
def Hd.dig(x:Hd):xA:=if x.err=0 then Sha.tagged 14 [x.bytes] else []
def Hd.good(x:Hd):Prop:=x.ep<18446744073709551616/\x.par.length<=1048576/\x.nodes.length<=1073741824
theorem qLc{x:Hd}(h:x.out):x.err=10:=yX h
theorem qaQ{x:Hd}(h: ¬x.out)(h2:x.nodes.length≠cnt x.dep):x.err=22:=by unfold Hd.err;rw [yW h,yX h2]
theorem err_4{x:Hd}(h: ¬x.out)(h2: ¬x.nodes.length≠cnt x.dep){s:xA}(hs:s∈x.nodes)(hn: ¬qE7 s):x.err=4:=by unfold Hd.err;rw [yW h,yW h2,yW (λe=>hn (e s hs))]
theorem qaR{x:Hd}(h: ¬x.out)(h2: ¬x.nodes.length≠cnt x.dep)(hs: ∀s∈x.nodes,qE7 s):x.err=0:=by unfold Hd.err;rw [yW h,yW h2,yX hs]
theorem qSf{x:Hd}(h:x.err=0): ¬x.out/\x.nodes.length=cnt x.dep/\ ∀s∈x.nodes,qE7 s:=by
  unfold Hd.err at h
  split at h
  . omega
  . rename_i h1
    split at h
    . omega
    . rename_i h2
      split at h
      . rename_i h3;exact⟨h1,Decidable.not_not.1 h2,h3⟩
      . omega
theorem qNy{s:xA}(h:qE7 s):s.length<=17:=by
 rcases h with rfl|⟨h,_⟩
 . decide
 . omega
theorem qZM{l:List xA}{p:xA->Prop}{k:Nat}(h:k<l.length)(h1: ∀s∈l.take k,p s)(h2:p (l.getD k [])): ∀s∈l.take (k+1),p s:=λs hs=>by
  rw [jP h] at hs
  rcases List.mem_append.1 hs with h3|h3
  . exact h1 s h3
  . rw [ji] at h3
    rw [h3]
    rw [jB,jD h] at h2
    exact h2
theorem qSb{l:List xA}{k:Nat}(h:k<l.length):l.getD k []∈l:=by
 rw [jB,jD h]
 exact jU h
theorem u8eq{c:UInt8}(k:UInt8):((c.toNat:Int)=(k.toNat:Int))↔c=k:=⟨λh=>UInt8.toNat_inj.1 xB,λh=>by rw [h]⟩
theorem qVT(F:Hp)(s:xA):Cz prog 141 [Str s] F (.bool (decide (qE7 s))):=by
 refine y7 func141 O ntmps141 O (λw0 hw0=>?_)
 refine yl λ_ C1=>yh O<|yi C1 ?_
 refine yl λ_ C2=>yh O<|yj (qBP O O O) O<|yh O<|vO (d:=5) O (λh5=>?_) (λh5=>?_)
 .
  refine yn 4 O<|vX (Wan.un O O O O) O O ?_
  refine vX (Wan.un O O O O) O O ?_
  refine vX (Wan.un O O O O) O O ?_
  refine vX (Wan.un O O O O) O O ?_
  refine vX (Wan.un O O O O) O O ?_
  refine vX (Wan.un O O O O) O O ?_
  refine vX (Wan.un O O O O) O O ?_
  refine vX (Wan.un O O O O) O O ?_
  refine yn 3 O<|yi C2 ?_
  exact yr<|yw hw0 O () (yY Value.bool (ya (show qE7 s from .inl h5)).symm) yd [0] O xC
 refine yh O<|yv (qAn u9_ O O) O<|yv (qAR O O O) O<|yh O<|vO (d:=9) O (λh9=>?_) (λh9=>?_)
 .
  refine yh O<|yv (qA9 (i:=0) (c:=s.getD 0 0) u9_ O O O (by rw [jB,jD (show 0<s.length by omega)];rfl)) O ?_
  refine yv (qAR O O O) O<|yh O<|vO (d:=13) O (λh13=>?_) (λh13=>?_)
  .
   refine yn 7 O<|yi C2 ?_
   exact yr<|yw hw0 O () (yY Value.bool (ya (show qE7 s from .inr ⟨xB,.inl ((u8eq 1).1 h13)⟩)).symm) yd [0] O xC
  refine yh O<|yv (qA9 (i:=0) (c:=s.getD 0 0) u9_ O O O (by rw [jB,jD (show 0<s.length by omega)];rfl)) O ?_
  refine yv (qAR O O O) O<|yn 4 O<|yi C2 ?_
  exact yr<|yw hw0 O () (yY Value.bool (decide_eq_decide.2 ⟨λh=>(show qE7 s from .inr ⟨xB,.inr ((u8eq 2).1 h)⟩),λh=>by rcases h with h|⟨_,h|h⟩;exact absurd h h5;exact absurd ((u8eq 1).2 h) h13;exact(u8eq 2).2 h⟩)) yd [0] O xC
 refine yn 4 O<|vX (Wan.un O O O O) O O ?_
 refine vX (Wan.un O O O O) O O ?_
 refine vX (Wan.un O O O O) O O ?_
 refine yn 4 O<|yi C2 ?_
 exact yr<|yw hw0 O () (yY Value.bool (yb (show¬qE7 s from λh=>by rcases h with h|⟨h,_⟩;exact h5 h;omega)).symm) yd [0] O xC
theorem qLR(F:Hp)(x:Hd)(A:yS)(c:Nat)(hg:x.good)(hsl:Sl F 1 A x.nodes.length c (qAG x.nodes)):
    Cz prog 69 [.agg #[N64 x.ep,Str x.par,I x.dep,I x.aud,.slice A x.nodes.length c]] F (I x.err):=by
  obtain ⟨hg1,hg2,hg3⟩:=hg
  refine y7 func69 O ntmps69 O (λw0 hw0=>?_)
  refine yl λ_ C1=>yp (qAi O O O) O λg1 _=>yh O<|yi C1 ?_
  refine yl λ_ C2=>vA 2 qFk z3_ O O O O O<|vF 1 b3_ O O O O O<|yp (qAZ O O (λF' hF=>qDB F' x.dep)) O λg8 _=>yh O<|yi C2 ?_
  refine ym λ_ C3=>yz<|yl λ_ C4=>vA 0 qFk qBV O O O O O<|vF 1 qBe O O O O O<|yj (qAs O O O) O<|yh O<|vO (d:=13) O (λh13=>?_) (λh13=>?_)
  .
    refine yn 20 O<|yi C4 ?_
    refine vV ?_
    refine yl λ_ C5=>yh O<|yi C5 ?_
    exact yr<|vI<|y5<|yw hw0 O () (yY I (qLc (show x.out by unfold Hd.out;omega)).symm) yd [0] O xC
  refine yv (qAA O O qFk O z9_ O) O<|yv (qAD 1 O O O b9_ O) O<|yv (qAn u9_ O O) O<|yv (qAQ O O O) O<|yn 2 O<|vO (d:=19) O (λh19=>?_) (λh19=>?_)
  .
    refine yn 14 O<|yi C4 ?_
    refine vV ?_
    refine yl λ_ C6=>yh O<|yi C6 ?_
    exact yr<|vI<|y5<|yw hw0 O () (yY I (qLc (show x.out by unfold Hd.out;omega)).symm) yd [0] O xC
  refine yh O<|yv (qAR O O O) O<|yn 2 O<|vO (d:=23) O (λh23=>?_) (λh23=>?_)
  .
    refine yn 10 O<|yi C4 ?_
    refine vV ?_
    refine yl λ_ C7=>yh O<|yi C7 ?_
    exact yr<|vI<|y5<|yw hw0 O () (yY I (qLc (show x.out by unfold Hd.out;omega)).symm) yd [0] O xC
  refine yv (qAA O O qFk O z3_ O) O<|yv (qAD 1 O O O b3_ O) O<|yv (qAP O O O) O<|yn 2 O<|vO (d:=28) O (λh28=>?_) (λh28=>?_)
  .
    refine yn 5 O<|yi C4 ?_
    refine vV ?_
    refine yl λ_ C8=>yh O<|yi C8 ?_
    exact yr<|vI<|y5<|yw hw0 O () (yY I (qLc (show x.out by unfold Hd.out;omega)).symm) yd [0] O xC
  refine yv (qAA O O qFk O z3_ O) O<|yv (qAD 1 O O O b3_ O) O<|yv (qAs O O O) O<|yn 2 O<|yi C4 ?_
  refine y1 O (λh9=>?_) (λh9=>?_)
  .
    refine yl λ_ C9=>yh O<|yi C9 ?_
    exact yr<|vI<|y5<|yw hw0 O () (yY I (qLc (show x.out by unfold Hd.out;omega)).symm) yd [0] O xC
  refine yl λ_ C10=>vA 4 qFk qBs O O O O O<|vF 1 qB7 O O O O O<|yj (qAN qAg O O) O<|yh O<|yj (qAQ O O O) O<|yh O<|yi C10 ?_
  refine y1 O (λh33=>?_) (λh33=>?_)
  .
    refine yl λ_ C11=>yh O<|yi C11 ?_
    exact yr<|vI<|y5<|yw hw0 O () (yY I (qaQ (by unfold Hd.out;omega) xB).symm) yd [0] O xC
  refine vP<|vB<|yq (yu C3 ?_)
  refine ym λ_ C12=>ym λ_ C13=>?_
  have hno: ¬x.out:=by unfold Hd.out;omega
  have hcn: ¬x.nodes.length≠cnt x.dep:=xB
  refine yt<|vA 4 qFk qBs O O O O O<|vF 1 qB7 O O O O O<|yj (qAN qAg O O) O<|yh O<|yi C13 ?_
  refine yz<|vN (X:=Nat) (λk=> [(40,.slice A x.nodes.length c),(41,I x.nodes.length),(42,I k)]) (λ_=> [F,blk g1 [N64 x.ep,Str x.par,I x.dep,I x.aud,.slice A x.nodes.length c] 52]) (λk=>k<=x.nodes.length/\ ∀s∈x.nodes.take k,qE7 s) (λk=>x.nodes.length-k) 0 (⟨jH _,λs hs=>by simp at hs⟩) (Sub.of O) (λ_ h=>h) ?_
  intro k ⟨hk,hall⟩ I0 hI0
  refine yl λ_ C14=>yj (qAP O O O) O<|yi C14 ?_
  refine ym λ_ C15=>y1 O (λh43=>?_) (λh43=>?_)
  .
    refine yy C15 ?_
    refine ym λ_ C16=>yz<|yl λ_ C17=>yj (qAC O O O qAg z9_ hsl xB) O<|yj (qAH O O b9_ (m:=F) xD (hsl.elem (qAa (qAc [] (show k<x.nodes.length by omega))))) O<|yh O<|yi C17 ?_
    refine yl λ_ C18=>yh O<|yp (qAZ O O (λF' hF=>qVT F' (x.nodes.getD k []))) O λg47 _=>yj (qHc O O) O<|yi C18 ?_
    refine y1 O (λh48=>?_) (λh48=>?_)
    .
      refine yl λ_ C19=>yh O<|yi C19 ?_
      exact yr<|vI<|y5<|y5<|vI<|y5<|yw hw0 O () (yY I (err_4 hno hcn (qSb (show k<x.nodes.length by omega)) h48).symm) yd [0] O xC
    refine vP<|vB<|yq (yu C16 ?_)
    exact yt<|yj ((qAM O O O xB).nat (k+1) xB) O<|yh O<|y8<|yq<|vY (k+1) (λx2 (hx:_/\x.nodes.length-x2<x.nodes.length-k)=>hI0 x2 hx.1 hx.2) ⟨⟨xB,qZM xB hall (Decidable.not_not.1 h48)⟩,xB⟩ (Sub.of O) (λ_ h=>h)
  refine vK<|y6<|y6<|vL ?_
  refine yq (yu C12 ?_)
  refine ym λ_ C20=>?_
  rw [jV xB] at hall
  refine yt<|yh O<|yi C20 ?_
  exact yr<|yw hw0 O () (yY I (qaR hno hcn hall).symm) yd [0] O xC
def Hd.base(x:Hd):xA:=Sha.numB (UInt64.ofNat x.ep) 4++x.par++ [UInt8.ofNat x.dep.toNat]++ [UInt8.ofNat x.aud.toNat]
theorem qWf: ∀k,k<65->Sha.numB (UInt64.ofNat k) 1= [UInt8.ofNat k]:=by decide+kernel
theorem qUu: ∀k,k<65->okN (UInt64.ofNat k) 1=true:=by decide+kernel
theorem qRQ{x:Hd}(h: ¬x.out):x.ep<=4294967295/\x.par.length=16/\(0<=x.dep/\x.dep<=4)/\0<=x.aud/\x.aud<=64:=by
 have h1: ¬cnt x.dep=0:=λe=>h (.inr (.inr (.inl e)))
 rw [qG9] at h1
 unfold Hd.out at h
 omega
theorem qYQ{l:List xA}{k:Nat}(h:k<l.length):((l.take (k+1)).map ndB).flatten=((l.take k).map ndB).flatten++ndB (l.getD k []):=by
 rw [jP h,jN,zA,jY,zg,jo,zf,jS,jB,jD h];rfl
theorem nd_small{l:List xA}(h: ∀s∈l,qE7 s):(l.map ndB).flatten.length<=19*l.length:=by
 induction l with
 |nil=>exact jH _
 |cons a l ih=>
  have h1:=ih (λs hs=>h s (.tail _ hs))
  have h2:=qNy (h a (.head _))
  rw [jY,jo,jA,jC]
  unfold ndB at h1⊢
  rw [jA,Sha.numB_length];omega
theorem qOe{x:Hd}(h: ¬x.out):x.base.length=22:=by
 have:=qRQ h
 unfold Hd.base
 simp only [jA,Sha.numB_length,jI];omega
theorem qPZ(F:Hp)(x:Hd)(A:yS)(c:Nat)(hg:x.good)(hsl:Sl F 1 A x.nodes.length c (qAG x.nodes)):
    Cz prog 142 [.agg #[N64 x.ep,Str x.par,I x.dep,I x.aud,.slice A x.nodes.length c]] F (.tuple #[Str x.enc,I x.err]):=by
  refine y7 func142 O ntmps142 O (λw0 hw0=>?_)
  refine yl λ_ C1=>yp (qAi O O O) O λg1 _=>yn 2 O<|yi C1 ?_
  refine ym λ_ C2=>yl λ_ C3=>vT 1 qM2 qGV O O O O O<|yp (qAZ O O (λF' hF=>qLR F' x A c hg (hsl.mono (Fa hF)))) O λg9 _=>yh O<|yi C3 ?_
  refine yl λ_ C4=>yh O<|yj (qAQ O O O) O<|yi C4 ?_
  refine y1 O (λh11=>?_) (λh11=>?_)
  .
    refine yl λ_ C5=>yn 3 O<|yi C5 ?_
    exact yr<|y5<|vH hw0 (λ_ _ h=>h) (qB5 O O O) (qAf () (by unfold Hd.enc;rw [yW xB]) yd [0] O xC)
  refine yy C2 ?_
  refine ym λ_ C6=>?_
  have e0:x.err=0:=xB
  obtain ⟨e1,e2,e3⟩:=qSf e0
  obtain ⟨e4,e5,e6,e7,e8⟩:=qRQ e1
  have hbl:=qOe e1
  have hc16:=qW1 x.dep
  refine yt<|yp (qAO O qLf O) O λg5 _=>yi C6 ?_
  refine ym λ_ C7=>vQ [blk g1 [N64 x.ep,Str x.par,I x.dep,I x.aud,.slice A x.nodes.length c] 52] [] (.y 0 (.y 1 (.y 3 (.y 4 (.y 6 (.y 7 (.y 8 (.y 10 (.y 11 (.y 12 (.e 2 (.e 5 (.e 9 (.e 13 .nil)))))))))))))) ye xF xD ?_
  refine yo O (qAA O O qFk O qBV O) O O<|yo O (qAD 0 O O O qBe O) O O<|yo O (qAA O O qFk O z9_ O) O O<|yo O (qAD 0 O O O b9_ O) O O<|yo O (qAA O O qFk O z3_ O) O O<|yo O (qAD 0 O O O b3_ O) O O<|yo O ((qCT O O u3_ qDJ).as (v':=W64 (UInt64.ofNat x.dep.toNat)) (by rw [show(x.dep%18446744073709551616).toNat=x.dep.toNat by omega])) O O<|yo O (qAA O O qFk O z3_ O) O O<|yo O (qAD 0 O O O b3_ O) O O<|yo O ((qCT O O u3_ qDJ).as (v':=W64 (UInt64.ofNat x.aud.toNat)) (by rw [show(x.aud%18446744073709551616).toNat=x.aud.toNat by omega])) O O<|vD O (qAJ O O ent (vR 2 O (λF' _=>qRh F' (blk g5 [.pointer none,.slice none 0 0,I 0] 148) g5 [] 0 (qJO g5) xC x.ep xB 4 xB xB))) O xD ?_
  rintro m15 hw15
  rw [qUt (size:=4) xB xB,qC7,qEG (qUt (size:=4) xB xB),j7] at hw15
  refine vD O (qAJ O O ent (vR 2 O (λF' _=>qDU F' m15 g5 (Sha.numB (UInt64.ofNat x.ep) 4) 0 hw15 (by rw [Sha.numB_length];omega) x.par xB 16))) O xD ?_
  rintro m18 hw18
  rw [qHK e5,qMa e5,qC7] at hw18
  refine vD O (qAJ O O ent (vR 2 O (λF' _=>qFY F' m18 g5 ((Sha.numB (UInt64.ofNat x.ep) 4)++x.par) 0 hw18 (by simp only [jA,Sha.numB_length];omega) (UInt64.ofNat x.dep.toNat) 1 xB xB))) O xD ?_
  rintro m22 hw22
  rw [qUu _ xB,qC7,qEG (qUu _ xB),qWf _ xB] at hw22
  refine vD O (qAJ O O ent (vR 2 O (λF' _=>qFY F' m22 g5 (((Sha.numB (UInt64.ofNat x.ep) 4)++x.par)++ [UInt8.ofNat x.dep.toNat]) 0 hw22 (by simp only [jA,Sha.numB_length,jI];omega) (UInt64.ofNat x.aud.toNat) 1 xB xB))) O xD ?_
  rintro m26 hw26
  rw [qUu _ xB,qC7,qEG (qUu _ xB),qWf _ xB] at hw26
  refine vM<|yq (yu C7 ?_)
  refine ym λ_ C8=>yl λ_ C9=>vA 4 qFk qBs O O O O O<|vF 1 qB7 O O O O O<|yj (qAN qAg O O) O<|yh O<|yi C9 ?_
  refine yz<|vN (X:=Nat×Hp) (λx2=> [(5,Ptr g5),(28,.slice A x.nodes.length c),(29,I x.nodes.length),(30,I x2.1)]) (λx2=> [F,blk g1 [N64 x.ep,Str x.par,I x.dep,I x.aud,.slice A x.nodes.length c] 52,x2.2]) (λx2=>x2.1<=x.nodes.length/\Wtr x2.2 g5 (x.base++((x.nodes.take x2.1).map ndB).flatten) 0) (λx2=>x.nodes.length-x2.1) (0,m26) (⟨jH _,by rw [zV,zg,zf,jS];exact hw26⟩) (Sub.of O) (λ_ h=>h) ?_
  rintro⟨k,m⟩ ⟨hk,hw⟩ I0 hI0
  dsimp only at hk hw⊢
  refine yl λ_ C10=>yj (qAP O O O) O<|yi C10 ?_
  refine ym λ_ C11=>y1 O (λh31=>?_) (λh31=>?_)
  .
    refine yy C11 ?_
    refine ym λ_ C12=>yz<|yl λ_ C13=>yj (qAC O O O qAg z9_ hsl xB) O<|yj (qAH O O b9_ (m:=F) xD (hsl.elem (qAa (qAc [] (show k<x.nodes.length by omega))))) O<|yh O<|yi C13 ?_
    have hnl:=qNy (e3 _ (qSb (show k<x.nodes.length by omega)))
    refine yt<|yh O<|yp (qAJ O O ent (vR 2 O (λF' _=>qQN F' m g5 (x.base++((x.nodes.take k).map ndB).flatten) 0 hw (by have:=nd_small (λs hs=>e3 s (zx hs): ∀s∈x.nodes.take k,qE7 s);rw [jF] at this;rw [jA,hbl];omega) (x.nodes.getD k []) xB))) O ?_
    rintro m35 hw35
    rw [(qNG xB).1,(qNG (s:=x.nodes.getD k []) (bs:= []) xB).2,jM,jM] at hw35
    change Wtr m35 g5 (x.base++(((x.nodes.take k).map ndB).flatten++ndB (x.nodes.getD k []))) 0 at hw35
    rw [<-qYQ xB] at hw35
    refine y8<|vB<|yq (yu C12 ?_)
    exact yt<|yj ((qAM O O O xB).nat (k+1) xB) O<|yh O<|y8<|yq<|vY (k+1,m35) (λx2 (hx:_/\x.nodes.length-x2.1<x.nodes.length-k)=>hI0 x2 hx.1 hx.2) ⟨⟨by dsimp only;omega,hw35⟩,by dsimp only;omega⟩ (Sub.of O) (λ_ h=>h)
  refine vK<|y6<|y6<|vL ?_
  refine yq (yu C8 ?_)
  refine ym λ_ C14=>?_
  rw [jV xB] at hw
  change Wtr m g5 x.bytes 0 at hw
  refine yt<|yp (qAJ O O ent (vR 2 O (λF' _=>qEo F' m g5 x.bytes 0 hw (by have:=nd_small e3;unfold Hd.bytes;unfold Hd.base at hbl;rw [jA,hbl];omega)))) O ?_
  rintro m37 _
  refine yn 4 O<|yi C14 ?_
  exact yr<|vH hw0 (λ_ _ h=>h) (qB5 O O O) (qAf () (by unfold Hd.enc;rw [yX e0,e0]<;>rfl) yd [0] O xC)
theorem qS1{x:Hd}(h:x.err=0):x.bytes.length<=326:=by
 obtain ⟨e1,e2,e3⟩:=qSf h
 have h1:=qOe e1
 have h2:=nd_small e3
 have h3:=qW1 x.dep
 unfold Hd.bytes
 unfold Hd.base at h1
 rw [jA,h1];omega
theorem enc_0{x:Hd}(h:x.err=0):x.enc=x.bytes:=yX h
theorem qSl{x:Hd}(h:x.err=0):x.dig.length=16:=by unfold Hd.dig;rw [yX h,Sha.tagged_length]
theorem qLj(x:Hd):x.dig.length<=16:=by
 unfold Hd.dig
 split
 . rw [Sha.tagged_length];exact jL _
 . exact jH _
theorem qI7(F:Hp)(hK:yf F)(x:Hd)(A:yS)(c:Nat)(hg:x.good)(hsl:Sl F 1 A x.nodes.length c (qAG x.nodes)):
    Cz prog 70 [.agg #[N64 x.ep,Str x.par,I x.dep,I x.aud,.slice A x.nodes.length c]] F (Str x.dig):=by
  refine y7 func70 O ntmps70 O (λw0 hw0=>?_)
  refine yl λ_ C1=>yp (qAi O O O) O λg1 _=>yh O<|yi C1 ?_
  refine yl λ_ C2=>vT 1 qM2 qGV O O O O O<|yp (qAZ O O (λF' hF=>qPZ F' x A c hg (hsl.mono (Fa hF)))) O λg7 _=>yn 5 O<|yi C2 ?_
  refine ym λ_ C3=>yl λ_ C4=>yh O<|yj (qAQ O O O) O<|yi C4 ?_
  refine y1 O (λh11=>?_) (λh11=>?_)
  .
    refine yl λ_ C5=>yh O<|yi C5 ?_
    exact yr<|y5<|yw hw0 O () (by unfold Hd.dig;rw [yW xB]) yd [0] O xC
  refine yy C3 ?_
  refine ym λ_ C6=>?_
  have e0:x.err=0:=xB
  refine yt<|yj ((qAT O O).as (v':=Str x.bytes) (yY Str (enc_0 e0))) O<|yp (qAE (l:= [.tmp 12]) (xs:= [[Str (x.bytes)]]) O O O O qAg el9 O xC xC xD) O λg13 _=>yp (qAZ O O (λF' hF=>qBI F' (hK.mono (Fa hF)) 14 (some ⟨g13,0,none⟩) 1 1 [x.bytes] ((slS [x.bytes] O).mono (hF (blk g13 (([x.bytes]:List xA).map λs=>Str s) 9) xD)) (by have:=qS1 e0;simp;omega) xC)) O λg14 _=>yh O<|yi C6 ?_
  exact yr<|yw hw0 O () (by unfold Hd.dig;rw [yX e0]) yd [0] O xC
def Hd.next(x y:Hd):Int:=if y.err≠0 then y.err else if y.ep=0\/y.ep-1≠x.ep then 14 else if x.dig= []\/y.par≠x.dig then 15 else if y.dep≠x.dep\/y.aud<x.aud then 22 else 0
def Hd.same(x y:Hd):Prop:=x.err=0/\y.err=0/\x.enc=y.enc
instance (x y:Hd):Decidable (x.same y):=by unfold Hd.same;infer_instance
theorem qZ2{x y:Hd}(h:y.err≠0):x.next y=y.err:=yX h
theorem qWk{x y:Hd}(h: ¬y.err≠0)(h2:y.ep=0\/y.ep-1≠x.ep):x.next y=14:=by unfold Hd.next;rw [yW h,yX h2]
theorem qWj{x y:Hd}(h: ¬y.err≠0)(h2: ¬(y.ep=0\/y.ep-1≠x.ep))(h3:x.dig= []\/y.par≠x.dig):x.next y=15:=by unfold Hd.next;rw [yW h,yW h2,yX h3]
theorem qWi{x y:Hd}(h: ¬y.err≠0)(h2: ¬(y.ep=0\/y.ep-1≠x.ep))(h3: ¬(x.dig= []\/y.par≠x.dig))(h4:y.dep≠x.dep\/y.aud<x.aud):x.next y=22:=by unfold Hd.next;rw [yW h,yW h2,yW h3,yX h4]
theorem qWh{x y:Hd}(h: ¬y.err≠0)(h2: ¬(y.ep=0\/y.ep-1≠x.ep))(h3: ¬(x.dig= []\/y.par≠x.dig))(h4: ¬(y.dep≠x.dep\/y.aud<x.aud)):x.next y=0:=by unfold Hd.next;rw [yW h,yW h2,yW h3,yW h4]
theorem qVU(F:Hp)(hK:yf F)(x:Hd)(A:yS)(c:Nat)(hg:x.good)(hsl:Sl F 1 A x.nodes.length c (qAG x.nodes))(y:Hd)(B:yS)(e:Nat)(hgy:y.good)(hsy:Sl F 1 B y.nodes.length e (qAG y.nodes)):
    Cz prog 15 [.agg #[N64 x.ep,Str x.par,I x.dep,I x.aud,.slice A x.nodes.length c],.agg #[N64 y.ep,Str y.par,I y.dep,I y.aud,.slice B y.nodes.length e]] F (I (x.next y)):=by
  obtain ⟨hgx1,hgx2,hgx3⟩:=id hg
  obtain ⟨hgy1,hgy2,hgy3⟩:=id hgy
  refine y7 func15 O ntmps15 O (λw0 hw0=>?_)
  refine yl λ_ C1=>yp (qAi O O O) O λg2 _=>yp (qAi O O O) O λg3 _=>?_
  change J _ _ _ [_,_,blk g3 [N64 y.ep,Str y.par,I y.dep,I y.aud,.slice B y.nodes.length e] 52] _
  refine yh O<|yi C1 ?_
  refine ym λ_ C2=>vQ [F,blk g2 [N64 x.ep,Str x.par,I x.dep,I x.aud,.slice A x.nodes.length c] 52,blk g3 [N64 y.ep,Str y.par,I y.dep,I y.aud,.slice B y.nodes.length e] 52] [] (.y 0 (.y 2 (.e 1 (.e 3 (.y 4 (.y 5 .nil)))))) ye xF xD ?_
  refine yo O (qAx 2 O O O qM2 qGV O) O O<|yo O (qAx 1 O O O qM2 qGV O) O O<|vD O (qAZ O O (λF' hF=>qLR F' y B e hgy (hsy.mono (Fa hF)))) O xD λg8 _=>vD O (qAZ O O (λF' hF=>qI7 F' (hK.mo hF) x A c hg (hsl.mono (Fa hF)))) O xD λg10 _=>vU ?_
  refine vU ?_
  refine vM<|yq (yu C2 ?_)
  refine ym λ_ C3=>yz<|yl λ_ C4=>yh O<|yj (qAQ O O O) O<|yh O<|yi C4 ?_
  refine y1 O (λh11=>?_) (λh11=>?_)
  .
    refine yl λ_ C5=>yn 2 O<|yi C5 ?_
    exact yr<|vI<|y5<|yw hw0 O () (yY I (qZ2 xB).symm) yd [0] O xC
  refine yl λ_ C6=>vA 0 qFk qBV O O O O O<|vF 2 qBe O O O O O<|yj (qAR O O O) O<|yh O<|vO (d:=19) O (λh19=>?_) (λh19=>?_)
  .
    refine yn 8 O<|yi C6 ?_
    refine vV ?_
    refine yl λ_ C7=>yh O<|yi C7 ?_
    exact yr<|vI<|y5<|yw hw0 O () (yY I (qWk xB xB).symm) yd [0] O xC
  refine yv (qAA (j:=0) O O qFk O qBV O) O<|yv (qAD 2 O O O qBe O) O<|yv (qRT (b:=1) O O O xB) O<|yv (qAA (j:=0) O O qFk O qBV O) O<|yv (qAD 1 O O O qBe O) O<|yv (qAQ O O O) O<|yn 2 O<|yi C6 ?_
  refine y1 O (λh15=>?_) (λh15=>?_)
  .
    refine yl λ_ C8=>yh O<|yi C8 ?_
    exact yr<|vI<|y5<|yw hw0 O () (yY I (qWk xB xB).symm) yd [0] O xC
  refine yl λ_ C9=>yh O<|yj (qBP O O O) O<|yh O<|vO (d:=30) O (λh30=>?_) (λh30=>?_)
  .
    refine yn 6 O<|yi C9 ?_
    refine vV ?_
    refine yl λ_ C10=>yh O<|yi C10 ?_
    exact yr<|vI<|y5<|yw hw0 O () (yY I (qWj xB xB (.inl h30)).symm) yd [0] O xC
  refine yv (qAA (j:=1) O O qFk O z9_ O) O<|yv (qAD 2 O O O b9_ O) O<|yh O<|yv (qB9 O O O) O<|yn 2 O<|yi C9 ?_
  refine y1 O (λh27=>?_) (λh27=>?_)
  .
    refine yl λ_ C11=>yh O<|yi C11 ?_
    exact yr<|vI<|y5<|yw hw0 O () (yY I (qWj xB xB (.inr h27)).symm) yd [0] O xC
  refine yl λ_ C12=>vA 2 qFk z3_ O O O O O<|vF 2 b3_ O O O O O<|vA 2 qFk z3_ O O O O O<|vF 1 b3_ O O O O O<|yj (qAQ O O O) O<|yh O<|vO (d:=42) O (λh42=>?_) (λh42=>?_)
  .
    refine yn 7 O<|yi C12 ?_
    refine vV ?_
    refine yl λ_ C13=>yh O<|yi C13 ?_
    exact yr<|vI<|y5<|yw hw0 O () (yY I (qWi xB xB (λh=>h.elim h30 h27) xB).symm) yd [0] O xC
  refine yv (qAA (j:=3) O O qFk O z3_ O) O<|yv (qAD 2 O O O b3_ O) O<|yv (qAA (j:=3) O O qFk O z3_ O) O<|yv (qAD 1 O O O b3_ O) O<|yv (qAP O O O) O<|yn 2 O<|yi C12 ?_
  refine y1 O (λh36=>?_) (λh36=>?_)
  .
    refine yl λ_ C14=>yh O<|yi C14 ?_
    exact yr<|vI<|y5<|yw hw0 O () (yY I (qWi xB xB (λh=>h.elim h30 h27) xB).symm) yd [0] O xC
  refine vP<|vB<|yq (yu C3 ?_)
  refine yl λ_ C15=>yh O<|yi C15 ?_
  exact yr<|yw hw0 O () (yY I (qWh xB xB (λh=>h.elim h30 h27) xB).symm) yd [0] O xC
theorem qVS(F:Hp)(hK:yf F)(x:Hd)(A:yS)(c:Nat)(hg:x.good)(hsl:Sl F 1 A x.nodes.length c (qAG x.nodes))(hsm: ∀s∈x.nodes,s.length<=1048576):
    Cz prog 40 [.agg #[N64 x.ep,Str x.par,I x.dep,I x.aud,.slice A x.nodes.length c]] F (Str (qLs x.nodes x.dep)):=by
  refine y7 func40 O ntmps40 O (λw0 hw0=>?_)
  refine yl λ_ C1=>yp (qAi O O O) O λg1 _=>yh O<|yi C1 ?_
  refine yl λ_ C2=>vA 4 qFk qBs O O O O O<|vF 1 qB7 O O O O O<|vA 2 qFk z3_ O O O O O<|vF 1 b3_ O O O O O<|yp (qAZ O O (λF' hF=>qVt F' (hK.mo hF) x.dep x.nodes A c (hsl.mono (Fa hF)) hsm)) O λg10 _=>yn 5 O<|yi C2 ?_
  refine yl λ_ C3=>yn 2 O<|yi C3 ?_
  exact yr<|yw hw0 O () O yd [0] O xC
end Go.Proofs.YtmemgokiolfdoaaGreatDoor