/- A part of the proof. -/
import Derived.Test.YtmemgokiolfdoaaGreatDoorTopMfG14
import Derived.Test.YtmemgokiolfdoaaGreatDoorTopMfG15
set_option maxRecDepth 100000
set_option maxHeartbeats 1000000
set_option linter.unusedSimpArgs false
set_option linter.unusedVariables false
namespace Go.Proofs.YtmemgokiolfdoaaGreatDoor
open Go Go.Fw Go.Proofs.Tryz
theorem qUr{k:xA}(hk:k.length=16){i:Nat}(hi:i≤16):Sm.kv k/2^(128-i)<2^i:=by
 have h:=Sm.kv_lt k
 rw [hk] at h
 rw [z8 (jz _),←Nat.pow_add,show i+(128-i)=128 by omega]
 exact yL h xC
theorem qWn{i:Nat}(hi:i≤16):2^i≤65536:=jX (jm xC hi) xC
def qF6(k:xA):Nat→Nat
 |0=>0
 |i+1=>qF6 k i*2^1|||Sm.bit k i
theorem qJo(k:xA): ∀i,qF6 k i<2^i
 |0=>Nat.one_pos
 |i+1=>by
  have h1:=qJo k i
  have h2:=Sm.bit_le k i
  have h3:2^(i+1)=2^i*2:=jx 2 i
  have e:=Nat.two_pow_add_eq_or_of_lt (i:=1) (b:=Sm.bit k i) xB (qF6 k i)
  rw [qF6,z6,←e]
  omega
def kF(n d:Nat):xA:= [UInt8.ofNat (n*2^(16-d)/2^8),UInt8.ofNat (n*2^(16-d)),0,0,0,0,0,0,0,0,0,0,0,0,0,0]
theorem qIX(n d:Nat):(kF n d).length=16:=rfl
theorem qVD{n d:Nat}(hd:d≤16)(hn:n<2^d):n*2^(16-d)<65536:=by
 have h:=Nat.mul_lt_mul_of_pos_right hn (jz (16-d))
 rw [←Nat.pow_add,show d+(16-d)=16 by omega] at h
 exact h
theorem kF_kv{n d:Nat}(hd:d≤16)(hn:n<2^d):Sm.kv (kF n d)=n*2^(128-d):=by
 have ht:=qVD hd hn
 obtain ⟨t,hte⟩: ∃t,t=n*2^(16-d):=⟨_,rfl⟩
 have e:n*2^(128-d)=t*2^112:=by rw [hte,Nat.mul_assoc,←Nat.pow_add,show 16-d+112=128-d by omega]
 have h1:(UInt8.ofNat (t/2^8)).toNat=t/2^8:=UInt8.toNat_ofNat_of_lt' (by show _<256;omega)
 have h2:(UInt8.ofNat t).toNat=t%256:=xD
 rw [e]
 unfold kF
 rw [←hte]
 simp only [Sm.kv,jD,jF,h1,h2]
 show t/2^8*256^15+(t%256*256^14+0)=_
 rw [show(256:Nat)^15=256*2^112 by decide,show(256:Nat)^14=2^112 by decide,←Nat.mul_assoc,zZ,←zl]
 congr 1
 omega
theorem qRR{n d:Nat}(hd:d≤16)(hn:n<2^d):Sm.kv (kF n d)/2^(128-d)=n:=by rw [kF_kv hd hn,Nat.mul_div_cancel _ (jz _)]
theorem qX2(F:Hp)(k:xA)(hk:k.length≤1000000)(d:Nat)(hd:d≤16):Cz prog 211 [Str (k),I (d:Nat)] F (I (qF6 k d:Nat)):=by
 refine Ct.walk func211 O ntmps211 O (λw0 hw0=>?_)
 refine J.f λ_ j1=>J.b O<|J.c j1<|J.q λ_ j2=>J.f λ_ j3=>J.b O<|J.g (qAS O O O) O<|J.b O<|J.c0 (d:=9) O (λh9=>?_) (λh9=>?_)
 ·
  refine J.j 3 O<|J.c j3<|J.c2 ?_
  exact J.f λ_ j4=>J.b O<|J.c j4<|J.A<|J.W<|J.E hw0 O () (by exfalso;omega) trivial [0] O xC
 refine J.b O<|J.H (qA7 O O O) O<|J.b O<|J.c j3<|J.Z O (λh12=>?_) (λh12=>?_)
 ·
  exact J.f λ_ j5=>J.b O<|J.c j5<|J.A<|J.W<|J.E hw0 O () (by exfalso;omega) trivial [0] O xC
 refine J.M j2<|J.f λ_ j6=>J.b O<|J.c j6<|J.q λ_ j7=>J.f λ_ j8=>J.j 2 O<|J.c j8<|J.T<|J.b8 (X:=Nat) (λζ=> [(0,Str (k)),(5,I (qF6 k ζ:Nat)),(13,I (d:Nat)),(14,I (ζ:Nat))]) (λζ=> [F]) (λζ=>ζ≤d) (λζ=>d-ζ) 0 (jG _) ⟨O,O,O,O,trivial⟩ (λ_ h=>h) ?_
 rintro i hi I0 hI0
 have hlt:=qJo k i
 have hp16:=qWn (i:=i) xB
 have hbl:=Sm.bit_le k i
 refine J.f λ_ j9=>J.g (qAS O O O) O<|J.c j9<|J.q λ_ j10=>J.Z O (λh15=>?_) (λh15=>?_)
 ·
  refine J.M j10<|J.q λ_ j11=>J.T<|J.f λ_ j12=>J.j 2 O<|J.c j12<|J.L<|J.b O<|J.g (qL7 (a:=qF6 k i) (m:=1) O O O xB) O<|J.j 2 O<|J.k (qAY O O (λF' hF=>qLN F' k (by first|omega|exact hsm _) i xB)) O λg21 _=>J.g (qVK (a:=(qF6 k i)*2^1) (b:=Sm.bit k i) O O O xB) O<|J.b O<|J.a5<|J.a4<|J.u (J.D j11 ?_)
  exact J.L<|J.g ((qAR O O O xB).nat (i+1) xB) O<|J.b O<|J.a5<|J.u<|J.b0 (i+1) (λη (hη:_∧d-η<d-i)=>hI0 η hη.1 hη.2) ⟨xB,by first|omega|(dsimp only;omega)⟩ ⟨O,O,O,O,trivial⟩ (λ_ h=>h)
 refine J.b5<|J.a0<|J.a0<|J.b6 ?_
 refine J.u (J.D j7 ?_)
 exact J.f λ_ j13=>J.j 2 O<|J.c j13<|J.A<|J.E hw0 O () (by rw [show i=d by omega]) trivial [0] O xC
theorem qK4(F:Hp)(n d:Nat)(hd:d≤16)(hn:n<2^d):Cz prog 197 [I (n:Nat),I (d:Nat)] F (Str (kF n d)):=by
 have hp16:=qWn hd
 have htl:=qVD hd hn
 have hpe:2^(16-d)≤65536:=qWn (Nat.sub_le _ _)
 refine Ct.walk func197 O ntmps197 O (λw0 hw0=>?_)
 refine J.f λ_ j1=>J.b O<|J.c j1<|J.f λ_ j2=>J.k (qCJ (n':=16) O O qBy el5 xB xB) O ?_
 rintro g7 _
 change J _ ((7,.slice (some ⟨g7,0,none⟩) 16 16)::_) _ [F,blk g7 (List.replicate 16 [.int .u8 0]).flatten 5] _
 refine J.b O<|J.c j2<|J.q λ_ j3=>J.f λ_ j4=>J.b O<|J.g ((qBI O O O).yes xB) O<|J.j 2 O<|J.H ((qCV O O O).yes xB) O<|J.j 3 O<|J.H ((qBI O O O).yes xB) O<|J.j 4 O<|J.H ((qL7 (a:=1) (m:=d) O O O ⟨xB,xB⟩)) O<|J.H ((qAS O O O).yes xB) O<|J.b O<|J.c j4<|J.c2 ?_
 refine J.f λ_ j5=>J.j 2 O<|J.g ((qA8 O O O xB).nat (16-d) xB) O<|J.g (qL7 O O O xL) O<|J.b O<|J.c j5<|J.L<|J.j 3 O<|J.g (qQl O O O xL) O<|J.g (qAy O O u3_ u5_) O<|J.b O<|J.g (qAy O O u3_ u5_) O<|J.g (qAl (i:=0) (j:=0+0*1) O O O qBy z5_ xL xB) O<|J.a8 (qBX (i:=1) (k:=0) (off:=0) (b:= [B8 (UInt8.ofNat ((n*2^(16-d))/2^8))]) O O O O (qAp (q:=True) (sz:=1) (xs:=qAh (List.replicate 16 0)) O (by intro x hx;obtain ⟨_,_,rfl⟩:=List.mem_map.1 hx;rfl)) (vs:= [B8 (UInt8.ofNat ((n*2^(16-d))/2^8))]) O z5_ O xB (qBo (qAk 0 xL)) O (jK _)) O O ?_
 rintro m4_1 hm4_1
 rw [qF5] at hm4_1
 refine J.g (qAl (i:=1) (j:=0+1*1) O O O qBy z5_ xL xB) O<|J.a8 (qBX (i:=1) (k:=1) (off:=0) (b:= [B8 (UInt8.ofNat (n*2^(16-d)))]) O O O O hm4_1 (vs:= [B8 (UInt8.ofNat (n*2^(16-d)))]) O z5_ O xB (qBo (qAk 0 xL)) O (jK _)) O O ?_
 rintro m4_2 hm4_2
 rw [qF5] at hm4_2
 exact J.c j3<|J.f λ_ j6=>J.b O<|J.g (qB1 O O qBy u5_ u9_ (m:=m4_2) xD hm4_2.sl) O<|J.b O<|J.c j6<|J.A<|J.E hw0 O () (by unfold kF;rfl) trivial [0] O xC
def belR(m:List Pr)(k:xA)(d:Nat):List Pr:=m.filter λp=>Sm.belowB p.k k d
theorem qUq(m:List Pr)(k:xA)(d:Nat):(belR m k d).map toP=Sm.bel (m.map toP) k d:=by
 unfold belR Sm.bel
 rw [List.filter_map];rfl
theorem qE7.ndB{m:List Pr}{kv:List Sm.PR}(h:qE7 m kv){k:xA}(hk:k.length=16){d:Nat}(hd:d≤128):Sm.ndB kv k d=Sm.nd (128-d) ((belR m k d).map toP):=by
 rw [qUq];exact(Sm.ndB_perm h.once h.k16 h.perm hk hd).symm
theorem qQ4(l:List Sm.PR)(b:xA)(d:Nat):(Sm.ndB l b d).length≤17:=Sm.nd_small _ _
theorem qOt{kv:List Sm.PR}(hf:qCF kv){k:xA}(hk:k.length=16){d:Nat}(hd:d≤15){n:Nat}(hn:n=Sm.kv k/2^(128-d)):
    Sb.join (Sm.ndB kv (kF (2*n) (d+1)) (d+1)) (Sm.ndB kv (kF (2*n+1) (d+1)) (d+1))=Sm.ndB kv k d:=by
  have hlt:=qUr hk (i:=d) xB
  have h2:2^(d+1)=2^d*2:=jx 2 d
  have f0:=qRR (n:=2*n) (d:=d+1) xB xB
  have f1:=qRR (n:=2*n+1) (d:=d+1) xB xB
  rw [show 128-(d+1)=127-d by omega] at f0 f1
  exact Sm.ndB_join hf.once hf.k16 hk (qIX _ _) (qIX _ _) xB (by rw [f0,hn]) (by rw [f1,hn])
theorem qVq(x m j:Nat):(x^^^2^m)/2^j%2=if j=m then 1-x/2^j%2 else x/2^j%2:=by
  have h1:=Nat.testBit_eq_decide_div_mod_eq (x:=x^^^2^m) (i:=j)
  have h2:=Nat.testBit_eq_decide_div_mod_eq (x:=x) (i:=j)
  rw [Nat.testBit_xor,Nat.testBit_two_pow,h2] at h1
  have a1:(x^^^2^m)/2^j%2<2:=Nat.mod_lt _ xC
  have a2:x/2^j%2<2:=Nat.mod_lt _ xC
  by_cases h:j=m
  · rw [if_pos h]
    rw [decide_eq_true h.symm] at h1
    by_cases h3:x/2^j%2=1
    · rw [decide_eq_true h3] at h1
      have: ¬(x^^^2^m)/2^j%2=1:=by simpa using h1.symm
      omega
    · rw [decide_eq_false h3] at h1
      have:(x^^^2^m)/2^j%2=1:=by simpa using h1.symm
      omega
  · rw [if_neg h]
    rw [show decide (m=j)=false from decide_eq_false (λe=>h e.symm),Bool.xor_false] at h1
    have:=decide_eq_decide.1 h1
    omega
def turn(k:xA)(d:Nat):xA:=k.set (d/8) (k.getD (d/8) 0^^^UInt8.ofNat (1*2^(7-d%8)))
theorem qCD(k:xA)(d:Nat):(turn k d).length=k.length:=by unfold turn;rw [jk]
theorem qFB{k:xA}(hk:k.length=16){d i:Nat}(hd:d<128)(hi:i<128):Sm.bit (turn k d) i=if i=d then 1-Sm.bit k i else Sm.bit k i:=by
  have hlt:i<8*k.length:=xB
  unfold Sm.bit
  rw [qCD,if_pos hlt,if_pos hlt]
  unfold turn
  have h1:(1*2^(7-d%8))%256=2^(7-d%8):=by
    rw [Nat.one_mul]
    exact je (zP (jm xC (show 7-d%8≤7 by omega)) xC)
  by_cases hq:i/8=d/8
  · rw [hq]
    have hg:(k.set (d/8) (k.getD (d/8) 0^^^UInt8.ofNat (1*2^(7-d%8)))).getD (d/8) 0=k.getD (d/8) 0^^^UInt8.ofNat (1*2^(7-d%8)):=by
      rw [jB,List.getElem?_set_self xB];rfl
    rw [hg,UInt8.toNat_xor,show(UInt8.ofNat (1*2^(7-d%8))).toNat=2^(7-d%8) by rw [yK];exact h1,qVq]
    by_cases hid:i=d
    · rw [if_pos (by rw [hid]),if_pos hid]
    · rw [if_neg xB,if_neg hid]
  · rw [jB,List.getElem?_set_ne (λe=>hq e.symm),←jB,if_neg (λe=>hq (by rw [e]))]
theorem qPo{k:xA}(hk:k.length=16){d:Nat}(hd:d<128):Sm.kv (turn k d)/2^(127-d)=2*(Sm.kv k/2^(128-d))+(1-Sm.bit k d):=by
 have h1:Sm.belowB (turn k d) k d=true:=Sm.belowB_yes λi hi=>by rw [qFB hk hd xB,if_neg xB]
 have h2:=(Sm.belowB_kv ((qCD k d).trans hk) hk xB).1 h1
 have e:=Sm.pre_succ (Sm.kv (turn k d)) (127-d)
 rw [show 127-d+1=128-d by omega,h2,←Sm.bit_kv ((qCD k d).trans hk) hd,qFB hk hd hd,if_pos O] at e
 exact e
theorem qP6{k:xA}(hk:k.length=16){d:Nat}(hd:d<128):Sm.kv k/2^(127-d)=2*(Sm.kv k/2^(128-d))+Sm.bit k d:=by
 have e:=Sm.pre_succ (Sm.kv k) (127-d)
 rw [show 127-d+1=128-d by omega,←Sm.bit_kv hk hd] at e
 exact e
def up(k:xA)(d:Nat)(x s:xA):xA:=if Sm.bit k d=0 then Sb.join x s else Sb.join s x
theorem qPi{kv:List Sm.PR}(hf:qCF kv){k:xA}(hk:k.length=16){d:Nat}(hd:d<128):up k d (Sm.ndB kv k (d+1)) (Sm.ndB kv (turn k d) (d+1))=Sm.ndB kv k d:=by
  have hb:=Sm.bit_le k d
  have ht:=qPo hk hd
  have hs:=qP6 hk hd
  unfold up
  split
  · rename_i h
    rw [h] at ht hs
    exact Sm.ndB_join hf.once hf.k16 hk hk ((qCD k d).trans hk) hd hs ht
  · rename_i h
    rw [show Sm.bit k d=1 by omega] at ht hs
    exact Sm.ndB_join hf.once hf.k16 hk ((qCD k d).trans hk) hk hd ht hs
def bsd(kv:List Sm.PR)(k:xA)(d n:Nat):List xA:=(List.range n).map λi=>Sm.ndB kv (turn k (d+i)) (d+i+1)
theorem qUm(kv:List Sm.PR)(k:xA)(d n:Nat):bsd kv k d (n+1)=bsd kv k d n++ [Sm.ndB kv (turn k (d+n)) (d+n+1)]:=by unfold bsd;rw [zA,jN];rfl
theorem qCr(kv:List Sm.PR)(k:xA)(d n:Nat):(bsd kv k d n).length=n:=by unfold bsd;rw [jQ,yC]
theorem qMe(kv:List Sm.PR)(k:xA)(d:Nat){n i:Nat}(hi:i<n):(bsd kv k d n).getD i []=Sm.ndB kv (turn k (d+i)) (d+i+1):=by
 unfold bsd
 rw [jB,jO,zL hi];rfl
def clm(k:xA)(d:Nat)(bs:List xA)(x:xA):Nat→xA
 |0=>x
 |i+1=>up k (d+(bs.length-1-i)) (clm k d bs x i) (bs.getD (bs.length-1-i) [])
theorem qJl{kv:List Sm.PR}(hf:qCF kv){k:xA}(hk:k.length=16){d n:Nat}(hd:d+n≤128): ∀i,i≤n→clm k d (bsd kv k d n) (Sm.ndB kv k (d+n)) i=Sm.ndB kv k (d+n-i)
 |0,_=>rfl
 |i+1,hi=>by
  rw [clm,qJl hf hk hd i xB,qCr,qMe _ _ _ xB]
  have h:=qPi hf hk (d:=d+(n-1-i)) xB
  rw [show d+(n-1-i)+1=d+n-i by omega] at h⊢
  rw [h,show d+(n-1-i)=d+n-(i+1) by omega]
theorem qNq{a b:xA}(ha:a.length≤17)(hb:b.length≤17):(Sb.join a b).length≤17:=by
  have e:Sb.join a b=if a= [0]∧(b= [0]∨Sb.isLf b) then b else if b= [0]∧Sb.isLf a then a else 2::Sha.tagged 10 [a,b]:=by unfold Sb.join;rfl
  rw [e]
  split
  · exact hb
  · split
    · exact ha
    · rw [jD,Sha.tagged_length];decide
theorem qLH{k:xA}{d:Nat}{bs:List xA}{x:xA}(hb: ∀s∈bs,s.length≤17)(hx:x.length≤17): ∀i,(clm k d bs x i).length≤17
 |0=>hx
 |i+1=>by
  have h1:=qLH (k:=k) (d:=d) hb hx i
  have h2:(bs.getD (bs.length-1-i) []).length≤17:=by
   by_cases h:bs.length-1-i<bs.length
   · rw [jB,jC h];exact hb _ (jT h)
   · rw [jB,jd xB];exact jG _
  rw [clm,up]
  split
  · exact qNq h1 h2
  · exact qNq h2 h1
def cur(kv:List Sm.PR)(k:xA)(d:Nat):List Sm.PR:=Sm.bel kv k d
def kd(kv:List Sm.PR)(k:xA)(d:Nat):List xA:=(Sm.keysS kv).filter λq=>Sm.belowB q k d
theorem qIW{kv:List Sm.PR}(ho:Sm.Once kv)(k:xA)(d:Nat):(kd kv k d).length=(cur kv k d).length:=by
 have h:(Sm.prs kv (kd kv k d)).length=(kd kv k d).length:=Sm.prs_len _ _
 rw [←h]
 unfold kd
 rw [Sm.prs_filter]
 exact((Sm.prs_perm ho).filter _).length_eq
theorem qPC{q k:xA}{d:Nat}(h:Sm.belowB q k (d+1)=true):Sm.belowB q k d=true:=by
 rw [Sm.belowB_succ,jc] at h;exact h.1
theorem qXT(kv:List Sm.PR)(k:xA)(d:Nat):(kd kv k d).filter (λq=>Sm.belowB q k (d+1))=kd kv k (d+1):=by
 unfold kd
 rw [zj]
 refine zu λq _=>?_
 cases h:Sm.belowB q k (d+1) with
 |false=>rfl
 |true=>rw [qPC h];rfl
structure qIo (kv:List Sm.PR) (k:xA) (d s:Nat):Prop where
 ge:d≤s
 le:s≤128
 one:(cur kv k s).length≤1
 two: ∀e,d≤e→e<s→2≤(cur kv k e).length
theorem qIo.from{kv:List Sm.PR}{k:xA}{d e s:Nat}(h:qIo kv k d s)(h1:d≤e)(h2:e≤s):qIo kv k e s:=⟨h2,h.le,h.one,λx q1 q2=>h.two x xB q2⟩
theorem qXn{kv:List Sm.PR}(hf:qCF kv){k:xA}(hk:k.length=16):(cur kv k 128).length≤1:=(Sm.bel_wf hf.once hf.k16 hk (d:=128) (jK _)).short
def qAP(kv:List Sm.PR)(k:xA)(s:Nat):Bool:=decide ((kd kv k s).length=1)
def qA0(kv:List Sm.PR)(k:xA)(s:Nat):xA:=if(kd kv k s).length=1 then(kd kv k s).getD 0 [] else []
def qA2(kv:List Sm.PR)(k:xA)(s:Nat):xA:=if(kd kv k s).length=1 then(Sm.getP kv ((kd kv k s).getD 0 [])).getD [] else []
theorem qJh{kv:List Sm.PR}(ho:Sm.Once kv){k:xA}{s:Nat}(h:(kd kv k s).length=1):cur kv k s= [(qA0 kv k s,qA2 kv k s)]:=by
 obtain ⟨q,hq⟩:=List.length_eq_one_iff.1 h
 have h1:(cur kv k s).Perm (Sm.prs kv (kd kv k s)):=by
  unfold kd
  rw [Sm.prs_filter]
  exact(Sm.prs_perm ho).symm.filter _
 unfold qA0 qA2
 rw [if_pos h,if_pos h,hq]
 rw [hq] at h1
 exact List.perm_singleton.1 h1
theorem qJQ: ∀{f:Nat} {l:List Sm.PR},Sm.WF f l→Sm.nd f l= [0]∨((Sm.nd f l).length=17∧(((Sm.nd f l).getD 0 0).toNat=1∨((Sm.nd f l).getD 0 0).toNat=2))
  |f,[],_=> .inl (Sm.nd_nil f)
  |f,[p],_=> .inr (by rw [Sm.nd_one];unfold Sb.leafN;exact⟨by rw [jD,Sha.tagged_length],.inl O⟩)
  |0,a::b::r,hw=>by have:=hw.short;simp at this
  |f+1,a::b::r,hw=>by
    rw [Sm.nd_two f xD]
    have e: ∀x y,Sb.join x y=if x= [0]∧(y= [0]∨Sb.isLf y) then y else if y= [0]∧Sb.isLf x then x else 2::Sha.tagged 10 [x,y]:=λx y=>by unfold Sb.join;rfl
    rw [e]
    split
    · exact qJQ (hw.side false)
    · split
      · exact qJQ (hw.side true)
      · exact .inr ⟨by rw [jD,Sha.tagged_length],.inr O⟩
theorem qMI: ∀{f:Nat} {l:List Sm.PR},Sm.WF f l→2≤l.length→((Sm.nd f l).getD 0 0).toNat=2
  |0,l,hw,h=>by have:=hw.short;omega
  |f+1,l,hw,h=>by
    rw [Sm.nd_two f h]
    have e: ∀x y,Sb.join x y=if x= [0]∧(y= [0]∨Sb.isLf y) then y else if y= [0]∧Sb.isLf x then x else 2::Sha.tagged 10 [x,y]:=λx y=>by unfold Sb.join;rfl
    have hs:=Sm.side_len f l
    have z1:=Sm.nd_eq0 (hw.side true)
    have z2:=Sm.nd_eq0 (hw.side false)
    rw [e]
    split
    · rename_i hc
      have h0:(Sm.side f true l).length=0:=by rw [z1.1 hc.1];rfl
      have h2:=qMI (hw.side false) xB
      exact h2
    · split
      · rename_i hc
        have h0:(Sm.side f false l).length=0:=by rw [z2.1 hc.1];rfl
        exact qMI (hw.side true) xB
      · rfl
def qQ0(s:xA):Bool:=decide (s= [0]∨(s.length=17∧((s.getD 0 0).toNat=1∨(s.getD 0 0).toNat=2)))
structure qLX (bs:List xA) (th:Bool) (pk pv k:xA) (d:Nat):Prop where
 k16:k.length=16
 le:d+bs.length≤128
 nodes: ∀j,j<bs.length→qQ0 (bs.getD j [])=true
 last:0<bs.length→bs.getD (bs.length-1) []≠ [0]∧(th=false→((bs.getD (bs.length-1) []).getD 0 0).toNat=2)
 no:th=false→pk= []∧pv= []
 yes:th=true→pk.length=16∧Sm.belowB pk k (d+bs.length)=true
 small: ∀s∈bs,s.length≤17
theorem qSA(kv:List Sm.PR)(k:xA)(d n:Nat): ∀s∈bsd kv k d n,s.length≤17:=λs hs=>by
 unfold bsd at hs
 obtain ⟨i,_,rfl⟩:=List.mem_map.1 hs
 exact qQ4 _ _ _
theorem qVb{kv:List Sm.PR}{k q:xA}{s:Nat}(h:q∈kd kv k s):(∃v,(q,v)∈kv)∧Sm.belowB q k s=true:=by
 obtain ⟨h1,h2⟩:=List.mem_filter.1 h
 exact⟨Sm.keysS_mem.1 h1,h2⟩
theorem qQi{kv:List Sm.PR}(hf:qCF kv){k:xA}(hk:k.length=16){e:Nat}(he:e<128):(cur kv k (e+1)).length+(Sm.bel kv (turn k e) (e+1)).length=(cur kv k e).length:=by
  have hb:=Sm.bit_le k e
  have ht:=qPo hk he
  have hs:=qP6 hk he
  have h:=Sm.side_len (127-e) (Sm.bel kv k e)
  have hl:=hf.k16
  unfold cur
  by_cases h0:Sm.bit k e=0
  · rw [h0] at ht hs
    rw [Sm.bel_half hl hk hk he true (by rw [if_pos rfl];exact hs),Sm.bel_half hl hk ((qCD k e).trans hk) he false (by rw [if_neg xC];exact ht)]
    exact h
  · rw [show Sm.bit k e=1 by omega] at ht hs
    rw [Sm.bel_half hl hk hk he false (by rw [if_neg xC];exact hs),Sm.bel_half hl hk ((qCD k e).trans hk) he true (by rw [if_pos rfl];exact ht)]
    omega
theorem qBv{kv:List Sm.PR}(hf:qCF kv){k:xA}(hk:k.length=16){d s:Nat}(h:qIo kv k d s):qLX (bsd kv k d (s-d)) (qAP kv k s) (qA0 kv k s) (qA2 kv k s) k d:=by
  have hle:=h.le
  have hge:=h.ge
  have ht16: ∀e,(turn k e).length=16:=λe=>(qCD k e).trans hk
  refine⟨hk,by rw [qCr];omega,λj hj=>?_,λh0=>?_,λht=>?_,λht=>?_,qSA _ _ _ _⟩
  · rw [qCr] at hj
    rw [qMe _ _ _ hj]
    exact decide_eq_true (qJQ (Sm.bel_wf hf.once hf.k16 (ht16 _) xB))
  · rw [qCr] at h0⊢
    rw [qMe _ _ _ xB]
    have h2:=h.two (d+(s-d-1)) xB xB
    have ho:=qQi hf hk (e:=d+(s-d-1)) xB
    have hone:=h.one
    rw [show d+(s-d-1)+1=s by omega] at ho⊢
    have hw:=Sm.bel_wf hf.once hf.k16 (ht16 (d+(s-d-1))) (d:=s) hle
    refine⟨λe=>?_,λhth=>?_⟩
    · have:=(Sm.nd_eq0 hw).1 e
      rw [this] at ho
      simp at ho
      omega
    · have h3:(kd kv k s).length≠1:=of_decide_eq_false hth
      rw [qIW hf.once] at h3
      exact qMI hw xB
  · have h3:(kd kv k s).length≠1:=of_decide_eq_false ht
    unfold qA0 qA2
    rw [if_neg h3,if_neg h3];exact⟨O,O⟩
  · have h3:(kd kv k s).length=1:=of_decide_eq_true ht
    obtain ⟨q,hq⟩:=List.length_eq_one_iff.1 h3
    have hm:q∈kd kv k s:=by rw [hq];exact .head _
    obtain ⟨⟨v,hv⟩,hb⟩:=qVb hm
    unfold qA0
    rw [if_pos h3,hq,qCr,show d+(s-d)=s by omega]
    exact⟨hf.k16 _ hv,hb⟩
theorem qUb{kv:List Sm.PR}(hf:qCF kv){k:xA}{d s:Nat}(h:qIo kv k d s):(if qAP kv k s=true then Sb.leafN (qA0 kv k s) (qA2 kv k s) else [0])=Sm.ndB kv k s:=by
  unfold Sm.ndB
  have e1:Sm.bel kv k s=cur kv k s:=rfl
  have hone:=h.one
  by_cases h3:(kd kv k s).length=1
  · rw [if_pos (show qAP kv k s=true from decide_eq_true h3),e1,qJh hf.once h3,Sm.nd_one]
  · rw [if_neg (by unfold qAP;rw [decide_eq_false h3];decide)]
    rw [qIW hf.once] at h3
    rw [e1,jU (show(cur kv k s).length=0 by omega),Sm.nd_nil]
theorem qYU{kv:List Sm.PR}(hf:qCF kv){k:xA}{d s:Nat}(h:qIo kv k d s):
    (Sm.getP kv k).isSome=(qAP kv k s&&decide (qA0 kv k s=k))∧(qAP kv k s=true→qA0 kv k s=k→Sm.getP kv k=some (qA2 kv k s)):=by
  have hself:Sm.belowB k k s=true:=Sm.belowB_yes λ_ _=>rfl
  have hone:=h.one
  have hmem: ∀v,Sm.getP kv k=some v→(k,v)∈cur kv k s:=λv hv=>List.mem_filter.2 ⟨Sm.getP_some hv,hself⟩
  by_cases h3:(kd kv k s).length=1
  · have hc:=qJh hf.once h3
    have ht:qAP kv k s=true:=decide_eq_true h3
    have hin:(qA0 kv k s,qA2 kv k s)∈kv:=(List.mem_filter.1 (show(qA0 kv k s,qA2 kv k s)∈cur kv k s by rw [hc];exact .head _)).1
    rw [ht,Bool.true_and]
    by_cases hk:qA0 kv k s=k
    · have hg:=Sm.getP_mem hf.once hin
      rw [show(qA0 kv k s,qA2 kv k s).1=k from hk] at hg
      rw [hg,decide_eq_true hk]
      exact⟨O,λ_ _=>rfl⟩
    · rw [decide_eq_false hk]
      refine⟨?_,λ_ q=>absurd q hk⟩
      cases hg:Sm.getP kv k with
      |none=>rfl
      |some v=>
        have:=hmem v hg
        rw [hc,jR] at this
        injection this with e _
        exact absurd e.symm hk
  · have ht:qAP kv k s=false:=decide_eq_false h3
    rw [ht,Bool.false_and]
    refine⟨?_,λq=>by cases q⟩
    rw [qIW hf.once] at h3
    have h0:cur kv k s= []:=jU xB
    cases hg:Sm.getP kv k with
    |none=>rfl
    |some v=>
      have:=hmem v hg
      rw [h0] at this;cases this
theorem qNa{s:xA}(h:s= [0]):qQ0 s=true:=decide_eq_true (.inl h)
theorem qGD{s:xA}(h1:s.length=17)(h2:(s.getD 0 0).toNat=1∨(s.getD 0 0).toNat=2):qQ0 s=true:=decide_eq_true (.inr ⟨h1,h2⟩)
theorem qD4{s:xA}(h0: ¬s= [0])(h: ¬(s.length=17∧((s.getD 0 0).toNat=1∨(s.getD 0 0).toNat=2))):qQ0 s=false:=decide_eq_false (λq=>q.elim h0 h)
theorem qUD{s:xA}(h:(s.getD 0 0).toNat=2):0<s.length:=by
 cases s with
 |nil=>cases h
 |cons a r=>exact Nat.zero_lt_succ _
theorem qKU(F:Hp)(k:xA)(z:Int):Cz prog 143 [Str (k),I (z)] F (.bool (decide (k.length=16∧0≤z∧z≤128))):=by
 refine Ct.walk func143 O ntmps143 O (λw0 hw0=>?_)
 refine J.f λ_ j1=>J.b O<|J.c j1<|J.f λ_ j2=>J.b O<|J.g (qAv u9_ O O) O<|J.g (qAU O O O) O<|J.b O<|J.c0 (d:=8) O (λh8=>?_) (λh8=>?_)
 ·
  refine J.b O<|J.H (qBI O O O) O<|J.j 2 O<|J.c0 (d:=12) O (λh12=>?_) (λh12=>?_)
  ·
   exact J.b O<|J.H (qCV O O O) O<|J.j 2 O<|J.c j2<|J.A<|J.E hw0 O () (by first|rw [decide_eq_false xB]|rw [decide_eq_true xB]|exact congrArg Value.bool (decide_eq_decide.2 xB)) trivial [0] O xC
  exact J.j 4 O<|J.c j2<|J.A<|J.E hw0 O () (by first|rw [decide_eq_false xB]|rw [decide_eq_true xB]|exact congrArg Value.bool (decide_eq_decide.2 xB)) trivial [0] O xC
 exact J.j 8 O<|J.c j2<|J.A<|J.E hw0 O () (by first|rw [decide_eq_false xB]|rw [decide_eq_true xB]|exact congrArg Value.bool (decide_eq_decide.2 xB)) trivial [0] O xC
theorem qPn(F:Hp)(k:xA)(hk:k.length=16)(d:Nat)(hd:d<128):Cz prog 179 [Str (k),I (d:Nat)] F (Str (turn k d)):=by
 refine Ct.walk func179 O ntmps179 O (λw0 hw0=>?_)
 refine J.f λ_ j1=>J.b O<|J.c j1<|J.f λ_ j2=>J.b O<|J.k (qIL O O u9_ qBy u5_) O ?_
 rintro⟨g7,c7,m7⟩ h7
 try dsimp only at h7
 change J _ ((7,.slice (some ⟨g7,0,none⟩) k.length c7)::_) _ [F,m7] _
 refine J.b O<|J.c j2<|J.q λ_ j3=>J.b2 [F,m7] [11] (.y 0 (.y 1 (.y 2 (.y 3 (.y 4 (.y 5 (.y 6 (.y 7 (.y 8 (.y 9 (.y 10 (.e 11 .nil)))))))))))) Tryz.wide xF xD ?_
 refine J.G ?_
 refine J.G ?_
 refine J.p O ((qIM O O O xE).nat (d/8) xB) O O<|J.p O (qAl (i:=d/8) (j:=0+(d/8)*1) O O O qBy z5_ xE xB) O O<|J.p O (qAL O O b5_ (m:=m7) xD (h7.sl.cells (qBo (qAk 0 xE)))) O O<|J.G ?_
 refine J.p O ((qKa O O O xE).nat (d%8) xB) O O<|J.p O ((qA8 O O O xB).nat (7-d%8) xB) O O<|J.p O ((qWv (a:=1) (m:=7-d%8) O O O).as (v':=B8 (UInt8.ofNat (1*2^(7-d%8)))) (by rw [jn xB];rfl)) O O<|J.p O (qWt O O O) O O<|J.p O (qAl (i:=d/8) (j:=0+(d/8)*1) O O O qBy z5_ xE xB) O O<|J.c1 O (qBX (i:=1) (k:=d/8) (off:=0) (b:= [B8 (k.getD (d/8) 0^^^UInt8.ofNat (1*2^(7-d%8)))]) O O O O h7 (vs:= [B8 (k.getD (d/8) 0^^^UInt8.ofNat (1*2^(7-d%8)))]) O z5_ O xB (qBo (qAk 0 xE)) O (jK _)) O O O ?_
 rintro m2_1 hm2_1
 rw [qF5] at hm2_1
 refine J.b1<|J.u (J.D j3 ?_)
 exact J.f λ_ j4=>J.b O<|J.g (qB1 O O qBy u5_ u9_ (m:=m2_1) xD hm2_1.sl) O<|J.b O<|J.c j4<|J.A<|J.E hw0 O () (by unfold turn;rfl) trivial [0] O xC
theorem qTi(F:Hp)(s:xA):Cz prog 144 [Str (s)] F (.bool (qQ0 s)):=by
 refine Ct.walk func144 O ntmps144 O (λw0 hw0=>?_)
 refine J.f λ_ j1=>J.b O<|J.c j1<|J.f λ_ j2=>J.b O<|J.g (qBY O O O) O<|J.b O<|J.c0 (d:=5) O (λh5=>?_) (λh5=>?_)
 ·
  refine J.j 4 O<|J.d1 (Wan.un O O O O) O O ?_
  refine J.d1 (Wan.un O O O O) O O ?_
  refine J.d1 (Wan.un O O O O) O O ?_
  refine J.d1 (Wan.un O O O O) O O ?_
  refine J.d1 (Wan.un O O O O) O O ?_
  refine J.d1 (Wan.un O O O O) O O ?_
  refine J.d1 (Wan.un O O O O) O O ?_
  refine J.d1 (Wan.un O O O O) O O ?_
  exact J.j 3 O<|J.c j2<|J.A<|J.E hw0 O () (by first|rw [qNa xG]|rw [qGD xB xB]|rw [qD4 xG xB]|(by_cases q:(s.getD 0 0).toNat=2;rw [qGD xB (.inr q),decide_eq_true xB];rw [qD4 xG xB,decide_eq_false xB])) trivial [0] O xC
 refine J.b O<|J.H (qAv u9_ O O) O<|J.H (qAU O O O) O<|J.b O<|J.c0 (d:=9) O (λh9=>?_) (λh9=>?_)
 ·
  refine J.b O<|J.H (qBk (c:=s.getD 0 0) u9_ O O O (qAk 0 xE)) O<|J.H (qAU O O O) O<|J.b O<|J.c0 (d:=13) O (λh13=>?_) (λh13=>?_)
  ·
   exact J.j 7 O<|J.c j2<|J.A<|J.E hw0 O () (by first|rw [qNa xG]|rw [qGD xB xB]|rw [qD4 xG xB]|(by_cases q:(s.getD 0 0).toNat=2;rw [qGD xB (.inr q),decide_eq_true xB];rw [qD4 xG xB,decide_eq_false xB])) trivial [0] O xC
  exact J.b O<|J.H (qBk (c:=s.getD 0 0) u9_ O O O (qAk 0 xE)) O<|J.H (qAU O O O) O<|J.j 4 O<|J.c j2<|J.A<|J.E hw0 O () (by first|rw [qNa xG]|rw [qGD xB xB]|rw [qD4 xG xB]|(by_cases q:(s.getD 0 0).toNat=2;rw [qGD xB (.inr q),decide_eq_true xB];rw [qD4 xG xB,decide_eq_false xB])) trivial [0] O xC
 refine J.j 4 O<|J.d1 (Wan.un O O O O) O O ?_
 refine J.d1 (Wan.un O O O O) O O ?_
 refine J.d1 (Wan.un O O O O) O O ?_
 exact J.j 4 O<|J.c j2<|J.A<|J.E hw0 O () (by first|rw [qNa xG]|rw [qGD xB xB]|rw [qD4 xG xB]|(by_cases q:(s.getD 0 0).toNat=2;rw [qGD xB (.inr q),decide_eq_true xB];rw [qD4 xG xB,decide_eq_false xB])) trivial [0] O xC
theorem qMT(F:Hp)(A:Option Addr)(c:Nat)(bs:List xA)(hs:Sl F 1 A bs.length c (qAH bs))(th:Bool)(pk pv k:xA)(d:Nat)(hg:qLX bs th pk pv k d):Cz prog 72 [.agg #[.slice A bs.length c,.bool (th),Str (pk),Str (pv)],Str (k),I (d:Nat)] F (.bool true):=by
 have hle:=hg.le
 have hk16:=hg.k16
 refine Ct.walk func72 O ntmps72 O (λw0 hw0=>?_)
 refine J.f λ_ j1=>J.k (qAd O O O) O λg3 _=>J.b O<|J.c j1<|J.f λ_ j2=>J.V 0 qEG qB5 O O O O O<|J.a6 1 qCO O O O O O<|J.g (qAQ qAm O O) O<|J.b O<|J.c j2<|J.q λ_ j3=>J.f λ_ j4=>J.j 2 O<|J.k (qAY O O (λF' hF=>qKU F' k ((d:Nat):Int))) O λg16 _=>J.g ((qAq O O).as (v':= .bool false) (by rw [decide_eq_true (show k.length=16∧(0:Int)≤((d:Nat):Int)∧((d:Nat):Int)≤128 from⟨hk16,xB,xB⟩)];rfl)) O<|J.j 3 O<|J.H (qA8 O O O xE) O<|J.H ((qA7 O O O).no xB) O<|J.b O<|J.c j4<|J.a3 ?_
 refine J.M j3<|J.q λ_ j5=>J.f λ_ j6=>J.V 0 qEG qB5 O O O O O<|J.a6 1 qCO O O O O O<|J.g (qAQ qAm O O) O<|J.b O<|J.c j6<|J.T<|J.b8 (X:=Nat) (λζ=> [(1,Str (k)),(2,I (d:Nat)),(3,Ptr g3),(7,I (bs.length:Nat)),(25,.slice A bs.length c),(26,I (bs.length:Nat)),(27,I (ζ:Nat))]) (λζ=> [F,blk g3 [.slice A bs.length c,.bool (th),Str (pk),Str (pv)] 87]) (λζ=>ζ≤bs.length) (λζ=>bs.length-ζ) 0 (jG _) ⟨O,O,O,O,O,O,O,trivial⟩ (λ_ h=>h) ?_
 rintro i hi I0 hI0
 refine J.f λ_ j7=>J.g (qAS O O O) O<|J.c j7<|J.q λ_ j8=>J.Z O (λh28=>?_) (λh28=>?_)
 ·
  refine J.M j8<|J.q λ_ j9=>J.T<|J.f λ_ j10=>J.g (qAE O O O qAm z9_ hs xE) O<|J.g (qAL O O b9_ (m:=F) xD (hs.elem (qAe (qAk [] xE)))) O<|J.b O<|J.c j10<|J.f λ_ j11=>J.b O<|J.k (qAY O O (λF' hF=>qTi F' (bs.getD i []))) O λg32 _=>J.g ((qAq O O).as (v':= .bool false) (by rw [hg.nodes i xB];rfl)) O<|J.c j11<|J.a3 ?_
  refine J.b3<|J.a4<|J.u (J.D j9 ?_)
  exact J.L<|J.g ((qAR O O O xE).nat (i+1) xB) O<|J.b O<|J.a5<|J.u<|J.b0 (i+1) (λη (hη:_∧bs.length-η<bs.length-i)=>hI0 η hη.1 hη.2) ⟨xB,by first|omega|(dsimp only;omega)⟩ ⟨O,O,O,O,O,O,O,trivial⟩ (λ_ h=>h)
 refine J.b5<|J.a0<|J.a0<|J.b6 ?_
 refine J.u (J.D j5 ?_)
 refine J.q λ_ j12=>J.f λ_ j13=>J.b O<|J.g (qA7 O O O) O<|J.c j13<|J.Z O (λh36=>?_) (λh36=>?_)
 ·
  obtain ⟨hl1,hl2⟩:=hg.last xB
  refine J.f λ_ j14=>J.V 0 qEG qB5 O O O O O<|J.a6 1 qCO O O O O O<|J.b O<|J.g ((qA8 O O O xB).nat (bs.length-1) xB) O<|J.g (qAE O O O qAm z9_ hs xE) O<|J.g (qAL O O b9_ (m:=F) xD (hs.elem (qAe (qAk [] xE)))) O<|J.b O<|J.c j14<|J.f λ_ j15=>J.b O<|J.g ((qBY O O O).no (hl1)) O<|J.b O<|J.H (qAA O O qEG O z4_ O) O<|J.H (qAC 1 O O O b4_ O) O<|J.H (qAq O O) O<|J.b O<|J.e4 (d:=49) O (λh49=>?_) (λh49=>?_)
  ·
   refine J.b O ?_
   have hl3:=qUD (hl2 (by simpa using h49))
   refine J.H (qBk (c:=(bs.getD (bs.length-1) []).getD 0 0) u9_ O O O (qAk 0 xE)) O<|J.H ((qAf O O O).no (by have:=hl2 (by simpa using h49);omega)) O<|J.j 2 O<|J.c j15<|J.a3 ?_
   refine J.M j12<|J.q λ_ j16=>J.f λ_ j17=>J.V 1 qEG z4_ O O O O O<|J.a6 1 b4_ O O O O O<|J.g (qAq O O) O<|J.c j17<|J.c8 O (λh57=>?_) (λh57=>?_)
   ·
    exact J.f λ_ j18=>J.V 2 qEG z9_ O O O O O<|J.a6 1 b9_ O O O O O<|J.g ((qBY O O O).yes ((hg.no (by simpa using h57)).1)) O<|J.b O<|J.H (qAA O O qEG O z9_ O) O<|J.H (qAC 1 O O O b9_ O) O<|J.H ((qBY O O O).yes ((hg.no (by simpa using h57)).2)) O<|J.j 2 O<|J.c j18<|J.A<|J.W<|J.E hw0 O () (by first|rfl|(rw [jZ,jn xB,(hg.yes (by simpa using h57)).2])) trivial [0] O xC
   refine J.M j16<|J.f λ_ j19=>J.V 2 qEG z9_ O O O O O<|J.a6 1 b9_ O O O O O<|J.g (qAv u9_ O O) O<|J.g ((qAU O O O).yes (by have:=(hg.yes (by simpa using h57)).1;omega)) O<|J.b O<|J.H (qAA O O qEG O z9_ O) O<|J.H (qAC 1 O O O b9_ O) O<|J.j 3 O<|J.H ((qAR O O O xE).nat (d+bs.length) xB) O ?_
   have hpl:=(hg.yes (by simpa using h57)).1
   exact J.d0 (qAY O O (λF' hF=>qFh F' pk xB k xB ((d+bs.length:Nat):Int))) O λg77 _=>J.j 2 O<|J.c j19<|J.A<|J.E hw0 O () (by first|rfl|(rw [jZ,jn xB,(hg.yes (by simpa using h57)).2])) trivial [0] O xC
  refine J.j 5 O<|J.c j15<|J.a3 ?_
  refine J.M j12<|J.q λ_ j20=>J.f λ_ j21=>J.V 1 qEG z4_ O O O O O<|J.a6 1 b4_ O O O O O<|J.g (qAq O O) O<|J.c j21<|J.c8 O (λh57=>?_) (λh57=>?_)
  ·
   exact J.f λ_ j22=>J.V 2 qEG z9_ O O O O O<|J.a6 1 b9_ O O O O O<|J.g ((qBY O O O).yes ((hg.no (by simpa using h57)).1)) O<|J.b O<|J.H (qAA O O qEG O z9_ O) O<|J.H (qAC 1 O O O b9_ O) O<|J.H ((qBY O O O).yes ((hg.no (by simpa using h57)).2)) O<|J.j 2 O<|J.c j22<|J.A<|J.W<|J.E hw0 O () (by first|rfl|(rw [jZ,jn xB,(hg.yes (by simpa using h57)).2])) trivial [0] O xC
  refine J.M j20<|J.f λ_ j23=>J.V 2 qEG z9_ O O O O O<|J.a6 1 b9_ O O O O O<|J.g (qAv u9_ O O) O<|J.g ((qAU O O O).yes (by have:=(hg.yes (by simpa using h57)).1;omega)) O<|J.b O<|J.H (qAA O O qEG O z9_ O) O<|J.H (qAC 1 O O O b9_ O) O<|J.j 3 O<|J.H ((qAR O O O xE).nat (d+bs.length) xB) O ?_
  have hpl:=(hg.yes (by simpa using h57)).1
  exact J.d0 (qAY O O (λF' hF=>qFh F' pk xB k xB ((d+bs.length:Nat):Int))) O λg77 _=>J.j 2 O<|J.c j23<|J.A<|J.E hw0 O () (by first|rfl|(rw [jZ,jn xB,(hg.yes (by simpa using h57)).2])) trivial [0] O xC
 refine J.M j12<|J.q λ_ j24=>J.f λ_ j25=>J.V 1 qEG z4_ O O O O O<|J.a6 1 b4_ O O O O O<|J.g (qAq O O) O<|J.c j25<|J.c8 O (λh57=>?_) (λh57=>?_)
 ·
  exact J.f λ_ j26=>J.V 2 qEG z9_ O O O O O<|J.a6 1 b9_ O O O O O<|J.g ((qBY O O O).yes ((hg.no (by simpa using h57)).1)) O<|J.b O<|J.H (qAA O O qEG O z9_ O) O<|J.H (qAC 1 O O O b9_ O) O<|J.H ((qBY O O O).yes ((hg.no (by simpa using h57)).2)) O<|J.j 2 O<|J.c j26<|J.A<|J.W<|J.E hw0 O () (by first|rfl|(rw [jZ,jn xB,(hg.yes (by simpa using h57)).2])) trivial [0] O xC
 refine J.M j24<|J.f λ_ j27=>J.V 2 qEG z9_ O O O O O<|J.a6 1 b9_ O O O O O<|J.g (qAv u9_ O O) O<|J.g ((qAU O O O).yes (by have:=(hg.yes (by simpa using h57)).1;omega)) O<|J.b O<|J.H (qAA O O qEG O z9_ O) O<|J.H (qAC 1 O O O b9_ O) O<|J.j 3 O<|J.H ((qAR O O O xE).nat (d+bs.length) xB) O ?_
 have hpl:=(hg.yes (by simpa using h57)).1
 exact J.d0 (qAY O O (λF' hF=>qFh F' pk xB k xB ((d+bs.length:Nat):Int))) O λg77 _=>J.j 2 O<|J.c j27<|J.A<|J.E hw0 O () (by first|rfl|(rw [jZ,jn xB,(hg.yes (by simpa using h57)).2])) trivial [0] O xC
theorem qUt(F:Hp)(B:Option Addr)(n e:Nat):Ct prog 214 [.slice B n e] [F] (λx:Nat=> .func (.func 264) #[] #[Ptr x]) (λ_=>True) (λx=> [F,blk x [.slice B n e] 50]):=by
 refine Ct.walk func214 O ntmps214 O (λw0 hw0=>?_)
 exact J.f λ_ j1=>J.k (qAd O O O) O λg1 _=>J.b O<|J.c j1<|J.f λ_ j2=>J.g (qBN O O) O<|J.b O<|J.c j2<|J.A<|J.E hw0 O g1 O trivial [0,1] O xC
theorem qSI(Fr:Hp)(gB:Nat)(B:Option Addr)(W:List xA)(e:Nat)(hn2:W.length≤1073741824)(ha:qAG Fr ⟨gB,0,none⟩ [.slice B W.length e])(hs:Sl Fr 1 B W.length e (qAH W)):
    qJq prog 264 [Ptr gB] Fr (λi=> [I (W.length-1-i:Nat),Str (W.getD (W.length-1-i) [])]) W.length:=by
  refine qJq.walk func264 O ntmps264 O (λ{X} M IY S l x0 w0 hw0 h0 hY=>?_)
  refine J.f λ_ j1=>J.g (qAL O O qCO (m:=Fr) xD (ha)) O<|J.g (qAQ qAm O O) O<|J.g ((qA8 O O O xB).as (v':=I ((W.length:Int)-1-((0:Nat):Int))) (congrArg I xB)) O<|J.b O<|J.c j1<|J.T<|J.b8 (X:=Nat×X) (λy=> [(0,.func (.yield l) #[] #[]),(1,Ptr gB),(3,I ((W.length:Int)-1-(y.1:Int)))]) (λy=> [Fr,M y.2]) (λy=>y.1≤W.length∧IY y.1 y.2) (λy=>W.length-y.1) (0,x0) (⟨jG _,h0⟩) ⟨O,O,O,trivial⟩ (λ_ h=>h) ?_
  rintro⟨i,x⟩ ⟨hi,hI⟩ I0 hI0
  dsimp only at hi hI⊢
  refine J.q λ_ j2=>J.f λ_ j3=>J.b O<|J.g (qBI O O O) O<|J.c j3<|J.Z O (λh8=>?_) (λh8=>?_)
  ·
    refine J.M j2<|J.q λ_ j4=>J.T<|J.q λ_ j5=>J.f6 ?_
    refine J.c9 (qAb O O) O O O ?_
    refine J.c9 ((qAb O O).nat (W.length-1-i) xB) O O O ?_
    refine J.c9 (qAL O O qCO (m:=Fr) xD (ha)) O O O ?_
    refine J.c9 ((qAb O O).nat (W.length-1-i) xB) O O O ?_
    refine J.c9 (qAE O O O qAm z9_ hs xE) O O O ?_
    refine J.c9 (qAL O O b9_ (m:=Fr) xD (hs.elem (qAe (qAk [] xE)))) O O O ?_
    refine J.f7 (ex:= []) O O O O O O (hY i x xB hI) ?_
    rintro x' b hb1 hb2
    cases b
    ·
      have hyb:=hb2 O
      refine J.c9 (qAq O O) O O O ?_
      refine J.e2 ?_
      refine J.u (J.D j5 ?_)
      refine J.c2 ?_
      exact J.A<|J.a7<|J.W<|J.W<|J.a7<|J.a9 hw0 (λ_ _ h=>h) (qII O) (λw hs=>⟨x',⟨_,O⟩,.inr hyb,hs⟩)
    have hyb:=hb1 O
    refine J.c9 (qAq O O) O O O ?_
    refine J.e2 ?_
    refine J.u (J.D j5 ?_)
    refine J.a3 ?_
    refine J.b3<|J.a4<|J.u (J.D j4 ?_)
    exact J.L<|J.b O<|J.g ((qA8 O O O xB).as (v':=I ((W.length:Int)-1-((i+1:Nat):Int))) (congrArg I xB)) O<|J.b O<|J.a5<|J.u<|J.b0 (i+1,x') (λy (hy:_∧W.length-y.1<W.length-i)=>hI0 y hy.1 hy.2) ⟨⟨by dsimp only;omega,hyb⟩,by dsimp only;omega⟩ ⟨O,O,O,trivial⟩ (λ_ h=>h)
  refine J.b5<|J.a0<|J.a0<|J.b6 ?_
  exact J.d3 hw0 (λ_ _ h=>h) (qII O) (λw hs=>⟨x,⟨_,O⟩,.inl (by rw [show W.length=i by omega];exact hI),hs⟩)
theorem qKX(F:Hp)(hK:qAG F ⟨3,0,none⟩ (Sha.K.map W32))(A:Option Addr)(c:Nat)(bs:List xA)(hs:Sl F 1 A bs.length c (qAH bs))(th:Bool)(pk pv xx k:xA)(d:Nat)(hle:d+bs.length≤128)(hk16:k.length=16)(hsm: ∀s∈bs,s.length≤17)(hx:xx.length≤17):
    Cz prog 147 [.agg #[.slice A bs.length c,.bool (th),Str (pk),Str (pv)],Str xx,Str k,I (d:Nat)] F (Str (clm k d bs xx bs.length)):=by
  refine Ct.walk func147 O ntmps147 O (λw0 hw0=>?_)
  refine J.f λ_ j1=>J.k (qAd O O O) O λg4 _=>J.k (qAd O O O) O λg5 _=>J.k (qAd O O O) O λg6 _=>J.k (qAd O O O) O λg7 _=>J.b O<|J.c j1<|J.q λ_ j2=>J.f λ_ j3=>J.V 0 qEG qB5 O O O O O<|J.a6 1 qCO O O O O O<|J.k (qBP O O (λF' _=>qUt F' A bs.length c)) O ?_
  rintro gB _
  refine J.c j3<|J.T<|J.c4 [2,0,1,3,4,5] [blk g5 [Str (xx)] 9,F,blk g4 [.slice A bs.length c,.bool (th),Str (pk),Str (pv)] 87,blk g6 [Str (k)] 9,blk g7 [I (d:Nat)] 3,blk gB [.slice A bs.length c] 50] O xC<|J.g0 (λx:xA=> [blk g5 [Str (x)] 9]) [F,blk g4 [.slice A bs.length c,.bool (th),Str (pk),Str (pv)] 87,blk g6 [Str (k)] 9,blk g7 [I (d:Nat)] 3,blk gB [.slice A bs.length c] 50] (λi x=>x=clm k d bs xx i) (λ_ _=>False) xx O ent (λFr hF=>qSI Fr gB A bs c xB (qAG.blk0.mono (hF (blk gB [.slice A bs.length c] 50) xD)) (hs.mono (Fa hF))) (λ_ _=>rfl) O (O) ?_ ?_ ?_
  ·
    intro i x l wa wb hi hI K4 Post4 j4 hN4 hR4 hE4
    subst hI
    obtain ⟨y,hy⟩: ∃y,y=clm k d bs xx i:=⟨_,rfl⟩
    obtain ⟨s,hsd⟩: ∃s,s=bs.getD (bs.length-1-i) []:=⟨_,rfl⟩
    have hyl:y.length≤17:=by rw [hy];exact qLH hsm hx i
    have hsl:s.length≤17:=by rw [hsd,jB,jC (show bs.length-1-i<bs.length by omega)];exact hsm _ (jT _)
    rw [←hy,←hsd]
    refine J.f4 (λ_ j5=>?_)
    refine J.d8 ?_
    refine J.b O<|J.d9 ?_
    refine J.u (J.D j5 ?_)
    refine J.d8 ?_
    refine J.b O<|J.d9 ?_
    refine J.u (j4 _ _ ?_)
    refine J.f5 ?_
    refine J.f4 (λ_ j6=>?_)
    refine J.d8 ?_
    refine J.a6 3 b9_ O O O O O<|J.a6 4 b3_ O O O O O<|J.b O<|J.g ((qAR O O O xB).nat (d+(bs.length-1-i)) xB) O<|J.k (qAY O O (λF' hF=>qLN F' k xB (d+(bs.length-1-i)) xB)) O λg20 _=>J.g (qAU O O O) O<|J.d9 ?_
    refine J.u (J.D j6 ?_)
    refine J.g8 O (λh21=>?_) (λh21=>?_)
    ·
      refine J.d8 ?_
      refine J.a6 0 b9_ O O O O O<|J.b O<|J.k (qAY O O (λF' hF=>qGQ F' (hK.mo hF) y s xB xB)) O λg24 _=>J.a8 (qAD (l:= [Str (y)]) (i:=0) (vs:= [Str (Sb.join y s)]) O O O O O z9_ O O) O O λ_ _=>J.d9 ?_
      refine J.a4 ?_
      exact hN4 _ (Sb.join y s) (by rw [clm,up,if_pos xB,←hy,←hsd])
    refine J.d8 ?_
    refine J.b O<|J.a6 0 b9_ O O O O O<|J.k (qAY O O (λF' hF=>qGQ F' (hK.mo hF) s y xB xB)) O λg27 _=>J.a8 (qAD (l:= [Str (y)]) (i:=0) (vs:= [Str (Sb.join s y)]) O O O O O z9_ O O) O O λ_ _=>J.d9 ?_
    refine J.a4 ?_
    exact hN4 _ (Sb.join s y) (by rw [clm,up,if_neg xB,←hy,←hsd])
  ·
    intro w4 x hx4 hI
    subst hI
    refine J.a4<|J.u (J.D j2 ?_)
    exact J.f λ_ j7=>J.a6 0 b9_ O O O O O<|J.b O<|J.c j7<|J.A<|J.e8 hw0 hx4 (λ_ _ h=>h) (qKP O O) (qAi () O trivial [1] O xC)
  intro w4 x c hx4 hS
  exact hS.elim
def qF9(bs:List xA)(th:Bool)(pk pv k:xA)(d:Nat):xA:=clm k d bs (if th=true then Sb.leafN pk pv else [0]) bs.length
def qO5(bs:List xA)(th:Bool)(pk pv nd k v:xA)(d:Nat):Bool:=th&&(decide (pk=k)&&(decide (pv=v)&&decide (qF9 bs th pk pv k d=nd)))
def qEn(bs:List xA)(th:Bool)(pk pv nd k:xA)(d:Nat):Bool:=(!th||decide (pk≠k))&&decide (qF9 bs th pk pv k d=nd)
theorem qNk(k v:xA):(Sb.leafN k v).length≤17:=by unfold Sb.leafN;rw [jD,Sha.tagged_length];exact jK _
theorem qJD(F:Hp)(hK:qAG F ⟨3,0,none⟩ (Sha.K.map W32))(A:Option Addr)(c:Nat)(bs:List xA)(hs:Sl F 1 A bs.length c (qAH bs))(th:Bool)(pk pv k:xA)(d:Nat)(hg:qLX bs th pk pv k d)(hpv:pv.length≤1000000):Cz prog 73 [.agg #[.slice A bs.length c,.bool (th),Str (pk),Str (pv)],Str (k),I (d:Nat)] F (Str (qF9 bs th pk pv k d)):=by
 have hle:=hg.le
 have hk16:=hg.k16
 have hsm:=hg.small
 refine Ct.walk func73 O ntmps73 O (λw0 hw0=>?_)
 refine J.f λ_ j1=>J.k (qAd O O O) O λg3 _=>J.b O<|J.c j1 ?_
 refine J.q λ_ j2=>J.f λ_ j3=>J.b9 1 qGo qC1 O O O O O<|J.j 2 O<|J.k (qAY O O (λF' hF=>qMT F' A c bs (hs.mono (Fa hF)) th pk pv k d xG)) O λg11 _=>J.g (qAq O O) O<|J.c j3 ?_
 refine J.a3 ?_
 refine J.M j2 ?_
 refine J.f λ_ j4=>J.b O<|J.c j4 ?_
 refine J.q λ_ j5=>J.f λ_ j6=>J.V 1 qEG z4_ O O O O O<|J.a6 1 b4_ O O O O O<|J.c j6 ?_
 refine J.c8 O (λh14=>?_) (λh14=>?_)
 ·
  have hpl:=(hg.yes h14).1
  refine J.L<|J.V 2 qEG z9_ O O O O O<|J.a6 1 b9_ O O O O O<|J.V 3 qEG z9_ O O O O O<|J.a6 1 b9_ O O O O O<|J.k (qAY O O (λF' hF=>qM8 F' (hK.mo hF) pk pv (by first|omega|exact jf O) (by first|omega|exact jf O))) O λg19 _=>J.b O<|J.c j5 ?_
  refine J.f λ_ j7=>J.b9 1 qGo qC1 O O O O O<|J.j 3 O<|J.k (qAY O O (λF' hF=>qKX F' (hK.mo hF) A c bs (hs.mono (Fa hF)) th pk pv (Sb.leafN pk pv) k d xG xG xG (by first|assumption|exact qNk _ _|exact jf O))) O λg24 _=>J.b O<|J.c j7 ?_
  exact J.A<|J.E hw0 O () (by unfold qF9;first|rw [if_pos xG]|rw [if_neg (by simp [*])]) trivial [0] O xC
 refine J.M j5 ?_
 refine J.f λ_ j8=>J.b9 1 qGo qC1 O O O O O<|J.j 3 O<|J.k (qAY O O (λF' hF=>qKX F' (hK.mo hF) A c bs (hs.mono (Fa hF)) th pk pv ([0]) k d xG xG xG (by first|assumption|exact qNk _ _|exact jf O))) O λg24 _=>J.b O<|J.c j8 ?_
 exact J.A<|J.E hw0 O () (by unfold qF9;first|rw [if_pos xG]|rw [if_neg (by simp [*])]) trivial [0] O xC
theorem qNv(F:Hp)(hK:qAG F ⟨3,0,none⟩ (Sha.K.map W32))(A:Option Addr)(c:Nat)(bs:List xA)(hs:Sl F 1 A bs.length c (qAH bs))(th:Bool)(pk pv k:xA)(d:Nat)(hg:qLX bs th pk pv k d)(nd v:xA)(hpv:pv.length≤1000000):Cz prog 39 [.agg #[.slice A bs.length c,.bool (th),Str (pk),Str (pv)],Str (nd),Str (k),Str (v),I (d:Nat)] F (.bool (qO5 bs th pk pv nd k v d)):=by
 have hle:=hg.le
 have hk16:=hg.k16
 have hsm:=hg.small
 refine Ct.walk func39 O ntmps39 O (λw0 hw0=>?_)
 refine J.f λ_ j1=>J.k (qAd O O O) O λg5 _=>J.b O<|J.c j1 ?_
 refine J.f λ_ j2=>J.b9 1 qGo qC1 O O O O O<|J.j 2 O<|J.k (qAY O O (λF' hF=>qMT F' A c bs (hs.mono (Fa hF)) th pk pv k d xG)) O λg14 _=>J.b O<|J.H (qAA O O qEG O z4_ O) O<|J.H (qAC 1 O O O b4_ O) O<|J.j 2 O<|J.e4 (d:=19) O (λh19=>?_) (λh19=>?_)
 ·
  refine J.H (qAA O O qEG O z9_ O) O<|J.H (qAC 1 O O O b9_ O) O<|J.b O<|J.H (qBY O O O) O<|J.j 2 O<|J.c0 (d:=25) O (λh25=>?_) (λh25=>?_)
  ·
   refine J.H (qAA O O qEG O z9_ O) O<|J.H (qAC 1 O O O b9_ O) O<|J.b O<|J.H (qBY O O O) O<|J.j 2 O<|J.c0 (d:=31) O (λh31=>?_) (λh31=>?_)
   ·
    refine J.H (qAW 1 O O O qGo qC1 O) O<|J.j 2 O<|J.d0 (qAY O O (λF' hF=>qJD F' (hK.mo hF) A c bs (hs.mono (Fa hF)) th pk pv k d xG xG)) O λg35 _=>J.b O<|J.H (qBY O O O) O<|J.j 2 O<|J.c j2 ?_
    exact J.A<|J.E hw0 O () (by unfold qO5;simp [*]) trivial [0] O xC
   refine J.j 8 O<|J.c j2 ?_
   exact J.A<|J.E hw0 O () (by unfold qO5;simp [*]) trivial [0] O xC
  refine J.j 14 O<|J.c j2 ?_
  exact J.A<|J.E hw0 O () (by unfold qO5;simp [*]) trivial [0] O xC
 refine J.j 20 O<|J.c j2 ?_
 exact J.A<|J.E hw0 O () (by unfold qO5;simp [*]) trivial [0] O xC
theorem qOw(F:Hp)(hK:qAG F ⟨3,0,none⟩ (Sha.K.map W32))(A:Option Addr)(c:Nat)(bs:List xA)(hs:Sl F 1 A bs.length c (qAH bs))(th:Bool)(pk pv k:xA)(d:Nat)(hg:qLX bs th pk pv k d)(nd:xA)(hpv:pv.length≤1000000):Cz prog 82 [.agg #[.slice A bs.length c,.bool (th),Str (pk),Str (pv)],Str (nd),Str (k),I (d:Nat)] F (.bool (qEn bs th pk pv nd k d)):=by
 have hle:=hg.le
 have hk16:=hg.k16
 have hsm:=hg.small
 refine Ct.walk func82 O ntmps82 O (λw0 hw0=>?_)
 refine J.f λ_ j1=>J.k (qAd O O O) O λg4 _=>J.b O<|J.c j1 ?_
 refine J.f λ_ j2=>J.b9 1 qGo qC1 O O O O O<|J.j 2 O<|J.k (qAY O O (λF' hF=>qMT F' A c bs (hs.mono (Fa hF)) th pk pv k d xG)) O λg12 _=>J.b O<|J.H (qAA O O qEG O z4_ O) O<|J.H (qAC 1 O O O b4_ O) O<|J.H (qAq O O) O<|J.b O<|J.e4 (d:=17) O (λh17=>?_) (λh17=>?_)
 ·
  refine J.j 7 O<|J.H (qAW 1 O O O qGo qC1 O) O<|J.j 2 O<|J.d0 (qAY O O (λF' hF=>qJD F' (hK.mo hF) A c bs (hs.mono (Fa hF)) th pk pv k d xG xG)) O λg28 _=>J.b O<|J.H (qBY O O O) O<|J.j 2 O<|J.c j2 ?_
  exact J.A<|J.E hw0 O () (by unfold qEn;simp [*]) trivial [0] O xC
 refine J.H (qAA O O qEG O z9_ O) O<|J.H (qAC 1 O O O b9_ O) O<|J.b O<|J.H (qDi O O O) O<|J.j 3 O<|J.c0 (d:=24) O (λh24=>?_) (λh24=>?_)
 ·
  refine J.H (qAW 1 O O O qGo qC1 O) O<|J.j 2 O<|J.d0 (qAY O O (λF' hF=>qJD F' (hK.mo hF) A c bs (hs.mono (Fa hF)) th pk pv k d xG xG)) O λg28 _=>J.b O<|J.H (qBY O O O) O<|J.j 2 O<|J.c j2 ?_
  exact J.A<|J.E hw0 O () (by unfold qEn;simp [*]) trivial [0] O xC
 refine J.j 8 O<|J.c j2 ?_
 exact J.A<|J.E hw0 O () (by unfold qEn;simp [*]) trivial [0] O xC
theorem qKj(F:Hp)(k:xA)(hk:k.length≤1000000)(pb pd:Nat)(b:xA)(d:Int)(hpb:qAG F ⟨pb,0,none⟩ [Str b])(hpd:qAG F ⟨pd,0,none⟩ [I d])(hb:b.length≤1000000):Cz prog 177 [Str (k),Ptr pb,Ptr pd] F (.bool (nbl b d k)):=by
 refine Ct.walk func177 O ntmps177 O (λw0 hw0=>?_)
 refine J.f λ_ j1=>J.b O<|J.c j1 ?_
 refine J.f λ_ j2=>J.b O<|J.g (qAL O O b9_ (m:=F) xD (hpb)) O<|J.g (qAL O O b3_ (m:=F) xD (hpd)) O<|J.k (qAY O O (λF' hF=>qFh F' k xB b xB d)) O λg8 _=>J.g (qAq O O) O<|J.b O<|J.c j2 ?_
 exact J.A<|J.E hw0 O () (by unfold nbl;rfl) trivial [0] O xC
theorem qTI(F:Hp)(A:Option Addr)(n c:Nat)(ks:List xA)(hs:Sl F 1 A n c (qAH ks))(hn:n≤1000000)(hsm: ∀k:Nat,(ks.getD k []).length≤1000000)(pb pd:Nat)(b:xA)(d:Int)(hpb:qAG F ⟨pb,0,none⟩ [Str b])(hpd:qAG F ⟨pd,0,none⟩ [I d])(hb:b.length≤1000000):Cz prog 240 [.slice A n c,.func (.func 177) #[] #[Ptr pb,Ptr pd]] F (I (ixS (nbl b d) ks)):=by
 have hkn:ks.length=n:=by have:=hs.1;simpa [qAH] using this
 refine Ct.walk func240 O ntmps240 O (λw0 hw0=>?_)
 refine J.f λ_ j1=>J.b O<|J.c j1 ?_
 refine J.q λ_ j2=>J.f λ_ j3=>J.b O<|J.g (qAQ qAm O O) O<|J.b O<|J.c j3 ?_
 refine J.T<|J.b8 (X:=Nat) (λζ=> [(0,.slice A n c),(1,.func (.func 177) #[] #[Ptr pb,Ptr pd]),(7,I (n:Nat)),(8,I (ζ:Nat))]) (λζ=> [F]) (λζ=>ζ≤n∧ ∀j<ζ,nbl b d (ks.getD j [])=false) (λζ=>n-ζ) 0 (⟨jG _,λj h=>absurd h (zB j)⟩) ⟨O,O,O,O,trivial⟩ (λ_ h=>h) ?_
 rintro k ⟨hk,hno⟩ I0 hI0
 refine J.f λ_ j4=>J.g (qAS O O O) O<|J.c j4 ?_
 refine J.q λ_ j5=>J.Z O (λh9=>?_) (λh9=>?_)
 ·
  refine J.M j5 ?_
  refine J.q λ_ j6=>J.T<|J.f λ_ j7=>J.j 2 O<|J.c j7 ?_
  refine J.f λ_ j8=>J.j 3 O<|J.g (qAE O O O qAm z9_ hs xB) O<|J.g (qAL O O b9_ (m:=F) xD (hs.elem (qAe (qAk [] xB)))) O<|J.k (qCa O O O ent (Ct.use0 (λF' hF=>qKj F' (ks.getD k []) (by first|omega|(exact hsm _)) pb pd b d (hpb.mono (Fa hF)) (hpd.mono (Fa hF)) xB))) O λg16 _=>J.c j8 ?_
  refine J.c8 O (λh16=>?_) (λh16=>?_)
  ·
   refine J.f λ_ j9=>J.j 2 O<|J.c j9 ?_
   exact J.A<|J.a7<|J.W<|J.W<|J.a7<|J.W<|J.E hw0 O () (by rw [qVe (k:=k) xB (by simpa using h16) hno]) trivial [0] O xC
  refine J.b3<|J.a4<|J.u (J.D j6 ?_)
  exact J.L<|J.g ((qAR O O O xB).nat (k+1) xB) O<|J.b O<|J.a5<|J.u<|J.b0 (k+1) (λη (hη:_∧n-η<n-k)=>hI0 η hη.1 hη.2) ⟨⟨xB,λj hj=>by rcases Nat.lt_succ_iff_lt_or_eq.1 hj with h|rfl;exact hno j h;simpa using h16⟩,by first|omega|(dsimp only;omega)⟩ ⟨O,O,O,O,trivial⟩ (λ_ h=>h)
 refine J.b5<|J.a0<|J.a0<|J.b6 ?_
 refine J.u (J.D j2 ?_)
 refine J.f λ_ j10=>J.b O<|J.c j10 ?_
 exact J.A<|J.E hw0 O () (by rw [qVc (λj hj=>hno j xB)]) trivial [0] O xC
theorem qTM(F m:Hp)(A:Option Addr)(n c:Nat)(ks:List xA)(hr:Row m 9 1 A n c (qAH ks))(hn:n≤1000000)(hsm: ∀k:Nat,(ks.getD k []).length≤1000000)(pb pd:Nat)(b:xA)(d:Int)(hpb:qAG F ⟨pb,0,none⟩ [Str b])(hpd:qAG F ⟨pd,0,none⟩ [I d])(hb:b.length≤1000000):
    Ct prog 176 [.slice A n c,.func (.func 177) #[] #[Ptr pb,Ptr pd]] [m,F] (λ_:Hp=> .slice A (ks.filter λk=>!nbl b d k).length c) (λm'=>Row m' 9 1 A (ks.filter λk=>!nbl b d k).length c (qAH (ks.filter λk=>!nbl b d k))) (λm'=> [m',F]):=by
  have hkn:ks.length=n:=by have:=hr.len;simpa [qAH] using this
  have hnc:=hr.2.2.1
  refine Ct.walk func176 O ntmps176 O (λw0 hw0=>?_)
  change J _ [(0,_),(1,_)] _ _ _
  refine J.f λ_ j1=>J.b O<|J.c j1 ?_
  refine J.f λ_ j2=>J.j 2 O<|J.k (qAY O O (λF' hF=>qTI F' A n c ks (hr.sl.mono (Fa hF)) xB (hsm) pb pd b d (hpb.mono (Fa hF)) (hpd.mono (Fa hF)) xB)) O λg10 _=>J.b O<|J.c j2 ?_
  refine J.q λ_ j3=>J.f λ_ j4=>J.b O<|J.g (qAU O O O) O<|J.c j4 ?_
  refine J.Z O (λh12=>?_) (λh12=>?_)
  ·
    refine J.f λ_ j5=>J.j 2 O<|J.c j5 ?_
    refine J.A<|J.W ?_
    have hf:(ks.filter λk=>!nbl b d k)=ks:=qNr h12
    exact J.E hw0 O m (by rw [hf,hkn]) (by rw [hf,hkn];exact hr) [0,1] O xC
  refine J.M j3 ?_
  refine J.q λ_ j6=>J.q λ_ j7=>?_
  obtain ⟨i0,h5,hi0,hf0⟩:=qVd h12
  obtain ⟨ga,rfl⟩:=hr.at xB
  rw [h5]
  refine J.L<|J.b O<|J.g ((qAR O O O xB).nat (i0+1) xB) O<|J.b O<|J.c j7 ?_
  refine J.T<|J.b8 (X:=Nat×Nat×List xA×Hp) (λζ=> [(0,.slice (some ⟨ga,0,none⟩) n c),(1,.func (.func 177) #[] #[Ptr pb,Ptr pd]),(5,I (ζ.1:Nat)),(6,I (ζ.2.1:Nat))]) (λζ=> [ζ.2.2.2,F]) (λζ=>ζ.1<ζ.2.1∧ζ.2.1≤n∧ζ.2.2.1.length=n∧ζ.2.2.1.take ζ.1=(ks.take ζ.2.1).filter (λk=>!nbl b d k)∧ζ.2.2.1.drop ζ.2.1=ks.drop ζ.2.1∧Row ζ.2.2.2 9 1 (some ⟨ga,0,none⟩) n c (qAH ζ.2.2.1)) (λζ=>n-ζ.2.1) (i0,i0+1,ks,m) (⟨by dsimp only;omega,by dsimp only;omega,hkn,hf0,O,hr⟩) ⟨O,O,O,O,trivial⟩ (λ_ h=>h) ?_
  rintro⟨w,j,L,m⟩ ⟨hw,hj,hL,hA,hB,hr⟩ I0 hI0
  dsimp only at hw hj hL hA hB hr⊢
  refine J.q λ_ j8=>J.f λ_ j9=>J.j 2 O<|J.g (qAQ qAm O O) O<|J.g (qAS O O O) O<|J.c j9 ?_
  refine J.Z O (λh19=>?_) (λh19=>?_)
  ·
    refine J.M j8 ?_
    refine J.q λ_ j10=>J.T<|J.f λ_ j11=>J.j 2 O<|J.g (qAl (i:=j) (j:=0+j*1) O O O qAm z9_ xB xB) O ?_
    have hnw:w<j:=hw
    refine J.g (qAL O O b9_ (m:=m) xD (hr.sl.cells (qAe (qAk [] xB)))) O<|J.b O<|J.c j11 ?_
    refine J.q λ_ j12=>?_
    have hgj:(L.getD j []).length≤1000000:=by
      have e0:=congrArg (λz=>z.getD 0 []) hB
      have e1:L.getD j []=ks.getD j []:=by simpa [jB,jp] using e0
      rw [e1];exact hsm j
    refine J.L<|J.j 2 O<|J.k (qCa O O O ent (Ct.use0 (λF' hF=>qKj F' (L.getD j []) (by first|omega|(exact hsm _)) pb pd b d (hpb.mono (Fa hF)) (hpd.mono (Fa hF)) xB))) O λg28 _=>J.g (qAq O O) O<|J.c j12 ?_
    refine J.c8 O (λh29=>?_) (λh29=>?_)
    ·
      refine J.f λ_ j13=>J.j 3 O<|J.g (qAl (i:=w) (j:=0+w*1) O O O qAm z9_ xB xB) O<|J.a8 (qBX (i:=0) (k:=w) (off:=0) (b:= [Str (L.getD j [])]) O O O O hr (vs:= [Str (L.getD j [])]) O z9_ O xB (qAe (qAk [] xB)) O (jK _)) O O ?_
      rintro m9_1 hm9_1
      rw [qDx] at hm9_1
      refine J.c j13 ?_
      refine J.L<|J.b O<|J.g ((qAR O O O xB).nat (w+1) xB) O<|J.b O<|J.a5<|J.a4<|J.u (J.D j10 ?_)
      exact J.L<|J.b O<|J.g ((qAR O O O xB).nat (j+1) xB) O<|J.b O<|J.a5<|J.u<|J.b0 (w+1,j+1,L.set w (L.getD j []),m9_1) (λη (hη:_∧n-η.2.1<n-j)=>hI0 η hη.1 hη.2) ⟨⟨by dsimp only;omega,by dsimp only;omega,by dsimp only;rw [jk];exact hL,(qGh hw xB xB hA hB (by simpa using h29)).1,(qGh hw xB xB hA hB (by simpa using h29)).2,by assumption⟩,by first|omega|(dsimp only;omega)⟩ ⟨O,O,O,O,trivial⟩ (λ_ h=>h)
    refine J.b3<|J.a4<|J.u (J.D j10 ?_)
    exact J.L<|J.b O<|J.g ((qAR O O O xB).nat (j+1) xB) O<|J.b O<|J.a5<|J.u<|J.b0 (w,j+1,L,m) (λη (hη:_∧n-η.2.1<n-j)=>hI0 η hη.1 hη.2) ⟨⟨by dsimp only;omega,by dsimp only;omega,hL,(qGi xB hA hB (by simpa using h29)).1,(qGi xB hA hB (by simpa using h29)).2,hr⟩,by first|omega|(dsimp only;omega)⟩ ⟨O,O,O,O,trivial⟩ (λ_ h=>h)
  refine J.b5<|J.a0<|J.a0<|J.b6 ?_
  refine J.u (J.D j6 ?_)
  refine J.f λ_ j14=>J.j 2 O<|J.g (qCu O O qAm z9_ O O xB) O<|J.a8 (qDY (i:=0) (l:=w) (h:=n) O O (by split<;>simp [Addr.add_lit]) qAm el9 O O O (hr.shrink xB) O xB xB) O O ?_
  rintro mc hmc
  refine J.c j14 ?_
  refine J.f λ_ j15=>J.j 2 O<|J.g (qCf O O qAm z9_ O xB) O<|J.b O<|J.c j15 ?_
  refine J.A ?_
  have hfl:(ks.filter λk=>!nbl b d k)=L.take w:=by rw [hA,jY xB]
  have hfw:(ks.filter λk=>!nbl b d k).length=w:=by rw [hfl,jE];omega
  rw [qEJ,←hfl] at hmc
  exact J.E hw0 O mc (by rw [hfw]) (by rw [hfw];exact hmc) [0,1] O xC
theorem qJk(F:Hp)(A:Option Addr)(n c:Nat)(ks:List xA)(hs:Sl F 1 A n c (qAH ks))(hn:n≤1000000):Ct prog 126 [.slice A n c] [F] (λx:Option Addr×Nat×Hp=> .slice x.1 (ks).length x.2.1) (λx=>Row x.2.2 9 1 x.1 (ks).length x.2.1 (qAH ks)) (λx=> [F,x.2.2]):=by
 have hkn:ks.length=n:=by have:=hs.1;simpa [qAH] using this
 refine Ct.walk func126 O ntmps126 O (λw0 hw0=>?_)
 refine J.f λ_ j1=>J.b O<|J.c j1 ?_
 refine J.q λ_ j2=>J.f λ_ j3=>J.b O<|J.g ((qFM qAm O O O).as (v':= .bool (decide (A.isNone=true))) (congrArg Value.bool (by cases A<;>rfl))) O<|J.c j3 ?_
 refine J.Z O (λh4=>?_) (λh4=>?_)
 ·
  refine J.f λ_ j4=>J.b O<|J.c j4 ?_
  refine J.A<|J.W ?_
  have hk0:ks= []:=by
   refine jU ?_
   rcases yM n with h|h
   · omega
   · obtain ⟨g,o,rfl⟩:=hs.at h;cases h4
  exact J.c7 [0,1] [F,(λ_=>none)] O xC<|J.E hw0 O (none,0,(λ_=>none)) (by rw [hk0];rfl) (by rw [hk0];exact qBc.nil) [0,1] O xC
 refine J.M j2 ?_
 refine J.f λ_ j5=>J.k (qBr O qAm el9) O λg5 _=>J.b O<|J.k (qAc (i:=1) (m2:=F) O O O qAm qAm el9 O (qAp (q:=True) (xs:=qAH ([])) O (by intro x hx;first|exact absurd hx (zC)|(rw [List.mem_singleton.1 hx];rfl))) xD (hs) (qCz _) xB xB) O ?_
 rintro⟨A7,c7,m7⟩ h7
 try dsimp only at h7
 replace h7:Row m7 9 1 A7 (0+n) c7 (qAH (ks)):=h7
 refine J.b O<|J.c j5 ?_
 refine J.A ?_
 rw [show 0+n=ks.length by omega] at h7
 exact J.E hw0 O (A7,c7,m7) (by rw [←hkn,jj]) h7 [0,1] O xC
theorem qKT(F:Hp)(d:Int)(p9 p4:Nat)(A:Option Addr)(n c:Nat)(ks:List xA)(hs:Sl F 1 A n c (qAH ks))(h9:qAG F ⟨p9,0,none⟩ [.slice A n c])(b:xA)(h4:qAG F ⟨p4,0,none⟩ [Str b])(hn:n≤1000000)(hb:b.length≤1000000)(hsm: ∀k:Nat,(ks.getD k []).length≤1000000):Ct prog 175 [I (d),Ptr p9,Ptr p4] [F] (λx:Option Addr×Nat×Hp=> .slice x.1 (ks.filter (λq=>!nbl b d q)).length x.2.1) (λx=>Row x.2.2 9 1 x.1 (ks.filter (λq=>!nbl b d q)).length x.2.1 (qAH (ks.filter (λq=>!nbl b d q)))) (λx=> [F,x.2.2]):=by
 have hkn:ks.length=n:=by have:=hs.1;simpa [qAH] using this
 refine Ct.walk func175 O ntmps175 O (λw0 hw0=>?_)
 refine J.f λ_ j1=>J.k (qAd O O O) O λg3 _=>J.b O<|J.c j1 ?_
 refine J.f λ_ j2=>J.g (qAL O O qCO (m:=F) xD (h9)) O<|J.k (qBP O O (λF' hF=>qJk F' A n c ks (hs.mono (Fa hF)) xB)) O ?_
 rintro⟨A6,c6,m6⟩ h6
 try dsimp only at h6
 refine J.g (qBN O O) O<|J.k (qAI O O ent (Ct.use1 2 O (λF' hF=>qTM F' m6 A6 ks.length c6 ks h6 xB hsm p4 g3 b d (h4.mono (Fa hF)) (qAG.blk0.mono (hF (blk g3 [I (d)] 3) xD)) hb))) O ?_
 rintro m8 h8
 refine J.b O<|J.c j2 ?_
 exact J.A<|J.E hw0 O (A6,c6,m8) O h8 [0,2] O xC
theorem qY6(l:List Sm.PR)(k:xA){d:Nat}(hd:d≤128):(Sm.keysS l).filter (λq=>!nbl k ((d:Nat):Int) q)=kd l k d:=by
 unfold kd nbl
 refine zu λq _=>?_
 rw [Bool.not_not,jZ,jn hd]
theorem qXc(l:List Sm.PR)(k:xA){d:Nat}(hd:d+1≤128):(kd l k d).filter (λq=>!nbl k ((d+1:Nat):Int) q)=kd l k (d+1):=by
 rw [←qXT]
 refine zu λq _=>?_
 unfold nbl
 rw [Bool.not_not,jZ,jn hd]
theorem qUJ{l:List Sm.PR}(hf:qCF l)(k:xA)(d j:Nat):((kd l k d).getD j []).length≤1000000:=by
  by_cases hj:j<(kd l k d).length
  · rw [jB,jC hj]
    obtain ⟨⟨v,hv⟩,_⟩:=qVb (jT hj)
    show((kd l k d)[j]).length≤1000000
    rw [show(kd l k d)[j].length=16 from hf.k16 _ hv];decide
  · rw [jB,jd xB];decide
theorem qYx(l:List Sm.PR)(k:xA)(d:Nat):(kd l k d).length≤l.length:=by
 have:=yA (λq=>Sm.belowB q k d) (Sm.keysS l)
 rw [Sm.keysS_len] at this;exact this
theorem qFI(F:Hp)(hK:qAG F ⟨3,0,none⟩ (Sha.K.map W32))(g:Nat)(l:List Sm.PR)(hT:qCd F g l)(hf:qCF l)(k:xA)(hk:k.length=16)(d:Nat)(hd:d≤128):
    Ct prog 96 [Ptr g,Str k,I (d:Nat)] [F] (λx:Nat×Option Addr×Nat×Hp=> .tuple #[.agg #[.slice x.2.1 (bsd l k d (x.1-d)).length x.2.2.1,.bool (qAP l k x.1),Str (qA0 l k x.1),Str (qA2 l k x.1)],I 0]) (λx=>qIo l k d x.1∧Row x.2.2.2 9 1 x.2.1 (bsd l k d (x.1-d)).length x.2.2.1 (qAH (bsd l k d (x.1-d)))) (λx=> [F,x.2.2.2]):=by
  have hln:=hf.few
  have hkl:=Sm.keysS_len l
  have hsm:=qHW hf.k16
  have hk0:=qY6 l k hd
  have hkd0:=qYx l k d
  refine Ct.walk func96 O ntmps96 O (λw0 hw0=>?_)
  refine J.f λ_ j1=>J.k (qAd O O O) O λg4 _=>J.k (qAJ O qO9 O) O λg6 _=>J.b O<|J.c j1 ?_
  refine J.q λ_ j2=>J.f λ_ j3=>J.a6 1 b9_ O O O O O<|J.b O<|J.k (qAY O O (λF' hF=>qKU F' k ((d:Nat):Int))) O λg14 _=>J.g ((qAq O O).as (v':= .bool false) (by rw [decide_eq_true (show k.length=16∧(0:Int)≤((d:Nat):Int)∧((d:Nat):Int)≤128 from⟨hk,xB,xB⟩)];rfl)) O<|J.c j3 ?_
  refine J.a3 ?_
  refine J.M j2 ?_
  refine J.f λ_ j4=>J.k (qAJ O qO9 O) O λg8 _=>J.c j4 ?_
  refine J.f λ_ j5=>J.b O<|J.k (qBP O O (λF' hF=>qMv F' g l (hT.mono (Fa hF)) xB)) O ?_
  rintro⟨A18,c18,m18⟩ h18
  try dsimp only at h18
  refine J.k (qAJ O zeroValue50 O) O λg9 _=>J.a8 (qAD (i:=5) (l:= [.slice none 0 0]) (vs:= [.slice A18 ((Sm.keysS l).length) c18]) O O O O O qB5 O O) O O λ_ _=>J.c j5 ?_
  refine J.f λ_ j6=>J.g (qBN O O) O<|J.b O<|J.c j6 ?_
  refine J.f λ_ j7=>J.j 2 O<|J.k (qCa O O O ent (Ct.use (λF' hF=>qKT F' ((d:Nat):Int) g9 g4 A18 ((Sm.keysS l).length) c18 (Sm.keysS l) (h18.sl.mono (Fa hF)) (qAG.blk0.mono (hF (blk g9 [.slice A18 ((Sm.keysS l).length) c18] 50) xD)) k (qAG.blk0.mono (hF (blk g4 [Str (k)] 9) xD)) xB xB xG))) O ?_
  rintro⟨A22,c22,m22⟩ h22
  try dsimp only at h22
  rw [hk0] at h22⊢
  refine J.a8 (qAD (i:=5) (l:= [.slice A18 ((Sm.keysS l).length) c18]) (vs:= [.slice A22 ((kd l k (d)).length) c22]) O O O O O qB5 O O) O O λ_ _=>J.c j7 ?_
  refine J.q λ_ j8=>J.f λ_ j9=>J.j 2 O<|J.c j9 ?_
  refine J.T<|J.b8 (X:=Nat×Option Addr×Nat×Hp×Option Addr×Nat×Hp) (λζ=> [(0,Ptr g),(4,Ptr g4),(6,Ptr g6),(8,Ptr g8),(9,Ptr g9),(10,.func (.func 175) #[] #[Ptr g9,Ptr g4]),(11,I (d+ζ.1:Nat))]) (λζ=> [F,blk g4 [Str (k)] 9,blk g6 [.slice none 0 0,.bool false,Str [],Str []] 87,blk g8 [.slice ζ.2.2.2.2.1 (bsd l k d (ζ.1)).length ζ.2.2.2.2.2.1,.bool false,Str [],Str []] 87,blk g9 [.slice ζ.2.1 (kd l k (d+ζ.1)).length ζ.2.2.1] 50,ζ.2.2.2.1,ζ.2.2.2.2.2.2]) (λζ=>d+ζ.1≤128∧(∀x,d≤x→x<d+ζ.1→2≤(cur l k x).length)∧Row ζ.2.2.2.1 9 1 ζ.2.1 (kd l k (d+ζ.1)).length ζ.2.2.1 (qAH (kd l k (d+ζ.1)))∧Row ζ.2.2.2.2.2.2 9 1 ζ.2.2.2.2.1 (bsd l k d (ζ.1)).length ζ.2.2.2.2.2.1 (qAH (bsd l k d (ζ.1)))) (λζ=>128-(d+ζ.1)) (0,A22,c22,m22,none,0,(λ_=>none)) (⟨hd,λx h1 h2=>absurd h2 xB,h22,qBc.nil⟩) ⟨O,O,O,O,O,O,O,trivial⟩ (λ_ h=>h.empty.pick [0,1,2,3,5,6,7] xC) ?_
  rintro⟨n,A9,c9,m9,Ab,cb,mb⟩ ⟨he,htw,hr9,hrb⟩ I0 hI0
  dsimp only at he htw hr9 hrb⊢
  have hbl:=qCr l k d n
  refine J.q λ_ j10=>J.f λ_ j11=>J.a6 4 qCO O O O O O<|J.g (qAQ qAm O O) O<|J.g (qA7 O O O) O<|J.c j11 ?_
  refine J.Z O (λh26=>?_) (λh26=>?_)
  ·
    have hcl:=qIW hf.once k (d+n)
    have hlt:d+n<128:=by
      rcases zm (d+n) 128 with h|h
      · exact h
      · have hct:=qXn hf hk
        rw [show d+n=128 by omega] at h26 hcl
        omega
    have htl:(turn k (d+n)).length=16:=(qCD k _).trans hk
    have hmn:min (((d+n+1:Nat):Int)).toNat 128=d+n+1:=by rw [jZ];omega
    have hsmk:=qUJ hf k (d+n)
    have hkdl:=qYx l k (d+n)
    refine J.M j10 ?_
    refine J.q λ_ j12=>J.T<|J.q λ_ j13=>J.b2 [blk g8 [.slice Ab (bsd l k d (n)).length cb,.bool false,Str [],Str []] 87,blk g4 [Str (k)] 9] [12] (.y 0 (.y 1 (.y 2 (.y 3 (.y 4 (.y 6 (.y 7 (.e 5 (.e 8 (.e 9 (.e 10 (.y 11 (.e 12 .nil))))))))))))) Tryz.wide xF xD ?_
    refine J.p O (qAA O O qEG O qB5 O) O O<|J.p O (qAC 0 O O O qCO O) O O<|J.G ?_
    refine J.p O (qAC 1 O O O b9_ O) O O<|J.G ?_
    refine J.G ?_
    refine J.p O ((qAR O O O xB).nat (d+n+1) xB) O O<|J.a1 O (qAY O O (λF' hF=>qPn F' k xG (d+n) xB)) O xD λg34 _=>J.a1 O (qAY O O (λF' hF=>qGP F' (hK.mo hF) g l (hT.mono (Fa hF)) xG (turn k (d+n)) xM ((d+n+1:Nat):Int) (by first|assumption|exact qIs xG|exact qMr xG xG))) O xD λg37 _=>J.a1 O (qAF (l:= [.tmp 37]) (xs:= [[Str (Sm.ndB l (turn k (d+n)) (min ((d+n+1:Nat):Int).toNat 128))]]) O O O O qAm el9 O xC xC xD) O xD λg38 _=>?_
    change J _ _ _ [F,blk g4 [Str (k)] 9,blk g6 [.slice none 0 0,.bool false,Str [],Str []] 87,blk g8 [.slice Ab (bsd l k d (n)).length cb,.bool false,Str [],Str []] 87,blk g9 [.slice A9 (kd l k (d+n)).length c9] 50,m9,mb,blk g38 [Str (Sm.ndB l (turn k (d+n)) (min ((d+n+1:Nat):Int).toNat 128))] 9] _
    refine J.a1 O (qAc (i:=6) (xs:=qAH (bsd l k d (n))) (m2:=blk g38 [Str (Sm.ndB l (turn k (d+n)) (min ((d+n+1:Nat):Int).toNat 128))] 9) (ys:= [[Str (Sm.ndB l (turn k (d+n)) (min ((d+n+1:Nat):Int).toNat 128))]]) O O O qAm qAm el9 O hrb xD ((qBf (q:=True) (qAH [Sm.ndB l (turn k (d+n)) (min ((d+n+1:Nat):Int).toNat 128)]) O (by simp [qAH]) O).sl) O xB xB) O xD ?_
    rintro⟨A39,c39,m39⟩ h39
    try dsimp only at h39
    change J _ ((39,.slice A39 (((bsd l k d (n)).length)+1) c39)::_) _ [_,_,_,_,_,_,m39,_] _
    rw [←qCA,hmn,←qUm] at h39
    rw [show(bsd l k d (n)).length+1=(bsd l k d (n+1)).length by rw [qCr,qCr]] at h39⊢
    refine J.p O (qAA O O qEG O qB5 O) O O<|J.c1 O (qAa (i:=3) O O O O O qB5 O xD) O O O λ_ _=>J.b1<|J.u (J.D j13 ?_)
    refine J.L<|J.j 2 O<|J.g ((qAR O O O xB).nat (d+n+1) xB) O<|J.k (qCa O O O ent (Ct.use (λF' hF=>qKT F' ((d+n+1:Nat):Int) g9 g4 A9 ((kd l k (d+n)).length) c9 (kd l k (d+n)) (hr9.sl.mono (Fa hF)) (qAG.blk0.mono (hF (blk g9 [.slice A9 (kd l k (d+n)).length c9] 50) xD)) k (qAG.blk0.mono (hF (blk g4 [Str (k)] 9) xD)) xB xB xG))) O ?_
    rintro⟨A44,c44,m44⟩ h44
    try dsimp only at h44
    rw [qXc l k xB] at h44⊢
    refine J.a8 (qAD (i:=4) (l:= [.slice A9 (kd l k (d+n)).length c9]) (vs:= [.slice A44 ((kd l k (d+n+1)).length) c44]) O O O O O qB5 O O) O O λ_ _=>J.a5<|J.a4<|J.u (J.D j12 ?_)
    exact J.L<|J.b O<|J.g ((qAR O O O xB).nat (d+n+1) xB) O<|J.b O<|J.a5<|J.u<|J.b0 (n+1,A44,c44,m44,A39,c39,m39) (λη (hη:_∧128-(d+η.1)<128-(d+n))=>hI0 η hη.1 hη.2) ⟨⟨by dsimp only;omega,λx h1 h2=>by rcases zm x (d+n) with h|h;exact htw x h1 h;rw [show x=d+n by dsimp only at h2;omega,←hcl];omega,h44,h39⟩,by dsimp only;omega⟩ ⟨O,O,O,O,O,O,O,trivial⟩ (λ_ h=>h.pick [0,1,2,3,4,8,6] xC)
  have hst:qIo l k d (d+n):=⟨xB,he,by rw [←qIW hf.once];omega,λx h1 h2=>htw x h1 h2⟩
  have hdn:d+n-d=n:=xB
  refine J.b5<|J.a0<|J.a0<|J.b6 ?_
  refine J.u (J.D j8 ?_)
  refine J.q λ_ j14=>J.f λ_ j15=>J.a6 4 qCO O O O O O<|J.g (qAQ qAm O O) O<|J.g (qAU O O O) O<|J.c j15 ?_
  refine J.Z O (λh47=>?_) (λh47=>?_)
  ·
    refine J.q λ_ j16=>J.b2 [blk g9 [.slice A9 (kd l k (d+n)).length c9] 50,m9] [] (.y 0 (.y 1 (.y 2 (.y 3 (.e 4 (.y 5 (.e 6 .nil))))))) Tryz.wide xF xD ?_
    refine J.p O (qAC 0 (v:= .slice A9 (kd l k (d+n)).length c9) O O O qCO O) O O<|J.p O (qAE (i:=0) O O O qAm z9_ hr9.sl xB) O O<|J.p O (qAL O O b9_ (m:=m9) xD (hr9.sl.elem (qAe (qAk [] xB)))) O O<|J.p O (qAA O O qEG O z4_ O) O O<|J.e1 O (qAa (i:=3) O O O O O z4_ O xD) O O xD λ_ _=>J.p O (qAA O O qEG O z9_ O) O O<|J.e1 O (qAa (i:=3) (l:= [.slice Ab (bsd l k d (n)).length cb,.bool true,Str [],Str []]) (vs:= [Str ((kd l k (d+n)).getD 0 [])]) O O O O O z9_ O xD) O O xD λ_ _=>J.b1<|J.u (J.D j16 ?_)
    refine J.L<|J.b O<|J.V 2 qEG z9_ O O O O O<|J.a6 3 b9_ O O O O O<|J.k (qAY O O (λF' hF=>qV0 F' g l (hT.mono (Fa hF)) ((kd l k (d+n)).getD 0 []))) O λg57 _=>J.j 3 O<|J.V 3 qEG z9_ O O O O O<|J.a8 (qAa (i:=3) (l:= [.slice Ab (bsd l k d (n)).length cb,.bool true,Str ((kd l k (d+n)).getD 0 []),Str []]) (vs:= [Str ((Sm.getP l ((kd l k (d+n)).getD 0 [])).getD [])]) O O O O O z9_ O xD) O O λ_ _=>J.c j14 ?_
    refine J.f λ_ j17=>J.b9 3 qGo qC1 O O O O O<|J.a8 (qAD (i:=2) (l:= [.slice none 0 0,.bool false,Str [],Str []]) (vs:= [.slice Ab (bsd l k d (n)).length cb,.bool true,Str ((kd l k (d+n)).getD 0 []),Str ((Sm.getP l ((kd l k (d+n)).getD 0 [])).getD [])]) O O O O O qC1 O O) O O λ_ _=>J.b O<|J.c j17 ?_
    exact J.A<|J.a9 hw0 (λ_ _ h=>h) (rv2 O (RV.blkA 2 O O qGo qC1) O) (qAi (d+n,Ab,cb,mb) (by dsimp only;rw [hdn];unfold qAP qA0 qA2;rw [if_pos xB,if_pos xB,decide_eq_true xB]) ⟨hst,by dsimp only;rw [hdn];exact hrb⟩ [0,6] O xC)
  refine J.M j14 ?_
  refine J.f λ_ j18=>J.b9 3 qGo qC1 O O O O O<|J.a8 (qAD (i:=2) (l:= [.slice none 0 0,.bool false,Str [],Str []]) (vs:= [.slice Ab (bsd l k d (n)).length cb,.bool false,Str [],Str []]) O O O O O qC1 O O) O O λ_ _=>J.b O<|J.c j18 ?_
  exact J.A<|J.a9 hw0 (λ_ _ h=>h) (rv2 O (RV.blkA 2 O O qGo qC1) O) (qAi (d+n,Ab,cb,mb) (by dsimp only;rw [hdn];unfold qAP qA0 qA2;rw [if_neg xB,if_neg xB,decide_eq_false xB]) ⟨hst,by dsimp only;rw [hdn];exact hrb⟩ [0,6] O xC)
structure Pz where
 a:UInt8
 b:UInt8
 v:xA
 deriving DecidableEq
def Pz.cells(x:Pz):List Value:= [B8 (x.a),B8 (x.b),Str (x.v)]
theorem qEL{kv:List Sm.PR}(hf:qCF kv){k:xA}(hk:k.length=16){d s:Nat}(h:qIo kv k d s):qF9 (bsd kv k d (s-d)) (qAP kv k s) (qA0 kv k s) (qA2 kv k s) k d=Sm.ndB kv k d:=by
 have h1:=h.le
 have h2:=h.ge
 have h3:=qJl hf hk (d:=d) (n:=s-d) xB (s-d) (jK _)
 rw [show d+(s-d)=s by omega,show s-(s-d)=d by omega] at h3
 unfold qF9
 rw [qUb hf h,qCr]
 exact h3
theorem qKS{kv:List Sm.PR}(hf:qCF kv){k:xA}(hk:k.length=16){d s:Nat}(h:qIo kv k d s):
    qO5 (bsd kv k d (s-d)) (qAP kv k s) (qA0 kv k s) (qA2 kv k s) (Sm.ndB kv k d) k ((Sm.getP kv k).getD []) d=(Sm.getP kv k).isSome:=by
  obtain ⟨t1,t2⟩:=qYU hf h
  unfold qO5
  rw [qEL hf hk h,decide_eq_true rfl,Bool.and_true,t1]
  cases ht:qAP kv k s with
  |false=>rfl
  |true=>
    by_cases hkk:qA0 kv k s=k
    · rw [t2 ht hkk,decide_eq_true hkk];simp
    · rw [decide_eq_false hkk];rfl
theorem qL4{kv:List Sm.PR}(hf:qCF kv){k:xA}(hk:k.length=16){d s:Nat}(h:qIo kv k d s):
    qEn (bsd kv k d (s-d)) (qAP kv k s) (qA0 kv k s) (qA2 kv k s) (Sm.ndB kv k d) k d=!(Sm.getP kv k).isSome:=by
  obtain ⟨t1,_⟩:=qYU hf h
  unfold qEn
  rw [qEL hf hk h,decide_eq_true rfl,Bool.and_true,t1]
  cases qAP kv k s<;>by_cases hkk:qA0 kv k s=k<;>simp [hkk]
theorem qBw{kv:List Sm.PR}(hf:qCF kv)(k:xA)(s:Nat):(qA2 kv k s).length≤1000000:=by
 unfold qA2
 split
 · exact qIa hf.small _
 · exact jG _
theorem qNG{kv:List Sm.PR}(ho:Sm.Once kv){k v:xA}{p:Sm.PR}:p∈Sm.putP kv k v↔(p∈kv∧p.1≠k)∨p=(k,v):=by
 rw [(Sm.putP_perm k v ho).mem_iff]
 unfold Sm.setP
 rw [List.mem_append,List.mem_filter,decide_eq_true_eq,jR]
theorem qCF.put{kv:List Sm.PR}(hf:qCF kv){k v:xA}(hk:k.length=16)(hv:v.length≤1000000)(hl:kv.length≤100000):qCF (Sm.putP kv k v):=by
  refine⟨(Sm.setP_once k v hf.once).perm (Sm.putP_perm k v hf.once).symm,λp q=>?_,λp q=>?_,jX (Sm.putP_len kv k v) xB⟩
  · rcases(qNG hf.once).1 q with ⟨q,_⟩|rfl
    · exact hf.k16 p q
    · exact hk
  · rcases(qNG hf.once).1 q with ⟨q,_⟩|rfl
    · exact hf.small p q
    · exact hv
theorem qOd{kv:List Sm.PR}(hf:qCF kv){k v:xA}(hk:k.length=16){b:xA}(hb:b.length=16){d:Nat}(hd:d≤128)(hn:Sm.belowB k b d=false)(hv:v.length≤1000000)(hl:kv.length≤100000):
    Sm.ndB (Sm.putP kv k v) b d=Sm.ndB kv b d:=by
  have hf':=hf.put hk hv hl
  have h1:Sm.ndB (Sm.putP kv k v) b d=Sm.ndB (Sm.setP kv k v) b d:=Sm.ndB_perm hf'.once hf'.k16 (Sm.putP_perm k v hf.once) hb hd
  rw [h1]
  unfold Sm.ndB Sm.bel Sm.setP
  rw [jr,jl,if_neg (by rw [hn];decide),zt,jP,zj]
  congr 1
  refine zu λp hp=>?_
  by_cases h:p.1=k
  · rw [h,hn];rfl
  · rw [decide_eq_true h,Bool.and_true]
theorem qX0{kv:List Sm.PR}(hf:qCF kv){k v:xA}(hk:k.length=16)(hv:v.length≤1000000)(hl:kv.length≤100000){d n:Nat}(hd:d+n≤128):bsd (Sm.putP kv k v) k d n=bsd kv k d n:=by
 unfold bsd
 refine List.map_congr_left λi hi=>?_
 have:=List.mem_range.1 hi
 have hb:=Sm.bit_le k (d+i)
 refine qOd hf hk ((qCD _ _).trans hk) xB (Sm.belowB_no (i:=d+i) xB ?_) hv hl
 rw [qFB hk xB xB,if_pos rfl]
 omega
theorem qWh{kv:List Sm.PR}(hf:qCF kv){k v:xA}(hk:k.length=16)(hv:v.length≤1000000)(hl:kv.length≤100000){s:Nat}(hs:s≤128)(ho: ∀p∈cur kv k s,p.1=k):Sm.ndB (Sm.putP kv k v) k s=Sb.leafN k v:=by
 have hf':=hf.put hk hv hl
 have h1:Sm.ndB (Sm.putP kv k v) k s=Sm.ndB (Sm.setP kv k v) k s:=Sm.ndB_perm hf'.once hf'.k16 (Sm.putP_perm k v hf.once) hk hs
 have hself:Sm.belowB k k s=true:=Sm.belowB_yes λ_ _=>rfl
 rw [h1]
 unfold Sm.ndB Sm.bel Sm.setP
 rw [jr,jl,if_pos hself,zt,zj,List.filter_eq_nil_iff.2 (λp hp=>by
  intro q
  rw [jc,decide_eq_true_eq] at q
  exact q.2 (ho p (List.mem_filter.2 ⟨hp,q.1⟩))),jq,Sm.nd_one]
theorem qTe{kv:List Sm.PR}(hf:qCF kv){k v q w:xA}(hk:k.length=16)(hv:v.length≤1000000)(hl:kv.length≤100000){s:Nat}(hs:s≤128)(hc:cur kv k s= [(q,w)])(hq:q≠k):Sm.ndB (Sm.putP kv k v) k s=Sm.ndB [(k,v),(q,w)] k s:=by
 have hf':=hf.put hk hv hl
 have h1:Sm.ndB (Sm.putP kv k v) k s=Sm.ndB (Sm.setP kv k v) k s:=Sm.ndB_perm hf'.once hf'.k16 (Sm.putP_perm k v hf.once) hk hs
 have hself:Sm.belowB k k s=true:=Sm.belowB_yes λ_ _=>rfl
 have hqb:Sm.belowB q k s=true:=(List.mem_filter.1 (show(q,w)∈cur kv k s by rw [hc];exact .head _)).2
 have e1:Sm.bel (Sm.setP kv k v) k s= [(q,w),(k,v)]:=by
  unfold Sm.bel Sm.setP
  rw [jr,jl,if_pos hself,zt,zj]
  have e2:kv.filter (λp=>Sm.belowB p.1 k s&&decide (p.1≠k))=(cur kv k s).filter (λp=>decide (p.1≠k)):=by
   show _=(kv.filter λp=>Sm.belowB p.1 k s).filter (λp=>decide (p.1≠k))
   rw [zj]
   refine zu λp _=>?_
   rw [Bool.and_comm]
  rw [e2,hc,jl,if_pos (decide_eq_true hq),zt];rfl
 have e3:Sm.bel [(k,v),(q,w)] k s= [(k,v),(q,w)]:=by unfold Sm.bel;rw [jl,if_pos hself,jl,if_pos hqb,zt]
 have hw:Sm.WF (128-s) (Sm.bel (Sm.setP kv k v) k s):=(Sm.bel_wf hf'.once hf'.k16 hk hs).perm ((Sm.putP_perm k v hf.once).filter _)
 rw [h1]
 unfold Sm.ndB
 rw [e3]
 exact Sm.nd_perm _ hw (show(Sm.bel (Sm.setP kv k v) k s).Perm [(k,v),(q,w)] by rw [e1];exact List.Perm.swap _ _ _)
structure Two (k q:xA) (a:Nat):Prop where
 k16:k.length=16
 q16:q.length=16
 lt:a<128
 same: ∀i,i<a→Sm.bit k i=Sm.bit q i
 differ:Sm.bit k a≠Sm.bit q a
theorem Two.ne{k q:xA}{a:Nat}(h:Two k q a):q≠k:=λe=>h.differ (by rw [e])
theorem Two.fine{k q v w:xA}{a:Nat}(h:Two k q a)(hv:v.length≤1000000)(hw:w.length≤1000000):qCF [(k,v),(q,w)]:=by
  refine⟨?_,λp hp=>?_,λp hp=>?_,by simp⟩
  · unfold Sm.Once
    rw [jv]
    exact⟨λp hp=>by rw [List.mem_singleton.1 hp];exact λe=>h.ne e.symm,by simp⟩
  · rcases List.mem_cons.1 hp with rfl|hp
    · exact h.k16
    · rw [List.mem_singleton.1 hp];exact h.q16
  · rcases List.mem_cons.1 hp with rfl|hp
    · exact hv
    · rw [List.mem_singleton.1 hp];exact hw
theorem Two.top{k q v w:xA}{a:Nat}(h:Two k q a)(hv:v.length≤1000000)(hw:w.length≤1000000):Sm.ndB [(k,v),(q,w)] k a=up k a (Sb.leafN k v) (Sb.leafN q w):=by
 rw [←qPi (h.fine hv hw) h.k16 h.lt]
 have hb:=Sm.bit_le k a
 have hb2:=Sm.bit_le q a
 have hd:=h.differ
 have h1:Sm.belowB k k (a+1)=true:=Sm.belowB_yes λ_ _=>rfl
 have h2:Sm.belowB q k (a+1)=false:=Sm.belowB_no (i:=a) xB λe=>h.differ e.symm
 have h3:Sm.belowB k (turn k a) (a+1)=false:=Sm.belowB_no (i:=a) xB (by rw [qFB h.k16 h.lt h.lt,if_pos rfl];omega)
 have h4:Sm.belowB q (turn k a) (a+1)=true:=Sm.belowB_yes λi hi=>by
  have hlt:=h.lt
  rw [qFB h.k16 h.lt xB]
  by_cases hia:i=a
  · rw [if_pos hia,hia];omega
  · rw [if_neg hia];exact(h.same i xB).symm
 unfold Sm.ndB
 have e1:Sm.bel [(k,v),(q,w)] k (a+1)= [(k,v)]:=by unfold Sm.bel;rw [jl,if_pos h1,jl,if_neg (by rw [h2];decide),zt]
 have e2:Sm.bel [(k,v),(q,w)] (turn k a) (a+1)= [(q,w)]:=by unfold Sm.bel;rw [jl,if_neg (by rw [h3];decide),jl,if_pos h4,zt]
 rw [e1,e2,Sm.nd_one,Sm.nd_one]
theorem Two.le{k q:xA}{a s:Nat}(h:Two k q a)(hs:Sm.belowB q k s=true):s≤a:=by
  rcases zm a s with h1|h1
  · have:=List.all_eq_true.1 hs a (List.mem_range.2 h1)
    exact absurd (of_decide_eq_true this).symm h.differ
  · exact h1
def qVl(bs:List xA)(th:Bool)(pk pv k v:xA)(d:Nat):xA:=if th=true∧pk≠k then Sm.ndB [(k,v),(pk,pv)] k (d+bs.length) else Sb.leafN k v
def qSQ(bs:List xA)(th:Bool)(pk pv k v:xA)(d:Nat):xA:=clm k d bs (qVl bs th pk pv k v d) bs.length
theorem qL5{kv:List Sm.PR}(hf:qCF kv){k v:xA}(hk:k.length=16)(hv:v.length≤1000000)(hl:kv.length≤100000){d s:Nat}(h:qIo kv k d s):
    qSQ (bsd kv k d (s-d)) (qAP kv k s) (qA0 kv k s) (qA2 kv k s) k v d=Sm.ndB (Sm.putP kv k v) k d:=by
  have h1:=h.le
  have h2:=h.ge
  have hone:=h.one
  have hf':=hf.put hk hv hl
  have h3:=qJl hf' hk (d:=d) (n:=s-d) xB (s-d) (jK _)
  rw [show d+(s-d)=s by omega,show s-(s-d)=d by omega,qX0 hf hk hv hl xB] at h3
  unfold qSQ
  rw [qCr,←h3]
  congr 1
  unfold qVl
  rw [qCr,show d+(s-d)=s by omega]
  split
  · rename_i hc
    have hc1:(kd kv k s).length=1:=of_decide_eq_true hc.1
    exact(qTe hf hk hv hl h1 (qJh hf.once hc1) hc.2).symm
  · rename_i hc
    refine(qWh hf hk hv hl h1 λp hp=>?_).symm
    have hc1:(kd kv k s).length=1:=by
      rw [qIW hf.once]
      have:=List.length_pos_of_mem hp
      omega
    have ht:qAP kv k s=true:=decide_eq_true hc1
    rw [qJh hf.once hc1,jR] at hp
    rw [hp]
    exact Decidable.by_contra λq=>hc ⟨ht,q⟩
theorem xor_eq{x y:UInt8}(h:(x^^^y).toNat=0):x=y:=by
 have:x^^^y=0:=UInt8.toNat_inj.1 h
 exact UInt8.xor_eq_zero_iff.1 this
attribute [local irreducible] Sha.tagged Sb.join Sb.lvl Sb.lvls Sb.root
theorem qUh(F:Hp)(A:Option Addr)(n c:Nat):Ct prog 187 [.slice A n c,I 2] [F] (λx:Nat×Nat=> .func (.func 246) #[] #[Ptr x.1,Ptr x.2]) (λ_=>True) (λx=> [F,blk x.1 [.slice A n c] 50,blk x.2 [I 2] 3]):=by
 refine Ct.walk func187 O ntmps187 O (λw0 hw0=>?_)
 refine J.f λ_ j1=>J.k (qAd O O O) O λg2 _=>J.k (qAd O O O) O λg3 _=>J.b O<|J.c j1<|J.q λ_ j2=>J.f λ_ j3=>J.a6 2 b3_ O O O O O<|J.g ((qAS O O O).no xB) O<|J.c j3<|J.a3 ?_
 exact J.M j2<|J.f λ_ j4=>J.g (qBN O O) O<|J.b O<|J.c j4<|J.A<|J.E hw0 O (g2,g3) O trivial [0,1,2] O xC
theorem qRz(Fr:Hp)(gA gB:Nat)(A:Option Addr)(N n c:Nat)(hn:n=2*N)(hnc:n≤c)(hn2:n≤1073741824)(ha:qAG Fr ⟨gA,0,none⟩ [.slice A n c])(hb:qAG Fr ⟨gB,0,none⟩ [I 2]):
    qJq prog 246 [Ptr gA,Ptr gB] Fr (λi=> [.slice (A.map (·.add (2*i*1))) 2 2]) N:=by
  refine qJq.walk func246 O ntmps246 O (λ{X} M IY S l x0 w0 hw0 h0 hY=>?_)
  refine J.f λ_ j1=>J.b O<|J.c j1<|J.T<|J.b8 (X:=Nat×X) (λy=> [(0,.func (.yield l) #[] #[]),(1,Ptr gA),(2,Ptr gB),(4,I (2*y.1:Nat))]) (λy=> [Fr,M y.2]) (λy=>y.1≤N∧IY y.1 y.2) (λy=>N-y.1) (0,x0) (⟨jG _,h0⟩) ⟨O,O,O,O,trivial⟩ (λ_ h=>h) ?_
  rintro⟨i,x⟩ ⟨hi,hI⟩ I0 hI0
  dsimp only at hi hI⊢
  refine J.q λ_ j2=>J.f λ_ j3=>J.b O<|J.g (qAL O O qCO (m:=Fr) xD (ha)) O<|J.g (qAQ qAm O O) O<|J.g (qAS O O O) O<|J.c j3<|J.Z O (λh9=>?_) (λh9=>?_)
  ·
    refine J.M j2<|J.q λ_ j4=>J.T<|J.q λ_ j5=>J.b2 [Fr,M x] [] (.y 0 (.y 1 (.y 2 (.y 3 (.y 4 (.y 5 (.y 6 .nil))))))) Tryz.wide xF xD ?_
    refine J.p O (qAL O O b3_ (m:=Fr) xD (hb)) O O<|J.p O (qAL O O qCO (m:=Fr) xD (ha)) O O<|J.G ?_
    refine J.p O (qCu O O qAm z9_ O O xB) O O<|J.p O (qAQ qAm O O) O O<|J.p O ((qGA O O O).nat (2) xB) O O<|J.b7 ?_
    refine J.b1<|J.u (J.D j5 ?_)
    refine J.q λ_ j6=>J.f6 ?_
    refine J.c9 (qAb O O) O O O ?_
    refine J.c9 (qAL O O qCO (m:=Fr) xD (ha)) O O O ?_
    refine J.c9 (qAb O O) O O O ?_
    refine J.c9 (qAb O O) O O O ?_
    refine J.c9 (qAb O O) O O O ?_
    refine J.c9 ((qAR O O O xB).nat (2*i+2) xB) O O O ?_
    refine J.c9 (qAb O O) O O O ?_
    refine J.c9 (qAb O O) O O O ?_
    refine J.c9 ((qAR O O O xB).nat (2*i+2) xB) O O O ?_
    refine J.c9 ((qOm O O qAm z9_ O O O xB).as (v':= .slice (A.map (·.add (2*i*1))) 2 2) (by rw [if_neg xB,show 2*i+2-2*i=2 by omega])) O O O ?_
    refine J.f7 (ex:= []) O O O O O O (hY i x xB hI) ?_
    rintro x' b hb1 hb2
    cases b
    ·
      have hyb:=hb2 O
      refine J.c9 (qAq O O) O O O ?_
      refine J.e2 ?_
      refine J.u (J.D j6 ?_)
      refine J.c2 ?_
      exact J.A<|J.a7<|J.W<|J.W<|J.a7<|J.a9 hw0 (λ_ _ h=>h) (qII O) (λw hs=>⟨x',⟨_,O⟩,.inr hyb,hs⟩)
    have hyb:=hb1 O
    refine J.c9 (qAq O O) O O O ?_
    refine J.e2 ?_
    refine J.u (J.D j6 ?_)
    refine J.a3 ?_
    refine J.b3<|J.a4<|J.u (J.D j4 ?_)
    exact J.L<|J.b O<|J.g (qAL O O b3_ (m:=Fr) xD (hb)) O<|J.g ((qAR O O O xB).nat (2*(i+1)) xB) O<|J.b O<|J.a5<|J.u<|J.b0 (i+1,x') (λy (hy:_∧N-y.1<N-i)=>hI0 y hy.1 hy.2) ⟨⟨by dsimp only;omega,hyb⟩,by dsimp only;omega⟩ ⟨O,O,O,O,trivial⟩ (λ_ h=>h)
  refine J.b5<|J.a0<|J.a0<|J.b6 ?_
  exact J.d3 hw0 (λ_ _ h=>h) (qII O) (λw hs=>⟨x,⟨_,O⟩,.inl (by rw [show N=i by omega];exact hI),hs⟩)
theorem qCN(F:Hp)(d:Int):Cz prog 44 [I d] F (I (cnt d)):=by
 refine Ct.walk func44 O ntmps44 O (λw0 hw0=>?_)
 refine J.f λ_ j1=>J.b O<|J.c j1<|J.q λ_ j2=>J.f λ_ j3=>J.b O<|J.g (qAS O O O) O<|J.b O<|J.c0 (d:=5) O (λh5=>?_) (λh5=>?_)
 ·
  refine J.j 3 O<|J.c j3<|J.c2 ?_
  exact J.f λ_ j4=>J.b O<|J.c j4<|J.A<|J.W<|J.E hw0 O () (by rw [qGk.2 xB];rfl) trivial [0] O xC
 refine J.b O<|J.H (qA7 O O O) O<|J.b O<|J.c j3<|J.Z O (λh8=>?_) (λh8=>?_)
 ·
  exact J.f λ_ j5=>J.b O<|J.c j5<|J.A<|J.W<|J.E hw0 O () (by rw [qGk.2 xB];rfl) trivial [0] O xC
 exact J.M j2<|J.f λ_ j6=>J.b O<|J.g ((qJF O O (by show some (I d)=_;rw [show((d.toNat:Nat):Int)=d by omega]) ⟨xB,by have:=Int.pow_pos (n:=2) (m:=d.toNat) xC;omega,by rw [Int.one_mul];have h1:=jm (n:=2) xC (show d.toNat≤4 by omega);have h2:((2^d.toNat:Nat):Int)≤((2^4:Nat):Int):=Int.ofNat_le.2 h1;simp only [Int.natCast_pow] at h2;exact Int.le_trans h2 xC⟩).as (v':=I (cnt d)) (congrArg I (by unfold cnt;rw [if_neg xB];simp))) O<|J.b O<|J.c j6<|J.A<|J.E hw0 O () O trivial [0] O xC
theorem qUn(F:Hp)(hK:qAG F ⟨3,0,none⟩ (Sha.K.map W32))(d:Int)(l:List xA)(A:Option Addr)(c:Nat)(hsl:Sl F 1 A l.length c (qAH l))(hsm: ∀s∈l,s.length≤1048576):
    Cz prog 105 [.slice A l.length c,I d] F (.tuple #[Str (qCM l d),I (qLK l d)]):=by
  refine Ct.walk func105 O ntmps105 O (λw0 hw0=>?_)
  refine J.f λ_ j1=>J.j 2 O<|J.c j1<|J.q λ_ j2=>J.f λ_ j3=>J.b O<|J.k (qAY O O (λF' hF=>qCN F' d)) O λg10 _=>J.b O<|J.c j3<|J.T<|J.f λ_ j4=>J.b O<|J.g (qAU O O O) O<|J.b O<|J.c j4<|J.Z O (λh11=>?_) (λh11=>?_)
  ·
    exact J.f λ_ j5=>J.j 2 O<|J.c j5<|J.A<|J.a7<|J.W<|J.a9 hw0 (λ_ _ h=>h) (qBs O O O) (qAi () (by unfold qCM qLK;rw [if_pos (show cnt d=0 by omega)];rfl) trivial [0] O xC)
  refine J.f λ_ j6=>J.j 2 O<|J.g (qAQ qAm O O) O<|J.g (qAf O O O) O<|J.b O<|J.c7 [0,1] [F,(λ_=>none)] O xC<|J.c j6<|J.Z O (λh14=>?_) (λh14=>?_)
  ·
    exact J.f λ_ j7=>J.j 2 O<|J.c j7<|J.A<|J.a7<|J.W<|J.a9 hw0 (λ_ _ h=>h) (qBs O O O) (qAi () (by unfold qCM qLK;rw [if_neg (show¬cnt d=0 by omega),if_pos (show l.length≠cnt d by omega)];rfl) trivial [0] O xC)
  refine J.b3<|J.a4<|J.u (J.D j2 ?_)
  refine J.q λ_ j8=>J.T ?_
  have hd0:cnt d≠0:=xB
  have hld:l.length=2^d.toNat:=by rw [←qXr hd0];omega
  have hd4: ¬(d<0∨4<d):=λe=>hd0 (qGk.2 e)
  refine J.i0 (X:=Nat×Option Addr×Nat×Hp) (λx=> [(0,.slice x.2.1 (Sb.lvls l x.1).length x.2.2.1)]) (λx=> [F,x.2.2.2]) (λx=>x.1≤d.toNat∧ ∃m,(m=F∨m=x.2.2.2)∧Sl m 1 x.2.1 (Sb.lvls l x.1).length x.2.2.1 (qAH (Sb.lvls l x.1))) (λx=>d.toNat-x.1) (0,A,c,λ_=>none) (⟨jG _,F,.inl O,by rw [Sb.lvls_zero];exact hsl⟩) ⟨by rw [Sb.lvls_zero];rfl,trivial⟩ (λ_ h=>h) ?_
  rintro⟨k,A',c',mm⟩ wL ⟨hk,m,hm,hsl'⟩ hxL I0 hI0
  dsimp only at hk hm hsl'⊢
  obtain ⟨L,hL⟩: ∃L,L=Sb.lvls l k:=⟨_,rfl⟩
  have hlen:=Sb.lvls_length hld k hk
  have hLs:=Sb.lvls_small hsm k
  have hp16:2^(d.toNat-k)≤16:=jX (jm xC (show d.toNat-k≤4 by omega)) xC
  have hp1:=jz (d.toNat-k)
  refine J.q λ_ j9=>J.f λ_ j10=>J.b O<|J.g (qAQ qAm O O) O<|J.g (qA7 O O O) O<|J.c j10<|J.Z O (λh21=>?_) (λh21=>?_)
  ·
    refine J.M j9<|J.T<|J.f λ_ j11=>J.k (qAJ O zeroValue50 O) O λg7 _=>J.c j11<|J.q λ_ j12=>J.q λ_ j13=>?_
    rw [←hL]
    refine J.L<|J.b O<|J.k (qBP O O (λF' _=>qUh F' A' L.length c')) O ?_
    rintro⟨gA,gB⟩ _
    refine J.c j13<|J.T<|J.c7 [2,5,0,1,3,4] [blk g7 [.slice none 0 0] 50,(λ_=>none),F,mm,blk gA [.slice A' L.length c'] 50,blk gB [I 2] 3] O xC ?_
    rw [←hL] at hlen hsl' hLs h21
    obtain ⟨q,hq⟩: ∃q,d.toNat-k=q+1:=Nat.exists_eq_succ_of_ne_zero (λe=>by rw [e,Nat.pow_zero] at hlen;omega)
    have hev:L.length=2*(L.length/2):=by rw [hlen,hq,jx];omega
    have hLn:L.length≤1073741824:=xB
    have hlc:=hsl'.2.1
    refine J.g0 (λx:Option Addr×Nat×Nat×Hp=> [blk g7 [.slice x.1 x.2.1 x.2.2.1] 50,x.2.2.2]) [F,mm,blk gA [.slice A' L.length c'] 50,blk gB [I 2] 3] (λi x=>x.2.1=i∧Row x.2.2.2 9 1 x.1 i x.2.2.1 (qAH ((Sb.lvl L).take i))) (λ_ _=>False) (none,0,0,λ_=>none) O ent (λFr hF=>qRz Fr gA gB A' (L.length/2) L.length c' hev hlc hLn (qAG.blk0.mono (hF (blk gA [.slice A' L.length c'] 50) xD)) (qAG.blk0.mono (hF (blk gB [I 2] 3) xD))) (λ_ _=>rfl) O (⟨O,by rw [zd];exact qBc.nil⟩) ?_ ?_ ?_
    ·
      intro i x l wa wb hi hI K14 Post14 j14 hN14 hR14 hE14
      obtain ⟨Ax,nx,cx,mx⟩:=x
      obtain ⟨hnx,hr⟩:=hI
      dsimp only at hnx hr
      subst hnx
      have hc:=hsl'.cut (lo:=2*nx) (hi:=2*nx+2) (mx:=2*nx+2) xB xB xB
      rw [if_neg xB,show 2*nx+2-2*nx=2 by omega,qEJ,qIC] at hc
      have hcl:((L.take (2*nx+2)).drop (2*nx)).length=2:=by rw [jH,jE];omega
      have hc0:((L.take (2*nx+2)).drop (2*nx)).getD 0 []=L.getD (2*nx) []:=by simp [jB,jp,zI]
      have hc1:((L.take (2*nx+2)).drop (2*nx)).getD 1 []=L.getD (2*nx+1) []:=by simp [jB,jp,zI]
      refine J.d8 ?_
      refine J.b O<|J.d9 ?_
      refine J.u (j14 _ _ ?_)
      refine J.f5 ?_
      refine J.h5 [blk g7 [.slice Ax nx cx] 50,F,mm,blk gA [.slice A' L.length c'] 50,blk gB [I 2] 3] [10] (.y 0 (.y 1 (.y 2 (.y 3 (.y 4 (.y 5 (.y 6 (.e 7 (.e 8 (.e 9 (.e 10 .nil))))))))))) Tryz.wide xF xD ?_
      refine J.p O (qAC 0 O O O qCO O) O O<|J.G ?_
      refine J.p O (qAE (i:=0) O O O qAm z9_ hc xB) O O<|J.p O (qAL O O b9_ (m:=m) (by rcases hm with rfl|rfl<;>simp) (hc.elem (qAe (qAk [] (show 0<((L.take (2*nx+2)).drop (2*nx)).length by rw [hcl];omega))|>.trans (by rw [hc0])))) O O<|J.G ?_
      refine J.p O (qAE (i:=1) O O O qAm z9_ hc xB) O O<|J.p O (qAL O O b9_ (m:=m) (by rcases hm with rfl|rfl<;>simp) (hc.elem (qAe (qAk [] (show 1<((L.take (2*nx+2)).drop (2*nx)).length by rw [hcl];omega))|>.trans (by rw [hc1])))) O O<|J.a1 O (qAY O O (λF' hF=>qGQ F' (hK.mo hF) (L.getD (2*nx) []) (L.getD (2*nx+1) []) (Sb.getD_small hLs _) (Sb.getD_small hLs _))) O xD λg32 _=>J.a1 O (qAF (l:= [.tmp 32]) (xs:= [[Str (Sb.join (L.getD (2*nx) []) (L.getD (2*nx+1) []))]]) O O O O qAm el9 O xC xC xD) O xD λg33 _=>J.a1 O (qAc (i:=1) (m2:=blk g33 [Str (Sb.join (L.getD (2*nx) []) (L.getD (2*nx+1) []))] 9) O O O qAm qAm el9 O hr xD (slS [Sb.join (L.getD (2*nx) []) (L.getD (2*nx+1) [])] O) (qCz _) xB xB) O xD ?_
      rintro⟨A34,c34,m34⟩ h34
      try dsimp only at h34
      refine J.c1 O (qAa (i:=0) O O O O O qB5 O xD) O O O λ_ _=>J.c4 [0,1,2,3,4,5] [blk g7 [.slice A34 (nx+1) c34] 50,m34,F,mm,blk gA [.slice A' L.length c'] 50,blk gB [I 2] 3] O xC<|J.h6 ?_
      refine J.a4 ?_
      exact hN14 _ (A34,nx+1,c34,m34) ⟨O,by rw [Sb.lvl_take xB];rw [show∀a b,qAH (a++b)=qAH a++qAH b from λa b=>by simp [qAH]];exact h34⟩
    ·
      intro w14 x hx14 hI
      obtain ⟨Ax,nx,cx,mx⟩:=x
      obtain ⟨hnx,hr⟩:=hI
      dsimp only at hnx hr
      subst hnx
      have hlen1:(Sb.lvls l (k+1)).length=L.length/2:=by rw [Sb.lvls_succ,Sb.lvl_length,hL]
      have hfin:Sl mx 1 Ax (Sb.lvls l (k+1)).length cx (qAH (Sb.lvls l (k+1))):=by
        rw [hlen1,Sb.lvls_succ,←hL]
        rw [jY (by rw [Sb.lvl_length];exact jK _)] at hr
        exact hr.sl
      refine J.a4<|J.u (J.D j12 ?_)
      refine J.L<|J.a6 0 qCO O O O O O<|J.c4 [2,1] [F,mx] O xC<|J.b O<|J.a5<|J.a4<|J.u ?_
      rw [show Ax=Ax from rfl]
      exact J.b0 (k+1,Ax,cx,mx) (λx (hx:_∧d.toNat-x.1<d.toNat-k)=>hI0 x _ hx.1 hx.2 hx14) ⟨⟨by dsimp only;omega,mx,.inr O,hfin⟩,by dsimp only;omega⟩ ⟨by dsimp only;rw [hlen1];rfl,trivial⟩ (λ_ h=>h)
    intro w14 x c hx14 hS
    exact hS.elim
  refine J.b5<|J.a0<|J.a0<|J.b6 ?_
  refine J.u (J.D j8 ?_)
  refine J.q λ_ j15=>?_
  have hkd:k=d.toNat:=by
    by_cases e:k=d.toNat
    · exact e
    · have:=jm (n:=2) xC (show 1≤d.toNat-k by omega)
      omega
  exact J.L<|J.b O<|J.g (qAE (i:=0) O O O qAm z9_ hsl' xB) O<|J.g (qAL O O b9_ (m:=m) (by rcases hm with rfl|rfl<;>simp) (v:=Str ((Sb.lvls l k).getD 0 [])) (hsl'.elem (qAe (qAk [] xB)))) O<|J.j 2 O<|J.c j15<|J.A<|J.e8 hw0 hxL (λ_ _ h=>h) (qBs O O O) (qAi () (by unfold qCM qLK;rw [if_neg hd0,if_neg (show¬l.length≠cnt d by omega),if_pos rfl,Sb.root,←hkd]) trivial [0] O xC)
end Go.Proofs.YtmemgokiolfdoaaGreatDoor