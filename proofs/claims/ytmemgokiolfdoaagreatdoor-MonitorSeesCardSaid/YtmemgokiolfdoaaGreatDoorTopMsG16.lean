/- A part of the proof. -/
import Derived.Test.YtmemgokiolfdoaaGreatDoorTopMsG14
import Derived.Test.YtmemgokiolfdoaaGreatDoorTopMsG15
set_option maxRecDepth 100000
set_option maxHeartbeats 1000000
set_option linter.unusedSimpArgs false
set_option linter.unusedVariables false
namespace Go.Proofs.YtmemgokiolfdoaaGreatDoor
open Go Go.Fw Go.Proofs.Tryz
theorem qVM{k:xA}(hk:k.length=16){i:Nat}(hi:i≤16):Sm.kv k/2^(128-i)<2^i:=by
 have h:=Sm.kv_lt k
 rw [hk] at h
 rw [yB (zA _),←Nat.pow_add,show i+(128-i)=128 by omega]
 exact yM h xC
theorem qXF{i:Nat}(hi:i≤16):2^i≤65536:=jg (jn xC hi) xC
def qFz(k:xA):Nat→Nat
 |0=>0
 |i+1=>qFz k i*2^1|||Sm.bit k i
theorem qJs(k:xA): ∀i,qFz k i<2^i
 |0=>Nat.one_pos
 |i+1=>by
  have h1:=qJs k i
  have h2:=Sm.bit_le k i
  have h3:2^(i+1)=2^i*2:=jw 2 i
  have e:=Nat.two_pow_add_eq_or_of_lt (i:=1) (b:=Sm.bit k i) xB (qFz k i)
  rw [qFz,z7,←e]
  omega
def kF(n d:Nat):xA:= [UInt8.ofNat (n*2^(16-d)/2^8),UInt8.ofNat (n*2^(16-d)),0,0,0,0,0,0,0,0,0,0,0,0,0,0]
theorem qIW(n d:Nat):(kF n d).length=16:=rfl
theorem qVh{n d:Nat}(hd:d≤16)(hn:n<2^d):n*2^(16-d)<65536:=by
 have h:=Nat.mul_lt_mul_of_pos_right hn (zA (16-d))
 rw [←Nat.pow_add,show d+(16-d)=16 by omega] at h
 exact h
theorem kF_kv{n d:Nat}(hd:d≤16)(hn:n<2^d):Sm.kv (kF n d)=n*2^(128-d):=by
 have ht:=qVh hd hn
 obtain ⟨t,hte⟩: ∃t,t=n*2^(16-d):=⟨_,rfl⟩
 have e:n*2^(128-d)=t*2^112:=by rw [hte,Nat.mul_assoc,←Nat.pow_add,show 16-d+112=128-d by omega]
 have h1:(UInt8.ofNat (t/2^8)).toNat=t/2^8:=UInt8.toNat_ofNat_of_lt' (by show _<256;omega)
 have h2:(UInt8.ofNat t).toNat=t%256:=xD
 rw [e]
 unfold kF
 rw [←hte]
 simp only [Sm.kv,jD,jG,h1,h2]
 show t/2^8*256^15+(t%256*256^14+0)=_
 rw [show(256:Nat)^15=256*2^112 by decide,show(256:Nat)^14=2^112 by decide,←Nat.mul_assoc,zb,←zn]
 congr 1
 omega
theorem qRo{n d:Nat}(hd:d≤16)(hn:n<2^d):Sm.kv (kF n d)/2^(128-d)=n:=by rw [kF_kv hd hn,Nat.mul_div_cancel _ (zA _)]
theorem qYR(F:Hp)(k:xA)(hk:k.length≤1000000)(d:Nat)(hd:d≤16):Cz prog 211 [Str (k),I (d:Nat)] F (I (qFz k d:Nat)):=by
 refine Ct.walk func211 O ntmps211 O (λw0 hw0=>?_)
 refine J.f λ_ j1=>J.b O<|J.c j1<|J.k λ_ j2=>J.f λ_ j3=>J.b O<|J.g (qAS O O O) O<|J.b O<|J.b9 (d:=9) O (λh9=>?_) (λh9=>?_)
 ·
  refine J.p 3 O<|J.c j3<|J.c3 ?_
  exact J.f λ_ j4=>J.b O<|J.c j4<|J.A<|J.V<|J.E hw0 O () (by exfalso;omega) trivial [0] O xC
 refine J.b O<|J.G (qA5 O O O) O<|J.b O<|J.c j3<|J.Z O (λh12=>?_) (λh12=>?_)
 ·
  exact J.f λ_ j5=>J.b O<|J.c j5<|J.A<|J.V<|J.E hw0 O () (by exfalso;omega) trivial [0] O xC
 refine J.M j2<|J.f λ_ j6=>J.b O<|J.c j6<|J.k λ_ j7=>J.f λ_ j8=>J.p 2 O<|J.c j8<|J.T<|J.b5 (X:=Nat) (λζ=> [(0,Str (k)),(5,I (qFz k ζ:Nat)),(13,I (d:Nat)),(14,I (ζ:Nat))]) (λζ=> [F]) (λζ=>ζ≤d) (λζ=>d-ζ) 0 (jE _) ⟨O,O,O,O,trivial⟩ (λ_ h=>h) ?_
 rintro i hi I0 hI0
 have hlt:=qJs k i
 have hp16:=qXF (i:=i) xB
 have hbl:=Sm.bit_le k i
 refine J.f λ_ j9=>J.g (qAS O O O) O<|J.c j9<|J.k λ_ j10=>J.Z O (λh15=>?_) (λh15=>?_)
 ·
  refine J.M j10<|J.k λ_ j11=>J.T<|J.f λ_ j12=>J.p 2 O<|J.c j12<|J.H<|J.b O<|J.g (qMF (a:=qFz k i) (m:=1) O O O xB) O<|J.p 2 O<|J.q (qAZ O O (λF' hF=>qLX F' k (by first|omega|exact hsm _) i xB)) O λg21 _=>J.g (qVq (a:=(qFz k i)*2^1) (b:=Sm.bit k i) O O O xB) O<|J.b O<|J.a4<|J.a2<|J.u (J.D j11 ?_)
  exact J.H<|J.g ((qAR O O O xB).nat (i+1) xB) O<|J.b O<|J.a4<|J.u<|J.a8 (i+1) (λη (hη:_∧d-η<d-i)=>hI0 η hη.1 hη.2) ⟨xB,by first|omega|(dsimp only;omega)⟩ ⟨O,O,O,O,trivial⟩ (λ_ h=>h)
 refine J.b3<|J.a0<|J.a0<|J.b4 ?_
 refine J.u (J.D j7 ?_)
 exact J.f λ_ j13=>J.p 2 O<|J.c j13<|J.A<|J.E hw0 O () (by rw [show i=d by omega]) trivial [0] O xC
theorem qLD(F:Hp)(n d:Nat)(hd:d≤16)(hn:n<2^d):Cz prog 197 [I (n:Nat),I (d:Nat)] F (Str (kF n d)):=by
 have hp16:=qXF hd
 have htl:=qVh hd hn
 have hpe:2^(16-d)≤65536:=qXF (Nat.sub_le _ _)
 refine Ct.walk func197 O ntmps197 O (λw0 hw0=>?_)
 refine J.f λ_ j1=>J.b O<|J.c j1<|J.f λ_ j2=>J.q (qBx (n':=16) O O qBu el5 xB xB) O ?_
 rintro g7 _
 change J _ ((7,.slice (some ⟨g7,0,none⟩) 16 16)::_) _ [F,blk g7 (List.replicate 16 [.int .u8 0]).flatten 5] _
 refine J.b O<|J.c j2<|J.k λ_ j3=>J.f λ_ j4=>J.b O<|J.g ((qBI O O O).yes xB) O<|J.p 2 O<|J.G ((qCb O O O).yes xB) O<|J.p 3 O<|J.G ((qBI O O O).yes xB) O<|J.p 4 O<|J.G ((qMF (a:=1) (m:=d) O O O ⟨xB,xB⟩)) O<|J.G ((qAS O O O).yes xB) O<|J.b O<|J.c j4<|J.c3 ?_
 refine J.f λ_ j5=>J.p 2 O<|J.g ((qA4 O O O xB).nat (16-d) xB) O<|J.g (qMF O O O xL) O<|J.b O<|J.c j5<|J.H<|J.p 3 O<|J.g (qQ4 O O O xL) O<|J.g (qAx O O u3_ u5_) O<|J.b O<|J.g (qAx O O u3_ u5_) O<|J.g (qAh (i:=0) (j:=0+0*1) O O O qBu z5_ xL xB) O<|J.a7 (qBL (i:=1) (k:=0) (off:=0) (b:= [B8 (UInt8.ofNat ((n*2^(16-d))/2^8))]) O O O O (qAm (q:=True) (sz:=1) (xs:=qAf (List.replicate 16 0)) O (by intro x hx;obtain ⟨_,_,rfl⟩:=List.mem_map.1 hx;rfl)) (vs:= [B8 (UInt8.ofNat ((n*2^(16-d))/2^8))]) O z5_ O xB (qBh (qAi 0 xL)) O (jJ _)) O O ?_
 rintro m4_1 hm4_1
 rw [qFy] at hm4_1
 refine J.g (qAh (i:=1) (j:=0+1*1) O O O qBu z5_ xL xB) O<|J.a7 (qBL (i:=1) (k:=1) (off:=0) (b:= [B8 (UInt8.ofNat (n*2^(16-d)))]) O O O O hm4_1 (vs:= [B8 (UInt8.ofNat (n*2^(16-d)))]) O z5_ O xB (qBh (qAi 0 xL)) O (jJ _)) O O ?_
 rintro m4_2 hm4_2
 rw [qFy] at hm4_2
 exact J.c j3<|J.f λ_ j6=>J.b O<|J.g (qB3 O O qBu u5_ u9_ (m:=m4_2) xD hm4_2.sl) O<|J.b O<|J.c j6<|J.A<|J.E hw0 O () (by unfold kF;rfl) trivial [0] O xC
def belR(m:List Pr)(k:xA)(d:Nat):List Pr:=m.filter λp=>Sm.belowB p.k k d
theorem qVL(m:List Pr)(k:xA)(d:Nat):(belR m k d).map toP=Sm.bel (m.map toP) k d:=by
 unfold belR Sm.bel
 rw [List.filter_map];rfl
theorem qEG.ndB{m:List Pr}{kv:List Sm.PR}(h:qEG m kv){k:xA}(hk:k.length=16){d:Nat}(hd:d≤128):Sm.ndB kv k d=Sm.nd (128-d) ((belR m k d).map toP):=by
 rw [qVL];exact(Sm.ndB_perm h.once h.k16 h.perm hk hd).symm
theorem qRK(l:List Sm.PR)(b:xA)(d:Nat):(Sm.ndB l b d).length≤17:=Sm.nd_small _ _
theorem qO0{kv:List Sm.PR}(hf:qCS kv){k:xA}(hk:k.length=16){d:Nat}(hd:d≤15){n:Nat}(hn:n=Sm.kv k/2^(128-d)):
    Sb.join (Sm.ndB kv (kF (2*n) (d+1)) (d+1)) (Sm.ndB kv (kF (2*n+1) (d+1)) (d+1))=Sm.ndB kv k d:=by
  have hlt:=qVM hk (i:=d) xB
  have h2:2^(d+1)=2^d*2:=jw 2 d
  have f0:=qRo (n:=2*n) (d:=d+1) xB xB
  have f1:=qRo (n:=2*n+1) (d:=d+1) xB xB
  rw [show 128-(d+1)=127-d by omega] at f0 f1
  exact Sm.ndB_join hf.once hf.k16 hk (qIW _ _) (qIW _ _) xB (by rw [f0,hn]) (by rw [f1,hn])
theorem qWJ(x m j:Nat):(x^^^2^m)/2^j%2=if j=m then 1-x/2^j%2 else x/2^j%2:=by
  have h1:=Nat.testBit_eq_decide_div_mod_eq (x:=x^^^2^m) (i:=j)
  have h2:=Nat.testBit_eq_decide_div_mod_eq (x:=x) (i:=j)
  rw [Nat.testBit_xor,Nat.testBit_two_pow,h2] at h1
  have a1:(x^^^2^m)/2^j%2<2:=Nat.mod_lt _ xC
  have a2:x/2^j%2<2:=Nat.mod_lt _ xC
  by_cases h:j=m
  · rw [if_pos h]
    rw [decide_eq_true h.symm] at h1
    by_cases h3:x/2^j%2=1
    · rw [decide_eq_true h3] at h1
      have: ¬(x^^^2^m)/2^j%2=1:=by simpa using h1.symm
      omega
    · rw [decide_eq_false h3] at h1
      have:(x^^^2^m)/2^j%2=1:=by simpa using h1.symm
      omega
  · rw [if_neg h]
    rw [show decide (m=j)=false from decide_eq_false (λe=>h e.symm),Bool.xor_false] at h1
    have:=decide_eq_decide.1 h1
    omega
def turn(k:xA)(d:Nat):xA:=k.set (d/8) (k.getD (d/8) 0^^^UInt8.ofNat (1*2^(7-d%8)))
theorem qCG(k:xA)(d:Nat):(turn k d).length=k.length:=by unfold turn;rw [jk]
theorem qEz{k:xA}(hk:k.length=16){d i:Nat}(hd:d<128)(hi:i<128):Sm.bit (turn k d) i=if i=d then 1-Sm.bit k i else Sm.bit k i:=by
  have hlt:i<8*k.length:=xB
  unfold Sm.bit
  rw [qCG,if_pos hlt,if_pos hlt]
  unfold turn
  have h1:(1*2^(7-d%8))%256=2^(7-d%8):=by
    rw [Nat.one_mul]
    exact je (zP (jn xC (show 7-d%8≤7 by omega)) xC)
  by_cases hq:i/8=d/8
  · rw [hq]
    have hg:(k.set (d/8) (k.getD (d/8) 0^^^UInt8.ofNat (1*2^(7-d%8)))).getD (d/8) 0=k.getD (d/8) 0^^^UInt8.ofNat (1*2^(7-d%8)):=by
      rw [jB,List.getElem?_set_self xB];rfl
    rw [hg,UInt8.toNat_xor,show(UInt8.ofNat (1*2^(7-d%8))).toNat=2^(7-d%8) by rw [z6];exact h1,qWJ]
    by_cases hid:i=d
    · rw [if_pos (by rw [hid]),if_pos hid]
    · rw [if_neg xB,if_neg hid]
  · rw [jB,List.getElem?_set_ne (λe=>hq e.symm),←jB,if_neg (λe=>hq (by rw [e]))]
theorem qPy{k:xA}(hk:k.length=16){d:Nat}(hd:d<128):Sm.kv (turn k d)/2^(127-d)=2*(Sm.kv k/2^(128-d))+(1-Sm.bit k d):=by
 have h1:Sm.belowB (turn k d) k d=true:=Sm.belowB_yes λi hi=>by rw [qEz hk hd xB,if_neg xB]
 have h2:=(Sm.belowB_kv ((qCG k d).trans hk) hk xB).1 h1
 have e:=Sm.pre_succ (Sm.kv (turn k d)) (127-d)
 rw [show 127-d+1=128-d by omega,h2,←Sm.bit_kv ((qCG k d).trans hk) hd,qEz hk hd hd,if_pos O] at e
 exact e
theorem qQI{k:xA}(hk:k.length=16){d:Nat}(hd:d<128):Sm.kv k/2^(127-d)=2*(Sm.kv k/2^(128-d))+Sm.bit k d:=by
 have e:=Sm.pre_succ (Sm.kv k) (127-d)
 rw [show 127-d+1=128-d by omega,←Sm.bit_kv hk hd] at e
 exact e
def up(k:xA)(d:Nat)(x s:xA):xA:=if Sm.bit k d=0 then Sb.join x s else Sb.join s x
theorem qPt{kv:List Sm.PR}(hf:qCS kv){k:xA}(hk:k.length=16){d:Nat}(hd:d<128):up k d (Sm.ndB kv k (d+1)) (Sm.ndB kv (turn k d) (d+1))=Sm.ndB kv k d:=by
  have hb:=Sm.bit_le k d
  have ht:=qPy hk hd
  have hs:=qQI hk hd
  unfold up
  split
  · rename_i h
    rw [h] at ht hs
    exact Sm.ndB_join hf.once hf.k16 hk hk ((qCG k d).trans hk) hd hs ht
  · rename_i h
    rw [show Sm.bit k d=1 by omega] at ht hs
    exact Sm.ndB_join hf.once hf.k16 hk ((qCG k d).trans hk) hk hd ht hs
def bsd(kv:List Sm.PR)(k:xA)(d n:Nat):List xA:=(List.range n).map λi=>Sm.ndB kv (turn k (d+i)) (d+i+1)
theorem qVH(kv:List Sm.PR)(k:xA)(d n:Nat):bsd kv k d (n+1)=bsd kv k d n++ [Sm.ndB kv (turn k (d+n)) (d+n+1)]:=by unfold bsd;rw [jx,jO];rfl
theorem qCv(kv:List Sm.PR)(k:xA)(d n:Nat):(bsd kv k d n).length=n:=by unfold bsd;rw [jP,zg]
theorem qMn(kv:List Sm.PR)(k:xA)(d:Nat){n i:Nat}(hi:i<n):(bsd kv k d n).getD i []=Sm.ndB kv (turn k (d+i)) (d+i+1):=by
 unfold bsd
 rw [jB,jN,zB hi];rfl
def clm(k:xA)(d:Nat)(bs:List xA)(x:xA):Nat→xA
 |0=>x
 |i+1=>up k (d+(bs.length-1-i)) (clm k d bs x i) (bs.getD (bs.length-1-i) [])
theorem qJp{kv:List Sm.PR}(hf:qCS kv){k:xA}(hk:k.length=16){d n:Nat}(hd:d+n≤128): ∀i,i≤n→clm k d (bsd kv k d n) (Sm.ndB kv k (d+n)) i=Sm.ndB kv k (d+n-i)
 |0,_=>rfl
 |i+1,hi=>by
  rw [clm,qJp hf hk hd i xB,qCv,qMn _ _ _ xB]
  have h:=qPt hf hk (d:=d+(n-1-i)) xB
  rw [show d+(n-1-i)+1=d+n-i by omega] at h⊢
  rw [h,show d+(n-1-i)=d+n-(i+1) by omega]
theorem qNs{a b:xA}(ha:a.length≤17)(hb:b.length≤17):(Sb.join a b).length≤17:=by
  have e:Sb.join a b=if a= [0]∧(b= [0]∨Sb.isLf b) then b else if b= [0]∧Sb.isLf a then a else 2::Sha.tagged 10 [a,b]:=by unfold Sb.join;rfl
  rw [e]
  split
  · exact hb
  · split
    · exact ha
    · rw [jD,Sha.tagged_length];decide
theorem qLQ{k:xA}{d:Nat}{bs:List xA}{x:xA}(hb: ∀s∈bs,s.length≤17)(hx:x.length≤17): ∀i,(clm k d bs x i).length≤17
 |0=>hx
 |i+1=>by
  have h1:=qLQ (k:=k) (d:=d) hb hx i
  have h2:(bs.getD (bs.length-1-i) []).length≤17:=by
   by_cases h:bs.length-1-i<bs.length
   · rw [jB,jC h];exact hb _ (jQ h)
   · rw [jB,jd xB];exact jE _
  rw [clm,up]
  split
  · exact qNs h1 h2
  · exact qNs h2 h1
def cur(kv:List Sm.PR)(k:xA)(d:Nat):List Sm.PR:=Sm.bel kv k d
def kd(kv:List Sm.PR)(k:xA)(d:Nat):List xA:=(Sm.keysS kv).filter λq=>Sm.belowB q k d
theorem qIV{kv:List Sm.PR}(ho:Sm.Once kv)(k:xA)(d:Nat):(kd kv k d).length=(cur kv k d).length:=by
 have h:(Sm.prs kv (kd kv k d)).length=(kd kv k d).length:=Sm.prs_len _ _
 rw [←h]
 unfold kd
 rw [Sm.prs_filter]
 exact((Sm.prs_perm ho).filter _).length_eq
theorem qPM{q k:xA}{d:Nat}(h:Sm.belowB q k (d+1)=true):Sm.belowB q k d=true:=by
 rw [Sm.belowB_succ,jZ] at h;exact h.1
theorem qXv(kv:List Sm.PR)(k:xA)(d:Nat):(kd kv k d).filter (λq=>Sm.belowB q k (d+1))=kd kv k (d+1):=by
 unfold kd
 rw [zl]
 refine yD λq _=>?_
 cases h:Sm.belowB q k (d+1) with
 |false=>rfl
 |true=>rw [qPM h];rfl
structure qJy (kv:List Sm.PR) (k:xA) (d s:Nat):Prop where
 ge:d≤s
 le:s≤128
 one:(cur kv k s).length≤1
 two: ∀e,d≤e→e<s→2≤(cur kv k e).length
theorem qJy.from{kv:List Sm.PR}{k:xA}{d e s:Nat}(h:qJy kv k d s)(h1:d≤e)(h2:e≤s):qJy kv k e s:=⟨h2,h.le,h.one,λx q1 q2=>h.two x xB q2⟩
theorem qYE{kv:List Sm.PR}(hf:qCS kv){k:xA}(hk:k.length=16):(cur kv k 128).length≤1:=(Sm.bel_wf hf.once hf.k16 hk (d:=128) (jJ _)).short
def qAl(kv:List Sm.PR)(k:xA)(s:Nat):Bool:=decide ((kd kv k s).length=1)
def qBk(kv:List Sm.PR)(k:xA)(s:Nat):xA:=if(kd kv k s).length=1 then(kd kv k s).getD 0 [] else []
def qBo(kv:List Sm.PR)(k:xA)(s:Nat):xA:=if(kd kv k s).length=1 then(Sm.getP kv ((kd kv k s).getD 0 [])).getD [] else []
theorem qJl{kv:List Sm.PR}(ho:Sm.Once kv){k:xA}{s:Nat}(h:(kd kv k s).length=1):cur kv k s= [(qBk kv k s,qBo kv k s)]:=by
 obtain ⟨q,hq⟩:=List.length_eq_one_iff.1 h
 have h1:(cur kv k s).Perm (Sm.prs kv (kd kv k s)):=by
  unfold kd
  rw [Sm.prs_filter]
  exact(Sm.prs_perm ho).symm.filter _
 unfold qBk qBo
 rw [if_pos h,if_pos h,hq]
 rw [hq] at h1
 exact List.perm_singleton.1 h1
theorem qJR: ∀{f:Nat} {l:List Sm.PR},Sm.WF f l→Sm.nd f l= [0]∨((Sm.nd f l).length=17∧(((Sm.nd f l).getD 0 0).toNat=1∨((Sm.nd f l).getD 0 0).toNat=2))
  |f,[],_=> .inl (Sm.nd_nil f)
  |f,[p],_=> .inr (by rw [Sm.nd_one];unfold Sb.leafN;exact⟨by rw [jD,Sha.tagged_length],.inl O⟩)
  |0,a::b::r,hw=>by have:=hw.short;simp at this
  |f+1,a::b::r,hw=>by
    rw [Sm.nd_two f xD]
    have e: ∀x y,Sb.join x y=if x= [0]∧(y= [0]∨Sb.isLf y) then y else if y= [0]∧Sb.isLf x then x else 2::Sha.tagged 10 [x,y]:=λx y=>by unfold Sb.join;rfl
    rw [e]
    split
    · exact qJR (hw.side false)
    · split
      · exact qJR (hw.side true)
      · exact .inr ⟨by rw [jD,Sha.tagged_length],.inr O⟩
theorem qMQ: ∀{f:Nat} {l:List Sm.PR},Sm.WF f l→2≤l.length→((Sm.nd f l).getD 0 0).toNat=2
  |0,l,hw,h=>by have:=hw.short;omega
  |f+1,l,hw,h=>by
    rw [Sm.nd_two f h]
    have e: ∀x y,Sb.join x y=if x= [0]∧(y= [0]∨Sb.isLf y) then y else if y= [0]∧Sb.isLf x then x else 2::Sha.tagged 10 [x,y]:=λx y=>by unfold Sb.join;rfl
    have hs:=Sm.side_len f l
    have z1:=Sm.nd_eq0 (hw.side true)
    have z2:=Sm.nd_eq0 (hw.side false)
    rw [e]
    split
    · rename_i hc
      have h0:(Sm.side f true l).length=0:=by rw [z1.1 hc.1];rfl
      have h2:=qMQ (hw.side false) xB
      exact h2
    · split
      · rename_i hc
        have h0:(Sm.side f false l).length=0:=by rw [z2.1 hc.1];rfl
        exact qMQ (hw.side true) xB
      · rfl
def qRH(s:xA):Bool:=decide (s= [0]∨(s.length=17∧((s.getD 0 0).toNat=1∨(s.getD 0 0).toNat=2)))
structure qLg (bs:List xA) (th:Bool) (pk pv k:xA) (d:Nat):Prop where
 k16:k.length=16
 le:d+bs.length≤128
 nodes: ∀j,j<bs.length→qRH (bs.getD j [])=true
 last:0<bs.length→bs.getD (bs.length-1) []≠ [0]∧(th=false→((bs.getD (bs.length-1) []).getD 0 0).toNat=2)
 no:th=false→pk= []∧pv= []
 yes:th=true→pk.length=16∧Sm.belowB pk k (d+bs.length)=true
 small: ∀s∈bs,s.length≤17
theorem qSY(kv:List Sm.PR)(k:xA)(d n:Nat): ∀s∈bsd kv k d n,s.length≤17:=λs hs=>by
 unfold bsd at hs
 obtain ⟨i,_,rfl⟩:=List.mem_map.1 hs
 exact qRK _ _ _
theorem qV3{kv:List Sm.PR}{k q:xA}{s:Nat}(h:q∈kd kv k s):(∃v,(q,v)∈kv)∧Sm.belowB q k s=true:=by
 obtain ⟨h1,h2⟩:=List.mem_filter.1 h
 exact⟨Sm.keysS_mem.1 h1,h2⟩
theorem qQ1{kv:List Sm.PR}(hf:qCS kv){k:xA}(hk:k.length=16){e:Nat}(he:e<128):(cur kv k (e+1)).length+(Sm.bel kv (turn k e) (e+1)).length=(cur kv k e).length:=by
  have hb:=Sm.bit_le k e
  have ht:=qPy hk he
  have hs:=qQI hk he
  have h:=Sm.side_len (127-e) (Sm.bel kv k e)
  have hl:=hf.k16
  unfold cur
  by_cases h0:Sm.bit k e=0
  · rw [h0] at ht hs
    rw [Sm.bel_half hl hk hk he true (by rw [if_pos rfl];exact hs),Sm.bel_half hl hk ((qCG k e).trans hk) he false (by rw [if_neg xC];exact ht)]
    exact h
  · rw [show Sm.bit k e=1 by omega] at ht hs
    rw [Sm.bel_half hl hk hk he false (by rw [if_neg xC];exact hs),Sm.bel_half hl hk ((qCG k e).trans hk) he true (by rw [if_pos rfl];exact ht)]
    omega
theorem qEN{kv:List Sm.PR}(hf:qCS kv){k:xA}(hk:k.length=16){d s:Nat}(h:qJy kv k d s):qLg (bsd kv k d (s-d)) (qAl kv k s) (qBk kv k s) (qBo kv k s) k d:=by
  have hle:=h.le
  have hge:=h.ge
  have ht16: ∀e,(turn k e).length=16:=λe=>(qCG k e).trans hk
  refine⟨hk,by rw [qCv];omega,λj hj=>?_,λh0=>?_,λht=>?_,λht=>?_,qSY _ _ _ _⟩
  · rw [qCv] at hj
    rw [qMn _ _ _ hj]
    exact decide_eq_true (qJR (Sm.bel_wf hf.once hf.k16 (ht16 _) xB))
  · rw [qCv] at h0⊢
    rw [qMn _ _ _ xB]
    have h2:=h.two (d+(s-d-1)) xB xB
    have ho:=qQ1 hf hk (e:=d+(s-d-1)) xB
    have hone:=h.one
    rw [show d+(s-d-1)+1=s by omega] at ho⊢
    have hw:=Sm.bel_wf hf.once hf.k16 (ht16 (d+(s-d-1))) (d:=s) hle
    refine⟨λe=>?_,λhth=>?_⟩
    · have:=(Sm.nd_eq0 hw).1 e
      rw [this] at ho
      simp at ho
      omega
    · have h3:(kd kv k s).length≠1:=of_decide_eq_false hth
      rw [qIV hf.once] at h3
      exact qMQ hw xB
  · have h3:(kd kv k s).length≠1:=of_decide_eq_false ht
    unfold qBk qBo
    rw [if_neg h3,if_neg h3];exact⟨O,O⟩
  · have h3:(kd kv k s).length=1:=of_decide_eq_true ht
    obtain ⟨q,hq⟩:=List.length_eq_one_iff.1 h3
    have hm:q∈kd kv k s:=by rw [hq];exact .head _
    obtain ⟨⟨v,hv⟩,hb⟩:=qV3 hm
    unfold qBk
    rw [if_pos h3,hq,qCv,show d+(s-d)=s by omega]
    exact⟨hf.k16 _ hv,hb⟩
theorem qU6{kv:List Sm.PR}(hf:qCS kv){k:xA}{d s:Nat}(h:qJy kv k d s):(if qAl kv k s=true then Sb.leafN (qBk kv k s) (qBo kv k s) else [0])=Sm.ndB kv k s:=by
  unfold Sm.ndB
  have e1:Sm.bel kv k s=cur kv k s:=rfl
  have hone:=h.one
  by_cases h3:(kd kv k s).length=1
  · rw [if_pos (show qAl kv k s=true from decide_eq_true h3),e1,qJl hf.once h3,Sm.nd_one]
  · rw [if_neg (by unfold qAl;rw [decide_eq_false h3];decide)]
    rw [qIV hf.once] at h3
    rw [e1,jT (show(cur kv k s).length=0 by omega),Sm.nd_nil]
theorem tells{kv:List Sm.PR}(hf:qCS kv){k:xA}{d s:Nat}(h:qJy kv k d s):
    (Sm.getP kv k).isSome=(qAl kv k s&&decide (qBk kv k s=k))∧(qAl kv k s=true→qBk kv k s=k→Sm.getP kv k=some (qBo kv k s)):=by
  have hself:Sm.belowB k k s=true:=Sm.belowB_yes λ_ _=>rfl
  have hone:=h.one
  have hmem: ∀v,Sm.getP kv k=some v→(k,v)∈cur kv k s:=λv hv=>List.mem_filter.2 ⟨Sm.getP_some hv,hself⟩
  by_cases h3:(kd kv k s).length=1
  · have hc:=qJl hf.once h3
    have ht:qAl kv k s=true:=decide_eq_true h3
    have hin:(qBk kv k s,qBo kv k s)∈kv:=(List.mem_filter.1 (show(qBk kv k s,qBo kv k s)∈cur kv k s by rw [hc];exact .head _)).1
    rw [ht,Bool.true_and]
    by_cases hk:qBk kv k s=k
    · have hg:=Sm.getP_mem hf.once hin
      rw [show(qBk kv k s,qBo kv k s).1=k from hk] at hg
      rw [hg,decide_eq_true hk]
      exact⟨O,λ_ _=>rfl⟩
    · rw [decide_eq_false hk]
      refine⟨?_,λ_ q=>absurd q hk⟩
      cases hg:Sm.getP kv k with
      |none=>rfl
      |some v=>
        have:=hmem v hg
        rw [hc,jS] at this
        injection this with e _
        exact absurd e.symm hk
  · have ht:qAl kv k s=false:=decide_eq_false h3
    rw [ht,Bool.false_and]
    refine⟨?_,λq=>by cases q⟩
    rw [qIV hf.once] at h3
    have h0:cur kv k s= []:=jT xB
    cases hg:Sm.getP kv k with
    |none=>rfl
    |some v=>
      have:=hmem v hg
      rw [h0] at this;cases this
theorem qNf{s:xA}(h:s= [0]):qRH s=true:=decide_eq_true (.inl h)
theorem qF7{s:xA}(h1:s.length=17)(h2:(s.getD 0 0).toNat=1∨(s.getD 0 0).toNat=2):qRH s=true:=decide_eq_true (.inr ⟨h1,h2⟩)
theorem qD6{s:xA}(h0: ¬s= [0])(h: ¬(s.length=17∧((s.getD 0 0).toNat=1∨(s.getD 0 0).toNat=2))):qRH s=false:=decide_eq_false (λq=>q.elim h0 h)
theorem qUj{s:xA}(h:(s.getD 0 0).toNat=2):0<s.length:=by
 cases s with
 |nil=>cases h
 |cons a r=>exact Nat.zero_lt_succ _
theorem qKb(F:Hp)(k:xA)(z:Int):Cz prog 143 [Str (k),I (z)] F (.bool (decide (k.length=16∧0≤z∧z≤128))):=by
 refine Ct.walk func143 O ntmps143 O (λw0 hw0=>?_)
 refine J.f λ_ j1=>J.b O<|J.c j1<|J.f λ_ j2=>J.b O<|J.g (qAu u9_ O O) O<|J.g (qAe O O O) O<|J.b O<|J.b9 (d:=8) O (λh8=>?_) (λh8=>?_)
 ·
  refine J.b O<|J.G (qBI O O O) O<|J.p 2 O<|J.b9 (d:=12) O (λh12=>?_) (λh12=>?_)
  ·
   exact J.b O<|J.G (qCb O O O) O<|J.p 2 O<|J.c j2<|J.A<|J.E hw0 O () (by first|rw [decide_eq_false xB]|rw [decide_eq_true xB]|exact congrArg Value.bool (decide_eq_decide.2 xB)) trivial [0] O xC
  exact J.p 4 O<|J.c j2<|J.A<|J.E hw0 O () (by first|rw [decide_eq_false xB]|rw [decide_eq_true xB]|exact congrArg Value.bool (decide_eq_decide.2 xB)) trivial [0] O xC
 exact J.p 8 O<|J.c j2<|J.A<|J.E hw0 O () (by first|rw [decide_eq_false xB]|rw [decide_eq_true xB]|exact congrArg Value.bool (decide_eq_decide.2 xB)) trivial [0] O xC
theorem qPx(F:Hp)(k:xA)(hk:k.length=16)(d:Nat)(hd:d<128):Cz prog 179 [Str (k),I (d:Nat)] F (Str (turn k d)):=by
 refine Ct.walk func179 O ntmps179 O (λw0 hw0=>?_)
 refine J.f λ_ j1=>J.b O<|J.c j1<|J.f λ_ j2=>J.b O<|J.q (qIJ O O u9_ qBu u5_) O ?_
 rintro⟨g7,c7,m7⟩ h7
 try dsimp only at h7
 change J _ ((7,.slice (some ⟨g7,0,none⟩) k.length c7)::_) _ [F,m7] _
 refine J.b O<|J.c j2<|J.k λ_ j3=>J.b1 [F,m7] [11] (.y 0 (.y 1 (.y 2 (.y 3 (.y 4 (.y 5 (.y 6 (.y 7 (.y 8 (.y 9 (.y 10 (.e 11 .nil)))))))))))) Tryz.wide xF xD ?_
 refine J.L ?_
 refine J.L ?_
 refine J.j O ((qIK O O O xE).nat (d/8) xB) O O<|J.j O (qAh (i:=d/8) (j:=0+(d/8)*1) O O O qBu z5_ xE xB) O O<|J.j O (qAI O O b5_ (m:=m7) xD (h7.sl.cells (qBh (qAi 0 xE)))) O O<|J.L ?_
 refine J.j O ((qKk O O O xE).nat (d%8) xB) O O<|J.j O ((qA4 O O O xB).nat (7-d%8) xB) O O<|J.j O ((qXR (a:=1) (m:=7-d%8) O O O).as (v':=B8 (UInt8.ofNat (1*2^(7-d%8)))) (by rw [jp xB];rfl)) O O<|J.j O (qXP O O O) O O<|J.j O (qAh (i:=d/8) (j:=0+(d/8)*1) O O O qBu z5_ xE xB) O O<|J.c1 O (qBL (i:=1) (k:=d/8) (off:=0) (b:= [B8 (k.getD (d/8) 0^^^UInt8.ofNat (1*2^(7-d%8)))]) O O O O h7 (vs:= [B8 (k.getD (d/8) 0^^^UInt8.ofNat (1*2^(7-d%8)))]) O z5_ O xB (qBh (qAi 0 xE)) O (jJ _)) O O O ?_
 rintro m2_1 hm2_1
 rw [qFy] at hm2_1
 refine J.b0<|J.u (J.D j3 ?_)
 exact J.f λ_ j4=>J.b O<|J.g (qB3 O O qBu u5_ u9_ (m:=m2_1) xD hm2_1.sl) O<|J.b O<|J.c j4<|J.A<|J.E hw0 O () (by unfold turn;rfl) trivial [0] O xC
theorem qUA(F:Hp)(s:xA):Cz prog 144 [Str (s)] F (.bool (qRH s)):=by
 refine Ct.walk func144 O ntmps144 O (λw0 hw0=>?_)
 refine J.f λ_ j1=>J.b O<|J.c j1<|J.f λ_ j2=>J.b O<|J.g (qBY O O O) O<|J.b O<|J.b9 (d:=5) O (λh5=>?_) (λh5=>?_)
 ·
  refine J.p 4 O<|J.c9 (Wan.un O O O O) O O ?_
  refine J.c9 (Wan.un O O O O) O O ?_
  refine J.c9 (Wan.un O O O O) O O ?_
  refine J.c9 (Wan.un O O O O) O O ?_
  refine J.c9 (Wan.un O O O O) O O ?_
  refine J.c9 (Wan.un O O O O) O O ?_
  refine J.c9 (Wan.un O O O O) O O ?_
  refine J.c9 (Wan.un O O O O) O O ?_
  exact J.p 3 O<|J.c j2<|J.A<|J.E hw0 O () (by first|rw [qNf xG]|rw [qF7 xB xB]|rw [qD6 xG xB]|(by_cases q:(s.getD 0 0).toNat=2;rw [qF7 xB (.inr q),decide_eq_true xB];rw [qD6 xG xB,decide_eq_false xB])) trivial [0] O xC
 refine J.b O<|J.G (qAu u9_ O O) O<|J.G (qAe O O O) O<|J.b O<|J.b9 (d:=9) O (λh9=>?_) (λh9=>?_)
 ·
  refine J.b O<|J.G (qBl (c:=s.getD 0 0) u9_ O O O (qAi 0 xE)) O<|J.G (qAe O O O) O<|J.b O<|J.b9 (d:=13) O (λh13=>?_) (λh13=>?_)
  ·
   exact J.p 7 O<|J.c j2<|J.A<|J.E hw0 O () (by first|rw [qNf xG]|rw [qF7 xB xB]|rw [qD6 xG xB]|(by_cases q:(s.getD 0 0).toNat=2;rw [qF7 xB (.inr q),decide_eq_true xB];rw [qD6 xG xB,decide_eq_false xB])) trivial [0] O xC
  exact J.b O<|J.G (qBl (c:=s.getD 0 0) u9_ O O O (qAi 0 xE)) O<|J.G (qAe O O O) O<|J.p 4 O<|J.c j2<|J.A<|J.E hw0 O () (by first|rw [qNf xG]|rw [qF7 xB xB]|rw [qD6 xG xB]|(by_cases q:(s.getD 0 0).toNat=2;rw [qF7 xB (.inr q),decide_eq_true xB];rw [qD6 xG xB,decide_eq_false xB])) trivial [0] O xC
 refine J.p 4 O<|J.c9 (Wan.un O O O O) O O ?_
 refine J.c9 (Wan.un O O O O) O O ?_
 refine J.c9 (Wan.un O O O O) O O ?_
 exact J.p 4 O<|J.c j2<|J.A<|J.E hw0 O () (by first|rw [qNf xG]|rw [qF7 xB xB]|rw [qD6 xG xB]|(by_cases q:(s.getD 0 0).toNat=2;rw [qF7 xB (.inr q),decide_eq_true xB];rw [qD6 xG xB,decide_eq_false xB])) trivial [0] O xC
theorem qMb(F:Hp)(A:Option Addr)(c:Nat)(bs:List xA)(hs:Sl F 1 A bs.length c (qAH bs))(th:Bool)(pk pv k:xA)(d:Nat)(hg:qLg bs th pk pv k d):Cz prog 72 [.agg #[.slice A bs.length c,.bool (th),Str (pk),Str (pv)],Str (k),I (d:Nat)] F (.bool true):=by
 have hle:=hg.le
 have hk16:=hg.k16
 refine Ct.walk func72 O ntmps72 O (λw0 hw0=>?_)
 refine J.f λ_ j1=>J.q (qAb O O O) O λg3 _=>J.b O<|J.c j1<|J.f λ_ j2=>J.W 0 qEI qB9 O O O O O<|J.a6 1 qCQ O O O O O<|J.g (qAO qAn O O) O<|J.b O<|J.c j2<|J.k λ_ j3=>J.f λ_ j4=>J.p 2 O<|J.q (qAZ O O (λF' hF=>qKb F' k ((d:Nat):Int))) O λg16 _=>J.g ((qAs O O).as (v':= .bool false) (by rw [decide_eq_true (show k.length=16∧(0:Int)≤((d:Nat):Int)∧((d:Nat):Int)≤128 from⟨hk16,xB,xB⟩)];rfl)) O<|J.p 3 O<|J.G (qA4 O O O xE) O<|J.G ((qA5 O O O).no xB) O<|J.b O<|J.c j4<|J.a3 ?_
 refine J.M j3<|J.k λ_ j5=>J.f λ_ j6=>J.W 0 qEI qB9 O O O O O<|J.a6 1 qCQ O O O O O<|J.g (qAO qAn O O) O<|J.b O<|J.c j6<|J.T<|J.b5 (X:=Nat) (λζ=> [(1,Str (k)),(2,I (d:Nat)),(3,Ptr g3),(7,I (bs.length:Nat)),(25,.slice A bs.length c),(26,I (bs.length:Nat)),(27,I (ζ:Nat))]) (λζ=> [F,blk g3 [.slice A bs.length c,.bool (th),Str (pk),Str (pv)] 87]) (λζ=>ζ≤bs.length) (λζ=>bs.length-ζ) 0 (jE _) ⟨O,O,O,O,O,O,O,trivial⟩ (λ_ h=>h) ?_
 rintro i hi I0 hI0
 refine J.f λ_ j7=>J.g (qAS O O O) O<|J.c j7<|J.k λ_ j8=>J.Z O (λh28=>?_) (λh28=>?_)
 ·
  refine J.M j8<|J.k λ_ j9=>J.T<|J.f λ_ j10=>J.g (qAF O O O qAn z9_ hs xE) O<|J.g (qAI O O b9_ (m:=F) xD (hs.elem (qAc (qAi [] xE)))) O<|J.b O<|J.c j10<|J.f λ_ j11=>J.b O<|J.q (qAZ O O (λF' hF=>qUA F' (bs.getD i []))) O λg32 _=>J.g ((qAs O O).as (v':= .bool false) (by rw [hg.nodes i xB];rfl)) O<|J.c j11<|J.a3 ?_
  refine J.b2<|J.a2<|J.u (J.D j9 ?_)
  exact J.H<|J.g ((qAR O O O xE).nat (i+1) xB) O<|J.b O<|J.a4<|J.u<|J.a8 (i+1) (λη (hη:_∧bs.length-η<bs.length-i)=>hI0 η hη.1 hη.2) ⟨xB,by first|omega|(dsimp only;omega)⟩ ⟨O,O,O,O,O,O,O,trivial⟩ (λ_ h=>h)
 refine J.b3<|J.a0<|J.a0<|J.b4 ?_
 refine J.u (J.D j5 ?_)
 refine J.k λ_ j12=>J.f λ_ j13=>J.b O<|J.g (qA5 O O O) O<|J.c j13<|J.Z O (λh36=>?_) (λh36=>?_)
 ·
  obtain ⟨hl1,hl2⟩:=hg.last xB
  refine J.f λ_ j14=>J.W 0 qEI qB9 O O O O O<|J.a6 1 qCQ O O O O O<|J.b O<|J.g ((qA4 O O O xB).nat (bs.length-1) xB) O<|J.g (qAF O O O qAn z9_ hs xE) O<|J.g (qAI O O b9_ (m:=F) xD (hs.elem (qAc (qAi [] xE)))) O<|J.b O<|J.c j14<|J.f λ_ j15=>J.b O<|J.g ((qBY O O O).no (hl1)) O<|J.b O<|J.G (qAA O O qEI O z4_ O) O<|J.G (qAD 1 O O O b4_ O) O<|J.G (qAs O O) O<|J.b O<|J.e4 (d:=49) O (λh49=>?_) (λh49=>?_)
  ·
   refine J.b O ?_
   have hl3:=qUj (hl2 (by simpa using h49))
   refine J.G (qBl (c:=(bs.getD (bs.length-1) []).getD 0 0) u9_ O O O (qAi 0 xE)) O<|J.G ((qAV O O O).no (by have:=hl2 (by simpa using h49);omega)) O<|J.p 2 O<|J.c j15<|J.a3 ?_
   refine J.M j12<|J.k λ_ j16=>J.f λ_ j17=>J.W 1 qEI z4_ O O O O O<|J.a6 1 b4_ O O O O O<|J.g (qAs O O) O<|J.c j17<|J.c5 O (λh57=>?_) (λh57=>?_)
   ·
    exact J.f λ_ j18=>J.W 2 qEI z9_ O O O O O<|J.a6 1 b9_ O O O O O<|J.g ((qBY O O O).yes ((hg.no (by simpa using h57)).1)) O<|J.b O<|J.G (qAA O O qEI O z9_ O) O<|J.G (qAD 1 O O O b9_ O) O<|J.G ((qBY O O O).yes ((hg.no (by simpa using h57)).2)) O<|J.p 2 O<|J.c j18<|J.A<|J.V<|J.E hw0 O () (by first|rfl|(rw [jY,jp xB,(hg.yes (by simpa using h57)).2])) trivial [0] O xC
   refine J.M j16<|J.f λ_ j19=>J.W 2 qEI z9_ O O O O O<|J.a6 1 b9_ O O O O O<|J.g (qAu u9_ O O) O<|J.g ((qAe O O O).yes (by have:=(hg.yes (by simpa using h57)).1;omega)) O<|J.b O<|J.G (qAA O O qEI O z9_ O) O<|J.G (qAD 1 O O O b9_ O) O<|J.p 3 O<|J.G ((qAR O O O xE).nat (d+bs.length) xB) O ?_
   have hpl:=(hg.yes (by simpa using h57)).1
   exact J.d0 (qAZ O O (λF' hF=>qFS F' pk xB k xB ((d+bs.length:Nat):Int))) O λg77 _=>J.p 2 O<|J.c j19<|J.A<|J.E hw0 O () (by first|rfl|(rw [jY,jp xB,(hg.yes (by simpa using h57)).2])) trivial [0] O xC
  refine J.p 5 O<|J.c j15<|J.a3 ?_
  refine J.M j12<|J.k λ_ j20=>J.f λ_ j21=>J.W 1 qEI z4_ O O O O O<|J.a6 1 b4_ O O O O O<|J.g (qAs O O) O<|J.c j21<|J.c5 O (λh57=>?_) (λh57=>?_)
  ·
   exact J.f λ_ j22=>J.W 2 qEI z9_ O O O O O<|J.a6 1 b9_ O O O O O<|J.g ((qBY O O O).yes ((hg.no (by simpa using h57)).1)) O<|J.b O<|J.G (qAA O O qEI O z9_ O) O<|J.G (qAD 1 O O O b9_ O) O<|J.G ((qBY O O O).yes ((hg.no (by simpa using h57)).2)) O<|J.p 2 O<|J.c j22<|J.A<|J.V<|J.E hw0 O () (by first|rfl|(rw [jY,jp xB,(hg.yes (by simpa using h57)).2])) trivial [0] O xC
  refine J.M j20<|J.f λ_ j23=>J.W 2 qEI z9_ O O O O O<|J.a6 1 b9_ O O O O O<|J.g (qAu u9_ O O) O<|J.g ((qAe O O O).yes (by have:=(hg.yes (by simpa using h57)).1;omega)) O<|J.b O<|J.G (qAA O O qEI O z9_ O) O<|J.G (qAD 1 O O O b9_ O) O<|J.p 3 O<|J.G ((qAR O O O xE).nat (d+bs.length) xB) O ?_
  have hpl:=(hg.yes (by simpa using h57)).1
  exact J.d0 (qAZ O O (λF' hF=>qFS F' pk xB k xB ((d+bs.length:Nat):Int))) O λg77 _=>J.p 2 O<|J.c j23<|J.A<|J.E hw0 O () (by first|rfl|(rw [jY,jp xB,(hg.yes (by simpa using h57)).2])) trivial [0] O xC
 refine J.M j12<|J.k λ_ j24=>J.f λ_ j25=>J.W 1 qEI z4_ O O O O O<|J.a6 1 b4_ O O O O O<|J.g (qAs O O) O<|J.c j25<|J.c5 O (λh57=>?_) (λh57=>?_)
 ·
  exact J.f λ_ j26=>J.W 2 qEI z9_ O O O O O<|J.a6 1 b9_ O O O O O<|J.g ((qBY O O O).yes ((hg.no (by simpa using h57)).1)) O<|J.b O<|J.G (qAA O O qEI O z9_ O) O<|J.G (qAD 1 O O O b9_ O) O<|J.G ((qBY O O O).yes ((hg.no (by simpa using h57)).2)) O<|J.p 2 O<|J.c j26<|J.A<|J.V<|J.E hw0 O () (by first|rfl|(rw [jY,jp xB,(hg.yes (by simpa using h57)).2])) trivial [0] O xC
 refine J.M j24<|J.f λ_ j27=>J.W 2 qEI z9_ O O O O O<|J.a6 1 b9_ O O O O O<|J.g (qAu u9_ O O) O<|J.g ((qAe O O O).yes (by have:=(hg.yes (by simpa using h57)).1;omega)) O<|J.b O<|J.G (qAA O O qEI O z9_ O) O<|J.G (qAD 1 O O O b9_ O) O<|J.p 3 O<|J.G ((qAR O O O xE).nat (d+bs.length) xB) O ?_
 have hpl:=(hg.yes (by simpa using h57)).1
 exact J.d0 (qAZ O O (λF' hF=>qFS F' pk xB k xB ((d+bs.length:Nat):Int))) O λg77 _=>J.p 2 O<|J.c j27<|J.A<|J.E hw0 O () (by first|rfl|(rw [jY,jp xB,(hg.yes (by simpa using h57)).2])) trivial [0] O xC
theorem qVO(F:Hp)(B:Option Addr)(n e:Nat):Ct prog 214 [.slice B n e] [F] (λx:Nat=> .func (.func 264) #[] #[Ptr x]) (λ_=>True) (λx=> [F,blk x [.slice B n e] 50]):=by
 refine Ct.walk func214 O ntmps214 O (λw0 hw0=>?_)
 exact J.f λ_ j1=>J.q (qAb O O O) O λg1 _=>J.b O<|J.c j1<|J.f λ_ j2=>J.g (qBM O O) O<|J.b O<|J.c j2<|J.A<|J.E hw0 O g1 O trivial [0,1] O xC
theorem qSg(Fr:Hp)(gB:Nat)(B:Option Addr)(W:List xA)(e:Nat)(hn2:W.length≤1073741824)(ha:qAG Fr ⟨gB,0,none⟩ [.slice B W.length e])(hs:Sl Fr 1 B W.length e (qAH W)):
    qJt prog 264 [Ptr gB] Fr (λi=> [I (W.length-1-i:Nat),Str (W.getD (W.length-1-i) [])]) W.length:=by
  refine qJt.walk func264 O ntmps264 O (λ{X} M IY S l x0 w0 hw0 h0 hY=>?_)
  refine J.f λ_ j1=>J.g (qAI O O qCQ (m:=Fr) xD (ha)) O<|J.g (qAO qAn O O) O<|J.g ((qA4 O O O xB).as (v':=I ((W.length:Int)-1-((0:Nat):Int))) (congrArg I xB)) O<|J.b O<|J.c j1<|J.T<|J.b5 (X:=Nat×X) (λy=> [(0,.func (.yield l) #[] #[]),(1,Ptr gB),(3,I ((W.length:Int)-1-(y.1:Int)))]) (λy=> [Fr,M y.2]) (λy=>y.1≤W.length∧IY y.1 y.2) (λy=>W.length-y.1) (0,x0) (⟨jE _,h0⟩) ⟨O,O,O,trivial⟩ (λ_ h=>h) ?_
  rintro⟨i,x⟩ ⟨hi,hI⟩ I0 hI0
  dsimp only at hi hI⊢
  refine J.k λ_ j2=>J.f λ_ j3=>J.b O<|J.g (qBI O O O) O<|J.c j3<|J.Z O (λh8=>?_) (λh8=>?_)
  ·
    refine J.M j2<|J.k λ_ j4=>J.T<|J.k λ_ j5=>J.f6 ?_
    refine J.c8 (qA2 O O) O O O ?_
    refine J.c8 ((qA2 O O).nat (W.length-1-i) xB) O O O ?_
    refine J.c8 (qAI O O qCQ (m:=Fr) xD (ha)) O O O ?_
    refine J.c8 ((qA2 O O).nat (W.length-1-i) xB) O O O ?_
    refine J.c8 (qAF O O O qAn z9_ hs xE) O O O ?_
    refine J.c8 (qAI O O b9_ (m:=Fr) xD (hs.elem (qAc (qAi [] xE)))) O O O ?_
    refine J.f7 (ex:= []) O O O O O O (hY i x xB hI) ?_
    rintro x' b hb1 hb2
    cases b
    ·
      have hyb:=hb2 O
      refine J.c8 (qAs O O) O O O ?_
      refine J.e2 ?_
      refine J.u (J.D j5 ?_)
      refine J.c3 ?_
      exact J.A<|J.a5<|J.V<|J.V<|J.a5<|J.a9 hw0 (λ_ _ h=>h) (qI7 O) (λw hs=>⟨x',⟨_,O⟩,.inr hyb,hs⟩)
    have hyb:=hb1 O
    refine J.c8 (qAs O O) O O O ?_
    refine J.e2 ?_
    refine J.u (J.D j5 ?_)
    refine J.a3 ?_
    refine J.b2<|J.a2<|J.u (J.D j4 ?_)
    exact J.H<|J.b O<|J.g ((qA4 O O O xB).as (v':=I ((W.length:Int)-1-((i+1:Nat):Int))) (congrArg I xB)) O<|J.b O<|J.a4<|J.u<|J.a8 (i+1,x') (λy (hy:_∧W.length-y.1<W.length-i)=>hI0 y hy.1 hy.2) ⟨⟨by dsimp only;omega,hyb⟩,by dsimp only;omega⟩ ⟨O,O,O,trivial⟩ (λ_ h=>h)
  refine J.b3<|J.a0<|J.a0<|J.b4 ?_
  exact J.d3 hw0 (λ_ _ h=>h) (qI7 O) (λw hs=>⟨x,⟨_,O⟩,.inl (by rw [show W.length=i by omega];exact hI),hs⟩)
theorem qKh(F:Hp)(hK:qAG F ⟨3,0,none⟩ (Sha.K.map W32))(A:Option Addr)(c:Nat)(bs:List xA)(hs:Sl F 1 A bs.length c (qAH bs))(th:Bool)(pk pv xx k:xA)(d:Nat)(hle:d+bs.length≤128)(hk16:k.length=16)(hsm: ∀s∈bs,s.length≤17)(hx:xx.length≤17):
    Cz prog 147 [.agg #[.slice A bs.length c,.bool (th),Str (pk),Str (pv)],Str xx,Str k,I (d:Nat)] F (Str (clm k d bs xx bs.length)):=by
  refine Ct.walk func147 O ntmps147 O (λw0 hw0=>?_)
  refine J.f λ_ j1=>J.q (qAb O O O) O λg4 _=>J.q (qAb O O O) O λg5 _=>J.q (qAb O O O) O λg6 _=>J.q (qAb O O O) O λg7 _=>J.b O<|J.c j1<|J.k λ_ j2=>J.f λ_ j3=>J.W 0 qEI qB9 O O O O O<|J.a6 1 qCQ O O O O O<|J.q (qBb O O (λF' _=>qVO F' A bs.length c)) O ?_
  rintro gB _
  refine J.c j3<|J.T<|J.c2 [2,0,1,3,4,5] [blk g5 [Str (xx)] 9,F,blk g4 [.slice A bs.length c,.bool (th),Str (pk),Str (pv)] 87,blk g6 [Str (k)] 9,blk g7 [I (d:Nat)] 3,blk gB [.slice A bs.length c] 50] O xC<|J.g0 (λx:xA=> [blk g5 [Str (x)] 9]) [F,blk g4 [.slice A bs.length c,.bool (th),Str (pk),Str (pv)] 87,blk g6 [Str (k)] 9,blk g7 [I (d:Nat)] 3,blk gB [.slice A bs.length c] 50] (λi x=>x=clm k d bs xx i) (λ_ _=>False) xx O ent (λFr hF=>qSg Fr gB A bs c xB (qAG.blk0.mono (hF (blk gB [.slice A bs.length c] 50) xD)) (hs.mono (Fa hF))) (λ_ _=>rfl) O (O) ?_ ?_ ?_
  ·
    intro i x l wa wb hi hI K4 Post4 j4 hN4 hR4 hE4
    subst hI
    obtain ⟨y,hy⟩: ∃y,y=clm k d bs xx i:=⟨_,rfl⟩
    obtain ⟨s,hsd⟩: ∃s,s=bs.getD (bs.length-1-i) []:=⟨_,rfl⟩
    have hyl:y.length≤17:=by rw [hy];exact qLQ hsm hx i
    have hsl:s.length≤17:=by rw [hsd,jB,jC (show bs.length-1-i<bs.length by omega)];exact hsm _ (jQ _)
    rw [←hy,←hsd]
    refine J.f4 (λ_ j5=>?_)
    refine J.d7 ?_
    refine J.b O<|J.d8 ?_
    refine J.u (J.D j5 ?_)
    refine J.d7 ?_
    refine J.b O<|J.d8 ?_
    refine J.u (j4 _ _ ?_)
    refine J.f5 ?_
    refine J.f4 (λ_ j6=>?_)
    refine J.d7 ?_
    refine J.a6 3 b9_ O O O O O<|J.a6 4 b3_ O O O O O<|J.b O<|J.g ((qAR O O O xB).nat (d+(bs.length-1-i)) xB) O<|J.q (qAZ O O (λF' hF=>qLX F' k xB (d+(bs.length-1-i)) xB)) O λg20 _=>J.g (qAe O O O) O<|J.d8 ?_
    refine J.u (J.D j6 ?_)
    refine J.g8 O (λh21=>?_) (λh21=>?_)
    ·
      refine J.d7 ?_
      refine J.a6 0 b9_ O O O O O<|J.b O<|J.q (qAZ O O (λF' hF=>qGK F' (hK.mo hF) y s xB xB)) O λg24 _=>J.a7 (qAC (l:= [Str (y)]) (i:=0) (vs:= [Str (Sb.join y s)]) O O O O O z9_ O O) O O λ_ _=>J.d8 ?_
      refine J.a2 ?_
      exact hN4 _ (Sb.join y s) (by rw [clm,up,if_pos xB,←hy,←hsd])
    refine J.d7 ?_
    refine J.b O<|J.a6 0 b9_ O O O O O<|J.q (qAZ O O (λF' hF=>qGK F' (hK.mo hF) s y xB xB)) O λg27 _=>J.a7 (qAC (l:= [Str (y)]) (i:=0) (vs:= [Str (Sb.join s y)]) O O O O O z9_ O O) O O λ_ _=>J.d8 ?_
    refine J.a2 ?_
    exact hN4 _ (Sb.join s y) (by rw [clm,up,if_neg xB,←hy,←hsd])
  ·
    intro w4 x hx4 hI
    subst hI
    refine J.a2<|J.u (J.D j2 ?_)
    exact J.f λ_ j7=>J.a6 0 b9_ O O O O O<|J.b O<|J.c j7<|J.A<|J.e8 hw0 hx4 (λ_ _ h=>h) (qKV O O) (qAg () O trivial [1] O xC)
  intro w4 x c hx4 hS
  exact hS.elim
def qF3(bs:List xA)(th:Bool)(pk pv k:xA)(d:Nat):xA:=clm k d bs (if th=true then Sb.leafN pk pv else [0]) bs.length
def qPC(bs:List xA)(th:Bool)(pk pv nd k v:xA)(d:Nat):Bool:=th&&(decide (pk=k)&&(decide (pv=v)&&decide (qF3 bs th pk pv k d=nd)))
def qHM(bs:List xA)(th:Bool)(pk pv nd k:xA)(d:Nat):Bool:=(!th||decide (pk≠k))&&decide (qF3 bs th pk pv k d=nd)
theorem qNo(k v:xA):(Sb.leafN k v).length≤17:=by unfold Sb.leafN;rw [jD,Sha.tagged_length];exact jJ _
theorem qJE(F:Hp)(hK:qAG F ⟨3,0,none⟩ (Sha.K.map W32))(A:Option Addr)(c:Nat)(bs:List xA)(hs:Sl F 1 A bs.length c (qAH bs))(th:Bool)(pk pv k:xA)(d:Nat)(hg:qLg bs th pk pv k d)(hpv:pv.length≤1000000):Cz prog 73 [.agg #[.slice A bs.length c,.bool (th),Str (pk),Str (pv)],Str (k),I (d:Nat)] F (Str (qF3 bs th pk pv k d)):=by
 have hle:=hg.le
 have hk16:=hg.k16
 have hsm:=hg.small
 refine Ct.walk func73 O ntmps73 O (λw0 hw0=>?_)
 refine J.f λ_ j1=>J.q (qAb O O O) O λg3 _=>J.b O<|J.c j1 ?_
 refine J.k λ_ j2=>J.f λ_ j3=>J.c0 1 qGa qC6 O O O O O<|J.p 2 O<|J.q (qAZ O O (λF' hF=>qMb F' A c bs (hs.mono (Fa hF)) th pk pv k d xG)) O λg11 _=>J.g (qAs O O) O<|J.c j3 ?_
 refine J.a3 ?_
 refine J.M j2 ?_
 refine J.f λ_ j4=>J.b O<|J.c j4 ?_
 refine J.k λ_ j5=>J.f λ_ j6=>J.W 1 qEI z4_ O O O O O<|J.a6 1 b4_ O O O O O<|J.c j6 ?_
 refine J.c5 O (λh14=>?_) (λh14=>?_)
 ·
  have hpl:=(hg.yes h14).1
  refine J.H<|J.W 2 qEI z9_ O O O O O<|J.a6 1 b9_ O O O O O<|J.W 3 qEI z9_ O O O O O<|J.a6 1 b9_ O O O O O<|J.q (qAZ O O (λF' hF=>qNC F' (hK.mo hF) pk pv (by first|omega|exact jf O) (by first|omega|exact jf O))) O λg19 _=>J.b O<|J.c j5 ?_
  refine J.f λ_ j7=>J.c0 1 qGa qC6 O O O O O<|J.p 3 O<|J.q (qAZ O O (λF' hF=>qKh F' (hK.mo hF) A c bs (hs.mono (Fa hF)) th pk pv (Sb.leafN pk pv) k d xG xG xG (by first|assumption|exact qNo _ _|exact jf O))) O λg24 _=>J.b O<|J.c j7 ?_
  exact J.A<|J.E hw0 O () (by unfold qF3;first|rw [if_pos xG]|rw [if_neg (by simp [*])]) trivial [0] O xC
 refine J.M j5 ?_
 refine J.f λ_ j8=>J.c0 1 qGa qC6 O O O O O<|J.p 3 O<|J.q (qAZ O O (λF' hF=>qKh F' (hK.mo hF) A c bs (hs.mono (Fa hF)) th pk pv ([0]) k d xG xG xG (by first|assumption|exact qNo _ _|exact jf O))) O λg24 _=>J.b O<|J.c j8 ?_
 exact J.A<|J.E hw0 O () (by unfold qF3;first|rw [if_pos xG]|rw [if_neg (by simp [*])]) trivial [0] O xC
theorem qNx(F:Hp)(hK:qAG F ⟨3,0,none⟩ (Sha.K.map W32))(A:Option Addr)(c:Nat)(bs:List xA)(hs:Sl F 1 A bs.length c (qAH bs))(th:Bool)(pk pv k:xA)(d:Nat)(hg:qLg bs th pk pv k d)(nd v:xA)(hpv:pv.length≤1000000):Cz prog 39 [.agg #[.slice A bs.length c,.bool (th),Str (pk),Str (pv)],Str (nd),Str (k),Str (v),I (d:Nat)] F (.bool (qPC bs th pk pv nd k v d)):=by
 have hle:=hg.le
 have hk16:=hg.k16
 have hsm:=hg.small
 refine Ct.walk func39 O ntmps39 O (λw0 hw0=>?_)
 refine J.f λ_ j1=>J.q (qAb O O O) O λg5 _=>J.b O<|J.c j1 ?_
 refine J.f λ_ j2=>J.c0 1 qGa qC6 O O O O O<|J.p 2 O<|J.q (qAZ O O (λF' hF=>qMb F' A c bs (hs.mono (Fa hF)) th pk pv k d xG)) O λg14 _=>J.b O<|J.G (qAA O O qEI O z4_ O) O<|J.G (qAD 1 O O O b4_ O) O<|J.p 2 O<|J.e4 (d:=19) O (λh19=>?_) (λh19=>?_)
 ·
  refine J.G (qAA O O qEI O z9_ O) O<|J.G (qAD 1 O O O b9_ O) O<|J.b O<|J.G (qBY O O O) O<|J.p 2 O<|J.b9 (d:=25) O (λh25=>?_) (λh25=>?_)
  ·
   refine J.G (qAA O O qEI O z9_ O) O<|J.G (qAD 1 O O O b9_ O) O<|J.b O<|J.G (qBY O O O) O<|J.p 2 O<|J.b9 (d:=31) O (λh31=>?_) (λh31=>?_)
   ·
    refine J.G (qAU 1 O O O qGa qC6 O) O<|J.p 2 O<|J.d0 (qAZ O O (λF' hF=>qJE F' (hK.mo hF) A c bs (hs.mono (Fa hF)) th pk pv k d xG xG)) O λg35 _=>J.b O<|J.G (qBY O O O) O<|J.p 2 O<|J.c j2 ?_
    exact J.A<|J.E hw0 O () (by unfold qPC;simp [*]) trivial [0] O xC
   refine J.p 8 O<|J.c j2 ?_
   exact J.A<|J.E hw0 O () (by unfold qPC;simp [*]) trivial [0] O xC
  refine J.p 14 O<|J.c j2 ?_
  exact J.A<|J.E hw0 O () (by unfold qPC;simp [*]) trivial [0] O xC
 refine J.p 20 O<|J.c j2 ?_
 exact J.A<|J.E hw0 O () (by unfold qPC;simp [*]) trivial [0] O xC
theorem qO4(F:Hp)(hK:qAG F ⟨3,0,none⟩ (Sha.K.map W32))(A:Option Addr)(c:Nat)(bs:List xA)(hs:Sl F 1 A bs.length c (qAH bs))(th:Bool)(pk pv k:xA)(d:Nat)(hg:qLg bs th pk pv k d)(nd:xA)(hpv:pv.length≤1000000):Cz prog 82 [.agg #[.slice A bs.length c,.bool (th),Str (pk),Str (pv)],Str (nd),Str (k),I (d:Nat)] F (.bool (qHM bs th pk pv nd k d)):=by
 have hle:=hg.le
 have hk16:=hg.k16
 have hsm:=hg.small
 refine Ct.walk func82 O ntmps82 O (λw0 hw0=>?_)
 refine J.f λ_ j1=>J.q (qAb O O O) O λg4 _=>J.b O<|J.c j1 ?_
 refine J.f λ_ j2=>J.c0 1 qGa qC6 O O O O O<|J.p 2 O<|J.q (qAZ O O (λF' hF=>qMb F' A c bs (hs.mono (Fa hF)) th pk pv k d xG)) O λg12 _=>J.b O<|J.G (qAA O O qEI O z4_ O) O<|J.G (qAD 1 O O O b4_ O) O<|J.G (qAs O O) O<|J.b O<|J.e4 (d:=17) O (λh17=>?_) (λh17=>?_)
 ·
  refine J.p 7 O<|J.G (qAU 1 O O O qGa qC6 O) O<|J.p 2 O<|J.d0 (qAZ O O (λF' hF=>qJE F' (hK.mo hF) A c bs (hs.mono (Fa hF)) th pk pv k d xG xG)) O λg28 _=>J.b O<|J.G (qBY O O O) O<|J.p 2 O<|J.c j2 ?_
  exact J.A<|J.E hw0 O () (by unfold qHM;simp [*]) trivial [0] O xC
 refine J.G (qAA O O qEI O z9_ O) O<|J.G (qAD 1 O O O b9_ O) O<|J.b O<|J.G (qDH O O O) O<|J.p 3 O<|J.b9 (d:=24) O (λh24=>?_) (λh24=>?_)
 ·
  refine J.G (qAU 1 O O O qGa qC6 O) O<|J.p 2 O<|J.d0 (qAZ O O (λF' hF=>qJE F' (hK.mo hF) A c bs (hs.mono (Fa hF)) th pk pv k d xG xG)) O λg28 _=>J.b O<|J.G (qBY O O O) O<|J.p 2 O<|J.c j2 ?_
  exact J.A<|J.E hw0 O () (by unfold qHM;simp [*]) trivial [0] O xC
 refine J.p 8 O<|J.c j2 ?_
 exact J.A<|J.E hw0 O () (by unfold qHM;simp [*]) trivial [0] O xC
theorem qKs(F:Hp)(k:xA)(hk:k.length≤1000000)(pb pd:Nat)(b:xA)(d:Int)(hpb:qAG F ⟨pb,0,none⟩ [Str b])(hpd:qAG F ⟨pd,0,none⟩ [I d])(hb:b.length≤1000000):Cz prog 177 [Str (k),Ptr pb,Ptr pd] F (.bool (nbl b d k)):=by
 refine Ct.walk func177 O ntmps177 O (λw0 hw0=>?_)
 refine J.f λ_ j1=>J.b O<|J.c j1 ?_
 refine J.f λ_ j2=>J.b O<|J.g (qAI O O b9_ (m:=F) xD (hpb)) O<|J.g (qAI O O b3_ (m:=F) xD (hpd)) O<|J.q (qAZ O O (λF' hF=>qFS F' k xB b xB d)) O λg8 _=>J.g (qAs O O) O<|J.b O<|J.c j2 ?_
 exact J.A<|J.E hw0 O () (by unfold nbl;rfl) trivial [0] O xC
theorem qTg(F:Hp)(A:Option Addr)(n c:Nat)(ks:List xA)(hs:Sl F 1 A n c (qAH ks))(hn:n≤1000000)(hsm: ∀k:Nat,(ks.getD k []).length≤1000000)(pb pd:Nat)(b:xA)(d:Int)(hpb:qAG F ⟨pb,0,none⟩ [Str b])(hpd:qAG F ⟨pd,0,none⟩ [I d])(hb:b.length≤1000000):Cz prog 240 [.slice A n c,.func (.func 177) #[] #[Ptr pb,Ptr pd]] F (I (ixS (nbl b d) ks)):=by
 have hkn:ks.length=n:=by have:=hs.1;simpa [qAH] using this
 refine Ct.walk func240 O ntmps240 O (λw0 hw0=>?_)
 refine J.f λ_ j1=>J.b O<|J.c j1 ?_
 refine J.k λ_ j2=>J.f λ_ j3=>J.b O<|J.g (qAO qAn O O) O<|J.b O<|J.c j3 ?_
 refine J.T<|J.b5 (X:=Nat) (λζ=> [(0,.slice A n c),(1,.func (.func 177) #[] #[Ptr pb,Ptr pd]),(7,I (n:Nat)),(8,I (ζ:Nat))]) (λζ=> [F]) (λζ=>ζ≤n∧ ∀j<ζ,nbl b d (ks.getD j [])=false) (λζ=>n-ζ) 0 (⟨jE _,λj h=>absurd h (jy j)⟩) ⟨O,O,O,O,trivial⟩ (λ_ h=>h) ?_
 rintro k ⟨hk,hno⟩ I0 hI0
 refine J.f λ_ j4=>J.g (qAS O O O) O<|J.c j4 ?_
 refine J.k λ_ j5=>J.Z O (λh9=>?_) (λh9=>?_)
 ·
  refine J.M j5 ?_
  refine J.k λ_ j6=>J.T<|J.f λ_ j7=>J.p 2 O<|J.c j7 ?_
  refine J.f λ_ j8=>J.p 3 O<|J.g (qAF O O O qAn z9_ hs xB) O<|J.g (qAI O O b9_ (m:=F) xD (hs.elem (qAc (qAi [] xB)))) O<|J.q (qCg O O O ent (Ct.use0 (λF' hF=>qKs F' (ks.getD k []) (by first|omega|(exact hsm _)) pb pd b d (hpb.mono (Fa hF)) (hpd.mono (Fa hF)) xB))) O λg16 _=>J.c j8 ?_
  refine J.c5 O (λh16=>?_) (λh16=>?_)
  ·
   refine J.f λ_ j9=>J.p 2 O<|J.c j9 ?_
   exact J.A<|J.a5<|J.V<|J.V<|J.a5<|J.V<|J.E hw0 O () (by rw [qV6 (k:=k) xB (by simpa using h16) hno]) trivial [0] O xC
  refine J.b2<|J.a2<|J.u (J.D j6 ?_)
  exact J.H<|J.g ((qAR O O O xB).nat (k+1) xB) O<|J.b O<|J.a4<|J.u<|J.a8 (k+1) (λη (hη:_∧n-η<n-k)=>hI0 η hη.1 hη.2) ⟨⟨xB,λj hj=>by rcases Nat.lt_succ_iff_lt_or_eq.1 hj with h|rfl;exact hno j h;simpa using h16⟩,by first|omega|(dsimp only;omega)⟩ ⟨O,O,O,O,trivial⟩ (λ_ h=>h)
 refine J.b3<|J.a0<|J.a0<|J.b4 ?_
 refine J.u (J.D j2 ?_)
 refine J.f λ_ j10=>J.b O<|J.c j10 ?_
 exact J.A<|J.E hw0 O () (by rw [qV4 (λj hj=>hno j xB)]) trivial [0] O xC
theorem qTk(F m:Hp)(A:Option Addr)(n c:Nat)(ks:List xA)(hr:Row m 9 1 A n c (qAH ks))(hn:n≤1000000)(hsm: ∀k:Nat,(ks.getD k []).length≤1000000)(pb pd:Nat)(b:xA)(d:Int)(hpb:qAG F ⟨pb,0,none⟩ [Str b])(hpd:qAG F ⟨pd,0,none⟩ [I d])(hb:b.length≤1000000):
    Ct prog 176 [.slice A n c,.func (.func 177) #[] #[Ptr pb,Ptr pd]] [m,F] (λ_:Hp=> .slice A (ks.filter λk=>!nbl b d k).length c) (λm'=>Row m' 9 1 A (ks.filter λk=>!nbl b d k).length c (qAH (ks.filter λk=>!nbl b d k))) (λm'=> [m',F]):=by
  have hkn:ks.length=n:=by have:=hr.len;simpa [qAH] using this
  have hnc:=hr.2.2.1
  refine Ct.walk func176 O ntmps176 O (λw0 hw0=>?_)
  change J _ [(0,_),(1,_)] _ _ _
  refine J.f λ_ j1=>J.b O<|J.c j1 ?_
  refine J.f λ_ j2=>J.p 2 O<|J.q (qAZ O O (λF' hF=>qTg F' A n c ks (hr.sl.mono (Fa hF)) xB (hsm) pb pd b d (hpb.mono (Fa hF)) (hpd.mono (Fa hF)) xB)) O λg10 _=>J.b O<|J.c j2 ?_
  refine J.k λ_ j3=>J.f λ_ j4=>J.b O<|J.g (qAe O O O) O<|J.c j4 ?_
  refine J.Z O (λh12=>?_) (λh12=>?_)
  ·
    refine J.f λ_ j5=>J.p 2 O<|J.c j5 ?_
    refine J.A<|J.V ?_
    have hf:(ks.filter λk=>!nbl b d k)=ks:=qNt h12
    exact J.E hw0 O m (by rw [hf,hkn]) (by rw [hf,hkn];exact hr) [0,1] O xC
  refine J.M j3 ?_
  refine J.k λ_ j6=>J.k λ_ j7=>?_
  obtain ⟨i0,h5,hi0,hf0⟩:=qV5 h12
  obtain ⟨ga,rfl⟩:=hr.at xB
  rw [h5]
  refine J.H<|J.b O<|J.g ((qAR O O O xB).nat (i0+1) xB) O<|J.b O<|J.c j7 ?_
  refine J.T<|J.b5 (X:=Nat×Nat×List xA×Hp) (λζ=> [(0,.slice (some ⟨ga,0,none⟩) n c),(1,.func (.func 177) #[] #[Ptr pb,Ptr pd]),(5,I (ζ.1:Nat)),(6,I (ζ.2.1:Nat))]) (λζ=> [ζ.2.2.2,F]) (λζ=>ζ.1<ζ.2.1∧ζ.2.1≤n∧ζ.2.2.1.length=n∧ζ.2.2.1.take ζ.1=(ks.take ζ.2.1).filter (λk=>!nbl b d k)∧ζ.2.2.1.drop ζ.2.1=ks.drop ζ.2.1∧Row ζ.2.2.2 9 1 (some ⟨ga,0,none⟩) n c (qAH ζ.2.2.1)) (λζ=>n-ζ.2.1) (i0,i0+1,ks,m) (⟨by dsimp only;omega,by dsimp only;omega,hkn,hf0,O,hr⟩) ⟨O,O,O,O,trivial⟩ (λ_ h=>h) ?_
  rintro⟨w,j,L,m⟩ ⟨hw,hj,hL,hA,hB,hr⟩ I0 hI0
  dsimp only at hw hj hL hA hB hr⊢
  refine J.k λ_ j8=>J.f λ_ j9=>J.p 2 O<|J.g (qAO qAn O O) O<|J.g (qAS O O O) O<|J.c j9 ?_
  refine J.Z O (λh19=>?_) (λh19=>?_)
  ·
    refine J.M j8 ?_
    refine J.k λ_ j10=>J.T<|J.f λ_ j11=>J.p 2 O<|J.g (qAh (i:=j) (j:=0+j*1) O O O qAn z9_ xB xB) O ?_
    have hnw:w<j:=hw
    refine J.g (qAI O O b9_ (m:=m) xD (hr.sl.cells (qAc (qAi [] xB)))) O<|J.b O<|J.c j11 ?_
    refine J.k λ_ j12=>?_
    have hgj:(L.getD j []).length≤1000000:=by
      have e0:=congrArg (λz=>z.getD 0 []) hB
      have e1:L.getD j []=ks.getD j []:=by simpa [jB,jq] using e0
      rw [e1];exact hsm j
    refine J.H<|J.p 2 O<|J.q (qCg O O O ent (Ct.use0 (λF' hF=>qKs F' (L.getD j []) (by first|omega|(exact hsm _)) pb pd b d (hpb.mono (Fa hF)) (hpd.mono (Fa hF)) xB))) O λg28 _=>J.g (qAs O O) O<|J.c j12 ?_
    refine J.c5 O (λh29=>?_) (λh29=>?_)
    ·
      refine J.f λ_ j13=>J.p 3 O<|J.g (qAh (i:=w) (j:=0+w*1) O O O qAn z9_ xB xB) O<|J.a7 (qBL (i:=0) (k:=w) (off:=0) (b:= [Str (L.getD j [])]) O O O O hr (vs:= [Str (L.getD j [])]) O z9_ O xB (qAc (qAi [] xB)) O (jJ _)) O O ?_
      rintro m9_1 hm9_1
      rw [qDx] at hm9_1
      refine J.c j13 ?_
      refine J.H<|J.b O<|J.g ((qAR O O O xB).nat (w+1) xB) O<|J.b O<|J.a4<|J.a2<|J.u (J.D j10 ?_)
      exact J.H<|J.b O<|J.g ((qAR O O O xB).nat (j+1) xB) O<|J.b O<|J.a4<|J.u<|J.a8 (w+1,j+1,L.set w (L.getD j []),m9_1) (λη (hη:_∧n-η.2.1<n-j)=>hI0 η hη.1 hη.2) ⟨⟨by dsimp only;omega,by dsimp only;omega,by dsimp only;rw [jk];exact hL,(qGU hw xB xB hA hB (by simpa using h29)).1,(qGU hw xB xB hA hB (by simpa using h29)).2,by assumption⟩,by first|omega|(dsimp only;omega)⟩ ⟨O,O,O,O,trivial⟩ (λ_ h=>h)
    refine J.b2<|J.a2<|J.u (J.D j10 ?_)
    exact J.H<|J.b O<|J.g ((qAR O O O xB).nat (j+1) xB) O<|J.b O<|J.a4<|J.u<|J.a8 (w,j+1,L,m) (λη (hη:_∧n-η.2.1<n-j)=>hI0 η hη.1 hη.2) ⟨⟨by dsimp only;omega,by dsimp only;omega,hL,(qGV xB hA hB (by simpa using h29)).1,(qGV xB hA hB (by simpa using h29)).2,hr⟩,by first|omega|(dsimp only;omega)⟩ ⟨O,O,O,O,trivial⟩ (λ_ h=>h)
  refine J.b3<|J.a0<|J.a0<|J.b4 ?_
  refine J.u (J.D j6 ?_)
  refine J.f λ_ j14=>J.p 2 O<|J.g (qC0 O O qAn z9_ O O xB) O<|J.a7 (qDZ (i:=0) (l:=w) (h:=n) O O (by split<;>simp [Addr.add_lit]) qAn el9 O O O (hr.shrink xB) O xB xB) O O ?_
  rintro mc hmc
  refine J.c j14 ?_
  refine J.f λ_ j15=>J.p 2 O<|J.g (qCm O O qAn z9_ O xB) O<|J.b O<|J.c j15 ?_
  refine J.A ?_
  have hfl:(ks.filter λk=>!nbl b d k)=L.take w:=by rw [hA,jV xB]
  have hfw:(ks.filter λk=>!nbl b d k).length=w:=by rw [hfl,jF];omega
  rw [qEL,←hfl] at hmc
  exact J.E hw0 O mc (by rw [hfw]) (by rw [hfw];exact hmc) [0,1] O xC
theorem qJo(F:Hp)(A:Option Addr)(n c:Nat)(ks:List xA)(hs:Sl F 1 A n c (qAH ks))(hn:n≤1000000):Ct prog 126 [.slice A n c] [F] (λx:Option Addr×Nat×Hp=> .slice x.1 (ks).length x.2.1) (λx=>Row x.2.2 9 1 x.1 (ks).length x.2.1 (qAH ks)) (λx=> [F,x.2.2]):=by
 have hkn:ks.length=n:=by have:=hs.1;simpa [qAH] using this
 refine Ct.walk func126 O ntmps126 O (λw0 hw0=>?_)
 refine J.f λ_ j1=>J.b O<|J.c j1 ?_
 refine J.k λ_ j2=>J.f λ_ j3=>J.b O<|J.g ((qFA qAn O O O).as (v':= .bool (decide (A.isNone=true))) (congrArg Value.bool (by cases A<;>rfl))) O<|J.c j3 ?_
 refine J.Z O (λh4=>?_) (λh4=>?_)
 ·
  refine J.f λ_ j4=>J.b O<|J.c j4 ?_
  refine J.A<|J.V ?_
  have hk0:ks= []:=by
   refine jT ?_
   rcases yN n with h|h
   · omega
   · obtain ⟨g,o,rfl⟩:=hs.at h;cases h4
  exact J.c6 [0,1] [F,(λ_=>none)] O xC<|J.E hw0 O (none,0,(λ_=>none)) (by rw [hk0];rfl) (by rw [hk0];exact qBZ.nil) [0,1] O xC
 refine J.M j2 ?_
 refine J.f λ_ j5=>J.q (qBs O qAn el9) O λg5 _=>J.b O<|J.q (qAX (i:=1) (m2:=F) O O O qAn qAn el9 O (qAm (q:=True) (xs:=qAH ([])) O (by intro x hx;first|exact absurd hx (zE)|(rw [List.mem_singleton.1 hx];rfl))) xD (hs) (qC4 _) xB xB) O ?_
 rintro⟨A7,c7,m7⟩ h7
 try dsimp only at h7
 replace h7:Row m7 9 1 A7 (0+n) c7 (qAH (ks)):=h7
 refine J.b O<|J.c j5 ?_
 refine J.A ?_
 rw [show 0+n=ks.length by omega] at h7
 exact J.E hw0 O (A7,c7,m7) (by rw [←hkn,jj]) h7 [0,1] O xC
theorem qKa(F:Hp)(d:Int)(p9 p4:Nat)(A:Option Addr)(n c:Nat)(ks:List xA)(hs:Sl F 1 A n c (qAH ks))(h9:qAG F ⟨p9,0,none⟩ [.slice A n c])(b:xA)(h4:qAG F ⟨p4,0,none⟩ [Str b])(hn:n≤1000000)(hb:b.length≤1000000)(hsm: ∀k:Nat,(ks.getD k []).length≤1000000):Ct prog 175 [I (d),Ptr p9,Ptr p4] [F] (λx:Option Addr×Nat×Hp=> .slice x.1 (ks.filter (λq=>!nbl b d q)).length x.2.1) (λx=>Row x.2.2 9 1 x.1 (ks.filter (λq=>!nbl b d q)).length x.2.1 (qAH (ks.filter (λq=>!nbl b d q)))) (λx=> [F,x.2.2]):=by
 have hkn:ks.length=n:=by have:=hs.1;simpa [qAH] using this
 refine Ct.walk func175 O ntmps175 O (λw0 hw0=>?_)
 refine J.f λ_ j1=>J.q (qAb O O O) O λg3 _=>J.b O<|J.c j1 ?_
 refine J.f λ_ j2=>J.g (qAI O O qCQ (m:=F) xD (h9)) O<|J.q (qBb O O (λF' hF=>qJo F' A n c ks (hs.mono (Fa hF)) xB)) O ?_
 rintro⟨A6,c6,m6⟩ h6
 try dsimp only at h6
 refine J.g (qBM O O) O<|J.q (qAK O O ent (Ct.use1 2 O (λF' hF=>qTk F' m6 A6 ks.length c6 ks h6 xB hsm p4 g3 b d (h4.mono (Fa hF)) (qAG.blk0.mono (hF (blk g3 [I (d)] 3) xD)) hb))) O ?_
 rintro m8 h8
 refine J.b O<|J.c j2 ?_
 exact J.A<|J.E hw0 O (A6,c6,m8) O h8 [0,2] O xC
theorem qZi(l:List Sm.PR)(k:xA){d:Nat}(hd:d≤128):(Sm.keysS l).filter (λq=>!nbl k ((d:Nat):Int) q)=kd l k d:=by
 unfold kd nbl
 refine yD λq _=>?_
 rw [Bool.not_not,jY,jp hd]
theorem qX3(l:List Sm.PR)(k:xA){d:Nat}(hd:d+1≤128):(kd l k d).filter (λq=>!nbl k ((d+1:Nat):Int) q)=kd l k (d+1):=by
 rw [←qXv]
 refine yD λq _=>?_
 unfold nbl
 rw [Bool.not_not,jY,jp hd]
theorem qUq{l:List Sm.PR}(hf:qCS l)(k:xA)(d j:Nat):((kd l k d).getD j []).length≤1000000:=by
  by_cases hj:j<(kd l k d).length
  · rw [jB,jC hj]
    obtain ⟨⟨v,hv⟩,_⟩:=qV3 (jQ hj)
    show((kd l k d)[j]).length≤1000000
    rw [show(kd l k d)[j].length=16 from hf.k16 _ hv];decide
  · rw [jB,jd xB];decide
theorem qZY(l:List Sm.PR)(k:xA)(d:Nat):(kd l k d).length≤l.length:=by
 have:=zZ (λq=>Sm.belowB q k d) (Sm.keysS l)
 rw [Sm.keysS_len] at this;exact this
theorem qE5(F:Hp)(hK:qAG F ⟨3,0,none⟩ (Sha.K.map W32))(g:Nat)(l:List Sm.PR)(hT:qCl F g l)(hf:qCS l)(k:xA)(hk:k.length=16)(d:Nat)(hd:d≤128):
    Ct prog 96 [Ptr g,Str k,I (d:Nat)] [F] (λx:Nat×Option Addr×Nat×Hp=> .tuple #[.agg #[.slice x.2.1 (bsd l k d (x.1-d)).length x.2.2.1,.bool (qAl l k x.1),Str (qBk l k x.1),Str (qBo l k x.1)],I 0]) (λx=>qJy l k d x.1∧Row x.2.2.2 9 1 x.2.1 (bsd l k d (x.1-d)).length x.2.2.1 (qAH (bsd l k d (x.1-d)))) (λx=> [F,x.2.2.2]):=by
  have hln:=hf.few
  have hkl:=Sm.keysS_len l
  have hsm:=qHN hf.k16
  have hk0:=qZi l k hd
  have hkd0:=qZY l k d
  refine Ct.walk func96 O ntmps96 O (λw0 hw0=>?_)
  refine J.f λ_ j1=>J.q (qAb O O O) O λg4 _=>J.q (qAJ O qPH O) O λg6 _=>J.b O<|J.c j1 ?_
  refine J.k λ_ j2=>J.f λ_ j3=>J.a6 1 b9_ O O O O O<|J.b O<|J.q (qAZ O O (λF' hF=>qKb F' k ((d:Nat):Int))) O λg14 _=>J.g ((qAs O O).as (v':= .bool false) (by rw [decide_eq_true (show k.length=16∧(0:Int)≤((d:Nat):Int)∧((d:Nat):Int)≤128 from⟨hk,xB,xB⟩)];rfl)) O<|J.c j3 ?_
  refine J.a3 ?_
  refine J.M j2 ?_
  refine J.f λ_ j4=>J.q (qAJ O qPH O) O λg8 _=>J.c j4 ?_
  refine J.f λ_ j5=>J.b O<|J.q (qBb O O (λF' hF=>qM3 F' g l (hT.mono (Fa hF)) xB)) O ?_
  rintro⟨A18,c18,m18⟩ h18
  try dsimp only at h18
  refine J.q (qAJ O zeroValue50 O) O λg9 _=>J.a7 (qAC (i:=5) (l:= [.slice none 0 0]) (vs:= [.slice A18 ((Sm.keysS l).length) c18]) O O O O O qB9 O O) O O λ_ _=>J.c j5 ?_
  refine J.f λ_ j6=>J.g (qBM O O) O<|J.b O<|J.c j6 ?_
  refine J.f λ_ j7=>J.p 2 O<|J.q (qCg O O O ent (Ct.use (λF' hF=>qKa F' ((d:Nat):Int) g9 g4 A18 ((Sm.keysS l).length) c18 (Sm.keysS l) (h18.sl.mono (Fa hF)) (qAG.blk0.mono (hF (blk g9 [.slice A18 ((Sm.keysS l).length) c18] 50) xD)) k (qAG.blk0.mono (hF (blk g4 [Str (k)] 9) xD)) xB xB xG))) O ?_
  rintro⟨A22,c22,m22⟩ h22
  try dsimp only at h22
  rw [hk0] at h22⊢
  refine J.a7 (qAC (i:=5) (l:= [.slice A18 ((Sm.keysS l).length) c18]) (vs:= [.slice A22 ((kd l k (d)).length) c22]) O O O O O qB9 O O) O O λ_ _=>J.c j7 ?_
  refine J.k λ_ j8=>J.f λ_ j9=>J.p 2 O<|J.c j9 ?_
  refine J.T<|J.b5 (X:=Nat×Option Addr×Nat×Hp×Option Addr×Nat×Hp) (λζ=> [(0,Ptr g),(4,Ptr g4),(6,Ptr g6),(8,Ptr g8),(9,Ptr g9),(10,.func (.func 175) #[] #[Ptr g9,Ptr g4]),(11,I (d+ζ.1:Nat))]) (λζ=> [F,blk g4 [Str (k)] 9,blk g6 [.slice none 0 0,.bool false,Str [],Str []] 87,blk g8 [.slice ζ.2.2.2.2.1 (bsd l k d (ζ.1)).length ζ.2.2.2.2.2.1,.bool false,Str [],Str []] 87,blk g9 [.slice ζ.2.1 (kd l k (d+ζ.1)).length ζ.2.2.1] 50,ζ.2.2.2.1,ζ.2.2.2.2.2.2]) (λζ=>d+ζ.1≤128∧(∀x,d≤x→x<d+ζ.1→2≤(cur l k x).length)∧Row ζ.2.2.2.1 9 1 ζ.2.1 (kd l k (d+ζ.1)).length ζ.2.2.1 (qAH (kd l k (d+ζ.1)))∧Row ζ.2.2.2.2.2.2 9 1 ζ.2.2.2.2.1 (bsd l k d (ζ.1)).length ζ.2.2.2.2.2.1 (qAH (bsd l k d (ζ.1)))) (λζ=>128-(d+ζ.1)) (0,A22,c22,m22,none,0,(λ_=>none)) (⟨hd,λx h1 h2=>absurd h2 xB,h22,qBZ.nil⟩) ⟨O,O,O,O,O,O,O,trivial⟩ (λ_ h=>h.empty.pick [0,1,2,3,5,6,7] xC) ?_
  rintro⟨n,A9,c9,m9,Ab,cb,mb⟩ ⟨he,htw,hr9,hrb⟩ I0 hI0
  dsimp only at he htw hr9 hrb⊢
  have hbl:=qCv l k d n
  refine J.k λ_ j10=>J.f λ_ j11=>J.a6 4 qCQ O O O O O<|J.g (qAO qAn O O) O<|J.g (qA5 O O O) O<|J.c j11 ?_
  refine J.Z O (λh26=>?_) (λh26=>?_)
  ·
    have hcl:=qIV hf.once k (d+n)
    have hlt:d+n<128:=by
      rcases zo (d+n) 128 with h|h
      · exact h
      · have hct:=qYE hf hk
        rw [show d+n=128 by omega] at h26 hcl
        omega
    have htl:(turn k (d+n)).length=16:=(qCG k _).trans hk
    have hmn:min (((d+n+1:Nat):Int)).toNat 128=d+n+1:=by rw [jY];omega
    have hsmk:=qUq hf k (d+n)
    have hkdl:=qZY l k (d+n)
    refine J.M j10 ?_
    refine J.k λ_ j12=>J.T<|J.k λ_ j13=>J.b1 [blk g8 [.slice Ab (bsd l k d (n)).length cb,.bool false,Str [],Str []] 87,blk g4 [Str (k)] 9] [12] (.y 0 (.y 1 (.y 2 (.y 3 (.y 4 (.y 6 (.y 7 (.e 5 (.e 8 (.e 9 (.e 10 (.y 11 (.e 12 .nil))))))))))))) Tryz.wide xF xD ?_
    refine J.j O (qAA O O qEI O qB9 O) O O<|J.j O (qAD 0 O O O qCQ O) O O<|J.L ?_
    refine J.j O (qAD 1 O O O b9_ O) O O<|J.L ?_
    refine J.L ?_
    refine J.j O ((qAR O O O xB).nat (d+n+1) xB) O O<|J.a1 O (qAZ O O (λF' hF=>qPx F' k xG (d+n) xB)) O xD λg34 _=>J.a1 O (qAZ O O (λF' hF=>qGI F' (hK.mo hF) g l (hT.mono (Fa hF)) xG (turn k (d+n)) xN ((d+n+1:Nat):Int) (by first|assumption|exact qIr xG|exact qMz xG xG))) O xD λg37 _=>J.a1 O (qAE (l:= [.tmp 37]) (xs:= [[Str (Sm.ndB l (turn k (d+n)) (min ((d+n+1:Nat):Int).toNat 128))]]) O O O O qAn el9 O xC xC xD) O xD λg38 _=>?_
    change J _ _ _ [F,blk g4 [Str (k)] 9,blk g6 [.slice none 0 0,.bool false,Str [],Str []] 87,blk g8 [.slice Ab (bsd l k d (n)).length cb,.bool false,Str [],Str []] 87,blk g9 [.slice A9 (kd l k (d+n)).length c9] 50,m9,mb,blk g38 [Str (Sm.ndB l (turn k (d+n)) (min ((d+n+1:Nat):Int).toNat 128))] 9] _
    refine J.a1 O (qAX (i:=6) (xs:=qAH (bsd l k d (n))) (m2:=blk g38 [Str (Sm.ndB l (turn k (d+n)) (min ((d+n+1:Nat):Int).toNat 128))] 9) (ys:= [[Str (Sm.ndB l (turn k (d+n)) (min ((d+n+1:Nat):Int).toNat 128))]]) O O O qAn qAn el9 O hrb xD ((qBO (q:=True) (qAH [Sm.ndB l (turn k (d+n)) (min ((d+n+1:Nat):Int).toNat 128)]) O (by simp [qAH]) O).sl) O xB xB) O xD ?_
    rintro⟨A39,c39,m39⟩ h39
    try dsimp only at h39
    change J _ ((39,.slice A39 (((bsd l k d (n)).length)+1) c39)::_) _ [_,_,_,_,_,_,m39,_] _
    rw [←qCD,hmn,←qVH] at h39
    rw [show(bsd l k d (n)).length+1=(bsd l k d (n+1)).length by rw [qCv,qCv]] at h39⊢
    refine J.j O (qAA O O qEI O qB9 O) O O<|J.c1 O (qAW (i:=3) O O O O O qB9 O xD) O O O λ_ _=>J.b0<|J.u (J.D j13 ?_)
    refine J.H<|J.p 2 O<|J.g ((qAR O O O xB).nat (d+n+1) xB) O<|J.q (qCg O O O ent (Ct.use (λF' hF=>qKa F' ((d+n+1:Nat):Int) g9 g4 A9 ((kd l k (d+n)).length) c9 (kd l k (d+n)) (hr9.sl.mono (Fa hF)) (qAG.blk0.mono (hF (blk g9 [.slice A9 (kd l k (d+n)).length c9] 50) xD)) k (qAG.blk0.mono (hF (blk g4 [Str (k)] 9) xD)) xB xB xG))) O ?_
    rintro⟨A44,c44,m44⟩ h44
    try dsimp only at h44
    rw [qX3 l k xB] at h44⊢
    refine J.a7 (qAC (i:=4) (l:= [.slice A9 (kd l k (d+n)).length c9]) (vs:= [.slice A44 ((kd l k (d+n+1)).length) c44]) O O O O O qB9 O O) O O λ_ _=>J.a4<|J.a2<|J.u (J.D j12 ?_)
    exact J.H<|J.b O<|J.g ((qAR O O O xB).nat (d+n+1) xB) O<|J.b O<|J.a4<|J.u<|J.a8 (n+1,A44,c44,m44,A39,c39,m39) (λη (hη:_∧128-(d+η.1)<128-(d+n))=>hI0 η hη.1 hη.2) ⟨⟨by dsimp only;omega,λx h1 h2=>by rcases zo x (d+n) with h|h;exact htw x h1 h;rw [show x=d+n by dsimp only at h2;omega,←hcl];omega,h44,h39⟩,by dsimp only;omega⟩ ⟨O,O,O,O,O,O,O,trivial⟩ (λ_ h=>h.pick [0,1,2,3,4,8,6] xC)
  have hst:qJy l k d (d+n):=⟨xB,he,by rw [←qIV hf.once];omega,λx h1 h2=>htw x h1 h2⟩
  have hdn:d+n-d=n:=xB
  refine J.b3<|J.a0<|J.a0<|J.b4 ?_
  refine J.u (J.D j8 ?_)
  refine J.k λ_ j14=>J.f λ_ j15=>J.a6 4 qCQ O O O O O<|J.g (qAO qAn O O) O<|J.g (qAe O O O) O<|J.c j15 ?_
  refine J.Z O (λh47=>?_) (λh47=>?_)
  ·
    refine J.k λ_ j16=>J.b1 [blk g9 [.slice A9 (kd l k (d+n)).length c9] 50,m9] [] (.y 0 (.y 1 (.y 2 (.y 3 (.e 4 (.y 5 (.e 6 .nil))))))) Tryz.wide xF xD ?_
    refine J.j O (qAD 0 (v:= .slice A9 (kd l k (d+n)).length c9) O O O qCQ O) O O<|J.j O (qAF (i:=0) O O O qAn z9_ hr9.sl xB) O O<|J.j O (qAI O O b9_ (m:=m9) xD (hr9.sl.elem (qAc (qAi [] xB)))) O O<|J.j O (qAA O O qEI O z4_ O) O O<|J.e1 O (qAW (i:=3) O O O O O z4_ O xD) O O xD λ_ _=>J.j O (qAA O O qEI O z9_ O) O O<|J.e1 O (qAW (i:=3) (l:= [.slice Ab (bsd l k d (n)).length cb,.bool true,Str [],Str []]) (vs:= [Str ((kd l k (d+n)).getD 0 [])]) O O O O O z9_ O xD) O O xD λ_ _=>J.b0<|J.u (J.D j16 ?_)
    refine J.H<|J.b O<|J.W 2 qEI z9_ O O O O O<|J.a6 3 b9_ O O O O O<|J.q (qAZ O O (λF' hF=>qWS F' g l (hT.mono (Fa hF)) ((kd l k (d+n)).getD 0 []))) O λg57 _=>J.p 3 O<|J.W 3 qEI z9_ O O O O O<|J.a7 (qAW (i:=3) (l:= [.slice Ab (bsd l k d (n)).length cb,.bool true,Str ((kd l k (d+n)).getD 0 []),Str []]) (vs:= [Str ((Sm.getP l ((kd l k (d+n)).getD 0 [])).getD [])]) O O O O O z9_ O xD) O O λ_ _=>J.c j14 ?_
    refine J.f λ_ j17=>J.c0 3 qGa qC6 O O O O O<|J.a7 (qAC (i:=2) (l:= [.slice none 0 0,.bool false,Str [],Str []]) (vs:= [.slice Ab (bsd l k d (n)).length cb,.bool true,Str ((kd l k (d+n)).getD 0 []),Str ((Sm.getP l ((kd l k (d+n)).getD 0 [])).getD [])]) O O O O O qC6 O O) O O λ_ _=>J.b O<|J.c j17 ?_
    exact J.A<|J.a9 hw0 (λ_ _ h=>h) (rv2 O (RV.blkA 2 O O qGa qC6) O) (qAg (d+n,Ab,cb,mb) (by dsimp only;rw [hdn];unfold qAl qBk qBo;rw [if_pos xB,if_pos xB,decide_eq_true xB]) ⟨hst,by dsimp only;rw [hdn];exact hrb⟩ [0,6] O xC)
  refine J.M j14 ?_
  refine J.f λ_ j18=>J.c0 3 qGa qC6 O O O O O<|J.a7 (qAC (i:=2) (l:= [.slice none 0 0,.bool false,Str [],Str []]) (vs:= [.slice Ab (bsd l k d (n)).length cb,.bool false,Str [],Str []]) O O O O O qC6 O O) O O λ_ _=>J.b O<|J.c j18 ?_
  exact J.A<|J.a9 hw0 (λ_ _ h=>h) (rv2 O (RV.blkA 2 O O qGa qC6) O) (qAg (d+n,Ab,cb,mb) (by dsimp only;rw [hdn];unfold qAl qBk qBo;rw [if_neg xB,if_neg xB,decide_eq_false xB]) ⟨hst,by dsimp only;rw [hdn];exact hrb⟩ [0,6] O xC)
structure Pz where
 a:UInt8
 b:UInt8
 v:xA
 deriving DecidableEq
def Pz.cells(x:Pz):List Value:= [B8 (x.a),B8 (x.b),Str (x.v)]
theorem qIG{kv:List Sm.PR}(hf:qCS kv){k:xA}(hk:k.length=16){d s:Nat}(h:qJy kv k d s):qF3 (bsd kv k d (s-d)) (qAl kv k s) (qBk kv k s) (qBo kv k s) k d=Sm.ndB kv k d:=by
 have h1:=h.le
 have h2:=h.ge
 have h3:=qJp hf hk (d:=d) (n:=s-d) xB (s-d) (jJ _)
 rw [show d+(s-d)=s by omega,show s-(s-d)=d by omega] at h3
 unfold qF3
 rw [qU6 hf h,qCv]
 exact h3
theorem qKZ{kv:List Sm.PR}(hf:qCS kv){k:xA}(hk:k.length=16){d s:Nat}(h:qJy kv k d s):
    qPC (bsd kv k d (s-d)) (qAl kv k s) (qBk kv k s) (qBo kv k s) (Sm.ndB kv k d) k ((Sm.getP kv k).getD []) d=(Sm.getP kv k).isSome:=by
  obtain ⟨t1,t2⟩:=tells hf h
  unfold qPC
  rw [qIG hf hk h,decide_eq_true rfl,Bool.and_true,t1]
  cases ht:qAl kv k s with
  |false=>rfl
  |true=>
    by_cases hkk:qBk kv k s=k
    · rw [t2 ht hkk,decide_eq_true hkk];simp
    · rw [decide_eq_false hkk];rfl
theorem qEQ{kv:List Sm.PR}(hf:qCS kv)(k:xA)(s:Nat):(qBo kv k s).length≤1000000:=by
 unfold qBo
 split
 · exact qIb hf.small _
 · exact jE _
theorem qNK{kv:List Sm.PR}(ho:Sm.Once kv){k v:xA}{p:Sm.PR}:p∈Sm.putP kv k v↔(p∈kv∧p.1≠k)∨p=(k,v):=by
 rw [(Sm.putP_perm k v ho).mem_iff]
 unfold Sm.setP
 rw [List.mem_append,List.mem_filter,decide_eq_true_eq,jS]
theorem qCS.put{kv:List Sm.PR}(hf:qCS kv){k v:xA}(hk:k.length=16)(hv:v.length≤1000000)(hl:kv.length≤100000):qCS (Sm.putP kv k v):=by
  refine⟨(Sm.setP_once k v hf.once).perm (Sm.putP_perm k v hf.once).symm,λp q=>?_,λp q=>?_,jg (Sm.putP_len kv k v) xB⟩
  · rcases(qNK hf.once).1 q with ⟨q,_⟩|rfl
    · exact hf.k16 p q
    · exact hk
  · rcases(qNK hf.once).1 q with ⟨q,_⟩|rfl
    · exact hf.small p q
    · exact hv
theorem qOk{kv:List Sm.PR}(hf:qCS kv){k v:xA}(hk:k.length=16){b:xA}(hb:b.length=16){d:Nat}(hd:d≤128)(hn:Sm.belowB k b d=false)(hv:v.length≤1000000)(hl:kv.length≤100000):
    Sm.ndB (Sm.putP kv k v) b d=Sm.ndB kv b d:=by
  have hf':=hf.put hk hv hl
  have h1:Sm.ndB (Sm.putP kv k v) b d=Sm.ndB (Sm.setP kv k v) b d:=Sm.ndB_perm hf'.once hf'.k16 (Sm.putP_perm k v hf.once) hb hd
  rw [h1]
  unfold Sm.ndB Sm.bel Sm.setP
  rw [jo,jl,if_neg (by rw [hn];decide),zu,jR,zl]
  congr 1
  refine yD λp hp=>?_
  by_cases h:p.1=k
  · rw [h,hn];rfl
  · rw [decide_eq_true h,Bool.and_true]
theorem qYP{kv:List Sm.PR}(hf:qCS kv){k v:xA}(hk:k.length=16)(hv:v.length≤1000000)(hl:kv.length≤100000){d n:Nat}(hd:d+n≤128):bsd (Sm.putP kv k v) k d n=bsd kv k d n:=by
 unfold bsd
 refine List.map_congr_left λi hi=>?_
 have:=List.mem_range.1 hi
 have hb:=Sm.bit_le k (d+i)
 refine qOk hf hk ((qCG _ _).trans hk) xB (Sm.belowB_no (i:=d+i) xB ?_) hv hl
 rw [qEz hk xB xB,if_pos rfl]
 omega
theorem qW9{kv:List Sm.PR}(hf:qCS kv){k v:xA}(hk:k.length=16)(hv:v.length≤1000000)(hl:kv.length≤100000){s:Nat}(hs:s≤128)(ho: ∀p∈cur kv k s,p.1=k):Sm.ndB (Sm.putP kv k v) k s=Sb.leafN k v:=by
 have hf':=hf.put hk hv hl
 have h1:Sm.ndB (Sm.putP kv k v) k s=Sm.ndB (Sm.setP kv k v) k s:=Sm.ndB_perm hf'.once hf'.k16 (Sm.putP_perm k v hf.once) hk hs
 have hself:Sm.belowB k k s=true:=Sm.belowB_yes λ_ _=>rfl
 rw [h1]
 unfold Sm.ndB Sm.bel Sm.setP
 rw [jo,jl,if_pos hself,zu,zl,List.filter_eq_nil_iff.2 (λp hp=>by
  intro q
  rw [jZ,decide_eq_true_eq] at q
  exact q.2 (ho p (List.mem_filter.2 ⟨hp,q.1⟩))),jr,Sm.nd_one]
theorem qT6{kv:List Sm.PR}(hf:qCS kv){k v q w:xA}(hk:k.length=16)(hv:v.length≤1000000)(hl:kv.length≤100000){s:Nat}(hs:s≤128)(hc:cur kv k s= [(q,w)])(hq:q≠k):Sm.ndB (Sm.putP kv k v) k s=Sm.ndB [(k,v),(q,w)] k s:=by
 have hf':=hf.put hk hv hl
 have h1:Sm.ndB (Sm.putP kv k v) k s=Sm.ndB (Sm.setP kv k v) k s:=Sm.ndB_perm hf'.once hf'.k16 (Sm.putP_perm k v hf.once) hk hs
 have hself:Sm.belowB k k s=true:=Sm.belowB_yes λ_ _=>rfl
 have hqb:Sm.belowB q k s=true:=(List.mem_filter.1 (show(q,w)∈cur kv k s by rw [hc];exact .head _)).2
 have e1:Sm.bel (Sm.setP kv k v) k s= [(q,w),(k,v)]:=by
  unfold Sm.bel Sm.setP
  rw [jo,jl,if_pos hself,zu,zl]
  have e2:kv.filter (λp=>Sm.belowB p.1 k s&&decide (p.1≠k))=(cur kv k s).filter (λp=>decide (p.1≠k)):=by
   show _=(kv.filter λp=>Sm.belowB p.1 k s).filter (λp=>decide (p.1≠k))
   rw [zl]
   refine yD λp _=>?_
   rw [Bool.and_comm]
  rw [e2,hc,jl,if_pos (decide_eq_true hq),zu];rfl
 have e3:Sm.bel [(k,v),(q,w)] k s= [(k,v),(q,w)]:=by unfold Sm.bel;rw [jl,if_pos hself,jl,if_pos hqb,zu]
 have hw:Sm.WF (128-s) (Sm.bel (Sm.setP kv k v) k s):=(Sm.bel_wf hf'.once hf'.k16 hk hs).perm ((Sm.putP_perm k v hf.once).filter _)
 rw [h1]
 unfold Sm.ndB
 rw [e3]
 exact Sm.nd_perm _ hw (show(Sm.bel (Sm.setP kv k v) k s).Perm [(k,v),(q,w)] by rw [e1];exact List.Perm.swap _ _ _)
structure Two (k q:xA) (a:Nat):Prop where
 k16:k.length=16
 q16:q.length=16
 lt:a<128
 same: ∀i,i<a→Sm.bit k i=Sm.bit q i
 differ:Sm.bit k a≠Sm.bit q a
theorem Two.ne{k q:xA}{a:Nat}(h:Two k q a):q≠k:=λe=>h.differ (by rw [e])
theorem Two.fine{k q v w:xA}{a:Nat}(h:Two k q a)(hv:v.length≤1000000)(hw:w.length≤1000000):qCS [(k,v),(q,w)]:=by
  refine⟨?_,λp hp=>?_,λp hp=>?_,by simp⟩
  · unfold Sm.Once
    rw [jt]
    exact⟨λp hp=>by rw [List.mem_singleton.1 hp];exact λe=>h.ne e.symm,by simp⟩
  · rcases List.mem_cons.1 hp with rfl|hp
    · exact h.k16
    · rw [List.mem_singleton.1 hp];exact h.q16
  · rcases List.mem_cons.1 hp with rfl|hp
    · exact hv
    · rw [List.mem_singleton.1 hp];exact hw
theorem Two.top{k q v w:xA}{a:Nat}(h:Two k q a)(hv:v.length≤1000000)(hw:w.length≤1000000):Sm.ndB [(k,v),(q,w)] k a=up k a (Sb.leafN k v) (Sb.leafN q w):=by
 rw [←qPt (h.fine hv hw) h.k16 h.lt]
 have hb:=Sm.bit_le k a
 have hb2:=Sm.bit_le q a
 have hd:=h.differ
 have h1:Sm.belowB k k (a+1)=true:=Sm.belowB_yes λ_ _=>rfl
 have h2:Sm.belowB q k (a+1)=false:=Sm.belowB_no (i:=a) xB λe=>h.differ e.symm
 have h3:Sm.belowB k (turn k a) (a+1)=false:=Sm.belowB_no (i:=a) xB (by rw [qEz h.k16 h.lt h.lt,if_pos rfl];omega)
 have h4:Sm.belowB q (turn k a) (a+1)=true:=Sm.belowB_yes λi hi=>by
  have hlt:=h.lt
  rw [qEz h.k16 h.lt xB]
  by_cases hia:i=a
  · rw [if_pos hia,hia];omega
  · rw [if_neg hia];exact(h.same i xB).symm
 unfold Sm.ndB
 have e1:Sm.bel [(k,v),(q,w)] k (a+1)= [(k,v)]:=by unfold Sm.bel;rw [jl,if_pos h1,jl,if_neg (by rw [h2];decide),zu]
 have e2:Sm.bel [(k,v),(q,w)] (turn k a) (a+1)= [(q,w)]:=by unfold Sm.bel;rw [jl,if_neg (by rw [h3];decide),jl,if_pos h4,zu]
 rw [e1,e2,Sm.nd_one,Sm.nd_one]
theorem Two.le{k q:xA}{a s:Nat}(h:Two k q a)(hs:Sm.belowB q k s=true):s≤a:=by
  rcases zo a s with h1|h1
  · have:=List.all_eq_true.1 hs a (List.mem_range.2 h1)
    exact absurd (of_decide_eq_true this).symm h.differ
  · exact h1
def qWF(bs:List xA)(th:Bool)(pk pv k v:xA)(d:Nat):xA:=if th=true∧pk≠k then Sm.ndB [(k,v),(pk,pv)] k (d+bs.length) else Sb.leafN k v
def qSo(bs:List xA)(th:Bool)(pk pv k v:xA)(d:Nat):xA:=clm k d bs (qWF bs th pk pv k v d) bs.length
theorem qMB{kv:List Sm.PR}(hf:qCS kv){k v:xA}(hk:k.length=16)(hv:v.length≤1000000)(hl:kv.length≤100000){d s:Nat}(h:qJy kv k d s):
    qSo (bsd kv k d (s-d)) (qAl kv k s) (qBk kv k s) (qBo kv k s) k v d=Sm.ndB (Sm.putP kv k v) k d:=by
  have h1:=h.le
  have h2:=h.ge
  have hone:=h.one
  have hf':=hf.put hk hv hl
  have h3:=qJp hf' hk (d:=d) (n:=s-d) xB (s-d) (jJ _)
  rw [show d+(s-d)=s by omega,show s-(s-d)=d by omega,qYP hf hk hv hl xB] at h3
  unfold qSo
  rw [qCv,←h3]
  congr 1
  unfold qWF
  rw [qCv,show d+(s-d)=s by omega]
  split
  · rename_i hc
    have hc1:(kd kv k s).length=1:=of_decide_eq_true hc.1
    exact(qT6 hf hk hv hl h1 (qJl hf.once hc1) hc.2).symm
  · rename_i hc
    refine(qW9 hf hk hv hl h1 λp hp=>?_).symm
    have hc1:(kd kv k s).length=1:=by
      rw [qIV hf.once]
      have:=List.length_pos_of_mem hp
      omega
    have ht:qAl kv k s=true:=decide_eq_true hc1
    rw [qJl hf.once hc1,jS] at hp
    rw [hp]
    exact Decidable.by_contra λq=>hc ⟨ht,q⟩
theorem xor_eq{x y:UInt8}(h:(x^^^y).toNat=0):x=y:=by
 have:x^^^y=0:=UInt8.toNat_inj.1 h
 exact UInt8.xor_eq_zero_iff.1 this
attribute [local irreducible] Sha.tagged Sb.join Sb.lvl Sb.lvls Sb.root
theorem qVC(F:Hp)(A:Option Addr)(n c:Nat):Ct prog 187 [.slice A n c,I 2] [F] (λx:Nat×Nat=> .func (.func 246) #[] #[Ptr x.1,Ptr x.2]) (λ_=>True) (λx=> [F,blk x.1 [.slice A n c] 50,blk x.2 [I 2] 3]):=by
 refine Ct.walk func187 O ntmps187 O (λw0 hw0=>?_)
 refine J.f λ_ j1=>J.q (qAb O O O) O λg2 _=>J.q (qAb O O O) O λg3 _=>J.b O<|J.c j1<|J.k λ_ j2=>J.f λ_ j3=>J.a6 2 b3_ O O O O O<|J.g ((qAS O O O).no xB) O<|J.c j3<|J.a3 ?_
 exact J.M j2<|J.f λ_ j4=>J.g (qBM O O) O<|J.b O<|J.c j4<|J.A<|J.E hw0 O (g2,g3) O trivial [0,1,2] O xC
theorem qSN(Fr:Hp)(gA gB:Nat)(A:Option Addr)(N n c:Nat)(hn:n=2*N)(hnc:n≤c)(hn2:n≤1073741824)(ha:qAG Fr ⟨gA,0,none⟩ [.slice A n c])(hb:qAG Fr ⟨gB,0,none⟩ [I 2]):
    qJt prog 246 [Ptr gA,Ptr gB] Fr (λi=> [.slice (A.map (·.add (2*i*1))) 2 2]) N:=by
  refine qJt.walk func246 O ntmps246 O (λ{X} M IY S l x0 w0 hw0 h0 hY=>?_)
  refine J.f λ_ j1=>J.b O<|J.c j1<|J.T<|J.b5 (X:=Nat×X) (λy=> [(0,.func (.yield l) #[] #[]),(1,Ptr gA),(2,Ptr gB),(4,I (2*y.1:Nat))]) (λy=> [Fr,M y.2]) (λy=>y.1≤N∧IY y.1 y.2) (λy=>N-y.1) (0,x0) (⟨jE _,h0⟩) ⟨O,O,O,O,trivial⟩ (λ_ h=>h) ?_
  rintro⟨i,x⟩ ⟨hi,hI⟩ I0 hI0
  dsimp only at hi hI⊢
  refine J.k λ_ j2=>J.f λ_ j3=>J.b O<|J.g (qAI O O qCQ (m:=Fr) xD (ha)) O<|J.g (qAO qAn O O) O<|J.g (qAS O O O) O<|J.c j3<|J.Z O (λh9=>?_) (λh9=>?_)
  ·
    refine J.M j2<|J.k λ_ j4=>J.T<|J.k λ_ j5=>J.b1 [Fr,M x] [] (.y 0 (.y 1 (.y 2 (.y 3 (.y 4 (.y 5 (.y 6 .nil))))))) Tryz.wide xF xD ?_
    refine J.j O (qAI O O b3_ (m:=Fr) xD (hb)) O O<|J.j O (qAI O O qCQ (m:=Fr) xD (ha)) O O<|J.L ?_
    refine J.j O (qC0 O O qAn z9_ O O xB) O O<|J.j O (qAO qAn O O) O O<|J.j O ((qF4 O O O).nat (2) xB) O O<|J.b7 ?_
    refine J.b0<|J.u (J.D j5 ?_)
    refine J.k λ_ j6=>J.f6 ?_
    refine J.c8 (qA2 O O) O O O ?_
    refine J.c8 (qAI O O qCQ (m:=Fr) xD (ha)) O O O ?_
    refine J.c8 (qA2 O O) O O O ?_
    refine J.c8 (qA2 O O) O O O ?_
    refine J.c8 (qA2 O O) O O O ?_
    refine J.c8 ((qAR O O O xB).nat (2*i+2) xB) O O O ?_
    refine J.c8 (qA2 O O) O O O ?_
    refine J.c8 (qA2 O O) O O O ?_
    refine J.c8 ((qAR O O O xB).nat (2*i+2) xB) O O O ?_
    refine J.c8 ((qOt O O qAn z9_ O O O xB).as (v':= .slice (A.map (·.add (2*i*1))) 2 2) (by rw [if_neg xB,show 2*i+2-2*i=2 by omega])) O O O ?_
    refine J.f7 (ex:= []) O O O O O O (hY i x xB hI) ?_
    rintro x' b hb1 hb2
    cases b
    ·
      have hyb:=hb2 O
      refine J.c8 (qAs O O) O O O ?_
      refine J.e2 ?_
      refine J.u (J.D j6 ?_)
      refine J.c3 ?_
      exact J.A<|J.a5<|J.V<|J.V<|J.a5<|J.a9 hw0 (λ_ _ h=>h) (qI7 O) (λw hs=>⟨x',⟨_,O⟩,.inr hyb,hs⟩)
    have hyb:=hb1 O
    refine J.c8 (qAs O O) O O O ?_
    refine J.e2 ?_
    refine J.u (J.D j6 ?_)
    refine J.a3 ?_
    refine J.b2<|J.a2<|J.u (J.D j4 ?_)
    exact J.H<|J.b O<|J.g (qAI O O b3_ (m:=Fr) xD (hb)) O<|J.g ((qAR O O O xB).nat (2*(i+1)) xB) O<|J.b O<|J.a4<|J.u<|J.a8 (i+1,x') (λy (hy:_∧N-y.1<N-i)=>hI0 y hy.1 hy.2) ⟨⟨by dsimp only;omega,hyb⟩,by dsimp only;omega⟩ ⟨O,O,O,O,trivial⟩ (λ_ h=>h)
  refine J.b3<|J.a0<|J.a0<|J.b4 ?_
  exact J.d3 hw0 (λ_ _ h=>h) (qI7 O) (λw hs=>⟨x,⟨_,O⟩,.inl (by rw [show N=i by omega];exact hI),hs⟩)
theorem qCP(F:Hp)(d:Int):Cz prog 44 [I d] F (I (cnt d)):=by
 refine Ct.walk func44 O ntmps44 O (λw0 hw0=>?_)
 refine J.f λ_ j1=>J.b O<|J.c j1<|J.k λ_ j2=>J.f λ_ j3=>J.b O<|J.g (qAS O O O) O<|J.b O<|J.b9 (d:=5) O (λh5=>?_) (λh5=>?_)
 ·
  refine J.p 3 O<|J.c j3<|J.c3 ?_
  exact J.f λ_ j4=>J.b O<|J.c j4<|J.A<|J.V<|J.E hw0 O () (by rw [qGX.2 xB];rfl) trivial [0] O xC
 refine J.b O<|J.G (qA5 O O O) O<|J.b O<|J.c j3<|J.Z O (λh8=>?_) (λh8=>?_)
 ·
  exact J.f λ_ j5=>J.b O<|J.c j5<|J.A<|J.V<|J.E hw0 O () (by rw [qGX.2 xB];rfl) trivial [0] O xC
 exact J.M j2<|J.f λ_ j6=>J.b O<|J.g ((qJG O O (by show some (I d)=_;rw [show((d.toNat:Nat):Int)=d by omega]) ⟨xB,by have:=Int.pow_pos (n:=2) (m:=d.toNat) xC;omega,by rw [Int.one_mul];have h1:=jn (n:=2) xC (show d.toNat≤4 by omega);have h2:((2^d.toNat:Nat):Int)≤((2^4:Nat):Int):=Int.ofNat_le.2 h1;simp only [Int.natCast_pow] at h2;exact Int.le_trans h2 xC⟩).as (v':=I (cnt d)) (congrArg I (by unfold cnt;rw [if_neg xB];simp))) O<|J.b O<|J.c j6<|J.A<|J.E hw0 O () O trivial [0] O xC
theorem qVI(F:Hp)(hK:qAG F ⟨3,0,none⟩ (Sha.K.map W32))(d:Int)(l:List xA)(A:Option Addr)(c:Nat)(hsl:Sl F 1 A l.length c (qAH l))(hsm: ∀s∈l,s.length≤1048576):
    Cz prog 105 [.slice A l.length c,I d] F (.tuple #[Str (qCW l d),I (qLU l d)]):=by
  refine Ct.walk func105 O ntmps105 O (λw0 hw0=>?_)
  refine J.f λ_ j1=>J.p 2 O<|J.c j1<|J.k λ_ j2=>J.f λ_ j3=>J.b O<|J.q (qAZ O O (λF' hF=>qCP F' d)) O λg10 _=>J.b O<|J.c j3<|J.T<|J.f λ_ j4=>J.b O<|J.g (qAe O O O) O<|J.b O<|J.c j4<|J.Z O (λh11=>?_) (λh11=>?_)
  ·
    exact J.f λ_ j5=>J.p 2 O<|J.c j5<|J.A<|J.a5<|J.V<|J.a9 hw0 (λ_ _ h=>h) (qBw O O O) (qAg () (by unfold qCW qLU;rw [if_pos (show cnt d=0 by omega)];rfl) trivial [0] O xC)
  refine J.f λ_ j6=>J.p 2 O<|J.g (qAO qAn O O) O<|J.g (qAV O O O) O<|J.b O<|J.c6 [0,1] [F,(λ_=>none)] O xC<|J.c j6<|J.Z O (λh14=>?_) (λh14=>?_)
  ·
    exact J.f λ_ j7=>J.p 2 O<|J.c j7<|J.A<|J.a5<|J.V<|J.a9 hw0 (λ_ _ h=>h) (qBw O O O) (qAg () (by unfold qCW qLU;rw [if_neg (show¬cnt d=0 by omega),if_pos (show l.length≠cnt d by omega)];rfl) trivial [0] O xC)
  refine J.b2<|J.a2<|J.u (J.D j2 ?_)
  refine J.k λ_ j8=>J.T ?_
  have hd0:cnt d≠0:=xB
  have hld:l.length=2^d.toNat:=by rw [←qYI hd0];omega
  have hd4: ¬(d<0∨4<d):=λe=>hd0 (qGX.2 e)
  refine J.i0 (X:=Nat×Option Addr×Nat×Hp) (λx=> [(0,.slice x.2.1 (Sb.lvls l x.1).length x.2.2.1)]) (λx=> [F,x.2.2.2]) (λx=>x.1≤d.toNat∧ ∃m,(m=F∨m=x.2.2.2)∧Sl m 1 x.2.1 (Sb.lvls l x.1).length x.2.2.1 (qAH (Sb.lvls l x.1))) (λx=>d.toNat-x.1) (0,A,c,λ_=>none) (⟨jE _,F,.inl O,by rw [Sb.lvls_zero];exact hsl⟩) ⟨by rw [Sb.lvls_zero];rfl,trivial⟩ (λ_ h=>h) ?_
  rintro⟨k,A',c',mm⟩ wL ⟨hk,m,hm,hsl'⟩ hxL I0 hI0
  dsimp only at hk hm hsl'⊢
  obtain ⟨L,hL⟩: ∃L,L=Sb.lvls l k:=⟨_,rfl⟩
  have hlen:=Sb.lvls_length hld k hk
  have hLs:=Sb.lvls_small hsm k
  have hp16:2^(d.toNat-k)≤16:=jg (jn xC (show d.toNat-k≤4 by omega)) xC
  have hp1:=zA (d.toNat-k)
  refine J.k λ_ j9=>J.f λ_ j10=>J.b O<|J.g (qAO qAn O O) O<|J.g (qA5 O O O) O<|J.c j10<|J.Z O (λh21=>?_) (λh21=>?_)
  ·
    refine J.M j9<|J.T<|J.f λ_ j11=>J.q (qAJ O zeroValue50 O) O λg7 _=>J.c j11<|J.k λ_ j12=>J.k λ_ j13=>?_
    rw [←hL]
    refine J.H<|J.b O<|J.q (qBb O O (λF' _=>qVC F' A' L.length c')) O ?_
    rintro⟨gA,gB⟩ _
    refine J.c j13<|J.T<|J.c6 [2,5,0,1,3,4] [blk g7 [.slice none 0 0] 50,(λ_=>none),F,mm,blk gA [.slice A' L.length c'] 50,blk gB [I 2] 3] O xC ?_
    rw [←hL] at hlen hsl' hLs h21
    obtain ⟨q,hq⟩: ∃q,d.toNat-k=q+1:=Nat.exists_eq_succ_of_ne_zero (λe=>by rw [e,Nat.pow_zero] at hlen;omega)
    have hev:L.length=2*(L.length/2):=by rw [hlen,hq,jw];omega
    have hLn:L.length≤1073741824:=xB
    have hlc:=hsl'.2.1
    refine J.g0 (λx:Option Addr×Nat×Nat×Hp=> [blk g7 [.slice x.1 x.2.1 x.2.2.1] 50,x.2.2.2]) [F,mm,blk gA [.slice A' L.length c'] 50,blk gB [I 2] 3] (λi x=>x.2.1=i∧Row x.2.2.2 9 1 x.1 i x.2.2.1 (qAH ((Sb.lvl L).take i))) (λ_ _=>False) (none,0,0,λ_=>none) O ent (λFr hF=>qSN Fr gA gB A' (L.length/2) L.length c' hev hlc hLn (qAG.blk0.mono (hF (blk gA [.slice A' L.length c'] 50) xD)) (qAG.blk0.mono (hF (blk gB [I 2] 3) xD))) (λ_ _=>rfl) O (⟨O,by rw [zm];exact qBZ.nil⟩) ?_ ?_ ?_
    ·
      intro i x l wa wb hi hI K14 Post14 j14 hN14 hR14 hE14
      obtain ⟨Ax,nx,cx,mx⟩:=x
      obtain ⟨hnx,hr⟩:=hI
      dsimp only at hnx hr
      subst hnx
      have hc:=hsl'.cut (lo:=2*nx) (hi:=2*nx+2) (mx:=2*nx+2) xB xB xB
      rw [if_neg xB,show 2*nx+2-2*nx=2 by omega,qEL,qH9] at hc
      have hcl:((L.take (2*nx+2)).drop (2*nx)).length=2:=by rw [jI,jF];omega
      have hc0:((L.take (2*nx+2)).drop (2*nx)).getD 0 []=L.getD (2*nx) []:=by simp [jB,jq,zI]
      have hc1:((L.take (2*nx+2)).drop (2*nx)).getD 1 []=L.getD (2*nx+1) []:=by simp [jB,jq,zI]
      refine J.d7 ?_
      refine J.b O<|J.d8 ?_
      refine J.u (j14 _ _ ?_)
      refine J.f5 ?_
      refine J.h5 [blk g7 [.slice Ax nx cx] 50,F,mm,blk gA [.slice A' L.length c'] 50,blk gB [I 2] 3] [10] (.y 0 (.y 1 (.y 2 (.y 3 (.y 4 (.y 5 (.y 6 (.e 7 (.e 8 (.e 9 (.e 10 .nil))))))))))) Tryz.wide xF xD ?_
      refine J.j O (qAD 0 O O O qCQ O) O O<|J.L ?_
      refine J.j O (qAF (i:=0) O O O qAn z9_ hc xB) O O<|J.j O (qAI O O b9_ (m:=m) (by rcases hm with rfl|rfl<;>simp) (hc.elem (qAc (qAi [] (show 0<((L.take (2*nx+2)).drop (2*nx)).length by rw [hcl];omega))|>.trans (by rw [hc0])))) O O<|J.L ?_
      refine J.j O (qAF (i:=1) O O O qAn z9_ hc xB) O O<|J.j O (qAI O O b9_ (m:=m) (by rcases hm with rfl|rfl<;>simp) (hc.elem (qAc (qAi [] (show 1<((L.take (2*nx+2)).drop (2*nx)).length by rw [hcl];omega))|>.trans (by rw [hc1])))) O O<|J.a1 O (qAZ O O (λF' hF=>qGK F' (hK.mo hF) (L.getD (2*nx) []) (L.getD (2*nx+1) []) (Sb.getD_small hLs _) (Sb.getD_small hLs _))) O xD λg32 _=>J.a1 O (qAE (l:= [.tmp 32]) (xs:= [[Str (Sb.join (L.getD (2*nx) []) (L.getD (2*nx+1) []))]]) O O O O qAn el9 O xC xC xD) O xD λg33 _=>J.a1 O (qAX (i:=1) (m2:=blk g33 [Str (Sb.join (L.getD (2*nx) []) (L.getD (2*nx+1) []))] 9) O O O qAn qAn el9 O hr xD (slS [Sb.join (L.getD (2*nx) []) (L.getD (2*nx+1) [])] O) (qC4 _) xB xB) O xD ?_
      rintro⟨A34,c34,m34⟩ h34
      try dsimp only at h34
      refine J.c1 O (qAW (i:=0) O O O O O qB9 O xD) O O O λ_ _=>J.c2 [0,1,2,3,4,5] [blk g7 [.slice A34 (nx+1) c34] 50,m34,F,mm,blk gA [.slice A' L.length c'] 50,blk gB [I 2] 3] O xC<|J.h6 ?_
      refine J.a2 ?_
      exact hN14 _ (A34,nx+1,c34,m34) ⟨O,by rw [Sb.lvl_take xB];rw [show∀a b,qAH (a++b)=qAH a++qAH b from λa b=>by simp [qAH]];exact h34⟩
    ·
      intro w14 x hx14 hI
      obtain ⟨Ax,nx,cx,mx⟩:=x
      obtain ⟨hnx,hr⟩:=hI
      dsimp only at hnx hr
      subst hnx
      have hlen1:(Sb.lvls l (k+1)).length=L.length/2:=by rw [Sb.lvls_succ,Sb.lvl_length,hL]
      have hfin:Sl mx 1 Ax (Sb.lvls l (k+1)).length cx (qAH (Sb.lvls l (k+1))):=by
        rw [hlen1,Sb.lvls_succ,←hL]
        rw [jV (by rw [Sb.lvl_length];exact jJ _)] at hr
        exact hr.sl
      refine J.a2<|J.u (J.D j12 ?_)
      refine J.H<|J.a6 0 qCQ O O O O O<|J.c2 [2,1] [F,mx] O xC<|J.b O<|J.a4<|J.a2<|J.u ?_
      rw [show Ax=Ax from rfl]
      exact J.a8 (k+1,Ax,cx,mx) (λx (hx:_∧d.toNat-x.1<d.toNat-k)=>hI0 x _ hx.1 hx.2 hx14) ⟨⟨by dsimp only;omega,mx,.inr O,hfin⟩,by dsimp only;omega⟩ ⟨by dsimp only;rw [hlen1];rfl,trivial⟩ (λ_ h=>h)
    intro w14 x c hx14 hS
    exact hS.elim
  refine J.b3<|J.a0<|J.a0<|J.b4 ?_
  refine J.u (J.D j8 ?_)
  refine J.k λ_ j15=>?_
  have hkd:k=d.toNat:=by
    by_cases e:k=d.toNat
    · exact e
    · have:=jn (n:=2) xC (show 1≤d.toNat-k by omega)
      omega
  exact J.H<|J.b O<|J.g (qAF (i:=0) O O O qAn z9_ hsl' xB) O<|J.g (qAI O O b9_ (m:=m) (by rcases hm with rfl|rfl<;>simp) (v:=Str ((Sb.lvls l k).getD 0 [])) (hsl'.elem (qAc (qAi [] xB)))) O<|J.p 2 O<|J.c j15<|J.A<|J.e8 hw0 hxL (λ_ _ h=>h) (qBw O O O) (qAg () (by unfold qCW qLU;rw [if_neg hd0,if_neg (show¬l.length≠cnt d by omega),if_pos rfl,Sb.root,←hkd]) trivial [0] O xC)
end Go.Proofs.YtmemgokiolfdoaaGreatDoor