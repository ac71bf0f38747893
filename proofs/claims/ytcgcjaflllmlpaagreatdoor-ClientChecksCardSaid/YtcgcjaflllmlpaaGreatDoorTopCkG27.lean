/- A part of the proof. -/
import Derived.Test.YtcgcjaflllmlpaaGreatDoorTopCkG24
import Derived.Test.YtcgcjaflllmlpaaGreatDoorTopCkG26
import Derived.Test.YtcgcjaflllmlpaaGreatDoorTopCkG21
set_option maxRecDepth 100000
set_option maxHeartbeats 1000000
set_option linter.unusedSimpArgs false
set_option linter.unusedVariables false
namespace Go.Proofs.YtcgcjaflllmlpaaGreatDoor
open Go Go.Fw Go.Proofs.Tryz
theorem qVB{k:xA}(hk:k.length=16){i:Nat}(hi:i≤16):Sm.kv k/2^(128-i)<2^i:=by
 have h:=Sm.kv_lt k
 rw [hk] at h
 rw [yA (zA _),←Nat.pow_add,show i+(128-i)=128 by omega]
 exact yQ h xC
theorem qXM{i:Nat}(hi:i≤16):2^i≤65536:=jZ (jh xC hi) xC
def qFm(k:xA):Nat→Nat
 |0=>0
 |i+1=>qFm k i*2^1|||Sm.bit k i
theorem qJh(k:xA): ∀i,qFm k i<2^i
 |0=>Nat.one_pos
 |i+1=>by
  have h1:=qJh k i
  have h2:=Sm.bit_le k i
  have h3:2^(i+1)=2^i*2:=jt 2 i
  have e:=Nat.two_pow_add_eq_or_of_lt (i:=1) (b:=Sm.bit k i) xB (qFm k i)
  rw [qFm,zu,←e]
  omega
def kF(n d:Nat):xA:= [UInt8.ofNat (n*2^(16-d)/2^8),UInt8.ofNat (n*2^(16-d)),0,0,0,0,0,0,0,0,0,0,0,0,0,0]
theorem qIJ(n d:Nat):(kF n d).length=16:=rfl
theorem qVe{n d:Nat}(hd:d≤16)(hn:n<2^d):n*2^(16-d)<65536:=by
 have h:=Nat.mul_lt_mul_of_pos_right hn (zA (16-d))
 rw [←Nat.pow_add,show d+(16-d)=16 by omega] at h
 exact h
theorem kF_kv{n d:Nat}(hd:d≤16)(hn:n<2^d):Sm.kv (kF n d)=n*2^(128-d):=by
 have ht:=qVe hd hn
 obtain ⟨t,hte⟩: ∃t,t=n*2^(16-d):=⟨_,rfl⟩
 have e:n*2^(128-d)=t*2^112:=by rw [hte,Nat.mul_assoc,←Nat.pow_add,show 16-d+112=128-d by omega]
 have h1:(UInt8.ofNat (t/2^8)).toNat=t/2^8:=UInt8.toNat_ofNat_of_lt' (by show _<256;omega)
 have h2:(UInt8.ofNat t).toNat=t%256:=xD
 rw [e]
 unfold kF
 rw [←hte]
 simp only [Sm.kv,jD,jE,h1,h2]
 show t/2^8*256^15+(t%256*256^14+0)=_
 rw [show(256:Nat)^15=256*2^112 by decide,show(256:Nat)^14=2^112 by decide,←Nat.mul_assoc,zb,←zl]
 congr 1
 omega
theorem qRk{n d:Nat}(hd:d≤16)(hn:n<2^d):Sm.kv (kF n d)/2^(128-d)=n:=by rw [kF_kv hd hn,Nat.mul_div_cancel _ (zA _)]
theorem qYW(F:Hp)(k:xA)(hk:k.length≤1000000)(d:Nat)(hd:d≤16):Cz prog 139 [Str (k),I (d:Nat)] F (I (qFm k d:Nat)):=by
 refine Ct.walk func139 O ntmps139 O (λw0 hw0=>?_)
 refine J.g λ_ j1=>J.b O<|J.c j1<|J.q λ_ j2=>J.g λ_ j3=>J.b O<|J.f (qAS O O O) O<|J.b O<|J.b9 (d:=9) O (λh9=>?_) (λh9=>?_)
 ·
  refine J.k 3 O<|J.c j3<|J.c3 ?_
  exact J.g λ_ j4=>J.b O<|J.c j4<|J.A<|J.W<|J.E hw0 O () (by exfalso;omega) trivial [0] O xC
 refine J.b O<|J.D (qAz O O O) O<|J.b O<|J.c j3<|J.a0 O (λh12=>?_) (λh12=>?_)
 ·
  exact J.g λ_ j5=>J.b O<|J.c j5<|J.A<|J.W<|J.E hw0 O () (by exfalso;omega) trivial [0] O xC
 refine J.T j2<|J.g λ_ j6=>J.b O<|J.c j6<|J.q λ_ j7=>J.g λ_ j8=>J.k 2 O<|J.c j8<|J.V<|J.b6 (X:=Nat) (λζ=> [(0,Str (k)),(5,I (qFm k ζ:Nat)),(13,I (d:Nat)),(14,I (ζ:Nat))]) (λζ=> [F]) (λζ=>ζ≤d) (λζ=>d-ζ) 0 (jG _) ⟨O,O,O,O,trivial⟩ (λ_ h=>h) ?_
 rintro i hi I0 hI0
 have hlt:=qJh k i
 have hp16:=qXM (i:=i) xB
 have hbl:=Sm.bit_le k i
 refine J.g λ_ j9=>J.f (qAS O O O) O<|J.c j9<|J.q λ_ j10=>J.a0 O (λh15=>?_) (λh15=>?_)
 ·
  refine J.T j10<|J.q λ_ j11=>J.V<|J.g λ_ j12=>J.k 2 O<|J.c j12<|J.H<|J.b O<|J.f (qLx (a:=qFm k i) (m:=1) O O O xB) O<|J.k 2 O<|J.p (qAa O O (λF' hF=>qLD F' k (by first|omega|exact hsm _) i xB)) O λg21 _=>J.f (qVl (a:=(qFm k i)*2^1) (b:=Sm.bit k i) O O O xB) O<|J.b O<|J.a4<|J.a3<|J.u (J.G j11 ?_)
  exact J.H<|J.f ((qAQ O O O xB).nat (i+1) xB) O<|J.b O<|J.a4<|J.u<|J.a5 (i+1) (λη (hη:_∧d-η<d-i)=>hI0 η hη.1 hη.2) ⟨xB,by first|omega|(dsimp only;omega)⟩ ⟨O,O,O,O,trivial⟩ (λ_ h=>h)
 refine J.b3<|J.a1<|J.a1<|J.b4 ?_
 refine J.u (J.G j7 ?_)
 exact J.g λ_ j13=>J.k 2 O<|J.c j13<|J.A<|J.E hw0 O () (by rw [show i=d by omega]) trivial [0] O xC
theorem qKu(F:Hp)(n d:Nat)(hd:d≤16)(hn:n<2^d):Cz prog 141 [I (n:Nat),I (d:Nat)] F (Str (kF n d)):=by
 have hp16:=qXM hd
 have htl:=qVe hd hn
 have hpe:2^(16-d)≤65536:=qXM (Nat.sub_le _ _)
 refine Ct.walk func141 O ntmps141 O (λw0 hw0=>?_)
 refine J.g λ_ j1=>J.b O<|J.c j1<|J.g λ_ j2=>J.p (qCP (n':=16) O O qBt el5 xB xB) O ?_
 rintro g7 _
 change J _ ((7,.slice (some ⟨g7,0,none⟩) 16 16)::_) _ [F,blk g7 (List.replicate 16 [.int .u8 0]).flatten 5] _
 refine J.b O<|J.c j2<|J.q λ_ j3=>J.g λ_ j4=>J.b O<|J.f ((qBL O O O).yes xB) O<|J.k 2 O<|J.D ((qCY O O O).yes xB) O<|J.k 3 O<|J.D ((qBL O O O).yes xB) O<|J.k 4 O<|J.D ((qLx (a:=1) (m:=d) O O O ⟨xB,xB⟩)) O<|J.D ((qAS O O O).yes xB) O<|J.b O<|J.c j4<|J.c3 ?_
 refine J.g λ_ j5=>J.k 2 O<|J.f ((qA3 O O O xB).nat (16-d) xB) O<|J.f (qLx O O O xL) O<|J.b O<|J.c j5<|J.H<|J.k 3 O<|J.f (qQ4 O O O xL) O<|J.f (qAw O O u3_ u5_) O<|J.b O<|J.f (qAw O O u3_ u5_) O<|J.f (qAj (i:=0) (j:=0+0*1) O O O qBt z5_ xL xB) O<|J.a6 (qBK (i:=1) (k:=0) (off:=0) (b:= [B8 (UInt8.ofNat ((n*2^(16-d))/2^8))]) O O O O (qAl (q:=True) (sz:=1) (xs:=qAg (List.replicate 16 0)) O (by intro x hx;obtain ⟨_,_,rfl⟩:=List.mem_map.1 hx;rfl)) (vs:= [B8 (UInt8.ofNat ((n*2^(16-d))/2^8))]) O z5_ O xB (qBp (qAi 0 xL)) O (jK _)) O O ?_
 rintro m4_1 hm4_1
 rw [qFl] at hm4_1
 refine J.f (qAj (i:=1) (j:=0+1*1) O O O qBt z5_ xL xB) O<|J.a6 (qBK (i:=1) (k:=1) (off:=0) (b:= [B8 (UInt8.ofNat (n*2^(16-d)))]) O O O O hm4_1 (vs:= [B8 (UInt8.ofNat (n*2^(16-d)))]) O z5_ O xB (qBp (qAi 0 xL)) O (jK _)) O O ?_
 rintro m4_2 hm4_2
 rw [qFl] at hm4_2
 exact J.c j3<|J.g λ_ j6=>J.b O<|J.f (qBn O O qBt u5_ u9_ (m:=m4_2) xD hm4_2.sl) O<|J.b O<|J.c j6<|J.A<|J.E hw0 O () (by unfold kF;rfl) trivial [0] O xC
def belR(m:List Pr)(k:xA)(d:Nat):List Pr:=m.filter λp=>Sm.belowB p.k k d
theorem qVA(m:List Pr)(k:xA)(d:Nat):(belR m k d).map toP=Sm.bel (m.map toP) k d:=by
 unfold belR Sm.bel
 rw [List.filter_map];rfl
theorem qD8.ndB{m:List Pr}{kv:List Sm.PR}(h:qD8 m kv){k:xA}(hk:k.length=16){d:Nat}(hd:d≤128):Sm.ndB kv k d=Sm.nd (128-d) ((belR m k d).map toP):=by
 rw [qVA];exact(Sm.ndB_perm h.once h.k16 h.perm hk hd).symm
theorem qRK(l:List Sm.PR)(b:xA)(d:Nat):(Sm.ndB l b d).length≤17:=Sm.nd_small _ _
theorem qO6{kv:List Sm.PR}(hf:qCE kv){k:xA}(hk:k.length=16){d:Nat}(hd:d≤15){n:Nat}(hn:n=Sm.kv k/2^(128-d)):
    Sb.join (Sm.ndB kv (kF (2*n) (d+1)) (d+1)) (Sm.ndB kv (kF (2*n+1) (d+1)) (d+1))=Sm.ndB kv k d:=by
  have hlt:=qVB hk (i:=d) xB
  have h2:2^(d+1)=2^d*2:=jt 2 d
  have f0:=qRk (n:=2*n) (d:=d+1) xB xB
  have f1:=qRk (n:=2*n+1) (d:=d+1) xB xB
  rw [show 128-(d+1)=127-d by omega] at f0 f1
  exact Sm.ndB_join hf.once hf.k16 hk (qIJ _ _) (qIJ _ _) xB (by rw [f0,hn]) (by rw [f1,hn])
attribute [local irreducible] Sha.tagged Sb.join Sb.lvl Sb.lvls Sb.root
theorem qU0(F:Hp)(A:Option Addr)(n c:Nat):Ct prog 154 [.slice A n c,I 2] [F] (λx:Nat×Nat=> .func (.func 193) #[] #[Ptr x.1,Ptr x.2]) (λ_=>True) (λx=> [F,blk x.1 [.slice A n c] 32,blk x.2 [I 2] 3]):=by
 refine Ct.walk func154 O ntmps154 O (λw0 hw0=>?_)
 refine J.g λ_ j1=>J.p (qAZ O O O) O λg2 _=>J.p (qAZ O O O) O λg3 _=>J.b O<|J.c j1<|J.q λ_ j2=>J.g λ_ j3=>J.a7 2 b3_ O O O O O<|J.f ((qAS O O O).no xB) O<|J.c j3<|J.a2 ?_
 exact J.T j2<|J.g λ_ j4=>J.f (qBk O O) O<|J.b O<|J.c j4<|J.A<|J.E hw0 O (g2,g3) O trivial [0,1,2] O xC
theorem qSK(Fr:Hp)(gA gB:Nat)(A:Option Addr)(N n c:Nat)(hn:n=2*N)(hnc:n≤c)(hn2:n≤1073741824)(ha:qAM Fr ⟨gA,0,none⟩ [.slice A n c])(hb:qAM Fr ⟨gB,0,none⟩ [I 2]):
    qJi prog 193 [Ptr gA,Ptr gB] Fr (λi=> [.slice (A.map (·.add (2*i*1))) 2 2]) N:=by
  refine qJi.walk func193 O ntmps193 O (λ{X} M IY S l x0 w0 hw0 h0 hY=>?_)
  refine J.g λ_ j1=>J.b O<|J.c j1<|J.V<|J.b6 (X:=Nat×X) (λy=> [(0,.func (.yield l) #[] #[]),(1,Ptr gA),(2,Ptr gB),(4,I (2*y.1:Nat))]) (λy=> [Fr,M y.2]) (λy=>y.1≤N∧IY y.1 y.2) (λy=>N-y.1) (0,x0) (⟨jG _,h0⟩) ⟨O,O,O,O,trivial⟩ (λ_ h=>h) ?_
  rintro⟨i,x⟩ ⟨hi,hI⟩ I0 hI0
  dsimp only at hi hI⊢
  refine J.q λ_ j2=>J.g λ_ j3=>J.b O<|J.f (qAI O O qCC (m:=Fr) xD (ha)) O<|J.f (qAR qAk O O) O<|J.f (qAS O O O) O<|J.c j3<|J.a0 O (λh9=>?_) (λh9=>?_)
  ·
    refine J.T j2<|J.q λ_ j4=>J.V<|J.q λ_ j5=>J.b1 [Fr,M x] [] (.y 0 (.y 1 (.y 2 (.y 3 (.y 4 (.y 5 (.y 6 .nil))))))) Tryz.wide xF xD ?_
    refine J.j O (qAI O O b3_ (m:=Fr) xD (hb)) O O<|J.j O (qAI O O qCC (m:=Fr) xD (ha)) O O<|J.L ?_
    refine J.j O (qDT O O qAk z9_ O O xB) O O<|J.j O (qAR qAk O O) O O<|J.j O ((qFr O O O).nat (2) xB) O O<|J.b7 ?_
    refine J.a9<|J.u (J.G j5 ?_)
    refine J.q λ_ j6=>J.f6 ?_
    refine J.c9 (qA2 O O) O O O ?_
    refine J.c9 (qAI O O qCC (m:=Fr) xD (ha)) O O O ?_
    refine J.c9 (qA2 O O) O O O ?_
    refine J.c9 (qA2 O O) O O O ?_
    refine J.c9 (qA2 O O) O O O ?_
    refine J.c9 ((qAQ O O O xB).nat (2*i+2) xB) O O O ?_
    refine J.c9 (qA2 O O) O O O ?_
    refine J.c9 (qA2 O O) O O O ?_
    refine J.c9 ((qAQ O O O xB).nat (2*i+2) xB) O O O ?_
    refine J.c9 ((qOy O O qAk z9_ O O O xB).as (v':= .slice (A.map (·.add (2*i*1))) 2 2) (by rw [if_neg xB,show 2*i+2-2*i=2 by omega])) O O O ?_
    refine J.f7 (ex:= []) O O O O O O (hY i x xB hI) ?_
    rintro x' b hb1 hb2
    cases b
    ·
      have hyb:=hb2 O
      refine J.c9 (qAt O O) O O O ?_
      refine J.e3 ?_
      refine J.u (J.G j6 ?_)
      refine J.c3 ?_
      exact J.A<|J.a8<|J.W<|J.W<|J.a8<|J.b0 hw0 (λ_ _ h=>h) (qJn O) (λw hs=>⟨x',⟨_,O⟩,.inr hyb,hs⟩)
    have hyb:=hb1 O
    refine J.c9 (qAt O O) O O O ?_
    refine J.e3 ?_
    refine J.u (J.G j6 ?_)
    refine J.a2 ?_
    refine J.b5<|J.a3<|J.u (J.G j4 ?_)
    exact J.H<|J.b O<|J.f (qAI O O b3_ (m:=Fr) xD (hb)) O<|J.f ((qAQ O O O xB).nat (2*(i+1)) xB) O<|J.b O<|J.a4<|J.u<|J.a5 (i+1,x') (λy (hy:_∧N-y.1<N-i)=>hI0 y hy.1 hy.2) ⟨⟨by dsimp only;omega,hyb⟩,by dsimp only;omega⟩ ⟨O,O,O,O,trivial⟩ (λ_ h=>h)
  refine J.b3<|J.a1<|J.a1<|J.b4 ?_
  exact J.d8 hw0 (λ_ _ h=>h) (qJn O) (λw hs=>⟨x,⟨_,O⟩,.inl (by rw [show N=i by omega];exact hI),hs⟩)
theorem qCT(F:Hp)(d:Int):Cz prog 51 [I d] F (I (cnt d)):=by
 refine Ct.walk func51 O ntmps51 O (λw0 hw0=>?_)
 refine J.g λ_ j1=>J.b O<|J.c j1<|J.q λ_ j2=>J.g λ_ j3=>J.b O<|J.f (qAS O O O) O<|J.b O<|J.b9 (d:=5) O (λh5=>?_) (λh5=>?_)
 ·
  refine J.k 3 O<|J.c j3<|J.c3 ?_
  exact J.g λ_ j4=>J.b O<|J.c j4<|J.A<|J.W<|J.E hw0 O () (by rw [qGO.2 xB];rfl) trivial [0] O xC
 refine J.b O<|J.D (qAz O O O) O<|J.b O<|J.c j3<|J.a0 O (λh8=>?_) (λh8=>?_)
 ·
  exact J.g λ_ j5=>J.b O<|J.c j5<|J.A<|J.W<|J.E hw0 O () (by rw [qGO.2 xB];rfl) trivial [0] O xC
 exact J.T j2<|J.g λ_ j6=>J.b O<|J.f ((qI8 O O (by show some (I d)=_;rw [show((d.toNat:Nat):Int)=d by omega]) ⟨xB,by have:=Int.pow_pos (n:=2) (m:=d.toNat) xC;omega,by rw [Int.one_mul];have h1:=jh (n:=2) xC (show d.toNat≤4 by omega);have h2:((2^d.toNat:Nat):Int)≤((2^4:Nat):Int):=Int.ofNat_le.2 h1;simp only [Int.natCast_pow] at h2;exact Int.le_trans h2 xC⟩).as (v':=I (cnt d)) (congrArg I (by unfold cnt;rw [if_neg xB];simp))) O<|J.b O<|J.c j6<|J.A<|J.E hw0 O () O trivial [0] O xC
theorem qU7(F:Hp)(hK:KF F)(d:Int)(l:List xA)(A:Option Addr)(c:Nat)(hsl:Sl F 1 A l.length c (qAG l))(hsm: ∀s∈l,s.length≤1048576):
    Cz prog 96 [.slice A l.length c,I d] F (.tuple #[Str (qB0 l d),I (qLA l d)]):=by
  refine Ct.walk func96 O ntmps96 O (λw0 hw0=>?_)
  refine J.g λ_ j1=>J.k 2 O<|J.c j1<|J.q λ_ j2=>J.g λ_ j3=>J.b O<|J.p (qAa O O (λF' hF=>qCT F' d)) O λg10 _=>J.b O<|J.c j3<|J.V<|J.g λ_ j4=>J.b O<|J.f (qAX O O O) O<|J.b O<|J.c j4<|J.a0 O (λh11=>?_) (λh11=>?_)
  ·
    exact J.g λ_ j5=>J.k 2 O<|J.c j5<|J.A<|J.a8<|J.W<|J.b0 hw0 (λ_ _ h=>h) (qCK O O O) (qAn () (by unfold qB0 qLA;rw [if_pos (show cnt d=0 by omega)];rfl) trivial [0] O xC)
  refine J.g λ_ j6=>J.k 2 O<|J.f (qAR qAk O O) O<|J.f (qAe O O O) O<|J.b O<|J.d0 [0,1] [F,(λ_=>none)] O xC<|J.c j6<|J.a0 O (λh14=>?_) (λh14=>?_)
  ·
    exact J.g λ_ j7=>J.k 2 O<|J.c j7<|J.A<|J.a8<|J.W<|J.b0 hw0 (λ_ _ h=>h) (qCK O O O) (qAn () (by unfold qB0 qLA;rw [if_neg (show¬cnt d=0 by omega),if_pos (show l.length≠cnt d by omega)];rfl) trivial [0] O xC)
  refine J.b5<|J.a3<|J.u (J.G j2 ?_)
  refine J.q λ_ j8=>J.V ?_
  have hd0:cnt d≠0:=xB
  have hld:l.length=2^d.toNat:=by rw [←qYO hd0];omega
  have hd4: ¬(d<0∨4<d):=λe=>hd0 (qGO.2 e)
  refine J.h5 (X:=Nat×Option Addr×Nat×Hp) (λx=> [(0,.slice x.2.1 (Sb.lvls l x.1).length x.2.2.1)]) (λx=> [F,x.2.2.2]) (λx=>x.1≤d.toNat∧ ∃m,(m=F∨m=x.2.2.2)∧Sl m 1 x.2.1 (Sb.lvls l x.1).length x.2.2.1 (qAG (Sb.lvls l x.1))) (λx=>d.toNat-x.1) (0,A,c,λ_=>none) (⟨jG _,F,.inl O,by rw [Sb.lvls_zero];exact hsl⟩) ⟨by rw [Sb.lvls_zero];rfl,trivial⟩ (λ_ h=>h) ?_
  rintro⟨k,A',c',mm⟩ wL ⟨hk,m,hm,hsl'⟩ hxL I0 hI0
  dsimp only at hk hm hsl'⊢
  obtain ⟨L,hL⟩: ∃L,L=Sb.lvls l k:=⟨_,rfl⟩
  have hlen:=Sb.lvls_length hld k hk
  have hLs:=Sb.lvls_small hsm k
  have hp16:2^(d.toNat-k)≤16:=jZ (jh xC (show d.toNat-k≤4 by omega)) xC
  have hp1:=zA (d.toNat-k)
  refine J.q λ_ j9=>J.g λ_ j10=>J.b O<|J.f (qAR qAk O O) O<|J.f (qAz O O O) O<|J.c j10<|J.a0 O (λh21=>?_) (λh21=>?_)
  ·
    refine J.T j9<|J.V<|J.g λ_ j11=>J.p (qAJ O zeroValue32 O) O λg7 _=>J.c j11<|J.q λ_ j12=>J.q λ_ j13=>?_
    rw [←hL]
    refine J.H<|J.b O<|J.p (qBr O O (λF' _=>qU0 F' A' L.length c')) O ?_
    rintro⟨gA,gB⟩ _
    refine J.c j13<|J.V<|J.d0 [2,5,0,1,3,4] [blk g7 [.slice none 0 0] 32,(λ_=>none),F,mm,blk gA [.slice A' L.length c'] 32,blk gB [I 2] 3] O xC ?_
    rw [←hL] at hlen hsl' hLs h21
    obtain ⟨q,hq⟩: ∃q,d.toNat-k=q+1:=Nat.exists_eq_succ_of_ne_zero (λe=>by rw [e,Nat.pow_zero] at hlen;omega)
    have hev:L.length=2*(L.length/2):=by rw [hlen,hq,jt];omega
    have hLn:L.length≤1073741824:=xB
    have hlc:=hsl'.2.1
    refine J.f9 (λx:Option Addr×Nat×Nat×Hp=> [blk g7 [.slice x.1 x.2.1 x.2.2.1] 32,x.2.2.2]) [F,mm,blk gA [.slice A' L.length c'] 32,blk gB [I 2] 3] (λi x=>x.2.1=i∧Row x.2.2.2 9 1 x.1 i x.2.2.1 (qAG ((Sb.lvl L).take i))) (λ_ _=>False) (none,0,0,λ_=>none) O ent (λFr hF=>qSK Fr gA gB A' (L.length/2) L.length c' hev hlc hLn (qAM.blk0.mono (hF (blk gA [.slice A' L.length c'] 32) xD)) (qAM.blk0.mono (hF (blk gB [I 2] 3) xD))) (λ_ _=>rfl) O (⟨O,by rw [zg];exact qBh.nil⟩) ?_ ?_ ?_
    ·
      intro i x l wa wb hi hI K14 Post14 j14 hN14 hR14 hE14
      obtain ⟨Ax,nx,cx,mx⟩:=x
      obtain ⟨hnx,hr⟩:=hI
      dsimp only at hnx hr
      subst hnx
      have hc:=hsl'.cut (lo:=2*nx) (hi:=2*nx+2) (mx:=2*nx+2) xB xB xB
      rw [if_neg xB,show 2*nx+2-2*nx=2 by omega,qED,qHz] at hc
      have hcl:((L.take (2*nx+2)).drop (2*nx)).length=2:=by rw [jH,jF];omega
      have hc0:((L.take (2*nx+2)).drop (2*nx)).getD 0 []=L.getD (2*nx) []:=by simp [jB,jv,zF]
      have hc1:((L.take (2*nx+2)).drop (2*nx)).getD 1 []=L.getD (2*nx+1) []:=by simp [jB,jv,zF]
      refine J.d9 ?_
      refine J.b O<|J.e0 ?_
      refine J.u (j14 _ _ ?_)
      refine J.f5 ?_
      refine J.h0 [blk g7 [.slice Ax nx cx] 32,F,mm,blk gA [.slice A' L.length c'] 32,blk gB [I 2] 3] [10] (.y 0 (.y 1 (.y 2 (.y 3 (.y 4 (.y 5 (.y 6 (.e 7 (.e 8 (.e 9 (.e 10 .nil))))))))))) Tryz.wide xF xD ?_
      refine J.j O (qAC 0 O O O qCC O) O O<|J.L ?_
      refine J.j O (qAF (i:=0) O O O qAk z9_ hc xB) O O<|J.j O (qAI O O b9_ (m:=m) (by rcases hm with rfl|rfl<;>simp) (hc.elem (qAY (qAi [] (show 0<((L.take (2*nx+2)).drop (2*nx)).length by rw [hcl];omega))|>.trans (by rw [hc0])))) O O<|J.L ?_
      refine J.j O (qAF (i:=1) O O O qAk z9_ hc xB) O O<|J.j O (qAI O O b9_ (m:=m) (by rcases hm with rfl|rfl<;>simp) (hc.elem (qAY (qAi [] (show 1<((L.take (2*nx+2)).drop (2*nx)).length by rw [hcl];omega))|>.trans (by rw [hc1])))) O O<|J.Z O (qAa O O (λF' hF=>qF8 F' (hK.mo hF) (L.getD (2*nx) []) (L.getD (2*nx+1) []) (Sb.getD_small hLs _) (Sb.getD_small hLs _))) O xD λg32 _=>J.Z O (qAE (l:= [.tmp 32]) (xs:= [[Str (Sb.join (L.getD (2*nx) []) (L.getD (2*nx+1) []))]]) O O O O qAk el9 O xC xC xD) O xD λg33 _=>J.Z O (qAU (i:=1) (m2:=blk g33 [Str (Sb.join (L.getD (2*nx) []) (L.getD (2*nx+1) []))] 9) O O O qAk qAk el9 O hr xD (slS [Sb.join (L.getD (2*nx) []) (L.getD (2*nx+1) [])] O) (qCy _) xB xB) O xD ?_
      rintro⟨A34,c34,m34⟩ h34
      try dsimp only at h34
      refine J.c1 O (qAT (i:=0) O O O O O qB1 O xD) O O O λ_ _=>J.c5 [0,1,2,3,4,5] [blk g7 [.slice A34 (nx+1) c34] 32,m34,F,mm,blk gA [.slice A' L.length c'] 32,blk gB [I 2] 3] O xC<|J.h1 ?_
      refine J.a3 ?_
      exact hN14 _ (A34,nx+1,c34,m34) ⟨O,by rw [Sb.lvl_take xB];rw [show∀a b,qAG (a++b)=qAG a++qAG b from λa b=>by simp [qAG]];exact h34⟩
    ·
      intro w14 x hx14 hI
      obtain ⟨Ax,nx,cx,mx⟩:=x
      obtain ⟨hnx,hr⟩:=hI
      dsimp only at hnx hr
      subst hnx
      have hlen1:(Sb.lvls l (k+1)).length=L.length/2:=by rw [Sb.lvls_succ,Sb.lvl_length,hL]
      have hfin:Sl mx 1 Ax (Sb.lvls l (k+1)).length cx (qAG (Sb.lvls l (k+1))):=by
        rw [hlen1,Sb.lvls_succ,←hL]
        rw [jf (by rw [Sb.lvl_length];exact jK _)] at hr
        exact hr.sl
      refine J.a3<|J.u (J.G j12 ?_)
      refine J.H<|J.a7 0 qCC O O O O O<|J.c5 [2,1] [F,mx] O xC<|J.b O<|J.a4<|J.a3<|J.u ?_
      rw [show Ax=Ax from rfl]
      exact J.a5 (k+1,Ax,cx,mx) (λx (hx:_∧d.toNat-x.1<d.toNat-k)=>hI0 x _ hx.1 hx.2 hx14) ⟨⟨by dsimp only;omega,mx,.inr O,hfin⟩,by dsimp only;omega⟩ ⟨by dsimp only;rw [hlen1];rfl,trivial⟩ (λ_ h=>h)
    intro w14 x c hx14 hS
    exact hS.elim
  refine J.b3<|J.a1<|J.a1<|J.b4 ?_
  refine J.u (J.G j8 ?_)
  refine J.q λ_ j15=>?_
  have hkd:k=d.toNat:=by
    by_cases e:k=d.toNat
    · exact e
    · have:=jh (n:=2) xC (show 1≤d.toNat-k by omega)
      omega
  exact J.H<|J.b O<|J.f (qAF (i:=0) O O O qAk z9_ hsl' xB) O<|J.f (qAI O O b9_ (m:=m) (by rcases hm with rfl|rfl<;>simp) (v:=Str ((Sb.lvls l k).getD 0 [])) (hsl'.elem (qAY (qAi [] xB)))) O<|J.k 2 O<|J.c j15<|J.A<|J.e9 hw0 hxL (λ_ _ h=>h) (qCK O O O) (qAn () (by unfold qB0 qLA;rw [if_neg hd0,if_neg (show¬l.length≠cnt d by omega),if_pos rfl,Sb.root,←hkd]) trivial [0] O xC)
end Go.Proofs.YtcgcjaflllmlpaaGreatDoor
namespace Go.Proofs.YtcgcjaflllmlpaaGreatDoor
open Go Go.Fw Go.Proofs.Tryz
structure Tw where
 a:UInt8
 b:UInt8
 deriving DecidableEq
def Tw.cells(x:Tw):List Value:= [B8 (x.a),B8 (x.b)]
def qCZ(l:List Sm.PR)(d i:Nat):List xA:=(List.range i).map λj=>Sm.ndB l (kF j d) d
abbrev qAq(l:List Sm.PR)(d:Nat):List xA:=qCZ l d (2^d)
theorem qG9(l:List Sm.PR)(d i:Nat):qCZ l d (i+1)=qCZ l d i++ [Sm.ndB l (kF i d) d]:=by unfold qCZ;rw [jx,jM];rfl
theorem qBe(l:List Sm.PR)(d i:Nat):(qCZ l d i).length=i:=by unfold qCZ;rw [jO,zX]
theorem qFZ(l:List Sm.PR)(d:Nat){i j:Nat}(h:j<i):(qCZ l d i).getD j []=Sm.ndB l (kF j d) d:=by
 unfold qCZ
 rw [jB,jN,zC h];rfl
theorem qC5{d:Nat}(hd:d≤4):cnt ((d:Nat):Int)=2^d:=by
 unfold cnt
 rw [if_neg xB];rfl
theorem qXL{d:Nat}(hd:d≤4):0<2^d∧2^d≤16:=⟨zA _,jZ (jh xC hd) xC⟩
theorem qRG{l:List Sm.PR}(hf:qCE l){e:Nat}(he:e≤15):Sb.lvl (qAq l (e+1))=qAq l e:=by
 have e2:2^(e+1)/2=2^e:=by rw [jt,Nat.mul_div_cancel _ xC]
 have h2:2^(e+1)=2^e*2:=jt 2 e
 unfold Sb.lvl
 rw [qBe,e2]
 show _=(List.range (2^e)).map _
 refine yL λj hj=>?_
 have hj2:=List.mem_range.1 hj
 rw [qFZ _ _ xB,qFZ _ _ xB]
 exact qO6 hf (qIJ j e) he (qRk xB hj2).symm
theorem qID{l:List Sm.PR}(hf:qCE l){d:Nat}(hd:d≤16): ∀j,j≤d→Sb.lvls (qAq l d) j=qAq l (d-j)
 |0,_=>rfl
 |j+1,hj=>by
  rw [Sb.lvls_succ,qID hf hd j xB,show d-j=(d-(j+1))+1 by omega,qRG hf xB]
theorem qO5{l:List Sm.PR}(hf:qCE l){d:Nat}(hd:d≤16):Sb.root (qAq l d) d=Sm.nd 128 l:=by
 have e:Sb.root (qAq l d) d=(Sb.lvls (qAq l d) d).getD 0 []:=by unfold Sb.root;rfl
 rw [e,qID hf hd d (jK _),zH,qFZ _ _ xC,Sm.ndB_zero]
theorem qGD{l:List Sm.PR}(hf:qCE l){d:Nat}(hd:d≤4):qLA (qAq l d) ((d:Nat):Int)=0∧qB0 (qAq l d) ((d:Nat):Int)=Sm.nd 128 l:=by
 have h1:qLA (qAq l d) ((d:Nat):Int)=0:=by
  unfold qLA
  rw [qC5 hd,if_neg (by have:=qXL hd;omega),qBe,if_neg (λh=>h rfl)]
 refine⟨h1,?_⟩
 unfold qB0
 rw [if_pos h1]
 exact qO5 hf xB
def ofV(k:xA)(d:Nat):Nat:=if k.length=16 then qFm k d else 0
def ofE(k:xA):Nat:=if k.length=16 then 0 else 10
theorem qSY(F:Hp)(hK:KF F)(g:Nat)(l:List Sm.PR)(hT:qCh F g l)(hf:qCE l)(d:Nat)(hd:d≤4):Ct prog 121 [Ptr g,I (d:Nat)] [F] (λx:Option Addr×Nat×Hp=> .tuple #[.slice x.1 (qAq l d).length x.2.1,I (0:Nat)]) (λx=>Row x.2.2 9 1 x.1 (qAq l d).length x.2.1 (qAG (qAq l d))) (λx=> [F,x.2.2]):=by
 have hpw:=qXL hd
 have hcn:=qC5 hd
 refine Ct.walk func121 O ntmps121 O (λw0 hw0=>?_)
 refine J.g λ_ j1=>J.k 2 O<|J.c j1<|J.g λ_ j2=>J.b O<|J.p (qAa O O (λF' hF=>qCT F' ((d:Nat):Int))) O λg10 _=>J.b O<|J.c j2<|J.q λ_ j3=>J.q λ_ j4=>?_
 rw [hcn]
 refine J.H<|J.b O<|J.f ((qAX O O O).no xB) O<|J.c j4<|J.a2 ?_
 refine J.T j3<|J.g λ_ j5=>J.b O<|J.c j5<|J.q λ_ j6=>J.g λ_ j7=>J.k 2 O<|J.c j7<|J.V<|J.b6 (X:=Nat×Option Addr×Nat×Hp) (λζ=> [(0,Ptr g),(1,I (d:Nat)),(7,.slice ζ.2.1 ((qCZ l d ζ.1).length) ζ.2.2.1),(13,I (2^d:Nat)),(14,I (ζ.1:Nat))]) (λζ=> [F,ζ.2.2.2]) (λζ=>ζ.1≤2^d∧Row ζ.2.2.2 9 1 ζ.2.1 (qCZ l d ζ.1).length ζ.2.2.1 (qAG (qCZ l d ζ.1))) (λζ=>2^d-ζ.1) (0,none,0,(λ_=>none)) (⟨jG _,qBh.nil⟩) ⟨O,O,O,O,O,trivial⟩ (λ_ h=>h.empty.pick [0,1] xC) ?_
 rintro⟨i,A,c,m⟩ ⟨hi,hr⟩ I0 hI0
 dsimp only at hi hr⊢
 have hnl:=qBe l d i
 refine J.g λ_ j8=>J.f (qAS O O O) O<|J.c j8<|J.q λ_ j9=>J.a0 O (λh15=>?_) (λh15=>?_)
 ·
  have hi2:i<2^d:=xB
  have hkf:=qIJ i d
  have hmd:min (((d:Nat):Int)).toNat 128=d:=by rw [jP];omega
  refine J.T j9<|J.q λ_ j10=>J.V<|J.g λ_ j11=>J.k 2 O<|J.c j11<|J.H<|J.k 4 O<|J.p (qAa O O (λF' hF=>qKu F' i d xB xG)) O λg21 _=>J.b O<|J.p (qAa O O (λF' hF=>qF7 F' (hK.mo hF) g l (hT.mono (Fa hF)) xG (kF i d) xN ((d:Nat):Int) (by first|assumption|exact qIh xG|exact qMn xG xG))) O λg23 _=>J.p (qAE (l:= [.tmp 23]) (xs:= [[Str (Sm.ndB l (kF i d) (min ((d:Nat):Int).toNat 128))]]) O O O O qAk el9 O xC xC xD) O λg24 _=>?_
  change J _ _ _ [F,m,blk g24 [Str (Sm.ndB l (kF i d) (min ((d:Nat):Int).toNat 128))] 9] _
  refine J.p (qAU (i:=1) (xs:=qAG (qCZ l d i)) (m2:=blk g24 [Str (Sm.ndB l (kF i d) (min ((d:Nat):Int).toNat 128))] 9) (ys:= [[Str (Sm.ndB l (kF i d) (min ((d:Nat):Int).toNat 128))]]) O O O qAk qAk el9 O hr xD ((qA7 (q:=True) (qAG [Sm.ndB l (kF i d) (min ((d:Nat):Int).toNat 128)]) O (by simp [qAG]) O).sl) O xB xB) O ?_
  rintro⟨A25,c25,m25⟩ h25
  try dsimp only at h25
  change J _ ((25,.slice A25 (((qCZ l d i).length)+1) c25)::_) _ [_,m25,_] _
  rw [←qCG] at h25
  refine J.b O<|J.a4<|J.a3<|J.u (J.G j10 ?_)
  exact J.H<|J.f ((qAQ O O O xB).nat (i+1) xB) O<|J.b O<|J.a4<|J.u<|J.a5 (i+1,A25,c25,m25) (λη (hη:_∧2^d-η.1<2^d-i)=>hI0 η hη.1 hη.2) ⟨⟨by dsimp only;omega,by dsimp only;rw [qG9,jA];rw [hmd] at h25;exact h25⟩,by first|omega|(dsimp only;omega)⟩ ⟨O,O,by dsimp only;rw [qG9,jA];rfl,O,O,trivial⟩ (λ_ h=>h.pick [0,1] xC)
 refine J.b3<|J.a1<|J.a1<|J.b4 ?_
 refine J.u (J.G j6 ?_)
 refine J.g λ_ j12=>J.k 3 O<|J.c j12<|J.A ?_
 obtain rfl:i=2^d:=by omega
 exact J.b0 hw0 (λ_ _ h=>h) (qCK O O O) (qAn (A,c,m) O hr [0,1] O xC)
theorem qWH(F:Hp)(k:xA)(hk:k.length≤1000000)(d:Nat)(hd:d≤4):Cz prog 72 [Str (k),I (d:Nat)] F (.tuple #[I (ofV k d:Nat),I (ofE k:Nat)]):=by
 have hpw:=qXL hd
 have hcn:=qC5 hd
 refine Ct.walk func72 O ntmps72 O (λw0 hw0=>?_)
 refine J.g λ_ j1=>J.k 2 O<|J.c j1<|J.q λ_ j2=>J.V<|J.g λ_ j3=>J.b O<|J.p (qAa O O (λF' hF=>qCT F' ((d:Nat):Int))) O λg8 _=>J.f ((qAX O O O).no xB) O<|J.b O<|J.c j3<|J.a2 ?_
 refine J.g λ_ j4=>J.b O<|J.f (qAs u9_ O O) O<|J.f (qAe O O O) O<|J.b O<|J.c j4<|J.a0 O (λh10=>?_) (λh10=>?_)
 ·
  exact J.g λ_ j5=>J.k 2 O<|J.c j5<|J.A<|J.a8<|J.W<|J.b0 hw0 (λ_ _ h=>h) (qCK O O O) (qAn () (by unfold ofV ofE;rw [if_neg xB,if_neg xB];rfl) trivial [0] O xC)
 refine J.b5<|J.a3<|J.u (J.G j2 ?_)
 exact J.g λ_ j6=>J.k 2 O<|J.p (qAa O O (λF' hF=>qYW F' k (by first|omega|exact hsm _) d xB)) O λg16 _=>J.k 2 O<|J.c j6<|J.A<|J.b0 hw0 (λ_ _ h=>h) (qCK O O O) (qAn () (by unfold ofV ofE;rw [if_pos xB,if_pos xB];rfl) trivial [0] O xC)
theorem qMk{s bs:xA}(h:s.length≤4096):qLV s bs 0=bs++Sha.numB (UInt64.ofNat s.length) 2++s∧qCU (okT s) 2 0=0:=by
 have h1:okT s=true:=decide_eq_true h
 unfold qLV
 rw [h1,qCB,if_pos rfl]
 exact⟨O,O⟩
structure Hd where
 ep:Nat
 par:xA
 dep:Int
 aud:Int
 nodes:List xA
def qEj(s:xA):Prop:=s= [0]∨(s.length=17∧(s.getD 0 0=1∨s.getD 0 0=2))
instance (s:xA):Decidable (qEj s):=by unfold qEj;infer_instance
def Hd.cells(x:Hd)(A:Option Addr)(c:Nat):List Value:= [N64 x.ep,Str x.par,I x.dep,I x.aud,.slice A x.nodes.length c]
def Hd.out(x:Hd):Prop:=4294967295<x.ep∨x.par.length≠16∨cnt x.dep=0∨x.aud<0∨64<x.aud
instance (x:Hd):Decidable x.out:=by unfold Hd.out;infer_instance
def Hd.err(x:Hd):Int:=if x.out then 10 else if x.nodes.length≠cnt x.dep then 22 else if∀s∈x.nodes,qEj s then 0 else 4
def ndB(s:xA):xA:=Sha.numB (UInt64.ofNat s.length) 2++s
def Hd.bytes(x:Hd):xA:=Sha.numB (UInt64.ofNat x.ep) 4++x.par++ [UInt8.ofNat x.dep.toNat]++ [UInt8.ofNat x.aud.toNat]++(x.nodes.map ndB).flatten
def Hd.enc(x:Hd):xA:=if x.err=0 then x.bytes else []
def Hd.dig(x:Hd):xA:=if x.err=0 then Sha.tagged 14 [x.bytes] else []
def Hd.good(x:Hd):Prop:=x.ep<18446744073709551616∧x.par.length≤1048576∧x.nodes.length≤1073741824
theorem qKv{x:Hd}(h:x.out):x.err=10:=if_pos h
theorem qZj{x:Hd}(h: ¬x.out)(h2:x.nodes.length≠cnt x.dep):x.err=22:=by unfold Hd.err;rw [if_neg h,if_pos h2]
theorem err_4{x:Hd}(h: ¬x.out)(h2: ¬x.nodes.length≠cnt x.dep){s:xA}(hs:s∈x.nodes)(hn: ¬qEj s):x.err=4:=by unfold Hd.err;rw [if_neg h,if_neg h2,if_neg (λe=>hn (e s hs))]
theorem qZk{x:Hd}(h: ¬x.out)(h2: ¬x.nodes.length≠cnt x.dep)(hs: ∀s∈x.nodes,qEj s):x.err=0:=by unfold Hd.err;rw [if_neg h,if_neg h2,if_pos hs]
theorem qR2{x:Hd}(h:x.err=0): ¬x.out∧x.nodes.length=cnt x.dep∧ ∀s∈x.nodes,qEj s:=by
  unfold Hd.err at h
  split at h
  · omega
  · rename_i h1
    split at h
    · omega
    · rename_i h2
      split at h
      · rename_i h3;exact⟨h1,Decidable.not_not.1 h2,h3⟩
      · omega
theorem qNX{s:xA}(h:qEj s):s.length≤17:=by
 rcases h with rfl|⟨h,_⟩
 · decide
 · omega
theorem qYa{l:List xA}{p:xA→Prop}{k:Nat}(h:k<l.length)(h1: ∀s∈l.take k,p s)(h2:p (l.getD k [])): ∀s∈l.take (k+1),p s:=λs hs=>by
  rw [jQ h] at hs
  rcases List.mem_append.1 hs with h3|h3
  · exact h1 s h3
  · rw [jT] at h3
    rw [h3]
    rw [jB,jC h] at h2
    exact h2
theorem qRx{l:List xA}{k:Nat}(h:k<l.length):l.getD k []∈l:=by
 rw [jB,jC h]
 exact ja h
theorem u8eq{c:UInt8}(k:UInt8):((c.toNat:Int)=(k.toNat:Int))↔c=k:=⟨λh=>UInt8.toNat_inj.1 xB,λh=>by rw [h]⟩
theorem qUl(F:Hp)(s:xA):Cz prog 129 [Str s] F (.bool (decide (qEj s))):=by
 refine Ct.walk func129 O ntmps129 O (λw0 hw0=>?_)
 refine J.g λ_ j1=>J.b O<|J.c j1 ?_
 refine J.g λ_ j2=>J.b O<|J.f (qBA O O O) O<|J.b O<|J.b9 (d:=5) O (λh5=>?_) (λh5=>?_)
 ·
  refine J.k 4 O<|J.c6 (Wan.un O O O O) O O ?_
  refine J.c6 (Wan.un O O O O) O O ?_
  refine J.c6 (Wan.un O O O O) O O ?_
  refine J.c6 (Wan.un O O O O) O O ?_
  refine J.c6 (Wan.un O O O O) O O ?_
  refine J.c6 (Wan.un O O O O) O O ?_
  refine J.c6 (Wan.un O O O O) O O ?_
  refine J.c6 (Wan.un O O O O) O O ?_
  refine J.k 3 O<|J.c j2 ?_
  exact J.A<|J.E hw0 O () (congrArg Value.bool (decide_eq_true (show qEj s from .inl h5)).symm) trivial [0] O xC
 refine J.b O<|J.D (qAs u9_ O O) O<|J.D (qAX O O O) O<|J.b O<|J.b9 (d:=9) O (λh9=>?_) (λh9=>?_)
 ·
  refine J.b O<|J.D (qBb (i:=0) (c:=s.getD 0 0) u9_ O O O (by rw [jB,jC (show 0<s.length by omega)];rfl)) O ?_
  refine J.D (qAX O O O) O<|J.b O<|J.b9 (d:=13) O (λh13=>?_) (λh13=>?_)
  ·
   refine J.k 7 O<|J.c j2 ?_
   exact J.A<|J.E hw0 O () (congrArg Value.bool (decide_eq_true (show qEj s from .inr ⟨xB,.inl ((u8eq 1).1 h13)⟩)).symm) trivial [0] O xC
  refine J.b O<|J.D (qBb (i:=0) (c:=s.getD 0 0) u9_ O O O (by rw [jB,jC (show 0<s.length by omega)];rfl)) O ?_
  refine J.D (qAX O O O) O<|J.k 4 O<|J.c j2 ?_
  exact J.A<|J.E hw0 O () (congrArg Value.bool (decide_eq_decide.2 ⟨λh=>(show qEj s from .inr ⟨xB,.inr ((u8eq 2).1 h)⟩),λh=>by rcases h with h|⟨_,h|h⟩;exact absurd h h5;exact absurd ((u8eq 1).2 h) h13;exact(u8eq 2).2 h⟩)) trivial [0] O xC
 refine J.k 4 O<|J.c6 (Wan.un O O O O) O O ?_
 refine J.c6 (Wan.un O O O O) O O ?_
 refine J.c6 (Wan.un O O O O) O O ?_
 refine J.k 4 O<|J.c j2 ?_
 exact J.A<|J.E hw0 O () (congrArg Value.bool (decide_eq_false (show¬qEj s from λh=>by rcases h with h|⟨h,_⟩;exact h5 h;omega)).symm) trivial [0] O xC
theorem qHL(F:Hp)(x:Hd)(A:Option Addr)(c:Nat)(hg:x.good)(hsl:Sl F 1 A x.nodes.length c (qAG x.nodes)):
    Cz prog 61 [.agg #[N64 x.ep,Str x.par,I x.dep,I x.aud,.slice A x.nodes.length c]] F (I x.err):=by
  obtain ⟨hg1,hg2,hg3⟩:=hg
  refine Ct.walk func61 O ntmps61 O (λw0 hw0=>?_)
  refine J.g λ_ j1=>J.p (qAZ O O O) O λg1 _=>J.b O<|J.c j1 ?_
  refine J.g λ_ j2=>J.M 2 qDn z3_ O O O O O<|J.a7 1 b3_ O O O O O<|J.p (qAa O O (λF' hF=>qCT F' x.dep)) O λg8 _=>J.b O<|J.c j2 ?_
  refine J.q λ_ j3=>J.V<|J.g λ_ j4=>J.M 0 qDn qEW O O O O O<|J.a7 1 qFM O O O O O<|J.f (qAz O O O) O<|J.b O<|J.b9 (d:=13) O (λh13=>?_) (λh13=>?_)
  ·
    refine J.k 20 O<|J.c j4 ?_
    refine J.c3 ?_
    refine J.g λ_ j5=>J.b O<|J.c j5 ?_
    exact J.A<|J.a8<|J.W<|J.E hw0 O () (congrArg I (qKv (show x.out by unfold Hd.out;omega)).symm) trivial [0] O xC
  refine J.D (qAA O O qDn O z9_ O) O<|J.D (qAC 1 O O O b9_ O) O<|J.D (qAs u9_ O O) O<|J.D (qAe O O O) O<|J.k 2 O<|J.b9 (d:=19) O (λh19=>?_) (λh19=>?_)
  ·
    refine J.k 14 O<|J.c j4 ?_
    refine J.c3 ?_
    refine J.g λ_ j6=>J.b O<|J.c j6 ?_
    exact J.A<|J.a8<|J.W<|J.E hw0 O () (congrArg I (qKv (show x.out by unfold Hd.out;omega)).symm) trivial [0] O xC
  refine J.b O<|J.D (qAX O O O) O<|J.k 2 O<|J.b9 (d:=23) O (λh23=>?_) (λh23=>?_)
  ·
    refine J.k 10 O<|J.c j4 ?_
    refine J.c3 ?_
    refine J.g λ_ j7=>J.b O<|J.c j7 ?_
    exact J.A<|J.a8<|J.W<|J.E hw0 O () (congrArg I (qKv (show x.out by unfold Hd.out;omega)).symm) trivial [0] O xC
  refine J.D (qAA O O qDn O z3_ O) O<|J.D (qAC 1 O O O b3_ O) O<|J.D (qAS O O O) O<|J.k 2 O<|J.b9 (d:=28) O (λh28=>?_) (λh28=>?_)
  ·
    refine J.k 5 O<|J.c j4 ?_
    refine J.c3 ?_
    refine J.g λ_ j8=>J.b O<|J.c j8 ?_
    exact J.A<|J.a8<|J.W<|J.E hw0 O () (congrArg I (qKv (show x.out by unfold Hd.out;omega)).symm) trivial [0] O xC
  refine J.D (qAA O O qDn O z3_ O) O<|J.D (qAC 1 O O O b3_ O) O<|J.D (qAz O O O) O<|J.k 2 O<|J.c j4 ?_
  refine J.a0 O (λh9=>?_) (λh9=>?_)
  ·
    refine J.g λ_ j9=>J.b O<|J.c j9 ?_
    exact J.A<|J.a8<|J.W<|J.E hw0 O () (congrArg I (qKv (show x.out by unfold Hd.out;omega)).symm) trivial [0] O xC
  refine J.g λ_ j10=>J.M 4 qDn qB1 O O O O O<|J.a7 1 qCC O O O O O<|J.f (qAR qAk O O) O<|J.b O<|J.f (qAe O O O) O<|J.b O<|J.c j10 ?_
  refine J.a0 O (λh33=>?_) (λh33=>?_)
  ·
    refine J.g λ_ j11=>J.b O<|J.c j11 ?_
    exact J.A<|J.a8<|J.W<|J.E hw0 O () (congrArg I (qZj (by unfold Hd.out;omega) xB).symm) trivial [0] O xC
  refine J.b5<|J.a3<|J.u (J.G j3 ?_)
  refine J.q λ_ j12=>J.q λ_ j13=>?_
  have hno: ¬x.out:=by unfold Hd.out;omega
  have hcn: ¬x.nodes.length≠cnt x.dep:=xB
  refine J.H<|J.M 4 qDn qB1 O O O O O<|J.a7 1 qCC O O O O O<|J.f (qAR qAk O O) O<|J.b O<|J.c j13 ?_
  refine J.V<|J.b6 (X:=Nat) (λk=> [(40,.slice A x.nodes.length c),(41,I x.nodes.length),(42,I k)]) (λ_=> [F,blk g1 [N64 x.ep,Str x.par,I x.dep,I x.aud,.slice A x.nodes.length c] 34]) (λk=>k≤x.nodes.length∧ ∀s∈x.nodes.take k,qEj s) (λk=>x.nodes.length-k) 0 (⟨jG _,λs hs=>by simp at hs⟩) ⟨O,O,O,trivial⟩ (λ_ h=>h) ?_
  intro k ⟨hk,hall⟩ I0 hI0
  refine J.g λ_ j14=>J.f (qAS O O O) O<|J.c j14 ?_
  refine J.q λ_ j15=>J.a0 O (λh43=>?_) (λh43=>?_)
  ·
    refine J.T j15 ?_
    refine J.q λ_ j16=>J.V<|J.g λ_ j17=>J.f (qAF O O O qAk z9_ hsl xB) O<|J.f (qAI O O b9_ (m:=F) xD (hsl.elem (qAY (qAi [] (show k<x.nodes.length by omega))))) O<|J.b O<|J.c j17 ?_
    refine J.g λ_ j18=>J.b O<|J.p (qAa O O (λF' hF=>qUl F' (x.nodes.getD k []))) O λg47 _=>J.f (qG6 O O) O<|J.c j18 ?_
    refine J.a0 O (λh48=>?_) (λh48=>?_)
    ·
      refine J.g λ_ j19=>J.b O<|J.c j19 ?_
      exact J.A<|J.a8<|J.W<|J.W<|J.a8<|J.W<|J.E hw0 O () (congrArg I (err_4 hno hcn (qRx (show k<x.nodes.length by omega)) h48).symm) trivial [0] O xC
    refine J.b5<|J.a3<|J.u (J.G j16 ?_)
    exact J.H<|J.f ((qAQ O O O xB).nat (k+1) xB) O<|J.b O<|J.a4<|J.u<|J.a5 (k+1) (λx2 (hx:_∧x.nodes.length-x2<x.nodes.length-k)=>hI0 x2 hx.1 hx.2) ⟨⟨xB,qYa xB hall (Decidable.not_not.1 h48)⟩,xB⟩ ⟨O,O,O,trivial⟩ (λ_ h=>h)
  refine J.b3<|J.a1<|J.a1<|J.b4 ?_
  refine J.u (J.G j12 ?_)
  refine J.q λ_ j20=>?_
  rw [jf xB] at hall
  refine J.H<|J.b O<|J.c j20 ?_
  exact J.A<|J.E hw0 O () (congrArg I (qZk hno hcn hall).symm) trivial [0] O xC
def Hd.base(x:Hd):xA:=Sha.numB (UInt64.ofNat x.ep) 4++x.par++ [UInt8.ofNat x.dep.toNat]++ [UInt8.ofNat x.aud.toNat]
theorem qVp: ∀k,k<65→Sha.numB (UInt64.ofNat k) 1= [UInt8.ofNat k]:=by decide+kernel
theorem qUD: ∀k,k<65→okN (UInt64.ofNat k) 1=true:=by decide+kernel
theorem qQ0{x:Hd}(h: ¬x.out):x.ep≤4294967295∧x.par.length=16∧(0≤x.dep∧x.dep≤4)∧0≤x.aud∧x.aud≤64:=by
 have h1: ¬cnt x.dep=0:=λe=>h (.inr (.inr (.inl e)))
 rw [qGO] at h1
 unfold Hd.out at h
 omega
theorem qXm{l:List xA}{k:Nat}(h:k<l.length):((l.take (k+1)).map ndB).flatten=((l.take k).map ndB).flatten++ndB (l.getD k []):=by
 rw [jQ h,jM,zM,jd,zV,jc,js,jR,jB,jC h];rfl
theorem nd_small{l:List xA}(h: ∀s∈l,qEj s):(l.map ndB).flatten.length≤19*l.length:=by
 induction l with
 |nil=>exact jG _
 |cons a l ih=>
  have h1:=ih (λs hs=>h s (.tail _ hs))
  have h2:=qNX (h a (.head _))
  rw [jd,jc,jA,jD]
  unfold ndB at h1⊢
  rw [jA,Sha.numB_length];omega
theorem qOG{x:Hd}(h: ¬x.out):x.base.length=22:=by
 have:=qQ0 h
 unfold Hd.base
 simp only [jA,Sha.numB_length,jI];omega
theorem qPI(F:Hp)(x:Hd)(A:Option Addr)(c:Nat)(hg:x.good)(hsl:Sl F 1 A x.nodes.length c (qAG x.nodes)):
    Cz prog 78 [.agg #[N64 x.ep,Str x.par,I x.dep,I x.aud,.slice A x.nodes.length c]] F (.tuple #[Str x.enc,I x.err]):=by
  refine Ct.walk func78 O ntmps78 O (λw0 hw0=>?_)
  refine J.g λ_ j1=>J.p (qAZ O O O) O λg1 _=>J.k 2 O<|J.c j1 ?_
  refine J.q λ_ j2=>J.g λ_ j3=>J.b8 1 qDF qBv O O O O O<|J.p (qAa O O (λF' hF=>qHL F' x A c hg (hsl.mono (Fa hF)))) O λg9 _=>J.b O<|J.c j3 ?_
  refine J.g λ_ j4=>J.b O<|J.f (qAe O O O) O<|J.c j4 ?_
  refine J.a0 O (λh11=>?_) (λh11=>?_)
  ·
    refine J.g λ_ j5=>J.k 3 O<|J.c j5 ?_
    exact J.A<|J.W<|J.b0 hw0 (λ_ _ h=>h) (qCK O O O) (qAn () (by unfold Hd.enc;rw [if_neg xB]) trivial [0] O xC)
  refine J.T j2 ?_
  refine J.q λ_ j6=>?_
  have e0:x.err=0:=xB
  obtain ⟨e1,e2,e3⟩:=qR2 e0
  obtain ⟨e4,e5,e6,e7,e8⟩:=qQ0 e1
  have hbl:=qOG e1
  have hc16:=qV9 x.dep
  refine J.H<|J.p (qAJ O qKy O) O λg5 _=>J.c j6 ?_
  refine J.q λ_ j7=>J.b1 [blk g1 [N64 x.ep,Str x.par,I x.dep,I x.aud,.slice A x.nodes.length c] 34] [] (.y 0 (.y 1 (.y 3 (.y 4 (.y 6 (.y 7 (.y 8 (.y 10 (.y 11 (.y 12 (.e 2 (.e 5 (.e 9 (.e 13 .nil)))))))))))))) Tryz.wide xF xD ?_
  refine J.j O (qAA O O qDn O qEW O) O O<|J.j O (qAC 0 O O O qFM O) O O<|J.j O (qAA O O qDn O z9_ O) O O<|J.j O (qAC 0 O O O b9_ O) O O<|J.j O (qAA O O qDn O z3_ O) O O<|J.j O (qAC 0 O O O b3_ O) O O<|J.j O ((qCL O O u3_ qEd).as (v':=W64 (UInt64.ofNat x.dep.toNat)) (by rw [show(x.dep%18446744073709551616).toNat=x.dep.toNat by omega])) O O<|J.j O (qAA O O qDn O z3_ O) O O<|J.j O (qAC 0 O O O b3_ O) O O<|J.j O ((qCL O O u3_ qEd).as (v':=W64 (UInt64.ofNat x.aud.toNat)) (by rw [show(x.aud%18446744073709551616).toNat=x.aud.toNat by omega])) O O<|J.Z O (qAK O O ent (Ct.use1 2 O (λF' _=>qL7 F' (blk g5 [.pointer none,.slice none 0 0,I 0] 158) g5 [] 0 (qGV g5) xC x.ep xB 4 xB xB))) O xD ?_
  rintro m15 hw15
  rw [qHj (size:=4) xB xB,qCB,qCm (qHj (size:=4) xB xB),jq] at hw15
  refine J.Z O (qAK O O ent (Ct.use1 2 O (λF' _=>qDY F' m15 g5 (Sha.numB (UInt64.ofNat x.ep) 4) 0 hw15 (by rw [Sha.numB_length];omega) x.par xB 16))) O xD ?_
  rintro m18 hw18
  rw [qGb e5,qL6 e5,qCB] at hw18
  refine J.Z O (qAK O O ent (Ct.use1 2 O (λF' _=>qDw F' m18 g5 ((Sha.numB (UInt64.ofNat x.ep) 4)++x.par) 0 hw18 (by simp only [jA,Sha.numB_length];omega) (UInt64.ofNat x.dep.toNat) 1 xB xB))) O xD ?_
  rintro m22 hw22
  rw [qUD _ xB,qCB,qCm (qUD _ xB),qVp _ xB] at hw22
  refine J.Z O (qAK O O ent (Ct.use1 2 O (λF' _=>qDw F' m22 g5 (((Sha.numB (UInt64.ofNat x.ep) 4)++x.par)++ [UInt8.ofNat x.dep.toNat]) 0 hw22 (by simp only [jA,Sha.numB_length,jI];omega) (UInt64.ofNat x.aud.toNat) 1 xB xB))) O xD ?_
  rintro m26 hw26
  rw [qUD _ xB,qCB,qCm (qUD _ xB),qVp _ xB] at hw26
  refine J.a9<|J.u (J.G j7 ?_)
  refine J.q λ_ j8=>J.g λ_ j9=>J.M 4 qDn qB1 O O O O O<|J.a7 1 qCC O O O O O<|J.f (qAR qAk O O) O<|J.b O<|J.c j9 ?_
  refine J.V<|J.b6 (X:=Nat×Hp) (λx2=> [(5,Ptr g5),(28,.slice A x.nodes.length c),(29,I x.nodes.length),(30,I x2.1)]) (λx2=> [F,blk g1 [N64 x.ep,Str x.par,I x.dep,I x.aud,.slice A x.nodes.length c] 34,x2.2]) (λx2=>x2.1≤x.nodes.length∧Wtr x2.2 g5 (x.base++((x.nodes.take x2.1).map ndB).flatten) 0) (λx2=>x.nodes.length-x2.1) (0,m26) (⟨jG _,by rw [zg,zV,js,jR];exact hw26⟩) ⟨O,O,O,O,trivial⟩ (λ_ h=>h) ?_
  rintro⟨k,m⟩ ⟨hk,hw⟩ I0 hI0
  dsimp only at hk hw⊢
  refine J.g λ_ j10=>J.f (qAS O O O) O<|J.c j10 ?_
  refine J.q λ_ j11=>J.a0 O (λh31=>?_) (λh31=>?_)
  ·
    refine J.T j11 ?_
    refine J.q λ_ j12=>J.V<|J.g λ_ j13=>J.f (qAF O O O qAk z9_ hsl xB) O<|J.f (qAI O O b9_ (m:=F) xD (hsl.elem (qAY (qAi [] (show k<x.nodes.length by omega))))) O<|J.b O<|J.c j13 ?_
    have hnl:=qNX (e3 _ (qRx (show k<x.nodes.length by omega)))
    refine J.H<|J.b O<|J.p (qAK O O ent (Ct.use1 2 O (λF' _=>qP7 F' m g5 (x.base++((x.nodes.take k).map ndB).flatten) 0 hw (by have:=nd_small (λs hs=>e3 s (yI hs): ∀s∈x.nodes.take k,qEj s);rw [jF] at this;rw [jA,hbl];omega) (x.nodes.getD k []) xB))) O ?_
    rintro m35 hw35
    rw [(qMk xB).1,(qMk (s:=x.nodes.getD k []) (bs:= []) xB).2,jW,jW] at hw35
    change Wtr m35 g5 (x.base++(((x.nodes.take k).map ndB).flatten++ndB (x.nodes.getD k []))) 0 at hw35
    rw [←qXm xB] at hw35
    refine J.a4<|J.a3<|J.u (J.G j12 ?_)
    exact J.H<|J.f ((qAQ O O O xB).nat (k+1) xB) O<|J.b O<|J.a4<|J.u<|J.a5 (k+1,m35) (λx2 (hx:_∧x.nodes.length-x2.1<x.nodes.length-k)=>hI0 x2 hx.1 hx.2) ⟨⟨by dsimp only;omega,hw35⟩,by dsimp only;omega⟩ ⟨O,O,O,O,trivial⟩ (λ_ h=>h)
  refine J.b3<|J.a1<|J.a1<|J.b4 ?_
  refine J.u (J.G j8 ?_)
  refine J.q λ_ j14=>?_
  rw [jf xB] at hw
  change Wtr m g5 x.bytes 0 at hw
  refine J.H<|J.p (qAK O O ent (Ct.use1 2 O (λF' _=>qDa F' m g5 x.bytes 0 hw (by have:=nd_small e3;unfold Hd.bytes;unfold Hd.base at hbl;rw [jA,hbl];omega)))) O ?_
  rintro m37 _
  refine J.k 4 O<|J.c j14 ?_
  exact J.A<|J.b0 hw0 (λ_ _ h=>h) (qCK O O O) (qAn () (by unfold Hd.enc;rw [if_pos e0,e0]<;>rfl) trivial [0] O xC)
theorem qSR{x:Hd}(h:x.err=0):x.bytes.length≤326:=by
 obtain ⟨e1,e2,e3⟩:=qR2 h
 have h1:=qOG e1
 have h2:=nd_small e3
 have h3:=qV9 x.dep
 unfold Hd.bytes
 unfold Hd.base at h1
 rw [jA,h1];omega
theorem enc_0{x:Hd}(h:x.err=0):x.enc=x.bytes:=if_pos h
theorem qMW{x:Hd}(h:x.err=0):x.dig.length=16:=by unfold Hd.dig;rw [if_pos h,Sha.tagged_length]
theorem qK1(x:Hd):x.dig.length≤16:=by
 unfold Hd.dig
 split
 · rw [Sha.tagged_length];exact jK _
 · exact jG _
theorem qCl(F:Hp)(hK:KF F)(x:Hd)(A:Option Addr)(c:Nat)(hg:x.good)(hsl:Sl F 1 A x.nodes.length c (qAG x.nodes)):
    Cz prog 33 [.agg #[N64 x.ep,Str x.par,I x.dep,I x.aud,.slice A x.nodes.length c]] F (Str x.dig):=by
  refine Ct.walk func33 O ntmps33 O (λw0 hw0=>?_)
  refine J.g λ_ j1=>J.p (qAZ O O O) O λg1 _=>J.b O<|J.c j1 ?_
  refine J.g λ_ j2=>J.b8 1 qDF qBv O O O O O<|J.p (qAa O O (λF' hF=>qPI F' x A c hg (hsl.mono (Fa hF)))) O λg7 _=>J.k 5 O<|J.c j2 ?_
  refine J.q λ_ j3=>J.g λ_ j4=>J.b O<|J.f (qAe O O O) O<|J.c j4 ?_
  refine J.a0 O (λh11=>?_) (λh11=>?_)
  ·
    refine J.g λ_ j5=>J.b O<|J.c j5 ?_
    exact J.A<|J.W<|J.E hw0 O () (by unfold Hd.dig;rw [if_neg xB]) trivial [0] O xC
  refine J.T j3 ?_
  refine J.q λ_ j6=>?_
  have e0:x.err=0:=xB
  refine J.H<|J.f ((qA2 O O).as (v':=Str x.bytes) (congrArg Str (enc_0 e0))) O<|J.p (qAE (l:= [.tmp 12]) (xs:= [[Str (x.bytes)]]) O O O O qAk el9 O xC xC xD) O λg13 _=>J.p (qAa O O (λF' hF=>qA6 F' (hK.mono (Fa hF)) 14 (some ⟨g13,0,none⟩) 1 1 [x.bytes] ((slS [x.bytes] O).mono (hF (blk g13 (([x.bytes]:List xA).map λs=>Str s) 9) xD)) (by have:=qSR e0;simp;omega) xC)) O λg14 _=>J.b O<|J.c j6 ?_
  exact J.A<|J.E hw0 O () (by unfold Hd.dig;rw [if_pos e0]) trivial [0] O xC
def Hd.gen(x:Hd):Int:=if x.err≠0 then x.err else if x.ep≠0 then 14 else if x.par≠qAh then 15 else 0
def Hd.next(x y:Hd):Int:=if y.err≠0 then y.err else if y.ep=0∨y.ep-1≠x.ep then 14 else if x.dig= []∨y.par≠x.dig then 15 else if y.dep≠x.dep∨y.aud<x.aud then 22 else 0
def Hd.same(x y:Hd):Prop:=x.err=0∧y.err=0∧x.enc=y.enc
instance (x y:Hd):Decidable (x.same y):=by unfold Hd.same;infer_instance
theorem gen_1{x:Hd}(h:x.err≠0):x.gen=x.err:=if_pos h
theorem qZe{x:Hd}(h: ¬x.err≠0)(h2:x.ep≠0):x.gen=14:=by unfold Hd.gen;rw [if_neg h,if_pos h2]
theorem gen_3{x:Hd}(h: ¬x.err≠0)(h2: ¬x.ep≠0)(h3:x.par≠qAh):x.gen=15:=by unfold Hd.gen;rw [if_neg h,if_neg h2,if_pos h3]
theorem qX8{x:Hd}(h: ¬x.err≠0)(h2: ¬x.ep≠0)(h3: ¬x.par≠qAh):x.gen=0:=by unfold Hd.gen;rw [if_neg h,if_neg h2,if_neg h3]
theorem qZL{x y:Hd}(h:y.err≠0):x.next y=y.err:=if_pos h
theorem qVv{x y:Hd}(h: ¬y.err≠0)(h2:y.ep=0∨y.ep-1≠x.ep):x.next y=14:=by unfold Hd.next;rw [if_neg h,if_pos h2]
theorem qVu{x y:Hd}(h: ¬y.err≠0)(h2: ¬(y.ep=0∨y.ep-1≠x.ep))(h3:x.dig= []∨y.par≠x.dig):x.next y=15:=by unfold Hd.next;rw [if_neg h,if_neg h2,if_pos h3]
theorem qVt{x y:Hd}(h: ¬y.err≠0)(h2: ¬(y.ep=0∨y.ep-1≠x.ep))(h3: ¬(x.dig= []∨y.par≠x.dig))(h4:y.dep≠x.dep∨y.aud<x.aud):x.next y=22:=by unfold Hd.next;rw [if_neg h,if_neg h2,if_neg h3,if_pos h4]
theorem qVs{x y:Hd}(h: ¬y.err≠0)(h2: ¬(y.ep=0∨y.ep-1≠x.ep))(h3: ¬(x.dig= []∨y.par≠x.dig))(h4: ¬(y.dep≠x.dep∨y.aud<x.aud)):x.next y=0:=by unfold Hd.next;rw [if_neg h,if_neg h2,if_neg h3,if_neg h4]
theorem qUm(F:Hp)(hK:KF F)(x:Hd)(A:Option Addr)(c:Nat)(hg:x.good)(hsl:Sl F 1 A x.nodes.length c (qAG x.nodes))(y:Hd)(B:Option Addr)(e:Nat)(hgy:y.good)(hsy:Sl F 1 B y.nodes.length e (qAG y.nodes)):
    Cz prog 75 [.agg #[N64 x.ep,Str x.par,I x.dep,I x.aud,.slice A x.nodes.length c],.agg #[N64 y.ep,Str y.par,I y.dep,I y.aud,.slice B y.nodes.length e]] F (I (x.next y)):=by
  obtain ⟨hgx1,hgx2,hgx3⟩:=id hg
  obtain ⟨hgy1,hgy2,hgy3⟩:=id hgy
  refine Ct.walk func75 O ntmps75 O (λw0 hw0=>?_)
  refine J.g λ_ j1=>J.p (qAZ O O O) O λg2 _=>J.p (qAZ O O O) O λg3 _=>?_
  change J _ _ _ [_,_,blk g3 [N64 y.ep,Str y.par,I y.dep,I y.aud,.slice B y.nodes.length e] 34] _
  refine J.b O<|J.c j1 ?_
  refine J.q λ_ j2=>J.b1 [F,blk g2 [N64 x.ep,Str x.par,I x.dep,I x.aud,.slice A x.nodes.length c] 34,blk g3 [N64 y.ep,Str y.par,I y.dep,I y.aud,.slice B y.nodes.length e] 34] [] (.y 0 (.y 2 (.e 1 (.e 3 (.y 4 (.y 5 .nil)))))) Tryz.wide xF xD ?_
  refine J.j O (qAW 2 O O O qDF qBv O) O O<|J.j O (qAW 1 O O O qDF qBv O) O O<|J.Z O (qAa O O (λF' hF=>qHL F' y B e hgy (hsy.mono (Fa hF)))) O xD λg8 _=>J.Z O (qAa O O (λF' hF=>qCl F' (hK.mo hF) x A c hg (hsl.mono (Fa hF)))) O xD λg10 _=>J.b7 ?_
  refine J.b7 ?_
  refine J.a9<|J.u (J.G j2 ?_)
  refine J.q λ_ j3=>J.V<|J.g λ_ j4=>J.b O<|J.f (qAe O O O) O<|J.b O<|J.c j4 ?_
  refine J.a0 O (λh11=>?_) (λh11=>?_)
  ·
    refine J.g λ_ j5=>J.k 2 O<|J.c j5 ?_
    exact J.A<|J.a8<|J.W<|J.E hw0 O () (congrArg I (qZL xB).symm) trivial [0] O xC
  refine J.g λ_ j6=>J.M 0 qDn qEW O O O O O<|J.a7 2 qFM O O O O O<|J.f (qAX O O O) O<|J.b O<|J.b9 (d:=19) O (λh19=>?_) (λh19=>?_)
  ·
    refine J.k 8 O<|J.c j6 ?_
    refine J.c3 ?_
    refine J.g λ_ j7=>J.b O<|J.c j7 ?_
    exact J.A<|J.a8<|J.W<|J.E hw0 O () (congrArg I (qVv xB xB).symm) trivial [0] O xC
  refine J.D (qAA (j:=0) O O qDn O qEW O) O<|J.D (qAC 2 O O O qFM O) O<|J.D (qXS (b:=1) O O O xB) O<|J.D (qAA (j:=0) O O qDn O qEW O) O<|J.D (qAC 1 O O O qFM O) O<|J.D (qAe O O O) O<|J.k 2 O<|J.c j6 ?_
  refine J.a0 O (λh15=>?_) (λh15=>?_)
  ·
    refine J.g λ_ j8=>J.b O<|J.c j8 ?_
    exact J.A<|J.a8<|J.W<|J.E hw0 O () (congrArg I (qVv xB xB).symm) trivial [0] O xC
  refine J.g λ_ j9=>J.b O<|J.f (qBA O O O) O<|J.b O<|J.b9 (d:=30) O (λh30=>?_) (λh30=>?_)
  ·
    refine J.k 6 O<|J.c j9 ?_
    refine J.c3 ?_
    refine J.g λ_ j10=>J.b O<|J.c j10 ?_
    exact J.A<|J.a8<|J.W<|J.E hw0 O () (congrArg I (qVu xB xB (.inl h30)).symm) trivial [0] O xC
  refine J.D (qAA (j:=1) O O qDn O z9_ O) O<|J.D (qAC 2 O O O b9_ O) O<|J.b O<|J.D (qDv O O O) O<|J.k 2 O<|J.c j9 ?_
  refine J.a0 O (λh27=>?_) (λh27=>?_)
  ·
    refine J.g λ_ j11=>J.b O<|J.c j11 ?_
    exact J.A<|J.a8<|J.W<|J.E hw0 O () (congrArg I (qVu xB xB (.inr h27)).symm) trivial [0] O xC
  refine J.g λ_ j12=>J.M 2 qDn z3_ O O O O O<|J.a7 2 b3_ O O O O O<|J.M 2 qDn z3_ O O O O O<|J.a7 1 b3_ O O O O O<|J.f (qAe O O O) O<|J.b O<|J.b9 (d:=42) O (λh42=>?_) (λh42=>?_)
  ·
    refine J.k 7 O<|J.c j12 ?_
    refine J.c3 ?_
    refine J.g λ_ j13=>J.b O<|J.c j13 ?_
    exact J.A<|J.a8<|J.W<|J.E hw0 O () (congrArg I (qVt xB xB (λh=>h.elim h30 h27) xB).symm) trivial [0] O xC
  refine J.D (qAA (j:=3) O O qDn O z3_ O) O<|J.D (qAC 2 O O O b3_ O) O<|J.D (qAA (j:=3) O O qDn O z3_ O) O<|J.D (qAC 1 O O O b3_ O) O<|J.D (qAS O O O) O<|J.k 2 O<|J.c j12 ?_
  refine J.a0 O (λh36=>?_) (λh36=>?_)
  ·
    refine J.g λ_ j14=>J.b O<|J.c j14 ?_
    exact J.A<|J.a8<|J.W<|J.E hw0 O () (congrArg I (qVt xB xB (λh=>h.elim h30 h27) xB).symm) trivial [0] O xC
  refine J.b5<|J.a3<|J.u (J.G j3 ?_)
  refine J.g λ_ j15=>J.b O<|J.c j15 ?_
  exact J.A<|J.E hw0 O () (congrArg I (qVs xB xB (λh=>h.elim h30 h27) xB).symm) trivial [0] O xC
theorem qGG(F:Hp)(hK:KF F)(x:Hd)(A:Option Addr)(c:Nat)(hg:x.good)(hsl:Sl F 1 A x.nodes.length c (qAG x.nodes))(hsm: ∀s∈x.nodes,s.length≤1048576):
    Cz prog 41 [.agg #[N64 x.ep,Str x.par,I x.dep,I x.aud,.slice A x.nodes.length c]] F (Str (qB0 x.nodes x.dep)):=by
  refine Ct.walk func41 O ntmps41 O (λw0 hw0=>?_)
  refine J.g λ_ j1=>J.p (qAZ O O O) O λg1 _=>J.b O<|J.c j1 ?_
  refine J.g λ_ j2=>J.M 4 qDn qB1 O O O O O<|J.a7 1 qCC O O O O O<|J.M 2 qDn z3_ O O O O O<|J.a7 1 b3_ O O O O O<|J.p (qAa O O (λF' hF=>qU7 F' (hK.mo hF) x.dep x.nodes A c (hsl.mono (Fa hF)) hsm)) O λg10 _=>J.k 5 O<|J.c j2 ?_
  refine J.g λ_ j3=>J.k 2 O<|J.c j3 ?_
  exact J.A<|J.E hw0 O () O trivial [0] O xC
theorem el38:qCt prog 38 [.slice none 0 0] 24:=qCt.of xI O
theorem qPH{l:List Int}{k:Nat}(h:k<l.length):(qF0 l)[k]?=some [I (l.getD k 0)]:=by
 unfold qF0
 rw [jN,jC h,jB,jC h];rfl
structure WnD where
 lA:Option Addr
 lc:Nat
 l:List Int
def WnD.cells(x:WnD):List Value:= [.slice x.lA x.l.length x.lc]
def qDz:WnD:=⟨none,0,[]⟩
def qPX(l:List WnD):List (List Value):=l.map WnD.cells
theorem qIf{l:List WnD}{k:Nat}(h:k<l.length):(qPX l)[k]?=some (l.getD k qDz).cells:=by
 unfold qPX
 rw [jN,qAi qDz h];rfl
theorem qPm(a:List WnD)(x:WnD):qPX (a++ [x])=qPX a++ [x.cells]:=by simp [qPX]
theorem qFf{α:Type}(l:List α)(x no:α)(j:Nat)(h:j<l.length+1):(l++ [x]).getD j no=if j<l.length then l.getD j no else x:=by
  rw [jB]
  by_cases hlt:j<l.length
  · rw [if_pos hlt,jj hlt,←jB]
  · obtain rfl:j=l.length:=by omega
    rw [if_neg hlt,jk (jK _),zH];rfl
theorem qHE{a b:Hp}(h:Dj a b):Le a (U [a,b]):=qFO (qAd.2 (by simpa using h)) (.head _)
theorem qSy{a b:Hp}(h:Dj a b):Le b (U [a,b]):=qFO (qAd.2 (by simpa using h)) (.tail _ (.head _))
def qEr(G:Hp)(W:Nat→List Int)(sl:Nat)(ws:List WnD):Prop:= ∀b,b<ws.length→(ws.getD b qDz).l=(W b).take sl∧(ws.getD b qDz).l.length=sl∧Sl G 1 (ws.getD b qDz).lA (ws.getD b qDz).l.length (ws.getD b qDz).lc (qF0 (ws.getD b qDz).l)
theorem qEr.mono{G G':Hp}{W:Nat→List Int}{sl:Nat}{ws:List WnD}(h:qEr G W sl ws)(hl:Le G G'):qEr G' W sl ws:=λb hb=>⟨(h b hb).1,(h b hb).2.1,(h b hb).2.2.mono hl⟩
theorem qEr.nil(G:Hp)(W:Nat→List Int)(sl:Nat):qEr G W sl []:=λb h=>absurd h (jy b)
theorem qEr.snoc{G:Hp}{W:Nat→List Int}{sl:Nat}{ws:List WnD}{x:WnD}(h:qEr G W sl ws)(h1:x.l=(W ws.length).take sl)(h2:x.l.length=sl)(h3:Sl G 1 x.lA x.l.length x.lc (qF0 x.l)):qEr G W sl (ws++ [x]):=λb hb=>by
 rw [jA,jI] at hb
 rw [qFf ws x qDz b hb]
 split
 · exact h b xB
 · rw [show b=ws.length by omega];exact⟨h1,h2,h3⟩
def qMh(dg:xA)(n a sl:Nat)(W:Nat→List Int):Prop:= ∀b,b<n→ ∃st,Wd.wins 1 a (Sha.Strm.new (Wd.seedOf dg b)) sl=some (W b,st)
theorem qMm{fuel a:Nat}{s0:Sha.Strm}: ∀{k:Nat} {x:List Int×Sha.Strm},Wd.wins fuel a s0 k=some x→x.1.length=a
 |0,x,h=>by
  have:(Wd.start a,s0)=x:=zZ h
  rw [←this];simp [Wd.start]
 |k+1,x,h=>by
  obtain ⟨z,hz,h2⟩:=Option.bind_eq_some_iff.1 (show(Wd.wins fuel a s0 k).bind _=some x from h)
  obtain ⟨y,_,h3⟩:=Option.map_eq_some_iff.1 h2
  rw [←h3]
  dsimp only
  rw [jo,jo];exact qMm hz
structure WnR where
 A:Option Addr
 c:Nat
 mr:Hp
 G:Hp
 ws:List WnD
structure WnP (W:Nat→List Int) (n sl:Nat) (r:WnR):Prop where
 len:r.ws.length=n
 row:Row r.mr 38 1 r.A r.ws.length r.c (qPX r.ws)
 ok:qEr r.G W sl r.ws
theorem qWq{g a sl:Nat}{l:List Int}(hl:l.length=a)(hs:sl≤a):Sl (blk g (l.map λx=>I x) 3) 1 (some ⟨g,0,none⟩) (l.take sl).length sl (qF0 (l.take sl)):=by
  refine⟨by simp [qF0],by rw [jF];omega,λi x hx=>?_⟩
  unfold qF0 at hx
  rw [jN,zF] at hx
  split at hx
  · rename_i hi
    cases hq:l[i]? with
    |none=>rw [hq] at hx;cases hx
    |some v=>
      rw [hq] at hx
      have hx2: [I v]=x:=zZ hx
      subst hx2
      refine⟨O,⟨g,0,none⟩,O,?_⟩
      rw [Addr.add_lit]
      exact qAM.blk1 (0+i*1) (by rw [jN,jX,Nat.mul_one,hq];rfl)
  · cases hx
theorem qHv(F:Hp)(hK:KF F)(x:Hd)(A:Option Addr)(c:Nat)(hg:x.good)(hsl:Sl F 1 A x.nodes.length c (qAG x.nodes))(d a sl nd:Nat)(hd:d≤4)(hxd:x.dep=((d:Nat):Int))(hx:x.err=0)(h1:1≤nd)(h2:nd≤sl)(h3:sl≤a)(h4:a≤64)(W:Nat→List Int)(hW:qMh x.dig (2^d) a sl W):
    Ct prog 32 [.agg #[N64 x.ep,Str x.par,I x.dep,I x.aud,.slice A x.nodes.length c],I (a:Nat),.agg #[I (sl:Nat),I (nd:Nat)]] [F] (λr:WnR=> .tuple #[.slice r.A r.ws.length r.c,I 0]) (WnP W (2^d) sl) (λr=> [F,r.mr,r.G]):=by
  have hdl:=qMW hx
  have hdn:x.dig≠ []:=λe=>by rw [e] at hdl;exact absurd hdl xC
  have hpw:=qXL hd
  have hcn:=qC5 hd
  refine Ct.walk func32 O ntmps32 O (λw0 hw0=>?_)
  refine J.g λ_ j1=>J.p (qAZ O O O) O λg3 _=>J.p (qAZ O O O) O λg5 _=>J.k 2 O<|J.c j1 ?_
  refine J.g λ_ j2=>J.b8 1 qDF qBv O O O O O<|J.p (qAa O O (λF' hF=>qCl F' (hK.mo hF) x A c hg (hsl.mono (Fa hF)))) O λg14 _=>J.b O<|J.c j2 ?_
  refine J.q λ_ j3=>J.g λ_ j4=>J.b O<|J.f ((qBA O O O).no (hdn)) O<|J.b O<|J.D (qAA O O qHx O z3_ O) O<|J.D (qAC 2 O O O b3_ O) O<|J.D ((qAS O O O).no xB) O<|J.k 2 O<|J.D (qAA O O qHx O z3_ O) O<|J.D (qAC 2 O O O b3_ O) O<|J.D (qAA O O qHx O z3_ O) O<|J.D (qAC 2 O O O b3_ O) O<|J.D ((qAz O O O).no xB) O<|J.b O<|J.c j4 ?_
  refine J.a2 ?_
  refine J.T j3 ?_
  refine J.g λ_ j5=>J.b O<|J.c j5 ?_
  refine J.q λ_ j6=>J.g λ_ j7=>J.M 2 qDn z3_ O O O O O<|J.a7 1 b3_ O O O O O<|J.p (qAa O O (λF' hF=>(by have:=qCT F' x.dep;rw [hxd,hcn] at this;rw [hxd];exact this))) O λg31 _=>J.b O<|J.c j7 ?_
  refine J.V<|J.b6 (X:=Nat×List WnD×Option Addr×Nat×Hp×Hp) (λζ=> [(1,I (a:Nat)),(5,Ptr g5),(8,Str (x.dig)),(9,.slice ζ.2.2.1 ζ.2.1.length ζ.2.2.2.1),(31,I (2^d:Nat)),(32,I (ζ.1:Nat))]) (λζ=> [ζ.2.2.2.2.2,F,blk g3 [N64 x.ep,Str (x.par),I (x.dep),I (x.aud),.slice A x.nodes.length c] 34,blk g5 [I (sl:Nat),I (nd:Nat)] 26,ζ.2.2.2.2.1]) (λζ=>ζ.1≤2^d∧ζ.2.1.length=ζ.1∧Row ζ.2.2.2.2.1 38 1 ζ.2.2.1 ζ.2.1.length ζ.2.2.2.1 (qPX ζ.2.1)∧qEr ζ.2.2.2.2.2 W sl ζ.2.1) (λζ=>2^d-ζ.1) (0,[],none,0,(λ_=>none),(λ_=>none)) (⟨jG _,O,qBh.nil,qEr.nil _ _ _⟩) ⟨O,O,O,O,O,O,trivial⟩ (λ_ h=>h.empty.empty.pick [3,0,1,2,4] xC) ?_
  rintro⟨i,ws,Ar,cr,mr,G⟩ ⟨hi,hwsl,hrw,hok⟩ I0 hI0
  dsimp only at hi hwsl hrw hok⊢
  refine J.g λ_ j8=>J.f (qAS O O O) O<|J.c j8 ?_
  refine J.q λ_ j9=>J.a0 O (λh33=>?_) (λh33=>?_)
  ·
    refine J.T j9 ?_
    refine J.q λ_ j10=>J.V<|J.g λ_ j11=>J.k 2 O<|J.c j11 ?_
    refine J.q λ_ j12=>?_
    obtain ⟨st,hst⟩:=hW i xB
    refine J.H<|J.k 3 O<|J.M 0 qHx z3_ O O O O O<|J.a7 3 b3_ O O O O O<|J.p (qBr O O (λF' hF=>of_ct F' (hK.mo hF) x.dig (by rw [hdl];decide) i a sl xB h4 xB h3 1 (W i) st hst)) O ?_
    rintro g41 _
    have hwl:(W i).length=a:=qMm hst
    have htl:((W i).take sl).length=sl:=by rw [jF];omega
    rw [show(Value.slice (some ⟨g41,0,none⟩) sl sl)= .slice (some ⟨g41,0,none⟩) ((W i).take sl).length sl by rw [htl]]
    refine J.k 5 O<|J.c j12 ?_
    refine J.q λ_ j13=>J.g λ_ j14=>J.b O<|J.f ((qAe O O O).no xC) O<|J.c j14 ?_
    refine J.a2 ?_
    refine J.T j13 ?_
    obtain ⟨wx,hwx⟩: ∃x:WnD,x=⟨(some ⟨g41,0,none⟩),sl,(W i).take sl⟩:=⟨_,rfl⟩
    refine J.H<|J.k 2 O<|J.p (qAE (l:= [.tmp 48]) (xs:= [[.slice (some ⟨g41,0,none⟩) (((W i).take sl).length) sl]]) O O O O qIl el38 O xC xC xD) O λg49 _=>J.p (qAU (i:=4) (m2:=blk g49 [.slice (some ⟨g41,0,none⟩) (((W i).take sl).length) sl] 38) O O O qIl qIl el38 O hrw xD ((qAl (q:=True) (xs:=qPX [(⟨(some ⟨g41,0,none⟩),sl,((W i).take sl)⟩:WnD)]) O (by intro x hx;rw [List.mem_singleton.1 hx];rfl)).sl) O xB xB) O ?_
    rintro⟨A50,c50,m50⟩ h50
    try dsimp only at h50
    replace h50:Row m50 38 1 A50 (ws.length+1) c50 (qPX (ws++ [wx])):=by rw [qPm,hwx];exact h50
    rw [show ws.length+1=(ws++ [wx]).length by rw [jA];rfl] at h50⊢
    refine J.b O<|J.c5 [0,5,1,2,3,4] [G,blk g41 ((W i).map λx=>I x) 3,F,blk g3 [N64 x.ep,Str (x.par),I (x.dep),I (x.aud),.slice A x.nodes.length c] 34,blk g5 [I (sl:Nat),I (nd:Nat)] 26,m50] O xC<|J.d6 (λhj=>?_)
    refine J.a4<|J.a3<|J.u (J.G j10 ?_)
    exact J.H<|J.f ((qAQ O O O xB).nat (i+1) xB) O<|J.b O<|J.a4<|J.u<|J.a5 (i+1,ws++ [wx],A50,c50,m50,U [G,blk g41 ((W i).map λx=>I x) 3]) (λη (hη:_∧2^d-η.1<2^d-i)=>hI0 η hη.1 hη.2) ⟨⟨by dsimp only;omega,by dsimp only;rw [jA,hwsl];rfl,h50,(hok.mono (qHE hj)).snoc (by rw [hwx,hwsl]) (by rw [hwx];exact htl) (by rw [hwx];exact(qWq hwl h3).mono (qSy hj))⟩,by first|omega|(dsimp only;omega)⟩ ⟨O,O,O,O,O,O,trivial⟩ (λ_ h=>h)
  refine J.b3<|J.a1<|J.a1<|J.b4 ?_
  refine J.u (J.G j6 ?_)
  refine J.g λ_ j15=>J.k 3 O<|J.c j15 ?_
  exact J.A<|J.b0 hw0 (λ_ _ h=>h) (qCK O O O) (qAn (⟨Ar,cr,mr,G,ws⟩:WnR) O ⟨by dsimp only;omega,hrw,hok⟩ [1,4,0] O xC)
theorem qWN(x m j:Nat):(x^^^2^m)/2^j%2=if j=m then 1-x/2^j%2 else x/2^j%2:=by
  have h1:=Nat.testBit_eq_decide_div_mod_eq (x:=x^^^2^m) (i:=j)
  have h2:=Nat.testBit_eq_decide_div_mod_eq (x:=x) (i:=j)
  rw [Nat.testBit_xor,Nat.testBit_two_pow,h2] at h1
  have a1:(x^^^2^m)/2^j%2<2:=Nat.mod_lt _ xC
  have a2:x/2^j%2<2:=Nat.mod_lt _ xC
  by_cases h:j=m
  · rw [if_pos h]
    rw [decide_eq_true h.symm] at h1
    by_cases h3:x/2^j%2=1
    · rw [decide_eq_true h3] at h1
      have: ¬(x^^^2^m)/2^j%2=1:=by simpa using h1.symm
      omega
    · rw [decide_eq_false h3] at h1
      have:(x^^^2^m)/2^j%2=1:=by simpa using h1.symm
      omega
  · rw [if_neg h]
    rw [show decide (m=j)=false from decide_eq_false (λe=>h e.symm),Bool.xor_false] at h1
    have:=decide_eq_decide.1 h1
    omega
def turn(k:xA)(d:Nat):xA:=k.set (d/8) (k.getD (d/8) 0^^^UInt8.ofNat (1*2^(7-d%8)))
theorem qCJ(k:xA)(d:Nat):(turn k d).length=k.length:=by unfold turn;rw [jo]
theorem qEv{k:xA}(hk:k.length=16){d i:Nat}(hd:d<128)(hi:i<128):Sm.bit (turn k d) i=if i=d then 1-Sm.bit k i else Sm.bit k i:=by
  have hlt:i<8*k.length:=xB
  unfold Sm.bit
  rw [qCJ,if_pos hlt,if_pos hlt]
  unfold turn
  have h1:(1*2^(7-d%8))%256=2^(7-d%8):=by
    rw [Nat.one_mul]
    exact jb (zR (jh xC (show 7-d%8≤7 by omega)) xC)
  by_cases hq:i/8=d/8
  · rw [hq]
    have hg:(k.set (d/8) (k.getD (d/8) 0^^^UInt8.ofNat (1*2^(7-d%8)))).getD (d/8) 0=k.getD (d/8) 0^^^UInt8.ofNat (1*2^(7-d%8)):=by
      rw [jB,List.getElem?_set_self xB];rfl
    rw [hg,UInt8.toNat_xor,show(UInt8.ofNat (1*2^(7-d%8))).toNat=2^(7-d%8) by rw [zT];exact h1,qWN]
    by_cases hid:i=d
    · rw [if_pos (by rw [hid]),if_pos hid]
    · rw [if_neg xB,if_neg hid]
  · rw [jB,List.getElem?_set_ne (λe=>hq e.symm),←jB,if_neg (λe=>hq (by rw [e]))]
theorem qP5{k:xA}(hk:k.length=16){d:Nat}(hd:d<128):Sm.kv (turn k d)/2^(127-d)=2*(Sm.kv k/2^(128-d))+(1-Sm.bit k d):=by
 have h1:Sm.belowB (turn k d) k d=true:=Sm.belowB_yes λi hi=>by rw [qEv hk hd xB,if_neg xB]
 have h2:=(Sm.belowB_kv ((qCJ k d).trans hk) hk xB).1 h1
 have e:=Sm.pre_succ (Sm.kv (turn k d)) (127-d)
 rw [show 127-d+1=128-d by omega,h2,←Sm.bit_kv ((qCJ k d).trans hk) hd,qEv hk hd hd,if_pos O] at e
 exact e
theorem qQL{k:xA}(hk:k.length=16){d:Nat}(hd:d<128):Sm.kv k/2^(127-d)=2*(Sm.kv k/2^(128-d))+Sm.bit k d:=by
 have e:=Sm.pre_succ (Sm.kv k) (127-d)
 rw [show 127-d+1=128-d by omega,←Sm.bit_kv hk hd] at e
 exact e
def up(k:xA)(d:Nat)(x s:xA):xA:=if Sm.bit k d=0 then Sb.join x s else Sb.join s x
theorem qP0{kv:List Sm.PR}(hf:qCE kv){k:xA}(hk:k.length=16){d:Nat}(hd:d<128):up k d (Sm.ndB kv k (d+1)) (Sm.ndB kv (turn k d) (d+1))=Sm.ndB kv k d:=by
  have hb:=Sm.bit_le k d
  have ht:=qP5 hk hd
  have hs:=qQL hk hd
  unfold up
  split
  · rename_i h
    rw [h] at ht hs
    exact Sm.ndB_join hf.once hf.k16 hk hk ((qCJ k d).trans hk) hd hs ht
  · rename_i h
    rw [show Sm.bit k d=1 by omega] at ht hs
    exact Sm.ndB_join hf.once hf.k16 hk ((qCJ k d).trans hk) hk hd ht hs
def bsd(kv:List Sm.PR)(k:xA)(d n:Nat):List xA:=(List.range n).map λi=>Sm.ndB kv (turn k (d+i)) (d+i+1)
theorem qU6(kv:List Sm.PR)(k:xA)(d n:Nat):bsd kv k d (n+1)=bsd kv k d n++ [Sm.ndB kv (turn k (d+n)) (d+n+1)]:=by unfold bsd;rw [jx,jM];rfl
theorem qCr(kv:List Sm.PR)(k:xA)(d n:Nat):(bsd kv k d n).length=n:=by unfold bsd;rw [jO,zX]
theorem qMZ(kv:List Sm.PR)(k:xA)(d:Nat){n i:Nat}(hi:i<n):(bsd kv k d n).getD i []=Sm.ndB kv (turn k (d+i)) (d+i+1):=by
 unfold bsd
 rw [jB,jN,zC hi];rfl
def clm(k:xA)(d:Nat)(bs:List xA)(x:xA):Nat→xA
 |0=>x
 |i+1=>up k (d+(bs.length-1-i)) (clm k d bs x i) (bs.getD (bs.length-1-i) [])
theorem qJd{kv:List Sm.PR}(hf:qCE kv){k:xA}(hk:k.length=16){d n:Nat}(hd:d+n≤128): ∀i,i≤n→clm k d (bsd kv k d n) (Sm.ndB kv k (d+n)) i=Sm.ndB kv k (d+n-i)
 |0,_=>rfl
 |i+1,hi=>by
  rw [clm,qJd hf hk hd i xB,qCr,qMZ _ _ _ xB]
  have h:=qP0 hf hk (d:=d+(n-1-i)) xB
  rw [show d+(n-1-i)+1=d+n-i by omega] at h⊢
  rw [h,show d+(n-1-i)=d+n-(i+1) by omega]
theorem qNn{a b:xA}(ha:a.length≤17)(hb:b.length≤17):(Sb.join a b).length≤17:=by
  have e:Sb.join a b=if a= [0]∧(b= [0]∨Sb.isLf b) then b else if b= [0]∧Sb.isLf a then a else 2::Sha.tagged 10 [a,b]:=by unfold Sb.join;rfl
  rw [e]
  split
  · exact hb
  · split
    · exact ha
    · rw [jD,Sha.tagged_length];decide
theorem qK6{k:xA}{d:Nat}{bs:List xA}{x:xA}(hb: ∀s∈bs,s.length≤17)(hx:x.length≤17): ∀i,(clm k d bs x i).length≤17
 |0=>hx
 |i+1=>by
  have h1:=qK6 (k:=k) (d:=d) hb hx i
  have h2:(bs.getD (bs.length-1-i) []).length≤17:=by
   by_cases h:bs.length-1-i<bs.length
   · rw [jB,jC h];exact hb _ (ja h)
   · rw [jB,ji xB];exact jG _
  rw [clm,up]
  split
  · exact qNn h1 h2
  · exact qNn h2 h1
def cur(kv:List Sm.PR)(k:xA)(d:Nat):List Sm.PR:=Sm.bel kv k d
def kd(kv:List Sm.PR)(k:xA)(d:Nat):List xA:=(Sm.keysS kv).filter λq=>Sm.belowB q k d
theorem qHJ{kv:List Sm.PR}(ho:Sm.Once kv)(k:xA)(d:Nat):(kd kv k d).length=(cur kv k d).length:=by
 have h:(Sm.prs kv (kd kv k d)).length=(kd kv k d).length:=Sm.prs_len _ _
 rw [←h]
 unfold kd
 rw [Sm.prs_filter]
 exact((Sm.prs_perm ho).filter _).length_eq
theorem qPR{q k:xA}{d:Nat}(h:Sm.belowB q k (d+1)=true):Sm.belowB q k d=true:=by
 rw [Sm.belowB_succ,jS] at h;exact h.1
theorem qX0(kv:List Sm.PR)(k:xA)(d:Nat):(kd kv k d).filter (λq=>Sm.belowB q k (d+1))=kd kv k (d+1):=by
 unfold kd
 rw [zm]
 refine zw λq _=>?_
 cases h:Sm.belowB q k (d+1) with
 |false=>rfl
 |true=>rw [qPR h];rfl
structure qGR (kv:List Sm.PR) (k:xA) (d s:Nat):Prop where
 ge:d≤s
 le:s≤128
 one:(cur kv k s).length≤1
 two: ∀e,d≤e→e<s→2≤(cur kv k e).length
theorem qGR.uniq{kv:List Sm.PR}{k:xA}{d s t:Nat}(h:qGR kv k d s)(g:qGR kv k d t):s=t:=by
 rcases Nat.lt_trichotomy s t with h1|h1|h1
 · have:=g.two s h.ge h1;have:=h.one;omega
 · exact h1
 · have:=h.two t g.ge h1;have:=g.one;omega
theorem qGR.from{kv:List Sm.PR}{k:xA}{d e s:Nat}(h:qGR kv k d s)(h1:d≤e)(h2:e≤s):qGR kv k e s:=⟨h2,h.le,h.one,λx q1 q2=>h.two x xB q2⟩
theorem qYH{kv:List Sm.PR}(hf:qCE kv){k:xA}(hk:k.length=16):(cur kv k 128).length≤1:=(Sm.bel_wf hf.once hf.k16 hk (d:=128) (jK _)).short
def qAm(kv:List Sm.PR)(k:xA)(s:Nat):Bool:=decide ((kd kv k s).length=1)
def qBm(kv:List Sm.PR)(k:xA)(s:Nat):xA:=if(kd kv k s).length=1 then(kd kv k s).getD 0 [] else []
def qBs(kv:List Sm.PR)(k:xA)(s:Nat):xA:=if(kd kv k s).length=1 then(Sm.getP kv ((kd kv k s).getD 0 [])).getD [] else []
theorem qHV{kv:List Sm.PR}(ho:Sm.Once kv){k:xA}{s:Nat}(h:(kd kv k s).length=1):cur kv k s= [(qBm kv k s,qBs kv k s)]:=by
 obtain ⟨q,hq⟩:=List.length_eq_one_iff.1 h
 have h1:(cur kv k s).Perm (Sm.prs kv (kd kv k s)):=by
  unfold kd
  rw [Sm.prs_filter]
  exact(Sm.prs_perm ho).symm.filter _
 unfold qBm qBs
 rw [if_pos h,if_pos h,hq]
 rw [hq] at h1
 exact List.perm_singleton.1 h1
theorem qJL: ∀{f:Nat} {l:List Sm.PR},Sm.WF f l→Sm.nd f l= [0]∨((Sm.nd f l).length=17∧(((Sm.nd f l).getD 0 0).toNat=1∨((Sm.nd f l).getD 0 0).toNat=2))
  |f,[],_=> .inl (Sm.nd_nil f)
  |f,[p],_=> .inr (by rw [Sm.nd_one];unfold Sb.leafN;exact⟨by rw [jD,Sha.tagged_length],.inl O⟩)
  |0,a::b::r,hw=>by have:=hw.short;simp at this
  |f+1,a::b::r,hw=>by
    rw [Sm.nd_two f xD]
    have e: ∀x y,Sb.join x y=if x= [0]∧(y= [0]∨Sb.isLf y) then y else if y= [0]∧Sb.isLf x then x else 2::Sha.tagged 10 [x,y]:=λx y=>by unfold Sb.join;rfl
    rw [e]
    split
    · exact qJL (hw.side false)
    · split
      · exact qJL (hw.side true)
      · exact .inr ⟨by rw [jD,Sha.tagged_length],.inr O⟩
theorem qMB: ∀{f:Nat} {l:List Sm.PR},Sm.WF f l→2≤l.length→((Sm.nd f l).getD 0 0).toNat=2
  |0,l,hw,h=>by have:=hw.short;omega
  |f+1,l,hw,h=>by
    rw [Sm.nd_two f h]
    have e: ∀x y,Sb.join x y=if x= [0]∧(y= [0]∨Sb.isLf y) then y else if y= [0]∧Sb.isLf x then x else 2::Sha.tagged 10 [x,y]:=λx y=>by unfold Sb.join;rfl
    have hs:=Sm.side_len f l
    have z1:=Sm.nd_eq0 (hw.side true)
    have z2:=Sm.nd_eq0 (hw.side false)
    rw [e]
    split
    · rename_i hc
      have h0:(Sm.side f true l).length=0:=by rw [z1.1 hc.1];rfl
      have h2:=qMB (hw.side false) xB
      exact h2
    · split
      · rename_i hc
        have h0:(Sm.side f false l).length=0:=by rw [z2.1 hc.1];rfl
        exact qMB (hw.side true) xB
      · rfl
def qJI(s:xA):Bool:=decide (s= [0]∨(s.length=17∧((s.getD 0 0).toNat=1∨(s.getD 0 0).toNat=2)))
structure qHb (bs:List xA) (th:Bool) (pk pv k:xA) (d:Nat):Prop where
 k16:k.length=16
 le:d+bs.length≤128
 nodes: ∀j,j<bs.length→qJI (bs.getD j [])=true
 last:0<bs.length→bs.getD (bs.length-1) []≠ [0]∧(th=false→((bs.getD (bs.length-1) []).getD 0 0).toNat=2)
 no:th=false→pk= []∧pv= []
 yes:th=true→pk.length=16∧Sm.belowB pk k (d+bs.length)=true
 small: ∀s∈bs,s.length≤17
theorem qSW(kv:List Sm.PR)(k:xA)(d n:Nat): ∀s∈bsd kv k d n,s.length≤17:=λs hs=>by
 unfold bsd at hs
 obtain ⟨i,_,rfl⟩:=List.mem_map.1 hs
 exact qRK _ _ _
theorem qV2{kv:List Sm.PR}{k q:xA}{s:Nat}(h:q∈kd kv k s):(∃v,(q,v)∈kv)∧Sm.belowB q k s=true:=by
 obtain ⟨h1,h2⟩:=List.mem_filter.1 h
 exact⟨Sm.keysS_mem.1 h1,h2⟩
theorem qQ1{kv:List Sm.PR}(hf:qCE kv){k:xA}(hk:k.length=16){e:Nat}(he:e<128):(cur kv k (e+1)).length+(Sm.bel kv (turn k e) (e+1)).length=(cur kv k e).length:=by
  have hb:=Sm.bit_le k e
  have ht:=qP5 hk he
  have hs:=qQL hk he
  have h:=Sm.side_len (127-e) (Sm.bel kv k e)
  have hl:=hf.k16
  unfold cur
  by_cases h0:Sm.bit k e=0
  · rw [h0] at ht hs
    rw [Sm.bel_half hl hk hk he true (by rw [if_pos rfl];exact hs),Sm.bel_half hl hk ((qCJ k e).trans hk) he false (by rw [if_neg xC];exact ht)]
    exact h
  · rw [show Sm.bit k e=1 by omega] at ht hs
    rw [Sm.bel_half hl hk hk he false (by rw [if_neg xC];exact hs),Sm.bel_half hl hk ((qCJ k e).trans hk) he true (by rw [if_pos rfl];exact ht)]
    omega
theorem qEG{kv:List Sm.PR}(hf:qCE kv){k:xA}(hk:k.length=16){d s:Nat}(h:qGR kv k d s):qHb (bsd kv k d (s-d)) (qAm kv k s) (qBm kv k s) (qBs kv k s) k d:=by
  have hle:=h.le
  have hge:=h.ge
  have ht16: ∀e,(turn k e).length=16:=λe=>(qCJ k e).trans hk
  refine⟨hk,by rw [qCr];omega,λj hj=>?_,λh0=>?_,λht=>?_,λht=>?_,qSW _ _ _ _⟩
  · rw [qCr] at hj
    rw [qMZ _ _ _ hj]
    exact decide_eq_true (qJL (Sm.bel_wf hf.once hf.k16 (ht16 _) xB))
  · rw [qCr] at h0⊢
    rw [qMZ _ _ _ xB]
    have h2:=h.two (d+(s-d-1)) xB xB
    have ho:=qQ1 hf hk (e:=d+(s-d-1)) xB
    have hone:=h.one
    rw [show d+(s-d-1)+1=s by omega] at ho⊢
    have hw:=Sm.bel_wf hf.once hf.k16 (ht16 (d+(s-d-1))) (d:=s) hle
    refine⟨λe=>?_,λhth=>?_⟩
    · have:=(Sm.nd_eq0 hw).1 e
      rw [this] at ho
      simp at ho
      omega
    · have h3:(kd kv k s).length≠1:=of_decide_eq_false hth
      rw [qHJ hf.once] at h3
      exact qMB hw xB
  · have h3:(kd kv k s).length≠1:=of_decide_eq_false ht
    unfold qBm qBs
    rw [if_neg h3,if_neg h3];exact⟨O,O⟩
  · have h3:(kd kv k s).length=1:=of_decide_eq_true ht
    obtain ⟨q,hq⟩:=List.length_eq_one_iff.1 h3
    have hm:q∈kd kv k s:=by rw [hq];exact .head _
    obtain ⟨⟨v,hv⟩,hb⟩:=qV2 hm
    unfold qBm
    rw [if_pos h3,hq,qCr,show d+(s-d)=s by omega]
    exact⟨hf.k16 _ hv,hb⟩
theorem qUu{kv:List Sm.PR}(hf:qCE kv){k:xA}{d s:Nat}(h:qGR kv k d s):(if qAm kv k s=true then Sb.leafN (qBm kv k s) (qBs kv k s) else [0])=Sm.ndB kv k s:=by
  unfold Sm.ndB
  have e1:Sm.bel kv k s=cur kv k s:=rfl
  have hone:=h.one
  by_cases h3:(kd kv k s).length=1
  · rw [if_pos (show qAm kv k s=true from decide_eq_true h3),e1,qHV hf.once h3,Sm.nd_one]
  · rw [if_neg (by unfold qAm;rw [decide_eq_false h3];decide)]
    rw [qHJ hf.once] at h3
    rw [e1,jU (show(cur kv k s).length=0 by omega),Sm.nd_nil]
theorem qYz{kv:List Sm.PR}(hf:qCE kv){k:xA}{d s:Nat}(h:qGR kv k d s):
    (Sm.getP kv k).isSome=(qAm kv k s&&decide (qBm kv k s=k))∧(qAm kv k s=true→qBm kv k s=k→Sm.getP kv k=some (qBs kv k s)):=by
  have hself:Sm.belowB k k s=true:=Sm.belowB_yes λ_ _=>rfl
  have hone:=h.one
  have hmem: ∀v,Sm.getP kv k=some v→(k,v)∈cur kv k s:=λv hv=>List.mem_filter.2 ⟨Sm.getP_some hv,hself⟩
  by_cases h3:(kd kv k s).length=1
  · have hc:=qHV hf.once h3
    have ht:qAm kv k s=true:=decide_eq_true h3
    have hin:(qBm kv k s,qBs kv k s)∈kv:=(List.mem_filter.1 (show(qBm kv k s,qBs kv k s)∈cur kv k s by rw [hc];exact .head _)).1
    rw [ht,Bool.true_and]
    by_cases hk:qBm kv k s=k
    · have hg:=Sm.getP_mem hf.once hin
      rw [show(qBm kv k s,qBs kv k s).1=k from hk] at hg
      rw [hg,decide_eq_true hk]
      exact⟨O,λ_ _=>rfl⟩
    · rw [decide_eq_false hk]
      refine⟨?_,λ_ q=>absurd q hk⟩
      cases hg:Sm.getP kv k with
      |none=>rfl
      |some v=>
        have:=hmem v hg
        rw [hc,jT] at this
        injection this with e _
        exact absurd e.symm hk
  · have ht:qAm kv k s=false:=decide_eq_false h3
    rw [ht,Bool.false_and]
    refine⟨?_,λq=>by cases q⟩
    rw [qHJ hf.once] at h3
    have h0:cur kv k s= []:=jU xB
    cases hg:Sm.getP kv k with
    |none=>rfl
    |some v=>
      have:=hmem v hg
      rw [h0] at this;cases this
theorem qNY{s:xA}(h:s= [0]):qJI s=true:=decide_eq_true (.inl h)
theorem qFu{s:xA}(h1:s.length=17)(h2:(s.getD 0 0).toNat=1∨(s.getD 0 0).toNat=2):qJI s=true:=decide_eq_true (.inr ⟨h1,h2⟩)
theorem qDy{s:xA}(h0: ¬s= [0])(h: ¬(s.length=17∧((s.getD 0 0).toNat=1∨(s.getD 0 0).toNat=2))):qJI s=false:=decide_eq_false (λq=>q.elim h0 h)
theorem qUY{s:xA}(h:(s.getD 0 0).toNat=2):0<s.length:=by
 cases s with
 |nil=>cases h
 |cons a r=>exact Nat.zero_lt_succ _
end Go.Proofs.YtcgcjaflllmlpaaGreatDoor