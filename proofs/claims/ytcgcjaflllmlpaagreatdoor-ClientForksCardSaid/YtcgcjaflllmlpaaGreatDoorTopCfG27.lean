/- A part of the proof. -/
import Derived.Test.YtcgcjaflllmlpaaGreatDoorTopCfG24
import Derived.Test.YtcgcjaflllmlpaaGreatDoorTopCfG26
import Derived.Test.YtcgcjaflllmlpaaGreatDoorTopCfG8
import Derived.Test.YtcgcjaflllmlpaaGreatDoorTopCfG6
import Derived.Test.YtcgcjaflllmlpaaGreatDoorTopCfG17
set_option linter.unusedSimpArgs false
set_option linter.unusedVariables false
namespace Go.Proofs.YtcgcjaflllmlpaaGreatDoor
open Go Go.Fw Go.Proofs.Tryz
set_option maxRecDepth 100000
set_option maxHeartbeats 1000000
theorem qUX{k:List UInt8}(hk:k.length=16){i:Nat}(hi:i≤16):Sm.kv k/2^(128-i)<2^i:=by
 have h:=Sm.kv_lt k
 rw [hk] at h
 rw [z7 (jz _),←Nat.pow_add,show i+(128-i)=128 by omega]
 exact yN h (by decide)
theorem qWW{i:Nat}(hi:i≤16):2^i≤65536:=jb (jf (by decide) hi) (by decide)
def qFN(k:List UInt8):Nat→Nat
 |0=>0
 |i+1=>qFN k i*2^1|||Sm.bit k i
theorem qJK(k:List UInt8): ∀i,qFN k i<2^i
 |0=>Nat.one_pos
 |i+1=>by
  have h1:=qJK k i
  have h2:=Sm.bit_le k i
  have h3:2^(i+1)=2^i*2:=jr 2 i
  have e:=Nat.two_pow_add_eq_or_of_lt (i:=1) (b:=Sm.bit k i) (by omega) (qFN k i)
  rw [qFN,zp,←e]
  omega
def kF(n d:Nat):List UInt8:= [UInt8.ofNat (n*2^(16-d)/2^8),UInt8.ofNat (n*2^(16-d)),0,0,0,0,0,0,0,0,0,0,0,0,0,0]
theorem qHr(n d:Nat):(kF n d).length=16:=rfl
theorem qUy{n d:Nat}(hd:d≤16)(hn:n<2^d):n*2^(16-d)<65536:=by
 have h:=Nat.mul_lt_mul_of_pos_right hn (jz (16-d))
 rw [←Nat.pow_add,show d+(16-d)=16 by omega] at h
 exact h
theorem kF_kv{n d:Nat}(hd:d≤16)(hn:n<2^d):Sm.kv (kF n d)=n*2^(128-d):=by
 have ht:=qUy hd hn
 obtain ⟨t,hte⟩: ∃t,t=n*2^(16-d):=⟨_,rfl⟩
 have e:n*2^(128-d)=t*2^112:=by rw [hte,Nat.mul_assoc,←Nat.pow_add,show 16-d+112=128-d by omega]
 have h1:(UInt8.ofNat (t/2^8)).toNat=t/2^8:=UInt8.toNat_ofNat_of_lt' (by show _<256;omega)
 have h2:(UInt8.ofNat t).toNat=t%256:=by simp
 rw [e]
 unfold kF
 rw [←hte]
 simp only [Sm.kv,jD,jE,h1,h2]
 show t/2^8*256^15+(t%256*256^14+0)=_
 rw [show(256:Nat)^15=256*2^112 by decide,show(256:Nat)^14=2^112 by decide,←Nat.mul_assoc,za,←zk]
 congr 1
 omega
theorem qQ7{n d:Nat}(hd:d≤16)(hn:n<2^d):Sm.kv (kF n d)/2^(128-d)=n:=by rw [kF_kv hd hn,Nat.mul_div_cancel _ (jz _)]
theorem qXh(F:Hp)(k:List UInt8)(hk:k.length≤1000000)(d:Nat)(hd:d≤16):Cz prog 139 [Str (k),I ((d:Nat):Int)] F (I ((qFN k d:Nat):Int)):=by
 refine Ct.walk func139 rfl ntmps139 rfl (λw0 hw0=>?_)
 refine J.f λ_ j1=>J.b O<|J.c j1<|J.k λ_ j2=>J.f λ_ j3=>J.b O<|J.g (qAT O O O) O<|J.b O<|J.b9 (d:=9) O (λh9=>?_) (λh9=>?_)
 ·
  refine J.q 3 O<|J.c j3<|J.c4 ?_
  exact J.f λ_ j4=>J.b O<|J.c j4<|J.A<|J.V<|J.E hw0 O () (by exfalso;omega) trivial [0] O (by decide)
 refine J.b O<|J.G (qA5 O O O) O<|J.b O<|J.c j3<|J.W O (λh12=>?_) (λh12=>?_)
 ·
  exact J.f λ_ j5=>J.b O<|J.c j5<|J.A<|J.V<|J.E hw0 O () (by exfalso;omega) trivial [0] O (by decide)
 refine J.M j2<|J.f λ_ j6=>J.b O<|J.c j6<|J.k λ_ j7=>J.f λ_ j8=>J.q 2 O<|J.c j8<|J.O<|J.b4 (X:=Nat) (λζ=> [(0,Str (k)),(5,I ((qFN k ζ:Nat):Int)),(13,I ((d:Nat):Int)),(14,I ((ζ:Nat):Int))]) (λζ=> [F]) (λζ=>ζ≤d) (λζ=>d-ζ) 0 (jG _) ⟨O,O,O,O,trivial⟩ (λ_ h=>h) ?_
 rintro i hi I0 hI0
 have hlt:=qJK k i
 have hp16:=qWW (i:=i) (by omega)
 have hbl:=Sm.bit_le k i
 refine J.f λ_ j9=>J.g (qAT O O O) O<|J.c j9<|J.k λ_ j10=>J.W O (λh15=>?_) (λh15=>?_)
 ·
  refine J.M j10<|J.k λ_ j11=>J.O<|J.f λ_ j12=>J.q 2 O<|J.c j12<|J.H<|J.b O<|J.g (qLZ (a:=qFN k i) (m:=1) O O O (by omega)) O<|J.q 2 O<|J.p (qAB O O ent151 (Ct.use0 (λF' hF=>qKp F' k (by first|omega|exact hsm _) i (by omega)))) O λg21 _=>J.g (qU4 (a:=(qFN k i)*2^1) (b:=Sm.bit k i) O O O (by omega)) O<|J.b O<|J.a3<|J.a2<|J.u (J.D j11 ?_)
  exact J.H<|J.g ((qAS O O O (by omega)).nat (i+1) (by omega)) O<|J.b O<|J.a3<|J.u<|J.a4 (i+1) (λη (hη:_∧d-η<d-i)=>hI0 η hη.1 hη.2) ⟨(by omega),by first|omega|(dsimp only;omega)⟩ ⟨O,O,O,O,trivial⟩ (λ_ h=>h)
 refine J.b2<|J.a0<|J.a0<|J.b3 ?_
 refine J.u (J.D j7 ?_)
 exact J.f λ_ j13=>J.q 2 O<|J.c j13<|J.A<|J.E hw0 O () (by rw [show i=d by omega]) trivial [0] rfl (by decide)
theorem qKX(F:Hp)(n d:Nat)(hd:d≤16)(hn:n<2^d):Cz prog 141 [I ((n:Nat):Int),I ((d:Nat):Int)] F (Str (kF n d)):=by
 have hp16:=qWW hd
 have htl:=qUy hd hn
 have hpe:2^(16-d)≤65536:=qWW (Nat.sub_le _ _)
 refine Ct.walk func141 rfl ntmps141 rfl (λw0 hw0=>?_)
 refine J.f λ_ j1=>J.b O<|J.c j1<|J.f λ_ j2=>J.p (qCC (n':=16) O O qBl el5 (by omega) (by omega)) O ?_
 rintro g7 _
 change J _ ((7,.slice (some ⟨g7,0,none⟩) 16 16)::_) _ [F,blk g7 (List.replicate 16 [.int .u8 0]).flatten 5] _
 refine J.b O<|J.c j2<|J.k λ_ j3=>J.f λ_ j4=>J.b O<|J.g ((qBA O O O).yes (by omega)) O<|J.q 2 O<|J.G ((qCM O O O).yes (by omega)) O<|J.q 3 O<|J.G ((qBA O O O).yes (by omega)) O<|J.q 4 O<|J.G ((qLZ (a:=1) (m:=d) O O O ⟨by omega,by omega⟩)) O<|J.G ((qAT O O O).yes (by omega)) O<|J.b O<|J.c j4<|J.c4 ?_
 refine J.f λ_ j5=>J.q 2 O<|J.g ((qA4 O O O (by omega)).nat (16-d) (by omega)) O<|J.g (qLZ O O O (by first|omega|decide|(simp only [jm,jJ] at*;omega))) rfl<|J.b rfl<|J.c j5<|J.H<|J.q 3 rfl<|J.g (qQX rfl rfl rfl (by first|omega|decide|(simp only [jm,jJ] at*;omega))) rfl<|J.g (qAv rfl rfl u3_ u5_) rfl<|J.b rfl<|J.g (qAv rfl rfl u3_ u5_) rfl<|J.g (qAi (i:=0) (j:=0+0*1) rfl rfl rfl qBl z5_ (by first|omega|decide|(simp only [jm,jJ] at*;omega)) (by omega)) rfl<|J.a6 (qBR (i:=1) (k:=0) (off:=0) (b:= [B8 (UInt8.ofNat ((n*2^(16-d))/2^8))]) rfl rfl rfl rfl (qAl (q:=True) (sz:=1) (xs:=qAf (List.replicate 16 0)) rfl (by intro x hx;obtain ⟨_,_,rfl⟩:=List.mem_map.1 hx;rfl)) (vs:= [B8 (UInt8.ofNat ((n*2^(16-d))/2^8))]) rfl z5_ rfl (by omega) (qBk (qAj 0 (by first|omega|decide|(simp only [jm,jJ] at*;omega)))) rfl (jK _)) rfl rfl ?_
 rintro m4_1 hm4_1
 rw [qFM] at hm4_1
 refine J.g (qAi (i:=1) (j:=0+1*1) O O O qBl z5_ (by first|omega|decide|(simp only [jm,jJ] at*;omega)) (by omega)) rfl<|J.a6 (qBR (i:=1) (k:=1) (off:=0) (b:= [B8 (UInt8.ofNat (n*2^(16-d)))]) rfl rfl rfl rfl hm4_1 (vs:= [B8 (UInt8.ofNat (n*2^(16-d)))]) rfl z5_ rfl (by omega) (qBk (qAj 0 (by first|omega|decide|(simp only [jm,jJ] at*;omega)))) rfl (jK _)) rfl rfl ?_
 rintro m4_2 hm4_2
 rw [qFM] at hm4_2
 exact J.c j3<|J.f λ_ j6=>J.b O<|J.g (qBi O O qBl u5_ u9_ (m:=m4_2) (by simp) hm4_2.sl) rfl<|J.b rfl<|J.c j6<|J.A<|J.E hw0 rfl () (by unfold kF;rfl) trivial [0] rfl (by decide)
def belR(m:List Pr)(k:List UInt8)(d:Nat):List Pr:=m.filter λp=>Sm.belowB p.k k d
theorem qUW(m:List Pr)(k:List UInt8)(d:Nat):(belR m k d).map toP=Sm.bel (m.map toP) k d:=by
 unfold belR Sm.bel
 rw [List.filter_map];rfl
theorem qDq.ndB{m:List Pr}{kv:List Sm.PR}(h:qDq m kv){k:List UInt8}(hk:k.length=16){d:Nat}(hd:d≤128):Sm.ndB kv k d=Sm.nd (128-d) ((belR m k d).map toP):=by
 rw [qUW];exact(Sm.ndB_perm h.once h.k16 h.perm hk hd).symm
theorem qQm(l:List Sm.PR)(b:List UInt8)(d:Nat):(Sm.ndB l b d).length≤17:=Sm.nd_small _ _
theorem qOW{kv:List Sm.PR}(hf:qCJ kv){k:List UInt8}(hk:k.length=16){d:Nat}(hd:d≤15){n:Nat}(hn:n=Sm.kv k/2^(128-d)):
    Sb.join (Sm.ndB kv (kF (2*n) (d+1)) (d+1)) (Sm.ndB kv (kF (2*n+1) (d+1)) (d+1))=Sm.ndB kv k d:=by
  have hlt:=qUX hk (i:=d) (by omega)
  have h2:2^(d+1)=2^d*2:=jr 2 d
  have f0:=qQ7 (n:=2*n) (d:=d+1) (by omega) (by omega)
  have f1:=qQ7 (n:=2*n+1) (d:=d+1) (by omega) (by omega)
  rw [show 128-(d+1)=127-d by omega] at f0 f1
  exact Sm.ndB_join hf.once hf.k16 hk (qHr _ _) (qHr _ _) (by omega) (by rw [f0,hn]) (by rw [f1,hn])
attribute [local irreducible] Sha.tagged Sb.join Sb.lvl Sb.lvls Sb.root
theorem qUM(F:Hp)(A:Option Addr)(n c:Nat):Ct prog 154 [.slice A n c,I 2] [F] (λx:Nat×Nat=> .func (.func 193) #[] #[Ptr x.1,Ptr x.2]) (λ_=>True) (λx=> [F,blk x.1 [.slice A n c] 32,blk x.2 [I 2] 3]):=by
 refine Ct.walk func154 rfl ntmps154 rfl (λw0 hw0=>?_)
 refine J.f λ_ j1=>J.p (qAd O O O) O λg2 _=>J.p (qAd O O O) O λg3 _=>J.b O<|J.c j1<|J.k λ_ j2=>J.f λ_ j3=>J.a5 2 b3_ O O O O O<|J.g ((qAT O O O).no (by omega)) O<|J.c j3<|J.a1 ?_
 exact J.M j2<|J.f λ_ j4=>J.g (qBg O O) O<|J.b O<|J.c j4<|J.A<|J.E hw0 O (g2,g3) O trivial [0,1,2] O (by decide)
theorem qRg(Fr:Hp)(gA gB:Nat)(A:Option Addr)(N n c:Nat)(hn:n=2*N)(hnc:n≤c)(hn2:n≤1073741824)(ha:qAR Fr ⟨gA,0,none⟩ [.slice A n c])(hb:qAR Fr ⟨gB,0,none⟩ [I 2]):
    qJL prog 193 [Ptr gA,Ptr gB] Fr (λi=> [.slice (A.map (·.add (2*i*1))) 2 2]) N:=by
  refine qJL.walk func193 rfl ntmps193 rfl (λ{X} M IY S l x0 w0 hw0 h0 hY=>?_)
  refine J.f λ_ j1=>J.b O<|J.c j1<|J.O<|J.b4 (X:=Nat×X) (λy=> [(0,.func (.yield l) #[] #[]),(1,Ptr gA),(2,Ptr gB),(4,I ((2*y.1:Nat):Int))]) (λy=> [Fr,M y.2]) (λy=>y.1≤N∧IY y.1 y.2) (λy=>N-y.1) (0,x0) (⟨jG _,h0⟩) ⟨O,O,O,O,trivial⟩ (λ_ h=>h) ?_
  rintro⟨i,x⟩ ⟨hi,hI⟩ I0 hI0
  dsimp only at hi hI⊢
  refine J.k λ_ j2=>J.f λ_ j3=>J.b O<|J.g (qAJ O O qB8 (m:=Fr) (by simp) (ha)) rfl<|J.g (qAU qAk rfl rfl) rfl<|J.g (qAT rfl rfl rfl) rfl<|J.c j3<|J.W rfl (λh9=>?_) (λh9=>?_)
  ·
    refine J.M j2<|J.k λ_ j4=>J.O<|J.k λ_ j5=>J.b0 [Fr,M x] [] (.y 0 (.y 1 (.y 2 (.y 3 (.y 4 (.y 5 (.y 6 .nil))))))) Tryz.wide (by decide+kernel) (by simp) ?_
    refine J.j O (qAJ O O b3_ (m:=Fr) (by simp) (hb)) rfl rfl<|J.j rfl (qAJ rfl rfl qB8 (m:=Fr) (by simp) (ha)) rfl rfl<|J.L ?_
    refine J.j O (qDE O O qAk z9_ O O (by omega)) O O<|J.j O (qAU qAk O O) O O<|J.j O ((qFT O O O).nat (2) (by omega)) O O<|J.b6 ?_
    refine J.a8<|J.u (J.D j5 ?_)
    refine J.k λ_ j6=>J.f5 ?_
    refine J.c5 (qA0 O O) O O O ?_
    refine J.c5 (qAJ O O qB8 (m:=Fr) (by simp) (ha)) rfl rfl rfl ?_
    refine J.c5 (qA0 O O) O O O ?_
    refine J.c5 (qA0 O O) O O O ?_
    refine J.c5 (qA0 O O) O O O ?_
    refine J.c5 ((qAS O O O (by omega)).nat (2*i+2) (by omega)) O O O ?_
    refine J.c5 (qA0 O O) O O O ?_
    refine J.c5 (qA0 O O) O O O ?_
    refine J.c5 ((qAS O O O (by omega)).nat (2*i+2) (by omega)) O O O ?_
    refine J.c5 ((qOO O O qAk z9_ O O O (by omega)).as (v':= .slice (A.map (·.add (2*i*1))) 2 2) (by rw [if_neg (by omega),show 2*i+2-2*i=2 by omega])) rfl rfl rfl ?_
    refine J.f6 (ex:= []) O O O O O O (hY i x (by omega) hI) ?_
    rintro x' b hb1 hb2
    cases b
    ·
      have hyb:=hb2 rfl
      refine J.c5 (qAy O O) O O O ?_
      refine J.e2 ?_
      refine J.u (J.D j6 ?_)
      refine J.c4 ?_
      exact J.A<|J.a7<|J.V<|J.V<|J.a7<|J.a9 hw0 (λ_ _ h=>h) (qJP O) (λw hs=>⟨x',⟨_,O⟩,.inr hyb,hs⟩)
    have hyb:=hb1 rfl
    refine J.c5 (qAy O O) O O O ?_
    refine J.e2 ?_
    refine J.u (J.D j6 ?_)
    refine J.a1 ?_
    refine J.b5<|J.a2<|J.u (J.D j4 ?_)
    exact J.H<|J.b O<|J.g (qAJ O O b3_ (m:=Fr) (by simp) (hb)) rfl<|J.g ((qAS rfl rfl rfl (by omega)).nat (2*(i+1)) (by omega)) rfl<|J.b rfl<|J.a3<|J.u<|J.a4 (i+1,x') (λy (hy:_∧N-y.1<N-i)=>hI0 y hy.1 hy.2) ⟨⟨by dsimp only;omega,hyb⟩,by dsimp only;omega⟩ ⟨rfl,rfl,rfl,rfl,trivial⟩ (λ_ h=>h)
  refine J.b2<|J.a0<|J.a0<|J.b3 ?_
  exact J.d7 hw0 (λ_ _ h=>h) (qJP O) (λw hs=>⟨x,⟨_,O⟩,.inl (by rw [show N=i by omega];exact hI),hs⟩)
theorem qCF(F:Hp)(d:Int):Cz prog 51 [I d] F (I (cnt d)):=by
 refine Ct.walk func51 rfl ntmps51 rfl (λw0 hw0=>?_)
 refine J.f λ_ j1=>J.b O<|J.c j1<|J.k λ_ j2=>J.f λ_ j3=>J.b O<|J.g (qAT O O O) O<|J.b O<|J.b9 (d:=5) O (λh5=>?_) (λh5=>?_)
 ·
  refine J.q 3 O<|J.c j3<|J.c4 ?_
  exact J.f λ_ j4=>J.b O<|J.c j4<|J.A<|J.V<|J.E hw0 O () (by rw [qFy.2 (by omega)];rfl) trivial [0] rfl (by decide)
 refine J.b O<|J.G (qA5 O O O) O<|J.b O<|J.c j3<|J.W O (λh8=>?_) (λh8=>?_)
 ·
  exact J.f λ_ j5=>J.b O<|J.c j5<|J.A<|J.V<|J.E hw0 O () (by rw [qFy.2 (by omega)];rfl) trivial [0] rfl (by decide)
 exact J.M j2<|J.f λ_ j6=>J.b O<|J.g ((qIi O O (by show some (I d)=_;rw [show((d.toNat:Nat):Int)=d by omega]) ⟨by omega,by have:=Int.pow_pos (n:=2) (m:=d.toNat) (by decide);omega,by rw [Int.one_mul];have h1:=jf (n:=2) (by decide) (show d.toNat≤4 by omega);have h2:((2^d.toNat:Nat):Int)≤((2^4:Nat):Int):=Int.ofNat_le.2 h1;simp only [Int.natCast_pow] at h2;exact Int.le_trans h2 (by decide)⟩).as (v':=I (cnt d)) (congrArg I (by unfold cnt;rw [if_neg (by omega)];simp))) rfl<|J.b rfl<|J.c j6<|J.A<|J.E hw0 rfl () rfl trivial [0] rfl (by decide)
theorem qUT(F:Hp)(hK:KF F)(d:Int)(l:List (List UInt8))(A:Option Addr)(c:Nat)(hsl:Sl F 1 A l.length c (qAI l))(hsm: ∀s∈l,s.length≤1048576):
    Cz prog 96 [.slice A l.length c,I d] F (.tuple #[Str (qCI l d),I (qKm l d)]):=by
  refine Ct.walk func96 rfl ntmps96 rfl (λw0 hw0=>?_)
  refine J.f λ_ j1=>J.q 2 O<|J.c j1<|J.k λ_ j2=>J.f λ_ j3=>J.b O<|J.p (qAB O O ent51 (Ct.use0 (λF' hF=>qCF F' d))) O λg10 _=>J.b O<|J.c j3<|J.O<|J.f λ_ j4=>J.b O<|J.g (qAg O O O) O<|J.b O<|J.c j4<|J.W O (λh11=>?_) (λh11=>?_)
  ·
    exact J.f λ_ j5=>J.q 2 O<|J.c j5<|J.A<|J.a7<|J.V<|J.a9 hw0 (λ_ _ h=>h) (qCG O O O) (qAq () (by unfold qCI qKm;rw [if_pos (show cnt d=0 by omega)];rfl) trivial [0] rfl (by decide))
  refine J.f λ_ j6=>J.q 2 O<|J.g (qAU qAk O O) O<|J.g (qAe O O O) O<|J.b O<|J.c7 [0,1] [F,(λ_=>none)] O (by decide)<|J.c j6<|J.W O (λh14=>?_) (λh14=>?_)
  ·
    exact J.f λ_ j7=>J.q 2 O<|J.c j7<|J.A<|J.a7<|J.V<|J.a9 hw0 (λ_ _ h=>h) (qCG O O O) (qAq () (by unfold qCI qKm;rw [if_neg (show¬cnt d=0 by omega),if_pos (show l.length≠cnt d by omega)];rfl) trivial [0] rfl (by decide))
  refine J.b5<|J.a2<|J.u (J.D j2 ?_)
  refine J.k λ_ j8=>J.O ?_
  have hd0:cnt d≠0:=by omega
  have hld:l.length=2^d.toNat:=by rw [←qXX hd0];omega
  have hd4: ¬(d<0∨4<d):=λe=>hd0 (qFy.2 e)
  refine J.h4 (X:=Nat×Option Addr×Nat×Hp) (λx=> [(0,.slice x.2.1 (Sb.lvls l x.1).length x.2.2.1)]) (λx=> [F,x.2.2.2]) (λx=>x.1≤d.toNat∧ ∃m,(m=F∨m=x.2.2.2)∧Sl m 1 x.2.1 (Sb.lvls l x.1).length x.2.2.1 (qAI (Sb.lvls l x.1))) (λx=>d.toNat-x.1) (0,A,c,λ_=>none) (⟨jG _,F,.inl O,by rw [Sb.lvls_zero];exact hsl⟩) ⟨by rw [Sb.lvls_zero];rfl,trivial⟩ (λ_ h=>h) ?_
  rintro⟨k,A',c',mm⟩ wL ⟨hk,m,hm,hsl'⟩ hxL I0 hI0
  dsimp only at hk hm hsl'⊢
  obtain ⟨L,hL⟩: ∃L,L=Sb.lvls l k:=⟨_,rfl⟩
  have hlen:=Sb.lvls_length hld k hk
  have hLs:=Sb.lvls_small hsm k
  have hp16:2^(d.toNat-k)≤16:=jb (jf (by decide) (show d.toNat-k≤4 by omega)) (by decide)
  have hp1:=jz (d.toNat-k)
  refine J.k λ_ j9=>J.f λ_ j10=>J.b O<|J.g (qAU qAk O O) O<|J.g (qA5 O O O) O<|J.c j10<|J.W O (λh21=>?_) (λh21=>?_)
  ·
    refine J.M j9<|J.O<|J.f λ_ j11=>J.p (qAL O zeroValue32 O) O λg7 _=>J.c j11<|J.k λ_ j12=>J.k λ_ j13=>?_
    rw [←hL]
    refine J.H<|J.b O<|J.p (qAB O O ent154 (Ct.use (λF' _=>qUM F' A' L.length c'))) O ?_
    rintro⟨gA,gB⟩ _
    refine J.c j13<|J.O<|J.c7 [2,5,0,1,3,4] [blk g7 [.slice none 0 0] 32,(λ_=>none),F,mm,blk gA [.slice A' L.length c'] 32,blk gB [I 2] 3] O (by decide) ?_
    rw [←hL] at hlen hsl' hLs h21
    obtain ⟨q,hq⟩: ∃q,d.toNat-k=q+1:=Nat.exists_eq_succ_of_ne_zero (λe=>by rw [e,Nat.pow_zero] at hlen;omega)
    have hev:L.length=2*(L.length/2):=by rw [hlen,hq,jr];omega
    have hLn:L.length≤1073741824:=by omega
    have hlc:=hsl'.2.1
    refine J.f8 (λx:Option Addr×Nat×Nat×Hp=> [blk g7 [.slice x.1 x.2.1 x.2.2.1] 32,x.2.2.2]) [F,mm,blk gA [.slice A' L.length c'] 32,blk gB [I 2] 3] (λi x=>x.2.1=i∧Row x.2.2.2 9 1 x.1 i x.2.2.1 (qAI ((Sb.lvl L).take i))) (λ_ _=>False) (none,0,0,λ_=>none) O ent193 (λFr hF=>qRg Fr gA gB A' (L.length/2) L.length c' hev hlc hLn (qAR.blk0.mono (hF (blk gA [.slice A' L.length c'] 32) (by simp))) (qAR.blk0.mono (hF (blk gB [I 2] 3) (by simp)))) (λ_ _=>rfl) rfl (⟨rfl,by rw [zg];exact qBb.nil⟩) ?_ ?_ ?_
    ·
      intro i x l wa wb hi hI K14 Post14 j14 hN14 hR14 hE14
      obtain ⟨Ax,nx,cx,mx⟩:=x
      obtain ⟨hnx,hr⟩:=hI
      dsimp only at hnx hr
      subst hnx
      have hc:=hsl'.cut (lo:=2*nx) (hi:=2*nx+2) (mx:=2*nx+2) (by omega) (by omega) (by omega)
      rw [if_neg (by omega),show 2*nx+2-2*nx=2 by omega,qDu,qHW] at hc
      have hcl:((L.take (2*nx+2)).drop (2*nx)).length=2:=by rw [jI,jF];omega
      have hc0:((L.take (2*nx+2)).drop (2*nx)).getD 0 []=L.getD (2*nx) []:=by simp [jB,jt,zF]
      have hc1:((L.take (2*nx+2)).drop (2*nx)).getD 1 []=L.getD (2*nx+1) []:=by simp [jB,jt,zF]
      refine J.d9 ?_
      refine J.b O<|J.e0 ?_
      refine J.u (j14 _ _ ?_)
      refine J.f4 ?_
      refine J.g9 [blk g7 [.slice Ax nx cx] 32,F,mm,blk gA [.slice A' L.length c'] 32,blk gB [I 2] 3] [10] (.y 0 (.y 1 (.y 2 (.y 3 (.y 4 (.y 5 (.y 6 (.e 7 (.e 8 (.e 9 (.e 10 .nil))))))))))) Tryz.wide (by decide+kernel) (by simp) ?_
      refine J.j O (qAE 0 O O O qB8 O) O O<|J.L ?_
      refine J.j O (qAH (i:=0) O O O qAk z9_ hc (by omega)) O O<|J.j O (qAJ O O b9_ (m:=m) (by rcases hm with rfl|rfl<;>simp) (hc.elem (qAa (qAj [] (show 0<((L.take (2*nx+2)).drop (2*nx)).length by rw [hcl];omega))|>.trans (by rw [hc0])))) rfl rfl<|J.L ?_
      refine J.j O (qAH (i:=1) O O O qAk z9_ hc (by omega)) O O<|J.j O (qAJ O O b9_ (m:=m) (by rcases hm with rfl|rfl<;>simp) (hc.elem (qAa (qAj [] (show 1<((L.take (2*nx+2)).drop (2*nx)).length by rw [hcl];omega))|>.trans (by rw [hc1])))) rfl rfl<|J.Z rfl (qAB rfl rfl ent155 (Ct.use0 (λF' hF=>qFl F' (hK.mo hF) (L.getD (2*nx) []) (L.getD (2*nx+1) []) (Sb.getD_small hLs _) (Sb.getD_small hLs _)))) rfl (by simp) λg32 _=>J.Z rfl (qAG (l:= [.tmp 32]) (xs:= [[Str (Sb.join (L.getD (2*nx) []) (L.getD (2*nx+1) []))]]) rfl rfl rfl rfl qAk el9 rfl (by decide) (by decide) (by simp)) rfl (by simp) λg33 _=>J.Z rfl (qAV (i:=1) (m2:=blk g33 [Str (Sb.join (L.getD (2*nx) []) (L.getD (2*nx+1) []))] 9) rfl rfl rfl qAk qAk el9 rfl hr (by simp) (slS [Sb.join (L.getD (2*nx) []) (L.getD (2*nx+1) [])] rfl) (qCR _) (by omega) (by omega)) rfl (by simp) ?_
      rintro⟨A34,c34,m34⟩ h34
      try dsimp only at h34
      refine J.c2 O (qAW (i:=0) O O O O O qBs O (by simp)) rfl rfl rfl λ_ _=>J.c1 [0,1,2,3,4,5] [blk g7 [.slice A34 (nx+1) c34] 32,m34,F,mm,blk gA [.slice A' L.length c'] 32,blk gB [I 2] 3] rfl (by decide)<|J.h0 ?_
      refine J.a2 ?_
      exact hN14 _ (A34,nx+1,c34,m34) ⟨rfl,by rw [Sb.lvl_take (by omega)];rw [show∀a b,qAI (a++b)=qAI a++qAI b from λa b=>by simp [qAI]];exact h34⟩
    ·
      intro w14 x hx14 hI
      obtain ⟨Ax,nx,cx,mx⟩:=x
      obtain ⟨hnx,hr⟩:=hI
      dsimp only at hnx hr
      subst hnx
      have hlen1:(Sb.lvls l (k+1)).length=L.length/2:=by rw [Sb.lvls_succ,Sb.lvl_length,hL]
      have hfin:Sl mx 1 Ax (Sb.lvls l (k+1)).length cx (qAI (Sb.lvls l (k+1))):=by
        rw [hlen1,Sb.lvls_succ,←hL]
        rw [jc (by rw [Sb.lvl_length];exact jK _)] at hr
        exact hr.sl
      refine J.a2<|J.u (J.D j12 ?_)
      refine J.H<|J.a5 0 qB8 O O O O O<|J.c1 [2,1] [F,mx] O (by decide)<|J.b O<|J.a3<|J.a2<|J.u ?_
      rw [show Ax=Ax from rfl]
      exact J.a4 (k+1,Ax,cx,mx) (λx (hx:_∧d.toNat-x.1<d.toNat-k)=>hI0 x _ hx.1 hx.2 hx14) ⟨⟨by dsimp only;omega,mx,.inr O,hfin⟩,by dsimp only;omega⟩ ⟨by dsimp only;rw [hlen1];rfl,trivial⟩ (λ_ h=>h)
    intro w14 x c hx14 hS
    exact hS.elim
  refine J.b2<|J.a0<|J.a0<|J.b3 ?_
  refine J.u (J.D j8 ?_)
  refine J.k λ_ j15=>?_
  have hkd:k=d.toNat:=by
    by_cases e:k=d.toNat
    · exact e
    · have:=jf (n:=2) (by decide) (show 1≤d.toNat-k by omega)
      omega
  exact J.H<|J.b O<|J.g (qAH (i:=0) O O O qAk z9_ hsl' (by omega)) O<|J.g (qAJ O O b9_ (m:=m) (by rcases hm with rfl|rfl<;>simp) (v:=Str ((Sb.lvls l k).getD 0 [])) (hsl'.elem (qAa (qAj [] (by omega))))) rfl<|J.q 2 rfl<|J.c j15<|J.A<|J.e7 hw0 hxL (λ_ _ h=>h) (qCG rfl rfl rfl) (qAq () (by unfold qCI qKm;rw [if_neg hd0,if_neg (show¬l.length≠cnt d by omega),if_pos rfl,Sb.root,←hkd]) trivial [0] rfl (by decide))
end Go.Proofs.YtcgcjaflllmlpaaGreatDoor
namespace Go.Proofs.YtcgcjaflllmlpaaGreatDoor
open Go Go.Fw Go.Proofs.Tryz
set_option maxRecDepth 100000
set_option maxHeartbeats 1000000
theorem ent139:qAD prog 139:=qAD.of func139 rfl (by kernel_rfl)
theorem ent141:qAD prog 141:=qAD.of func141 rfl (by kernel_rfl)
structure Tw where
 a:UInt8
 b:UInt8
 deriving DecidableEq
def Tw.cells(x:Tw):List Value:= [B8 (x.a),B8 (x.b)]
def qCN(l:List Sm.PR)(d i:Nat):List (List UInt8):=(List.range i).map λj=>Sm.ndB l (kF j d) d
abbrev qAp(l:List Sm.PR)(d:Nat):List (List UInt8):=qCN l d (2^d)
theorem qGi(l:List Sm.PR)(d i:Nat):qCN l d (i+1)=qCN l d i++ [Sm.ndB l (kF i d) d]:=by unfold qCN;rw [jw,jM];rfl
theorem qBa(l:List Sm.PR)(d i:Nat):(qCN l d i).length=i:=by unfold qCN;rw [jN,zV]
theorem qFA(l:List Sm.PR)(d:Nat){i j:Nat}(h:j<i):(qCN l d i).getD j []=Sm.ndB l (kF j d) d:=by
 unfold qCN
 rw [jB,jO,jv h];rfl
theorem qCt{d:Nat}(hd:d≤4):cnt ((d:Nat):Int)=2^d:=by
 unfold cnt
 rw [if_neg (by omega)];rfl
theorem qWV{d:Nat}(hd:d≤4):0<2^d∧2^d≤16:=⟨jz _,jb (jf (by decide) hd) (by decide)⟩
theorem qQi{l:List Sm.PR}(hf:qCJ l){e:Nat}(he:e≤15):Sb.lvl (qAp l (e+1))=qAp l e:=by
 have e2:2^(e+1)/2=2^e:=by rw [jr,Nat.mul_div_cancel _ (by decide)]
 have h2:2^(e+1)=2^e*2:=jr 2 e
 unfold Sb.lvl
 rw [qBa,e2]
 show _=(List.range (2^e)).map _
 refine yI λj hj=>?_
 have hj2:=List.mem_range.1 hj
 rw [qFA _ _ (by omega),qFA _ _ (by omega)]
 exact qOW hf (qHr j e) he (qQ7 (by omega) hj2).symm
theorem qHk{l:List Sm.PR}(hf:qCJ l){d:Nat}(hd:d≤16): ∀j,j≤d→Sb.lvls (qAp l d) j=qAp l (d-j)
 |0,_=>rfl
 |j+1,hj=>by
  rw [Sb.lvls_succ,qHk hf hd j (by omega),show d-j=(d-(j+1))+1 by omega,qQi hf (by omega)]
theorem qOV{l:List Sm.PR}(hf:qCJ l){d:Nat}(hd:d≤16):Sb.root (qAp l d) d=Sm.nd 128 l:=by
 have e:Sb.root (qAp l d) d=(Sb.lvls (qAp l d) d).getD 0 []:=by unfold Sb.root;rfl
 rw [e,qHk hf hd d (jK _),zH,qFA _ _ (by decide),Sm.ndB_zero]
theorem qIt{l:List Sm.PR}(hf:qCJ l){d:Nat}(hd:d≤4):qKm (qAp l d) ((d:Nat):Int)=0∧qCI (qAp l d) ((d:Nat):Int)=Sm.nd 128 l:=by
 have h1:qKm (qAp l d) ((d:Nat):Int)=0:=by
  unfold qKm
  rw [qCt hd,if_neg (by have:=qWV hd;omega),qBa,if_neg (λh=>h rfl)]
 refine⟨h1,?_⟩
 unfold qCI
 rw [if_pos h1]
 exact qOV hf (by omega)
def ofV(k:List UInt8)(d:Nat):Nat:=if k.length=16 then qFN k d else 0
def ofE(k:List UInt8):Nat:=if k.length=16 then 0 else 10
theorem qRu(F:Hp)(hK:KF F)(g:Nat)(l:List Sm.PR)(hT:qCU F g l)(hf:qCJ l)(d:Nat)(hd:d≤4):Ct prog 121 [Ptr g,I ((d:Nat):Int)] [F] (λx:Option Addr×Nat×Hp=> .tuple #[.slice x.1 (qAp l d).length x.2.1,I ((0:Nat):Int)]) (λx=>Row x.2.2 9 1 x.1 (qAp l d).length x.2.1 (qAI (qAp l d))) (λx=> [F,x.2.2]):=by
 have hpw:=qWV hd
 have hcn:=qCt hd
 refine Ct.walk func121 rfl ntmps121 rfl (λw0 hw0=>?_)
 refine J.f λ_ j1=>J.q 2 O<|J.c j1<|J.f λ_ j2=>J.b O<|J.p (qAB O O ent51 (Ct.use0 (λF' hF=>qCF F' ((d:Nat):Int)))) O λg10 _=>J.b O<|J.c j2<|J.k λ_ j3=>J.k λ_ j4=>?_
 rw [hcn]
 refine J.H<|J.b O<|J.g ((qAg O O O).no (by omega)) O<|J.c j4<|J.a1 ?_
 refine J.M j3<|J.f λ_ j5=>J.b O<|J.c j5<|J.k λ_ j6=>J.f λ_ j7=>J.q 2 O<|J.c j7<|J.O<|J.b4 (X:=Nat×Option Addr×Nat×Hp) (λζ=> [(0,Ptr g),(1,I ((d:Nat):Int)),(7,.slice ζ.2.1 ((qCN l d ζ.1).length) ζ.2.2.1),(13,I ((2^d:Nat):Int)),(14,I ((ζ.1:Nat):Int))]) (λζ=> [F,ζ.2.2.2]) (λζ=>ζ.1≤2^d∧Row ζ.2.2.2 9 1 ζ.2.1 (qCN l d ζ.1).length ζ.2.2.1 (qAI (qCN l d ζ.1))) (λζ=>2^d-ζ.1) (0,none,0,(λ_=>none)) (⟨jG _,qBb.nil⟩) ⟨O,O,O,O,O,trivial⟩ (λ_ h=>h.empty.pick [0,1] (by decide)) ?_
 rintro⟨i,A,c,m⟩ ⟨hi,hr⟩ I0 hI0
 dsimp only at hi hr⊢
 have hnl:=qBa l d i
 refine J.f λ_ j8=>J.g (qAT O O O) O<|J.c j8<|J.k λ_ j9=>J.W O (λh15=>?_) (λh15=>?_)
 ·
  have hi2:i<2^d:=by omega
  have hkf:=qHr i d
  have hmd:min (((d:Nat):Int)).toNat 128=d:=by rw [jT];omega
  refine J.M j9<|J.k λ_ j10=>J.O<|J.f λ_ j11=>J.q 2 O<|J.c j11<|J.H<|J.q 4 O<|J.p (qAB O O ent141 (Ct.use0 (λF' hF=>qKX F' i d (by omega) (by assumption)))) O λg21 _=>J.b O<|J.p (qAB O O ent93 (Ct.use0 (λF' hF=>qFk F' (hK.mo hF) g l (hT.mono (Fa hF)) (by assumption) (kF i d) (by first|omega|decide) ((d:Nat):Int) (by first|assumption|exact qIE (by assumption)|exact qMN (by assumption) (by assumption))))) O λg23 _=>J.p (qAG (l:= [.tmp 23]) (xs:= [[Str (Sm.ndB l (kF i d) (min ((d:Nat):Int).toNat 128))]]) O O O O qAk el9 O (by decide) (by decide) (by simp)) rfl λg24 _=>?_
  change J _ _ _ [F,m,blk g24 [Str (Sm.ndB l (kF i d) (min ((d:Nat):Int).toNat 128))] 9] _
  refine J.p (qAV (i:=1) (xs:=qAI (qCN l d i)) (m2:=blk g24 [Str (Sm.ndB l (kF i d) (min ((d:Nat):Int).toNat 128))] 9) (ys:= [[Str (Sm.ndB l (kF i d) (min ((d:Nat):Int).toNat 128))]]) O O O qAk qAk el9 O hr (by simp) ((qBD (q:=True) (qAI [Sm.ndB l (kF i d) (min ((d:Nat):Int).toNat 128)]) rfl (by simp [qAI]) rfl).sl) rfl (by omega) (by omega)) rfl ?_
  rintro⟨A25,c25,m25⟩ h25
  try dsimp only at h25
  change J _ ((25,.slice A25 (((qCN l d i).length)+1) c25)::_) _ [_,m25,_] _
  rw [←qB4] at h25
  refine J.b O<|J.a3<|J.a2<|J.u (J.D j10 ?_)
  exact J.H<|J.g ((qAS O O O (by omega)).nat (i+1) (by omega)) O<|J.b O<|J.a3<|J.u<|J.a4 (i+1,A25,c25,m25) (λη (hη:_∧2^d-η.1<2^d-i)=>hI0 η hη.1 hη.2) ⟨⟨by dsimp only;omega,by dsimp only;rw [qGi,jA];rw [hmd] at h25;exact h25⟩,by first|omega|(dsimp only;omega)⟩ ⟨rfl,rfl,by dsimp only;rw [qGi,jA];rfl,rfl,rfl,trivial⟩ (λ_ h=>h.pick [0,1] (by decide))
 refine J.b2<|J.a0<|J.a0<|J.b3 ?_
 refine J.u (J.D j6 ?_)
 refine J.f λ_ j12=>J.q 3 O<|J.c j12<|J.A ?_
 obtain rfl:i=2^d:=by omega
 exact J.a9 hw0 (λ_ _ h=>h) (qCG O O O) (qAq (A,c,m) O hr [0,1] O (by decide))
theorem qVT(F:Hp)(k:List UInt8)(hk:k.length≤1000000)(d:Nat)(hd:d≤4):Cz prog 72 [Str (k),I ((d:Nat):Int)] F (.tuple #[I ((ofV k d:Nat):Int),I ((ofE k:Nat):Int)]):=by
 have hpw:=qWV hd
 have hcn:=qCt hd
 refine Ct.walk func72 rfl ntmps72 rfl (λw0 hw0=>?_)
 refine J.f λ_ j1=>J.q 2 O<|J.c j1<|J.k λ_ j2=>J.O<|J.f λ_ j3=>J.b O<|J.p (qAB O O ent51 (Ct.use0 (λF' hF=>qCF F' ((d:Nat):Int)))) O λg8 _=>J.g ((qAg O O O).no (by omega)) O<|J.b O<|J.c j3<|J.a1 ?_
 refine J.f λ_ j4=>J.b O<|J.g (qAt u9_ O O) O<|J.g (qAe O O O) O<|J.b O<|J.c j4<|J.W O (λh10=>?_) (λh10=>?_)
 ·
  exact J.f λ_ j5=>J.q 2 O<|J.c j5<|J.A<|J.a7<|J.V<|J.a9 hw0 (λ_ _ h=>h) (qCG O O O) (qAq () (by unfold ofV ofE;rw [if_neg (by omega),if_neg (by omega)];rfl) trivial [0] rfl (by decide))
 refine J.b5<|J.a2<|J.u (J.D j2 ?_)
 exact J.f λ_ j6=>J.q 2 O<|J.p (qAB O O ent139 (Ct.use0 (λF' hF=>qXh F' k (by first|omega|exact hsm _) d (by omega)))) O λg16 _=>J.q 2 O<|J.c j6<|J.A<|J.a9 hw0 (λ_ _ h=>h) (qCG O O O) (qAq () (by unfold ofV ofE;rw [if_pos (by omega),if_pos (by omega)];rfl) trivial [0] rfl (by decide))
theorem qMK{s bs:List UInt8}(h:s.length≤4096):qK6 s bs 0=bs++Sha.numB (UInt64.ofNat s.length) 2++s∧qCH (okT s) 2 0=0:=by
 have h1:okT s=true:=decide_eq_true h
 unfold qK6
 rw [h1,qB2,if_pos rfl]
 exact⟨rfl,rfl⟩
structure Hd where
 ep:Nat
 par:List UInt8
 dep:Int
 aud:Int
 nodes:List (List UInt8)
def qEL(s:List UInt8):Prop:=s= [0]∨(s.length=17∧(s.getD 0 0=1∨s.getD 0 0=2))
instance (s:List UInt8):Decidable (qEL s):=by unfold qEL;infer_instance
def Hd.cells(x:Hd)(A:Option Addr)(c:Nat):List Value:= [N64 x.ep,Str x.par,I x.dep,I x.aud,.slice A x.nodes.length c]
def Hd.out(x:Hd):Prop:=4294967295<x.ep∨x.par.length≠16∨cnt x.dep=0∨x.aud<0∨64<x.aud
instance (x:Hd):Decidable x.out:=by unfold Hd.out;infer_instance
def Hd.err(x:Hd):Int:=if x.out then 10 else if x.nodes.length≠cnt x.dep then 22 else if∀s∈x.nodes,qEL s then 0 else 4
def ndB(s:List UInt8):List UInt8:=Sha.numB (UInt64.ofNat s.length) 2++s
def Hd.bytes(x:Hd):List UInt8:=Sha.numB (UInt64.ofNat x.ep) 4++x.par++ [UInt8.ofNat x.dep.toNat]++ [UInt8.ofNat x.aud.toNat]++(x.nodes.map ndB).flatten
def Hd.enc(x:Hd):List UInt8:=if x.err=0 then x.bytes else []
def Hd.dig(x:Hd):List UInt8:=if x.err=0 then Sha.tagged 14 [x.bytes] else []
def Hd.good(x:Hd):Prop:=x.ep<18446744073709551616∧x.par.length≤1048576∧x.nodes.length≤1073741824
theorem qKY{x:Hd}(h:x.out):x.err=10:=if_pos h
theorem qYn{x:Hd}(h: ¬x.out)(h2:x.nodes.length≠cnt x.dep):x.err=22:=by unfold Hd.err;rw [if_neg h,if_pos h2]
theorem err_4{x:Hd}(h: ¬x.out)(h2: ¬x.nodes.length≠cnt x.dep){s:List UInt8}(hs:s∈x.nodes)(hn: ¬qEL s):x.err=4:=by unfold Hd.err;rw [if_neg h,if_neg h2,if_neg (λe=>hn (e s hs))]
theorem qYo{x:Hd}(h: ¬x.out)(h2: ¬x.nodes.length≠cnt x.dep)(hs: ∀s∈x.nodes,qEL s):x.err=0:=by unfold Hd.err;rw [if_neg h,if_neg h2,if_pos hs]
theorem qRQ{x:Hd}(h:x.err=0): ¬x.out∧x.nodes.length=cnt x.dep∧ ∀s∈x.nodes,qEL s:=by
  unfold Hd.err at h
  split at h
  · omega
  · rename_i h1
    split at h
    · omega
    · rename_i h2
      split at h
      · rename_i h3;exact⟨h1,Decidable.not_not.1 h2,h3⟩
      · omega
theorem qM9{s:List UInt8}(h:qEL s):s.length≤17:=by
 rcases h with rfl|⟨h,_⟩
 · decide
 · omega
theorem qXl{l:List (List UInt8)}{p:List UInt8→Prop}{k:Nat}(h:k<l.length)(h1: ∀s∈l.take k,p s)(h2:p (l.getD k [])): ∀s∈l.take (k+1),p s:=λs hs=>by
  rw [jP h] at hs
  rcases List.mem_append.1 hs with h3|h3
  · exact h1 s h3
  · rw [jR] at h3
    rw [h3]
    rw [jB,jC h] at h2
    exact h2
theorem qRK{l:List (List UInt8)}{k:Nat}(h:k<l.length):l.getD k []∈l:=by
 rw [jB,jC h]
 exact jX h
theorem u8eq{c:UInt8}(k:UInt8):((c.toNat:Int)=(k.toNat:Int))↔c=k:=⟨λh=>UInt8.toNat_inj.1 (by omega),λh=>by rw [h]⟩
theorem qT7(F:Hp)(s:List UInt8):Cz prog 129 [Str s] F (.bool (decide (qEL s))):=by
 refine Ct.walk func129 rfl ntmps129 rfl (λw0 hw0=>?_)
 refine J.f λ_ j1=>J.b O<|J.c j1 ?_
 refine J.f λ_ j2=>J.b O<|J.g (qBS O O O) O<|J.b O<|J.b9 (d:=5) O (λh5=>?_) (λh5=>?_)
 ·
  refine J.q 4 O<|J.c8 (Wan.un O O O O) O O ?_
  refine J.c8 (Wan.un O O O O) O O ?_
  refine J.c8 (Wan.un O O O O) O O ?_
  refine J.c8 (Wan.un O O O O) O O ?_
  refine J.c8 (Wan.un O O O O) O O ?_
  refine J.c8 (Wan.un O O O O) O O ?_
  refine J.c8 (Wan.un O O O O) O O ?_
  refine J.c8 (Wan.un O O O O) O O ?_
  refine J.q 3 O<|J.c j2 ?_
  exact J.A<|J.E hw0 O () (congrArg Value.bool (decide_eq_true (show qEL s from .inl h5)).symm) trivial [0] rfl (by decide)
 refine J.b O<|J.G (qAt u9_ O O) O<|J.G (qAg O O O) O<|J.b O<|J.b9 (d:=9) O (λh9=>?_) (λh9=>?_)
 ·
  refine J.b O<|J.G (qBf (i:=0) (c:=s.getD 0 0) u9_ O O O (by rw [jB,jC (show 0<s.length by omega)];rfl)) rfl ?_
  refine J.G (qAg O O O) O<|J.b O<|J.b9 (d:=13) O (λh13=>?_) (λh13=>?_)
  ·
   refine J.q 7 O<|J.c j2 ?_
   exact J.A<|J.E hw0 O () (congrArg Value.bool (decide_eq_true (show qEL s from .inr ⟨by omega,.inl ((u8eq 1).1 h13)⟩)).symm) trivial [0] rfl (by decide)
  refine J.b O<|J.G (qBf (i:=0) (c:=s.getD 0 0) u9_ O O O (by rw [jB,jC (show 0<s.length by omega)];rfl)) rfl ?_
  refine J.G (qAg O O O) O<|J.q 4 O<|J.c j2 ?_
  exact J.A<|J.E hw0 O () (congrArg Value.bool (decide_eq_decide.2 ⟨λh=>(show qEL s from .inr ⟨by omega,.inr ((u8eq 2).1 h)⟩),λh=>by rcases h with h|⟨_,h|h⟩;exact absurd h h5;exact absurd ((u8eq 1).2 h) h13;exact(u8eq 2).2 h⟩)) trivial [0] rfl (by decide)
 refine J.q 4 O<|J.c8 (Wan.un O O O O) O O ?_
 refine J.c8 (Wan.un O O O O) O O ?_
 refine J.c8 (Wan.un O O O O) O O ?_
 refine J.q 4 O<|J.c j2 ?_
 exact J.A<|J.E hw0 O () (congrArg Value.bool (decide_eq_false (show¬qEL s from λh=>by rcases h with h|⟨h,_⟩;exact h5 h;omega)).symm) trivial [0] rfl (by decide)
theorem qGr(F:Hp)(x:Hd)(A:Option Addr)(c:Nat)(hg:x.good)(hsl:Sl F 1 A x.nodes.length c (qAI x.nodes)):
    Cz prog 61 [.agg #[N64 x.ep,Str x.par,I x.dep,I x.aud,.slice A x.nodes.length c]] F (I x.err):=by
  obtain ⟨hg1,hg2,hg3⟩:=hg
  refine Ct.walk func61 rfl ntmps61 rfl (λw0 hw0=>?_)
  refine J.f λ_ j1=>J.p (qAd O O O) O λg1 _=>J.b O<|J.c j1 ?_
  refine J.f λ_ j2=>J.T 2 qDW z3_ O O O O O<|J.a5 1 b3_ O O O O O<|J.p (qAB O O ent51 (Ct.use0 (λF' hF=>qCF F' x.dep))) O λg8 _=>J.b O<|J.c j2 ?_
  refine J.k λ_ j3=>J.O<|J.f λ_ j4=>J.T 0 qDW qD9 O O O O O<|J.a5 1 qEz O O O O O<|J.g (qA5 O O O) O<|J.b O<|J.b9 (d:=13) O (λh13=>?_) (λh13=>?_)
  ·
    refine J.q 20 O<|J.c j4 ?_
    refine J.c4 ?_
    refine J.f λ_ j5=>J.b O<|J.c j5 ?_
    exact J.A<|J.a7<|J.V<|J.E hw0 O () (congrArg I (qKY (show x.out by unfold Hd.out;omega)).symm) trivial [0] O (by decide)
  refine J.G (qAA O O qDW O z9_ O) O<|J.G (qAE 1 O O O b9_ O) O<|J.G (qAt u9_ O O) O<|J.G (qAe O O O) O<|J.q 2 O<|J.b9 (d:=19) O (λh19=>?_) (λh19=>?_)
  ·
    refine J.q 14 O<|J.c j4 ?_
    refine J.c4 ?_
    refine J.f λ_ j6=>J.b O<|J.c j6 ?_
    exact J.A<|J.a7<|J.V<|J.E hw0 O () (congrArg I (qKY (show x.out by unfold Hd.out;omega)).symm) trivial [0] O (by decide)
  refine J.b O<|J.G (qAg O O O) O<|J.q 2 O<|J.b9 (d:=23) O (λh23=>?_) (λh23=>?_)
  ·
    refine J.q 10 O<|J.c j4 ?_
    refine J.c4 ?_
    refine J.f λ_ j7=>J.b O<|J.c j7 ?_
    exact J.A<|J.a7<|J.V<|J.E hw0 O () (congrArg I (qKY (show x.out by unfold Hd.out;omega)).symm) trivial [0] O (by decide)
  refine J.G (qAA O O qDW O z3_ O) O<|J.G (qAE 1 O O O b3_ O) O<|J.G (qAT O O O) O<|J.q 2 O<|J.b9 (d:=28) O (λh28=>?_) (λh28=>?_)
  ·
    refine J.q 5 O<|J.c j4 ?_
    refine J.c4 ?_
    refine J.f λ_ j8=>J.b O<|J.c j8 ?_
    exact J.A<|J.a7<|J.V<|J.E hw0 O () (congrArg I (qKY (show x.out by unfold Hd.out;omega)).symm) trivial [0] O (by decide)
  refine J.G (qAA O O qDW O z3_ O) O<|J.G (qAE 1 O O O b3_ O) O<|J.G (qA5 O O O) O<|J.q 2 O<|J.c j4 ?_
  refine J.W O (λh9=>?_) (λh9=>?_)
  ·
    refine J.f λ_ j9=>J.b O<|J.c j9 ?_
    exact J.A<|J.a7<|J.V<|J.E hw0 O () (congrArg I (qKY (show x.out by unfold Hd.out;omega)).symm) trivial [0] O (by decide)
  refine J.f λ_ j10=>J.T 4 qDW qBs O O O O O<|J.a5 1 qB8 O O O O O<|J.g (qAU qAk O O) O<|J.b O<|J.g (qAe O O O) O<|J.b O<|J.c j10 ?_
  refine J.W O (λh33=>?_) (λh33=>?_)
  ·
    refine J.f λ_ j11=>J.b O<|J.c j11 ?_
    exact J.A<|J.a7<|J.V<|J.E hw0 O () (congrArg I (qYn (by unfold Hd.out;omega) (by omega)).symm) trivial [0] O (by decide)
  refine J.b5<|J.a2<|J.u (J.D j3 ?_)
  refine J.k λ_ j12=>J.k λ_ j13=>?_
  have hno: ¬x.out:=by unfold Hd.out;omega
  have hcn: ¬x.nodes.length≠cnt x.dep:=by omega
  refine J.H<|J.T 4 qDW qBs O O O O O<|J.a5 1 qB8 O O O O O<|J.g (qAU qAk O O) O<|J.b O<|J.c j13 ?_
  refine J.O<|J.b4 (X:=Nat) (λk=> [(40,.slice A x.nodes.length c),(41,I x.nodes.length),(42,I k)]) (λ_=> [F,blk g1 [N64 x.ep,Str x.par,I x.dep,I x.aud,.slice A x.nodes.length c] 34]) (λk=>k≤x.nodes.length∧ ∀s∈x.nodes.take k,qEL s) (λk=>x.nodes.length-k) 0 (⟨jG _,λs hs=>by simp at hs⟩) ⟨rfl,rfl,rfl,trivial⟩ (λ_ h=>h) ?_
  intro k ⟨hk,hall⟩ I0 hI0
  refine J.f λ_ j14=>J.g (qAT O O O) O<|J.c j14 ?_
  refine J.k λ_ j15=>J.W O (λh43=>?_) (λh43=>?_)
  ·
    refine J.M j15 ?_
    refine J.k λ_ j16=>J.O<|J.f λ_ j17=>J.g (qAH O O O qAk z9_ hsl (by omega)) O<|J.g (qAJ O O b9_ (m:=F) (by simp) (hsl.elem (qAa (qAj [] (show k<x.nodes.length by omega))))) rfl<|J.b rfl<|J.c j17 ?_
    refine J.f λ_ j18=>J.b O<|J.p (qAB O O ent129 (Ct.use0 (λF' hF=>qT7 F' (x.nodes.getD k [])))) O λg47 _=>J.g (qGe O O) O<|J.c j18 ?_
    refine J.W O (λh48=>?_) (λh48=>?_)
    ·
      refine J.f λ_ j19=>J.b O<|J.c j19 ?_
      exact J.A<|J.a7<|J.V<|J.V<|J.a7<|J.V<|J.E hw0 O () (congrArg I (err_4 hno hcn (qRK (show k<x.nodes.length by omega)) h48).symm) trivial [0] O (by decide)
    refine J.b5<|J.a2<|J.u (J.D j16 ?_)
    exact J.H<|J.g ((qAS O O O (by omega)).nat (k+1) (by omega)) O<|J.b O<|J.a3<|J.u<|J.a4 (k+1) (λx2 (hx:_∧x.nodes.length-x2<x.nodes.length-k)=>hI0 x2 hx.1 hx.2) ⟨⟨by omega,qXl (by omega) hall (Decidable.not_not.1 h48)⟩,by omega⟩ ⟨O,O,O,trivial⟩ (λ_ h=>h)
  refine J.b2<|J.a0<|J.a0<|J.b3 ?_
  refine J.u (J.D j12 ?_)
  refine J.k λ_ j20=>?_
  rw [jc (by omega)] at hall
  refine J.H<|J.b O<|J.c j20 ?_
  exact J.A<|J.E hw0 O () (congrArg I (qYo hno hcn hall).symm) trivial [0] O (by decide)
def Hd.base(x:Hd):List UInt8:=Sha.numB (UInt64.ofNat x.ep) 4++x.par++ [UInt8.ofNat x.dep.toNat]++ [UInt8.ofNat x.aud.toNat]
theorem qU8: ∀k,k<65→Sha.numB (UInt64.ofNat k) 1= [UInt8.ofNat k]:=by decide+kernel
theorem qTa: ∀k,k<65→okN (UInt64.ofNat k) 1=true:=by decide+kernel
theorem qQU{x:Hd}(h: ¬x.out):x.ep≤4294967295∧x.par.length=16∧(0≤x.dep∧x.dep≤4)∧0≤x.aud∧x.aud≤64:=by
 have h1: ¬cnt x.dep=0:=λe=>h (.inr (.inr (.inl e)))
 rw [qFy] at h1
 unfold Hd.out at h
 omega
theorem qWv{l:List (List UInt8)}{k:Nat}(h:k<l.length):((l.take (k+1)).map ndB).flatten=((l.take k).map ndB).flatten++ndB (l.getD k []):=by
 rw [jP h,jM,zM,jZ,zT,ja,jx,jQ,jB,jC h];rfl
theorem nd_small{l:List (List UInt8)}(h: ∀s∈l,qEL s):(l.map ndB).flatten.length≤19*l.length:=by
 induction l with
 |nil=>exact jG _
 |cons a l ih=>
  have h1:=ih (λs hs=>h s (.tail _ hs))
  have h2:=qM9 (h a (.head _))
  rw [jZ,ja,jA,jD]
  unfold ndB at h1⊢
  rw [jA,Sha.numB_length];omega
theorem qNf{x:Hd}(h: ¬x.out):x.base.length=22:=by
 have:=qQU h
 unfold Hd.base
 simp only [jA,Sha.numB_length,jH];omega
theorem qOi(F:Hp)(x:Hd)(A:Option Addr)(c:Nat)(hg:x.good)(hsl:Sl F 1 A x.nodes.length c (qAI x.nodes)):
    Cz prog 78 [.agg #[N64 x.ep,Str x.par,I x.dep,I x.aud,.slice A x.nodes.length c]] F (.tuple #[Str x.enc,I x.err]):=by
  refine Ct.walk func78 rfl ntmps78 rfl (λw0 hw0=>?_)
  refine J.f λ_ j1=>J.p (qAd O O O) O λg1 _=>J.q 2 O<|J.c j1 ?_
  refine J.k λ_ j2=>J.f λ_ j3=>J.b7 1 qDT qBz O O O O O<|J.p (qAB O O ent61 (Ct.use0 (λF' hF=>qGr F' x A c hg (hsl.mono (Fa hF))))) O λg9 _=>J.b O<|J.c j3 ?_
  refine J.f λ_ j4=>J.b O<|J.g (qAe O O O) O<|J.c j4 ?_
  refine J.W O (λh11=>?_) (λh11=>?_)
  ·
    refine J.f λ_ j5=>J.q 3 O<|J.c j5 ?_
    exact J.A<|J.V<|J.a9 hw0 (λ_ _ h=>h) (qCG O O O) (qAq () (by unfold Hd.enc;rw [if_neg (by omega)]) trivial [0] rfl (by decide))
  refine J.M j2 ?_
  refine J.k λ_ j6=>?_
  have e0:x.err=0:=by omega
  obtain ⟨e1,e2,e3⟩:=qRQ e0
  obtain ⟨e4,e5,e6,e7,e8⟩:=qQU e1
  have hbl:=qNf e1
  have hc16:=qVQ x.dep
  refine J.H<|J.p (qAL O qKb O) O λg5 _=>J.c j6 ?_
  refine J.k λ_ j7=>J.b0 [blk g1 [N64 x.ep,Str x.par,I x.dep,I x.aud,.slice A x.nodes.length c] 34] [] (.y 0 (.y 1 (.y 3 (.y 4 (.y 6 (.y 7 (.y 8 (.y 10 (.y 11 (.y 12 (.e 2 (.e 5 (.e 9 (.e 13 .nil)))))))))))))) Tryz.wide (by decide+kernel) (by simp) ?_
  refine J.j O (qAA O O qDW O qD9 O) O O<|J.j O (qAE 0 O O O qEz O) O O<|J.j O (qAA O O qDW O z9_ O) O O<|J.j O (qAE 0 O O O b9_ O) O O<|J.j O (qAA O O qDW O z3_ O) O O<|J.j O (qAE 0 O O O b3_ O) O O<|J.j O ((qB7 O O u3_ qEU).as (v':=W64 (UInt64.ofNat x.dep.toNat)) (by rw [show(x.dep%18446744073709551616).toNat=x.dep.toNat by omega])) rfl rfl<|J.j rfl (qAA rfl rfl qDW rfl z3_ rfl) rfl rfl<|J.j rfl (qAE 0 rfl rfl rfl b3_ rfl) rfl rfl<|J.j rfl ((qB7 rfl rfl u3_ qEU).as (v':=W64 (UInt64.ofNat x.aud.toNat)) (by rw [show(x.aud%18446744073709551616).toNat=x.aud.toNat by omega])) rfl rfl<|J.Z rfl (qAB rfl rfl ent67 (Ct.use1 2 rfl (λF' _=>qLi F' (blk g5 [.pointer none,.slice none 0 0,I 0] 158) g5 [] 0 (qF5 g5) (by decide) x.ep (by omega) 4 (by omega) (by omega)))) rfl (by simp) ?_
  rintro m15 hw15
  rw [qHH (size:=4) (by omega) (by omega),qB2,qCX (qHH (size:=4) (by omega) (by omega)),jq] at hw15
  refine J.Z O (qAB O O ent101 (Ct.use1 2 O (λF' _=>qDH F' m15 g5 (Sha.numB (UInt64.ofNat x.ep) 4) 0 hw15 (by rw [Sha.numB_length];omega) x.par (by omega) 16))) rfl (by simp) ?_
  rintro m18 hw18
  rw [qGB e5,qLh e5,qB2] at hw18
  refine J.Z O (qAB O O ent67 (Ct.use1 2 O (λF' _=>qDg F' m18 g5 ((Sha.numB (UInt64.ofNat x.ep) 4)++x.par) 0 hw18 (by simp only [jA,Sha.numB_length];omega) (UInt64.ofNat x.dep.toNat) 1 (by omega) (by omega)))) rfl (by simp) ?_
  rintro m22 hw22
  rw [qTa _ (by omega),qB2,qCX (qTa _ (by omega)),qU8 _ (by omega)] at hw22
  refine J.Z O (qAB O O ent67 (Ct.use1 2 O (λF' _=>qDg F' m22 g5 (((Sha.numB (UInt64.ofNat x.ep) 4)++x.par)++ [UInt8.ofNat x.dep.toNat]) 0 hw22 (by simp only [jA,Sha.numB_length,jH];omega) (UInt64.ofNat x.aud.toNat) 1 (by omega) (by omega)))) rfl (by simp) ?_
  rintro m26 hw26
  rw [qTa _ (by omega),qB2,qCX (qTa _ (by omega)),qU8 _ (by omega)] at hw26
  refine J.a8<|J.u (J.D j7 ?_)
  refine J.k λ_ j8=>J.f λ_ j9=>J.T 4 qDW qBs O O O O O<|J.a5 1 qB8 O O O O O<|J.g (qAU qAk O O) O<|J.b O<|J.c j9 ?_
  refine J.O<|J.b4 (X:=Nat×Hp) (λx2=> [(5,Ptr g5),(28,.slice A x.nodes.length c),(29,I x.nodes.length),(30,I x2.1)]) (λx2=> [F,blk g1 [N64 x.ep,Str x.par,I x.dep,I x.aud,.slice A x.nodes.length c] 34,x2.2]) (λx2=>x2.1≤x.nodes.length∧Wtr x2.2 g5 (x.base++((x.nodes.take x2.1).map ndB).flatten) 0) (λx2=>x.nodes.length-x2.1) (0,m26) (⟨jG _,by rw [zg,zT,jx,jQ];exact hw26⟩) ⟨rfl,rfl,rfl,rfl,trivial⟩ (λ_ h=>h) ?_
  rintro⟨k,m⟩ ⟨hk,hw⟩ I0 hI0
  dsimp only at hk hw⊢
  refine J.f λ_ j10=>J.g (qAT O O O) O<|J.c j10 ?_
  refine J.k λ_ j11=>J.W O (λh31=>?_) (λh31=>?_)
  ·
    refine J.M j11 ?_
    refine J.k λ_ j12=>J.O<|J.f λ_ j13=>J.g (qAH O O O qAk z9_ hsl (by omega)) O<|J.g (qAJ O O b9_ (m:=F) (by simp) (hsl.elem (qAa (qAj [] (show k<x.nodes.length by omega))))) rfl<|J.b rfl<|J.c j13 ?_
    have hnl:=qM9 (e3 _ (qRK (show k<x.nodes.length by omega)))
    refine J.H<|J.b O<|J.p (qAB O O ent134 (Ct.use1 2 O (λF' _=>qPW F' m g5 (x.base++((x.nodes.take k).map ndB).flatten) 0 hw (by have:=nd_small (λs hs=>e3 s (yF hs): ∀s∈x.nodes.take k,qEL s);rw [jF] at this;rw [jA,hbl];omega) (x.nodes.getD k []) (by omega)))) rfl ?_
    rintro m35 hw35
    rw [(qMK (by omega)).1,(qMK (s:=x.nodes.getD k []) (bs:= []) (by omega)).2,jV,jV] at hw35
    change Wtr m35 g5 (x.base++(((x.nodes.take k).map ndB).flatten++ndB (x.nodes.getD k []))) 0 at hw35
    rw [←qWv (by omega)] at hw35
    refine J.a3<|J.a2<|J.u (J.D j12 ?_)
    exact J.H<|J.g ((qAS O O O (by omega)).nat (k+1) (by omega)) O<|J.b O<|J.a3<|J.u<|J.a4 (k+1,m35) (λx2 (hx:_∧x.nodes.length-x2.1<x.nodes.length-k)=>hI0 x2 hx.1 hx.2) ⟨⟨by dsimp only;omega,hw35⟩,by dsimp only;omega⟩ ⟨O,O,O,O,trivial⟩ (λ_ h=>h)
  refine J.b2<|J.a0<|J.a0<|J.b3 ?_
  refine J.u (J.D j8 ?_)
  refine J.k λ_ j14=>?_
  rw [jc (by omega)] at hw
  change Wtr m g5 x.bytes 0 at hw
  refine J.H<|J.p (qAB O O ent68 (Ct.use1 2 O (λF' _=>qDJ F' m g5 x.bytes 0 hw (by have:=nd_small e3;unfold Hd.bytes;unfold Hd.base at hbl;rw [jA,hbl];omega)))) rfl ?_
  rintro m37 _
  refine J.q 4 O<|J.c j14 ?_
  exact J.A<|J.a9 hw0 (λ_ _ h=>h) (qCG O O O) (qAq () (by unfold Hd.enc;rw [if_pos e0,e0]<;>rfl) trivial [0] rfl (by decide))
theorem qRn{x:Hd}(h:x.err=0):x.bytes.length≤326:=by
 obtain ⟨e1,e2,e3⟩:=qRQ h
 have h1:=qNf e1
 have h2:=nd_small e3
 have h3:=qVQ x.dep
 unfold Hd.bytes
 unfold Hd.base at h1
 rw [jA,h1];omega
theorem enc_0{x:Hd}(h:x.err=0):x.enc=x.bytes:=if_pos h
theorem qL7{x:Hd}(h:x.err=0):x.dig.length=16:=by unfold Hd.dig;rw [if_pos h,Sha.tagged_length]
theorem qKe(x:Hd):x.dig.length≤16:=by
 unfold Hd.dig
 split
 · rw [Sha.tagged_length];exact jK _
 · exact jG _
theorem qCW(F:Hp)(hK:KF F)(x:Hd)(A:Option Addr)(c:Nat)(hg:x.good)(hsl:Sl F 1 A x.nodes.length c (qAI x.nodes)):
    Cz prog 33 [.agg #[N64 x.ep,Str x.par,I x.dep,I x.aud,.slice A x.nodes.length c]] F (Str x.dig):=by
  refine Ct.walk func33 rfl ntmps33 rfl (λw0 hw0=>?_)
  refine J.f λ_ j1=>J.p (qAd O O O) O λg1 _=>J.b O<|J.c j1 ?_
  refine J.f λ_ j2=>J.b7 1 qDT qBz O O O O O<|J.p (qAB O O ent78 (Ct.use0 (λF' hF=>qOi F' x A c hg (hsl.mono (Fa hF))))) O λg7 _=>J.q 5 O<|J.c j2 ?_
  refine J.k λ_ j3=>J.f λ_ j4=>J.b O<|J.g (qAe O O O) O<|J.c j4 ?_
  refine J.W O (λh11=>?_) (λh11=>?_)
  ·
    refine J.f λ_ j5=>J.b O<|J.c j5 ?_
    exact J.A<|J.V<|J.E hw0 O () (by unfold Hd.dig;rw [if_neg (by omega)]) trivial [0] rfl (by decide)
  refine J.M j3 ?_
  refine J.k λ_ j6=>?_
  have e0:x.err=0:=by omega
  refine J.H<|J.g ((qA0 O O).as (v':=Str x.bytes) (congrArg Str (enc_0 e0))) O<|J.p (qAG (l:= [.tmp 12]) (xs:= [[Str (x.bytes)]]) O O O O qAk el9 O (by decide) (by decide) (by simp)) rfl λg13 _=>J.p (qAB rfl rfl ent46 (Ct.use0 (λF' hF=>qA3 F' (hK.mono (Fa hF)) 14 (some ⟨g13,0,none⟩) 1 1 [x.bytes] ((slS [x.bytes] rfl).mono (hF (blk g13 (([x.bytes]:List (List UInt8)).map λs=>Str s) 9) (by simp))) (by have:=qRn e0;simp;omega) (by decide)))) rfl λg14 _=>J.b rfl<|J.c j6 ?_
  exact J.A<|J.E hw0 O () (by unfold Hd.dig;rw [if_pos e0]) trivial [0] rfl (by decide)
def Hd.gen(x:Hd):Int:=if x.err≠0 then x.err else if x.ep≠0 then 14 else if x.par≠qAm then 15 else 0
def Hd.next(x y:Hd):Int:=if y.err≠0 then y.err else if y.ep=0∨y.ep-1≠x.ep then 14 else if x.dig= []∨y.par≠x.dig then 15 else if y.dep≠x.dep∨y.aud<x.aud then 22 else 0
def Hd.same(x y:Hd):Prop:=x.err=0∧y.err=0∧x.enc=y.enc
instance (x y:Hd):Decidable (x.same y):=by unfold Hd.same;infer_instance
theorem gen_1{x:Hd}(h:x.err≠0):x.gen=x.err:=if_pos h
theorem gen_2{x:Hd}(h: ¬x.err≠0)(h2:x.ep≠0):x.gen=14:=by unfold Hd.gen;rw [if_neg h,if_pos h2]
theorem gen_3{x:Hd}(h: ¬x.err≠0)(h2: ¬x.ep≠0)(h3:x.par≠qAm):x.gen=15:=by unfold Hd.gen;rw [if_neg h,if_neg h2,if_pos h3]
theorem qXH{x:Hd}(h: ¬x.err≠0)(h2: ¬x.ep≠0)(h3: ¬x.par≠qAm):x.gen=0:=by unfold Hd.gen;rw [if_neg h,if_neg h2,if_neg h3]
theorem qYR{x y:Hd}(h:y.err≠0):x.next y=y.err:=if_pos h
theorem qVD{x y:Hd}(h: ¬y.err≠0)(h2:y.ep=0∨y.ep-1≠x.ep):x.next y=14:=by unfold Hd.next;rw [if_neg h,if_pos h2]
theorem qVC{x y:Hd}(h: ¬y.err≠0)(h2: ¬(y.ep=0∨y.ep-1≠x.ep))(h3:x.dig= []∨y.par≠x.dig):x.next y=15:=by unfold Hd.next;rw [if_neg h,if_neg h2,if_pos h3]
theorem qVB{x y:Hd}(h: ¬y.err≠0)(h2: ¬(y.ep=0∨y.ep-1≠x.ep))(h3: ¬(x.dig= []∨y.par≠x.dig))(h4:y.dep≠x.dep∨y.aud<x.aud):x.next y=22:=by unfold Hd.next;rw [if_neg h,if_neg h2,if_neg h3,if_pos h4]
theorem qVA{x y:Hd}(h: ¬y.err≠0)(h2: ¬(y.ep=0∨y.ep-1≠x.ep))(h3: ¬(x.dig= []∨y.par≠x.dig))(h4: ¬(y.dep≠x.dep∨y.aud<x.aud)):x.next y=0:=by unfold Hd.next;rw [if_neg h,if_neg h2,if_neg h3,if_neg h4]
theorem qT8(F:Hp)(hK:KF F)(x:Hd)(A:Option Addr)(c:Nat)(hg:x.good)(hsl:Sl F 1 A x.nodes.length c (qAI x.nodes))(y:Hd)(B:Option Addr)(e:Nat)(hgy:y.good)(hsy:Sl F 1 B y.nodes.length e (qAI y.nodes)):
    Cz prog 75 [.agg #[N64 x.ep,Str x.par,I x.dep,I x.aud,.slice A x.nodes.length c],.agg #[N64 y.ep,Str y.par,I y.dep,I y.aud,.slice B y.nodes.length e]] F (I (x.next y)):=by
  obtain ⟨hgx1,hgx2,hgx3⟩:=id hg
  obtain ⟨hgy1,hgy2,hgy3⟩:=id hgy
  refine Ct.walk func75 rfl ntmps75 rfl (λw0 hw0=>?_)
  refine J.f λ_ j1=>J.p (qAd O O O) O λg2 _=>J.p (qAd O O O) O λg3 _=>?_
  change J _ _ _ [_,_,blk g3 [N64 y.ep,Str y.par,I y.dep,I y.aud,.slice B y.nodes.length e] 34] _
  refine J.b O<|J.c j1 ?_
  refine J.k λ_ j2=>J.b0 [F,blk g2 [N64 x.ep,Str x.par,I x.dep,I x.aud,.slice A x.nodes.length c] 34,blk g3 [N64 y.ep,Str y.par,I y.dep,I y.aud,.slice B y.nodes.length e] 34] [] (.y 0 (.y 2 (.e 1 (.e 3 (.y 4 (.y 5 .nil)))))) Tryz.wide (by decide+kernel) (by simp) ?_
  refine J.j O (qAY 2 O O O qDT qBz O) O O<|J.j O (qAY 1 O O O qDT qBz O) O O<|J.Z O (qAB O O ent61 (Ct.use0 (λF' hF=>qGr F' y B e hgy (hsy.mono (Fa hF))))) O (by simp) λg8 _=>J.Z rfl (qAB rfl rfl ent33 (Ct.use0 (λF' hF=>qCW F' (hK.mo hF) x A c hg (hsl.mono (Fa hF))))) rfl (by simp) λg10 _=>J.b6 ?_
  refine J.b6 ?_
  refine J.a8<|J.u (J.D j2 ?_)
  refine J.k λ_ j3=>J.O<|J.f λ_ j4=>J.b O<|J.g (qAe O O O) O<|J.b O<|J.c j4 ?_
  refine J.W O (λh11=>?_) (λh11=>?_)
  ·
    refine J.f λ_ j5=>J.q 2 O<|J.c j5 ?_
    exact J.A<|J.a7<|J.V<|J.E hw0 O () (congrArg I (qYR (by omega)).symm) trivial [0] O (by decide)
  refine J.f λ_ j6=>J.T 0 qDW qD9 O O O O O<|J.a5 2 qEz O O O O O<|J.g (qAg O O O) O<|J.b O<|J.b9 (d:=19) O (λh19=>?_) (λh19=>?_)
  ·
    refine J.q 8 O<|J.c j6 ?_
    refine J.c4 ?_
    refine J.f λ_ j7=>J.b O<|J.c j7 ?_
    exact J.A<|J.a7<|J.V<|J.E hw0 O () (congrArg I (qVD (by omega) (by omega)).symm) trivial [0] O (by decide)
  refine J.G (qAA (j:=0) O O qDW O qD9 O) O<|J.G (qAE 2 O O O qEz O) O<|J.G (qWd (b:=1) O O O (by omega)) O<|J.G (qAA (j:=0) O O qDW O qD9 O) O<|J.G (qAE 1 O O O qEz O) O<|J.G (qAe O O O) O<|J.q 2 O<|J.c j6 ?_
  refine J.W O (λh15=>?_) (λh15=>?_)
  ·
    refine J.f λ_ j8=>J.b O<|J.c j8 ?_
    exact J.A<|J.a7<|J.V<|J.E hw0 O () (congrArg I (qVD (by omega) (by omega)).symm) trivial [0] O (by decide)
  refine J.f λ_ j9=>J.b O<|J.g (qBS O O O) O<|J.b O<|J.b9 (d:=30) O (λh30=>?_) (λh30=>?_)
  ·
    refine J.q 6 O<|J.c j9 ?_
    refine J.c4 ?_
    refine J.f λ_ j10=>J.b O<|J.c j10 ?_
    exact J.A<|J.a7<|J.V<|J.E hw0 O () (congrArg I (qVC (by omega) (by omega) (.inl h30)).symm) trivial [0] O (by decide)
  refine J.G (qAA (j:=1) O O qDW O z9_ O) O<|J.G (qAE 2 O O O b9_ O) O<|J.b O<|J.G (qEC O O O) O<|J.q 2 O<|J.c j9 ?_
  refine J.W O (λh27=>?_) (λh27=>?_)
  ·
    refine J.f λ_ j11=>J.b O<|J.c j11 ?_
    exact J.A<|J.a7<|J.V<|J.E hw0 O () (congrArg I (qVC (by omega) (by omega) (.inr h27)).symm) trivial [0] O (by decide)
  refine J.f λ_ j12=>J.T 2 qDW z3_ O O O O O<|J.a5 2 b3_ O O O O O<|J.T 2 qDW z3_ O O O O O<|J.a5 1 b3_ O O O O O<|J.g (qAe O O O) O<|J.b O<|J.b9 (d:=42) O (λh42=>?_) (λh42=>?_)
  ·
    refine J.q 7 O<|J.c j12 ?_
    refine J.c4 ?_
    refine J.f λ_ j13=>J.b O<|J.c j13 ?_
    exact J.A<|J.a7<|J.V<|J.E hw0 O () (congrArg I (qVB (by omega) (by omega) (λh=>h.elim h30 h27) (by omega)).symm) trivial [0] O (by decide)
  refine J.G (qAA (j:=3) O O qDW O z3_ O) O<|J.G (qAE 2 O O O b3_ O) O<|J.G (qAA (j:=3) O O qDW O z3_ O) O<|J.G (qAE 1 O O O b3_ O) O<|J.G (qAT O O O) O<|J.q 2 O<|J.c j12 ?_
  refine J.W O (λh36=>?_) (λh36=>?_)
  ·
    refine J.f λ_ j14=>J.b O<|J.c j14 ?_
    exact J.A<|J.a7<|J.V<|J.E hw0 O () (congrArg I (qVB (by omega) (by omega) (λh=>h.elim h30 h27) (by omega)).symm) trivial [0] O (by decide)
  refine J.b5<|J.a2<|J.u (J.D j3 ?_)
  refine J.f λ_ j15=>J.b O<|J.c j15 ?_
  exact J.A<|J.E hw0 O () (congrArg I (qVA (by omega) (by omega) (λh=>h.elim h30 h27) (by omega)).symm) trivial [0] O (by decide)
theorem qI2(F:Hp)(hK:KF F)(x:Hd)(A:Option Addr)(c:Nat)(hg:x.good)(hsl:Sl F 1 A x.nodes.length c (qAI x.nodes))(hsm: ∀s∈x.nodes,s.length≤1048576):
    Cz prog 41 [.agg #[N64 x.ep,Str x.par,I x.dep,I x.aud,.slice A x.nodes.length c]] F (Str (qCI x.nodes x.dep)):=by
  refine Ct.walk func41 rfl ntmps41 rfl (λw0 hw0=>?_)
  refine J.f λ_ j1=>J.p (qAd O O O) O λg1 _=>J.b O<|J.c j1 ?_
  refine J.f λ_ j2=>J.T 4 qDW qBs O O O O O<|J.a5 1 qB8 O O O O O<|J.T 2 qDW z3_ O O O O O<|J.a5 1 b3_ O O O O O<|J.p (qAB O O ent96 (Ct.use0 (λF' hF=>qUT F' (hK.mo hF) x.dep x.nodes A c (hsl.mono (Fa hF)) hsm))) O λg10 _=>J.q 5 O<|J.c j2 ?_
  refine J.f λ_ j3=>J.q 2 O<|J.c j3 ?_
  exact J.A<|J.E hw0 O () O trivial [0] O (by decide)
end Go.Proofs.YtcgcjaflllmlpaaGreatDoor
