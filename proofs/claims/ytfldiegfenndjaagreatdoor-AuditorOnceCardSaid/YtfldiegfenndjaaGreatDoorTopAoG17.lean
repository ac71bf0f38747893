/- A part of the proof. -/
import Derived.Test.YtfldiegfenndjaaGreatDoorTopAoG15
import Derived.Test.YtfldiegfenndjaaGreatDoorTopAoG16
import Derived.Test.YtfldiegfenndjaaGreatDoorTopAoG8
import Derived.Test.YtfldiegfenndjaaGreatDoorTopAoG6
set_option linter.unusedSimpArgs false
set_option linter.unusedVariables false
namespace Go.Proofs.YtfldiegfenndjaaGreatDoor
open Go Go.Fw Go.Proofs.Tryz
set_option maxRecDepth 100000
set_option maxHeartbeats 1000000
theorem qR7{i:Nat}(hi:i≤16):2^i≤65536:=jd (jg (by decide) hi) (by decide)
theorem qMS{k:List UInt8}(hk:k.length=16){i:Nat}(hi:i<16):(Sm.kv k/2^(128-i))*2^1|||Sm.bit k i=Sm.kv k/2^(128-(i+1)):=by
 have hb:=Sm.bit_le k i
 have e:=Nat.two_pow_add_eq_or_of_lt (i:=1) (b:=Sm.bit k i) (by omega) (Sm.kv k/2^(128-i))
 have e1:=Sm.pre_succ (Sm.kv k) (127-i)
 rw [show 127-i+1=128-i by omega] at e1
 rw [zU,←e,Sm.bit_kv hk (by omega),show 128-(i+1)=127-i by omega]
 omega
def qDZ(k:List UInt8):Nat→Nat
 |0=>0
 |i+1=>qDZ k i*2^1|||Sm.bit k i
theorem qH6(k:List UInt8): ∀i,qDZ k i<2^i
 |0=>Nat.one_pos
 |i+1=>by
  have h1:=qH6 k i
  have h2:=Sm.bit_le k i
  have h3:2^(i+1)=2^i*2:=zC 2 i
  have e:=Nat.two_pow_add_eq_or_of_lt (i:=1) (b:=Sm.bit k i) (by omega) (qDZ k i)
  rw [qDZ,zU,←e]
  omega
theorem qLT{k:List UInt8}(hk:k.length=16): ∀{i:Nat},i≤16→qDZ k i=Sm.kv k/2^(128-i)
 |0,_=>by rw [j8 (yC (Sm.kv_lt k) (by rw [hk]))];rfl
 |i+1,hi=>by rw [qDZ,qLT hk (by omega),qMS hk (by omega)]
def kF(n d:Nat):List UInt8:= [UInt8.ofNat (n*2^(16-d)/2^8),UInt8.ofNat (n*2^(16-d)),0,0,0,0,0,0,0,0,0,0,0,0,0,0]
theorem qDs(n d:Nat):(kF n d).length=16:=rfl
theorem qQg{n d:Nat}(hd:d≤16)(hn:n<2^d):n*2^(16-d)<65536:=by
 have h:=Nat.mul_lt_mul_of_pos_right hn (zA (16-d))
 rw [←Nat.pow_add,show d+(16-d)=16 by omega] at h
 exact h
theorem kF_kv{n d:Nat}(hd:d≤16)(hn:n<2^d):Sm.kv (kF n d)=n*2^(128-d):=by
 have ht:=qQg hd hn
 obtain ⟨t,hte⟩: ∃t,t=n*2^(16-d):=⟨_,rfl⟩
 have e:n*2^(128-d)=t*2^112:=by rw [hte,Nat.mul_assoc,←Nat.pow_add,show 16-d+112=128-d by omega]
 have h1:(UInt8.ofNat (t/2^8)).toNat=t/2^8:=UInt8.toNat_ofNat_of_lt' (by show _<256;omega)
 have h2:(UInt8.ofNat t).toNat=t%256:=by simp
 rw [e]
 unfold kF
 rw [←hte]
 simp only [Sm.kv,jD,jH,h1,h2]
 show t/2^8*256^15+(t%256*256^14+0)=_
 rw [show(256:Nat)^15=256*2^112 by decide,show(256:Nat)^14=2^112 by decide,←Nat.mul_assoc,zO,←zV]
 congr 1
 omega
theorem qT7{n d:Nat}(hd:d≤16)(hn:n<2^d):Sm.kv (kF n d)/2^(128-d)=n:=by rw [kF_kv hd hn,Nat.mul_div_cancel _ (zA _)]
theorem qS6(F:Hp)(k:List UInt8)(hk:k.length≤1000000)(d:Nat)(hd:d≤16):Ct prog 194 [Str (k),I ((d:Nat):Int)] [F] (λ_:Unit=>I ((qDZ k d:Nat):Int)) (λ_=>True) (λ_=> [F]):=by
 refine Ct.walk func194 rfl ntmps194 rfl (λw0 hw0=>?_)
 refine J.g λK1 hK1=>J.b V<|J.c hK1<|J.E 0 1 ?_
 refine J.k λK2 hK2=>J.g λK3 hK3=>J.b V<|J.f (qAT V V V) V<|J.b V<|J.c6 (d:=9) V (λh9=>?_) (λh9=>?_)
 ·
  refine J.j 3 V<|J.c hK3<|J.G 0 1 12 ?_
  refine J.c7 ?_
  refine J.g λK4 hK4=>J.b V<|J.c hK4<|J.A 4 ?_
  exact J.D<|J.a7<|J.Z hw0 V () (by exfalso;omega) trivial [0] V (by decide)
 refine J.b V<|J.T (qA5 V V V) V<|J.b V<|J.c hK3<|J.G 0 1 12 ?_
 refine J.a4 V (λh12=>?_) (λh12=>?_)
 ·
  refine J.g λK5 hK5=>J.b V<|J.c hK5<|J.A 4 ?_
  exact J.D<|J.a7<|J.Z hw0 V () (by exfalso;omega) trivial [0] V (by decide)
 refine J.W hK2<|J.E 0 1 ?_
 refine J.g λK6 hK6=>J.b V<|J.c hK6<|J.G 0 1 5 ?_
 refine J.k λK7 hK7=>J.g λK8 hK8=>J.j 2 V<|J.c hK8<|J.O 0 5 13 14 ?_
 refine J.a1<|J.c1 (X:=Nat) (λζ=> [(0,Str (k)),(5,I ((qDZ k ζ:Nat):Int)),(13,I ((d:Nat):Int)),(14,I ((ζ:Nat):Int))]) (λζ=> [F]) (λζ=>ζ≤d) (λζ=>d-ζ) 0 (jF _) ⟨V,V,V,V,trivial⟩ (λ_ h=>h) ?_
 rintro i hi I0 hI0
 have hlt:=qH6 k i
 have hp16:=qR7 (i:=i) (by omega)
 have hbl:=Sm.bit_le k i
 refine J.g λK9 hK9=>J.f (qAT V V V) V<|J.c hK9<|J.a0 0 5 13 14 15 ?_
 refine J.k λK10 hK10=>J.a4 V (λh15=>?_) (λh15=>?_)
 ·
  refine J.W hK10<|J.O 0 5 13 14 ?_
  refine J.k λK11 hK11=>J.a1<|J.g λK12 hK12=>J.j 2 V<|J.c hK12<|J.a0 0 5 6 13 14 ?_
  refine J.H<|J.b V<|J.f (qFz (a:=qDZ k i) (m:=1) V V V (by omega)) V<|J.j 2 V<|J.q (qAB V V ent147 (Ct.use0 (λF' hF=>qFC F' k (by first|omega|exact hsm _) i (by omega)))) V λg21 _=>J.f (qTo (a:=(qDZ k i)*2^1) (b:=Sm.bit k i) V V V (by omega)) V<|J.b V<|J.a8<|J.b0<|J.u (J.M hK11 ?_)
  refine J.O 0 5 13 14 ?_
  exact J.H<|J.f ((qAQ V V V (by omega)).nat (i+1) (by omega)) V<|J.b V<|J.a8<|J.u<|J.a9 (i+1) (λη (hη:_∧d-η<d-i)=>hI0 η hη.1 hη.2) ⟨(by omega),by first|omega|(dsimp only;omega)⟩ ⟨V,V,V,V,trivial⟩ (λ_ h=>h)
 refine J.b8<|J.a6<|J.a6<|J.b9 ?_
 refine J.u (J.M hK7 ?_)
 refine J.A 5 ?_
 refine J.g λK13 hK13=>J.j 2 V<|J.c hK13<|J.A 4 ?_
 exact J.D<|J.Z hw0 V () (by rw [show i=d by omega]) trivial [0] rfl (by decide)
theorem qI2(F:Hp)(n d:Nat)(hd:d≤16)(hn:n<2^d):Ct prog 76 [I ((n:Nat):Int),I ((d:Nat):Int)] [F] (λ_:Unit=>Str (kF n d)) (λ_=>True) (λ_=> [F]):=by
 have hp16:=qR7 hd
 have htl:=qQg hd hn
 have hpe:2^(16-d)≤65536:=qR7 (Nat.sub_le _ _)
 refine Ct.walk func76 rfl ntmps76 rfl (λw0 hw0=>?_)
 refine J.g λK1 hK1=>J.b V<|J.c hK1<|J.E 0 1 ?_
 refine J.g λK2 hK2=>J.q (qDR (n':=16) V V qBm el5 (by omega) (by omega)) V ?_
 rintro g7 _
 change J _ ((7,.slice (some ⟨g7,0,none⟩) 16 16)::_) _ [F,blk g7 (List.replicate 16 [.int .u8 0]).flatten 5] _
 refine J.b V<|J.c hK2<|J.G 0 1 5 ?_
 refine J.k λK3 hK3=>J.g λK4 hK4=>J.b V<|J.f ((qA9 V V V).yes (by omega)) V<|J.j 2 V<|J.T ((qGy V V V).yes (by omega)) V<|J.j 3 V<|J.T ((qA9 V V V).yes (by omega)) V<|J.j 4 V<|J.T ((qFz (a:=1) (m:=d) V V V ⟨by omega,by omega⟩)) V<|J.T ((qAT V V V).yes (by omega)) V<|J.b V<|J.c hK4<|J.O 0 1 5 23 ?_
 refine J.c7 ?_
 refine J.g λK5 hK5=>J.j 2 V<|J.f ((qAn V V V (by omega)).nat (16-d) (by omega)) V<|J.f (qFz V V V (by first|omega|decide|(simp only [jm,jG] at*;omega))) rfl<|J.b rfl<|J.c hK5<|J.E 5 6 ?_
 refine J.H<|J.j 3 V<|J.f (qSE V V V (by first|omega|decide|(simp only [jm,jG] at*;omega))) rfl<|J.f (qAr rfl rfl u3_ u5_) rfl<|J.b rfl<|J.f (qAr rfl rfl u3_ u5_) rfl<|J.f (qA4 (i:=0) (j:=0+0*1) rfl rfl rfl qBm z5_ (by first|omega|decide|(simp only [jm,jG] at*;omega)) (by omega)) rfl<|J.b1 (qBj (i:=1) (k:=0) (off:=0) (b:= [B8 (UInt8.ofNat ((n*2^(16-d))/2^8))]) rfl rfl rfl rfl (qAs (q:=True) (sz:=1) (xs:=qAR (List.replicate 16 0)) rfl (by intro x hx;obtain ⟨_,_,rfl⟩:=List.mem_map.1 hx;rfl)) (vs:= [B8 (UInt8.ofNat ((n*2^(16-d))/2^8))]) rfl z5_ rfl (by omega) (qBa (qAd 0 (by first|omega|decide|(simp only [jm,jG] at*;omega)))) rfl (jJ _)) rfl rfl ?_
 rintro m4_1 hm4_1
 rw [qEz] at hm4_1
 refine J.f (qA4 (i:=1) (j:=0+1*1) V V V qBm z5_ (by first|omega|decide|(simp only [jm,jG] at*;omega)) (by omega)) rfl<|J.b1 (qBj (i:=1) (k:=1) (off:=0) (b:= [B8 (UInt8.ofNat (n*2^(16-d)))]) rfl rfl rfl rfl hm4_1 (vs:= [B8 (UInt8.ofNat (n*2^(16-d)))]) rfl z5_ rfl (by omega) (qBa (qAd 0 (by first|omega|decide|(simp only [jm,jG] at*;omega)))) rfl (jJ _)) rfl rfl ?_
 rintro m4_2 hm4_2
 rw [qEz] at hm4_2
 refine J.c hK3<|J.A 5 ?_
 refine J.g λK6 hK6=>J.b V<|J.f (qCU V V qBm u5_ u9_ (m:=m4_2) (by simp) hm4_2.sl) rfl<|J.b rfl<|J.c hK6<|J.A 4 ?_
 exact J.D<|J.Z hw0 V () (by unfold kF;rfl) trivial [0] V (by decide)
theorem qER(l:List Sm.PR)(b:List UInt8)(d:Nat):(Sm.ndB l b d).length≤17:=Sm.nd_small _ _
attribute [local irreducible] Sha.tagged Sb.join
theorem qEc(F:Hp)(d:Int):Ct prog 38 [I d] [F] (λ_:Unit=>I (cnt d)) (λ_=>True) (λ_=> [F]):=by
 refine Ct.walk func38 rfl ntmps38 rfl (λw0 hw0=>?_)
 refine J.g λK1 hK1=>J.b V<|J.c hK1<|J.A 0 ?_
 refine J.k λK2 hK2=>J.g λK3 hK3=>J.b V<|J.f (qAT V V V) V<|J.b V<|J.c6 (d:=5) V (λh5=>?_) (λh5=>?_)
 ·
  refine J.j 3 V<|J.c hK3<|J.E 0 8 ?_
  refine J.c7 ?_
  refine J.g λK4 hK4=>J.b V<|J.c hK4<|J.A 2 ?_
  exact J.D<|J.a7<|J.Z hw0 V () (by rw [qH0.2 (by omega)];rfl) trivial [0] rfl (by decide)
 refine J.b V<|J.T (qA5 V V V) V<|J.b V<|J.c hK3<|J.E 0 8 ?_
 refine J.a4 V (λh8=>?_) (λh8=>?_)
 ·
  refine J.g λK5 hK5=>J.b V<|J.c hK5<|J.A 2 ?_
  exact J.D<|J.a7<|J.Z hw0 V () (by rw [qH0.2 (by omega)];rfl) trivial [0] rfl (by decide)
 refine J.W hK2<|J.A 0 ?_
 refine J.g λK6 hK6=>J.b V<|J.f ((qHa V V (by show some (I d)=_;rw [show((d.toNat:Nat):Int)=d by omega]) ⟨by omega,by have:=Int.pow_pos (n:=2) (m:=d.toNat) (by decide);omega,by rw [Int.one_mul];have h1:=jg (n:=2) (by decide) (show d.toNat≤4 by omega);have h2:((2^d.toNat:Nat):Int)≤((2^4:Nat):Int):=Int.ofNat_le.2 h1;simp only [Int.natCast_pow] at h2;exact Int.le_trans h2 (by decide)⟩).as (v':=I (cnt d)) (congrArg I (by unfold cnt;rw [if_neg (by omega)];simp))) rfl<|J.b rfl<|J.c hK6<|J.A 2 ?_
 exact J.D<|J.Z hw0 V () V trivial [0] V (by decide)
end Go.Proofs.YtfldiegfenndjaaGreatDoor
namespace Go.Proofs.YtfldiegfenndjaaGreatDoor
open Go Go.Fw Go.Proofs.Tryz
set_option maxRecDepth 100000
set_option maxHeartbeats 1000000
theorem ent76:qAE prog 76:=qAE.of func76 rfl (by kernel_rfl)
theorem ent194:qAE prog 194:=qAE.of func194 rfl (by kernel_rfl)
def qCW(l:List Sm.PR)(d i:Nat):List (List UInt8):=(List.range i).map λj=>Sm.ndB l (kF j d) d
abbrev qAN(l:List Sm.PR)(d:Nat):List (List UInt8):=qCW l d (2^d)
theorem qF4(l:List Sm.PR)(d i:Nat):qCW l d (i+1)=qCW l d i++ [Sm.ndB l (kF i d) d]:=by unfold qCW;rw [zB,jM];rfl
theorem qCJ(l:List Sm.PR)(d i:Nat):(qCW l d i).length=i:=by unfold qCW;rw [jK,zP]
theorem qEy{d:Nat}(hd:d≤4):cnt ((d:Nat):Int)=2^d:=by
 unfold cnt
 rw [if_neg (by omega)];rfl
theorem pow4{d:Nat}(hd:d≤4):0<2^d∧2^d≤16:=⟨zA _,jd (jg (by decide) hd) (by decide)⟩
def ofV(k:List UInt8)(d:Nat):Nat:=if k.length=16 then qDZ k d else 0
def ofE(k:List UInt8):Nat:=if k.length=16 then 0 else 10
theorem qJH(F:Hp)(hK:KF F)(g:Nat)(l:List Sm.PR)(hT:qDm F g l)(hf:qC9 l)(d:Nat)(hd:d≤4):Ct prog 37 [Ptr g,I ((d:Nat):Int)] [F] (λx:Option Addr×Nat×Hp=> .tuple #[.slice x.1 (qAN l d).length x.2.1,I ((0:Nat):Int)]) (λx=>Row x.2.2 9 1 x.1 (qAN l d).length x.2.1 (qAH (qAN l d))) (λx=> [F,x.2.2]):=by
 have hpw:=pow4 hd
 have hcn:=qEy hd
 refine Ct.walk func37 rfl ntmps37 rfl (λw0 hw0=>?_)
 refine J.g λK1 hK1=>J.j 2 V<|J.c hK1<|J.E 0 1 ?_
 refine J.g λK2 hK2=>J.b V<|J.q (qAB V V ent38 (Ct.use0 (λF' hF=>qEc F' ((d:Nat):Int)))) V λg10 _=>J.b V<|J.c hK2<|J.G 0 1 6 ?_
 refine J.k λK3 hK3=>J.k λK4 hK4=>?_
 rw [hcn]
 refine J.H<|J.b V<|J.f ((qAS V V V).no (by omega)) V<|J.c hK4<|J.O 0 1 6 12 ?_
 refine J.a5 ?_
 refine J.W hK3<|J.G 0 1 6 ?_
 refine J.g λK5 hK5=>J.b V<|J.c hK5<|J.O 0 1 6 7 ?_
 refine J.k λK6 hK6=>J.g λK7 hK7=>J.j 2 V<|J.c hK7<|J.a0 0 1 7 13 14 ?_
 refine J.a1<|J.c1 (X:=Nat×Option Addr×Nat×Hp) (λζ=> [(0,Ptr g),(1,I ((d:Nat):Int)),(7,.slice ζ.2.1 ((qCW l d ζ.1).length) ζ.2.2.1),(13,I ((2^d:Nat):Int)),(14,I ((ζ.1:Nat):Int))]) (λζ=> [F,ζ.2.2.2]) (λζ=>ζ.1≤2^d∧Row ζ.2.2.2 9 1 ζ.2.1 (qCW l d ζ.1).length ζ.2.2.1 (qAH (qCW l d ζ.1))) (λζ=>2^d-ζ.1) (0,none,0,(λ_=>none)) (⟨jF _,qBc.nil⟩) ⟨V,V,V,V,V,trivial⟩ (λ_ h=>h.empty.pick [0,1] (by decide)) ?_
 rintro⟨i,A,c,m⟩ ⟨hi,hr⟩ I0 hI0
 dsimp only at hi hr⊢
 have hnl:=qCJ l d i
 refine J.g λK8 hK8=>J.f (qAT V V V) V<|J.c hK8<|J.b5 0 1 7 13 14 15 ?_
 refine J.k λK9 hK9=>J.a4 V (λh15=>?_) (λh15=>?_)
 ·
  have hi2:i<2^d:=by omega
  have hkf:=qDs i d
  have hmd:min (((d:Nat):Int)).toNat 128=d:=by rw [jZ];omega
  refine J.W hK9<|J.a0 0 1 7 13 14 ?_
  refine J.k λK10 hK10=>J.a1<|J.g λK11 hK11=>J.j 2 V<|J.c hK11<|J.b5 0 1 7 8 13 14 ?_
  refine J.H<|J.j 4 V<|J.q (qAB V V ent76 (Ct.use0 (λF' hF=>qI2 F' i d (by omega) (by assumption)))) V λg21 _=>J.b V<|J.q (qAB V V ent75 (Ct.use0 (λF' hF=>qFP F' (hK.mo hF) g l (hT.mono (hF F (by simp))) (by assumption) (kF i d) (by first|omega|decide) ((d:Nat):Int) (by first|assumption|exact qHJ (by assumption)|exact qKT (by assumption) (by assumption))))) rfl λg23 _=>J.q (qAJ (l:= [.tmp 23]) (xs:= [[Str (Sm.ndB l (kF i d) (min ((d:Nat):Int).toNat 128))]]) rfl rfl rfl rfl qAh el9 rfl (by decide) (by decide) (by simp)) rfl λg24 _=>?_
  change J _ _ _ [F,m,blk g24 [Str (Sm.ndB l (kF i d) (min ((d:Nat):Int).toNat 128))] 9] _
  refine J.q (qAa (i:=1) (xs:=qAH (qCW l d i)) (m2:=blk g24 [Str (Sm.ndB l (kF i d) (min ((d:Nat):Int).toNat 128))] 9) (ys:= [[Str (Sm.ndB l (kF i d) (min ((d:Nat):Int).toNat 128))]]) V V V qAh qAh el9 V hr (by simp) ((qCK (q:=True) (qAH [Sm.ndB l (kF i d) (min ((d:Nat):Int).toNat 128)]) rfl (by simp [qAH]) rfl).sl) rfl (by omega) (by omega)) rfl ?_
  rintro⟨A25,c25,m25⟩ h25
  try dsimp only at h25
  change J _ ((25,.slice A25 (((qCW l d i).length)+1) c25)::_) _ [_,m25,_] _
  rw [←qBx] at h25
  refine J.b V<|J.a8<|J.b0<|J.u (J.M hK10 ?_)
  refine J.a0 0 1 7 13 14 ?_
  exact J.H<|J.f ((qAQ V V V (by omega)).nat (i+1) (by omega)) V<|J.b V<|J.a8<|J.u<|J.a9 (i+1,A25,c25,m25) (λη (hη:_∧2^d-η.1<2^d-i)=>hI0 η hη.1 hη.2) ⟨⟨by dsimp only;omega,by dsimp only;rw [qF4,jA];rw [hmd] at h25;exact h25⟩,by first|omega|(dsimp only;omega)⟩ ⟨rfl,rfl,by dsimp only;rw [qF4,jA];rfl,rfl,rfl,trivial⟩ (λ_ h=>h.pick [0,1] (by decide))
 refine J.b8<|J.a6<|J.a6<|J.b9 ?_
 refine J.u (J.M hK6 ?_)
 refine J.A 7 ?_
 refine J.g λK12 hK12=>J.j 3 V<|J.c hK12<|J.E 4 5 ?_
 refine J.D ?_
 obtain rfl:i=2^d:=by omega
 exact J.b4 hw0 (λ_ _ h=>h) (qDe V V V) (qAj (A,c,m) V hr [0,1] V (by decide))
theorem qUL(F:Hp)(k:List UInt8)(hk:k.length≤1000000)(d:Nat)(hd:d≤4):Ct prog 161 [Str (k),I ((d:Nat):Int)] [F] (λ_:Unit=> .tuple #[I ((ofV k d:Nat):Int),I ((ofE k:Nat):Int)]) (λ_=>True) (λ_=> [F]):=by
 have hpw:=pow4 hd
 have hcn:=qEy hd
 refine Ct.walk func161 rfl ntmps161 rfl (λw0 hw0=>?_)
 refine J.g λK1 hK1=>J.j 2 V<|J.c hK1<|J.E 0 1 ?_
 refine J.k λK2 hK2=>J.a1<|J.g λK3 hK3=>J.b V<|J.q (qAB V V ent38 (Ct.use0 (λF' hF=>qEc F' ((d:Nat):Int)))) V λg8 _=>J.f ((qAS V V V).no (by omega)) V<|J.b V<|J.c hK3<|J.G 0 1 6 ?_
 refine J.a5 ?_
 refine J.g λK4 hK4=>J.b V<|J.f (qAg u9_ V V) V<|J.f (qAU V V V) V<|J.b V<|J.c hK4<|J.G 0 1 10 ?_
 refine J.a4 V (λh10=>?_) (λh10=>?_)
 ·
  refine J.g λK5 hK5=>J.j 2 V<|J.c hK5<|J.E 4 5 ?_
  exact J.D<|J.b6<|J.a7<|J.b4 hw0 (λ_ _ h=>h) (qDe V V V) (qAj () (by unfold ofV ofE;rw [if_neg (by omega),if_neg (by omega)];rfl) trivial [0] rfl (by decide))
 refine J.c0<|J.b0<|J.u (J.M hK2 ?_)
 refine J.E 0 1 ?_
 refine J.g λK6 hK6=>J.j 2 V<|J.q (qAB V V ent194 (Ct.use0 (λF' hF=>qS6 F' k (by first|omega|exact hsm _) d (by omega)))) V λg16 _=>J.j 2 V<|J.c hK6<|J.E 4 5 ?_
 exact J.D<|J.b4 hw0 (λ_ _ h=>h) (qDe V V V) (qAj () (by unfold ofV ofE;rw [if_pos (by omega),if_pos (by omega)];rfl) trivial [0] rfl (by decide))
theorem qRP(x m j:Nat):(x^^^2^m)/2^j%2=if j=m then 1-x/2^j%2 else x/2^j%2:=by
  have h1:=zN (x:=x^^^2^m) (i:=j)
  have h2:=zN (x:=x) (i:=j)
  rw [Nat.testBit_xor,Nat.testBit_two_pow,h2] at h1
  have a1:(x^^^2^m)/2^j%2<2:=Nat.mod_lt _ (by decide)
  have a2:x/2^j%2<2:=Nat.mod_lt _ (by decide)
  by_cases h:j=m
  · rw [if_pos h]
    rw [decide_eq_true h.symm] at h1
    by_cases h3:x/2^j%2=1
    · rw [decide_eq_true h3] at h1
      have: ¬(x^^^2^m)/2^j%2=1:=by simpa using h1.symm
      omega
    · rw [decide_eq_false h3] at h1
      have:(x^^^2^m)/2^j%2=1:=by simpa using h1.symm
      omega
  · rw [if_neg h]
    rw [show decide (m=j)=false from decide_eq_false (λe=>h e.symm),Bool.xor_false] at h1
    have:=decide_eq_decide.1 h1
    omega
def turn(k:List UInt8)(d:Nat):List UInt8:=k.set (d/8) (k.getD (d/8) 0^^^UInt8.ofNat (1*2^(7-d%8)))
theorem qB0(k:List UInt8)(d:Nat):(turn k d).length=k.length:=by unfold turn;rw [jm]
theorem qCx{k:List UInt8}(hk:k.length=16){d i:Nat}(hd:d<128)(hi:i<128):Sm.bit (turn k d) i=if i=d then 1-Sm.bit k i else Sm.bit k i:=by
  have hlt:i<8*k.length:=by omega
  unfold Sm.bit
  rw [qB0,if_pos hlt,if_pos hlt]
  unfold turn
  have h1:(1*2^(7-d%8))%256=2^(7-d%8):=by
    rw [Nat.one_mul]
    exact ja (zG (jg (by decide) (show 7-d%8≤7 by omega)) (by decide))
  by_cases hq:i/8=d/8
  · rw [hq]
    have hg:(k.set (d/8) (k.getD (d/8) 0^^^UInt8.ofNat (1*2^(7-d%8)))).getD (d/8) 0=k.getD (d/8) 0^^^UInt8.ofNat (1*2^(7-d%8)):=by
      rw [jB,List.getElem?_set_self (by omega)];rfl
    rw [hg,UInt8.toNat_xor,show(UInt8.ofNat (1*2^(7-d%8))).toNat=2^(7-d%8) by rw [zR];exact h1,qRP]
    by_cases hid:i=d
    · rw [if_pos (by rw [hid]),if_pos hid]
    · rw [if_neg (by omega),if_neg hid]
  · rw [jB,List.getElem?_set_ne (λe=>hq e.symm),←jB,if_neg (λe=>hq (by rw [e]))]
theorem qMt{k:List UInt8}(hk:k.length=16){d:Nat}(hd:d<128):Sm.kv (turn k d)/2^(127-d)=2*(Sm.kv k/2^(128-d))+(1-Sm.bit k d):=by
 have h1:Sm.belowB (turn k d) k d=true:=Sm.belowB_yes λi hi=>by rw [qCx hk hd (by omega),if_neg (by omega)]
 have h2:=(Sm.belowB_kv ((qB0 k d).trans hk) hk (by omega)).1 h1
 have e:=Sm.pre_succ (Sm.kv (turn k d)) (127-d)
 rw [show 127-d+1=128-d by omega,h2,←Sm.bit_kv ((qB0 k d).trans hk) hd,qCx hk hd hd,if_pos rfl] at e
 exact e
theorem qND{k:List UInt8}(hk:k.length=16){d:Nat}(hd:d<128):Sm.kv k/2^(127-d)=2*(Sm.kv k/2^(128-d))+Sm.bit k d:=by
 have e:=Sm.pre_succ (Sm.kv k) (127-d)
 rw [show 127-d+1=128-d by omega,←Sm.bit_kv hk hd] at e
 exact e
def up(k:List UInt8)(d:Nat)(x s:List UInt8):List UInt8:=if Sm.bit k d=0 then Sb.join x s else Sb.join s x
theorem qJc{kv:List Sm.PR}(hf:qC9 kv){k:List UInt8}(hk:k.length=16){d:Nat}(hd:d<128):up k d (Sm.ndB kv k (d+1)) (Sm.ndB kv (turn k d) (d+1))=Sm.ndB kv k d:=by
  have hb:=Sm.bit_le k d
  have ht:=qMt hk hd
  have hs:=qND hk hd
  unfold up
  split
  · rename_i h
    rw [h] at ht hs
    exact Sm.ndB_join hf.once hf.k16 hk hk ((qB0 k d).trans hk) hd hs ht
  · rename_i h
    rw [show Sm.bit k d=1 by omega] at ht hs
    exact Sm.ndB_join hf.once hf.k16 hk ((qB0 k d).trans hk) hk hd ht hs
def bsd(kv:List Sm.PR)(k:List UInt8)(d n:Nat):List (List UInt8):=(List.range n).map λi=>Sm.ndB kv (turn k (d+i)) (d+i+1)
theorem qQN(kv:List Sm.PR)(k:List UInt8)(d n:Nat):bsd kv k d (n+1)=bsd kv k d n++ [Sm.ndB kv (turn k (d+n)) (d+n+1)]:=by unfold bsd;rw [zB,jM];rfl
theorem qCO(kv:List Sm.PR)(k:List UInt8)(d n:Nat):(bsd kv k d n).length=n:=by unfold bsd;rw [jK,zP]
theorem qKD(kv:List Sm.PR)(k:List UInt8)(d:Nat){n i:Nat}(hi:i<n):(bsd kv k d n).getD i []=Sm.ndB kv (turn k (d+i)) (d+i+1):=by
 unfold bsd
 rw [jB,jN,jv hi];rfl
def clm(k:List UInt8)(d:Nat)(bs:List (List UInt8))(x:List UInt8):Nat→List UInt8
 |0=>x
 |i+1=>up k (d+(bs.length-1-i)) (clm k d bs x i) (bs.getD (bs.length-1-i) [])
theorem qH1{kv:List Sm.PR}(hf:qC9 kv){k:List UInt8}(hk:k.length=16){d n:Nat}(hd:d+n≤128): ∀i,i≤n→clm k d (bsd kv k d n) (Sm.ndB kv k (d+n)) i=Sm.ndB kv k (d+n-i)
 |0,_=>rfl
 |i+1,hi=>by
  rw [clm,qH1 hf hk hd i (by omega),qCO,qKD _ _ _ (by omega)]
  have h:=qJc hf hk (d:=d+(n-1-i)) (by omega)
  rw [show d+(n-1-i)+1=d+n-i by omega] at h⊢
  rw [h,show d+(n-1-i)=d+n-(i+1) by omega]
theorem qLA{a b:List UInt8}(ha:a.length≤17)(hb:b.length≤17):(Sb.join a b).length≤17:=by
  have e:Sb.join a b=if a= [0]∧(b= [0]∨Sb.isLf b) then b else if b= [0]∧Sb.isLf a then a else 2::Sha.tagged 10 [a,b]:=by unfold Sb.join;rfl
  rw [e]
  split
  · exact hb
  · split
    · exact ha
    · rw [jD,Sha.tagged_length];decide
theorem qJB{k:List UInt8}{d:Nat}{bs:List (List UInt8)}{x:List UInt8}(hb: ∀s∈bs,s.length≤17)(hx:x.length≤17): ∀i,(clm k d bs x i).length≤17
 |0=>hx
 |i+1=>by
  have h1:=qJB (k:=k) (d:=d) hb hx i
  have h2:(bs.getD (bs.length-1-i) []).length≤17:=by
   by_cases h:bs.length-1-i<bs.length
   · rw [jB,jC h];exact hb _ (jc h)
   · rw [jB,ji (by omega)];exact jF _
  rw [clm,up]
  split
  · exact qLA h1 h2
  · exact qLA h2 h1
def cur(kv:List Sm.PR)(k:List UInt8)(d:Nat):List Sm.PR:=Sm.bel kv k d
def kd(kv:List Sm.PR)(k:List UInt8)(d:Nat):List (List UInt8):=(Sm.keysS kv).filter λq=>Sm.belowB q k d
theorem qG6{kv:List Sm.PR}(ho:Sm.Once kv)(k:List UInt8)(d:Nat):(kd kv k d).length=(cur kv k d).length:=by
 have h:(Sm.prs kv (kd kv k d)).length=(kd kv k d).length:=Sm.prs_len _ _
 rw [←h]
 unfold kd
 rw [Sm.prs_filter]
 exact((Sm.prs_perm ho).filter _).length_eq
theorem qMR{q k:List UInt8}{d:Nat}(h:Sm.belowB q k (d+1)=true):Sm.belowB q k d=true:=by
 rw [Sm.belowB_succ,jh] at h;exact h.1
theorem qSn(kv:List Sm.PR)(k:List UInt8)(d:Nat):(kd kv k d).filter (λq=>Sm.belowB q k (d+1))=kd kv k (d+1):=by
 unfold kd
 rw [ze]
 refine zZ λq _=>?_
 cases h:Sm.belowB q k (d+1) with
 |false=>rfl
 |true=>rw [qMR h];rfl
structure qMb (kv:List Sm.PR) (k:List UInt8) (d s:Nat):Prop where
 ge:d≤s
 le:s≤128
 one:(cur kv k s).length≤1
 two: ∀e,d≤e→e<s→2≤(cur kv k e).length
theorem qMb.from{kv:List Sm.PR}{k:List UInt8}{d e s:Nat}(h:qMb kv k d s)(h1:d≤e)(h2:e≤s):qMb kv k e s:=⟨h2,h.le,h.one,λx q1 q2=>h.two x (by omega) q2⟩
theorem qSz{kv:List Sm.PR}(hf:qC9 kv){k:List UInt8}(hk:k.length=16):(cur kv k 128).length≤1:=(Sm.bel_wf hf.once hf.k16 hk (d:=128) (jJ _)).short
def qBN(kv:List Sm.PR)(k:List UInt8)(s:Nat):Bool:=decide ((kd kv k s).length=1)
def qEN(kv:List Sm.PR)(k:List UInt8)(s:Nat):List UInt8:=if(kd kv k s).length=1 then(kd kv k s).getD 0 [] else []
def qEf(kv:List Sm.PR)(k:List UInt8)(s:Nat):List UInt8:=if(kd kv k s).length=1 then(Sm.getP kv ((kd kv k s).getD 0 [])).getD [] else []
theorem qHy{kv:List Sm.PR}(ho:Sm.Once kv){k:List UInt8}{s:Nat}(h:(kd kv k s).length=1):cur kv k s= [(qEN kv k s,qEf kv k s)]:=by
 obtain ⟨q,hq⟩:=List.length_eq_one_iff.1 h
 have h1:(cur kv k s).Perm (Sm.prs kv (kd kv k s)):=by
  unfold kd
  rw [Sm.prs_filter]
  exact(Sm.prs_perm ho).symm.filter _
 unfold qEN qEf
 rw [if_pos h,if_pos h,hq]
 rw [hq] at h1
 exact List.perm_singleton.1 h1
theorem qHl: ∀{f:Nat} {l:List Sm.PR},Sm.WF f l→Sm.nd f l= [0]∨((Sm.nd f l).length=17∧(((Sm.nd f l).getD 0 0).toNat=1∨((Sm.nd f l).getD 0 0).toNat=2))
  |f,[],_=> .inl (Sm.nd_nil f)
  |f,[p],_=> .inr (by rw [Sm.nd_one];unfold Sb.leafN;exact⟨by rw [jD,Sha.tagged_length],.inl rfl⟩)
  |0,a::b::r,hw=>by have:=hw.short;simp at this
  |f+1,a::b::r,hw=>by
    rw [Sm.nd_two f (by simp)]
    have e: ∀x y,Sb.join x y=if x= [0]∧(y= [0]∨Sb.isLf y) then y else if y= [0]∧Sb.isLf x then x else 2::Sha.tagged 10 [x,y]:=λx y=>by unfold Sb.join;rfl
    rw [e]
    split
    · exact qHl (hw.side false)
    · split
      · exact qHl (hw.side true)
      · exact .inr ⟨by rw [jD,Sha.tagged_length],.inr rfl⟩
theorem qJx: ∀{f:Nat} {l:List Sm.PR},Sm.WF f l→2≤l.length→((Sm.nd f l).getD 0 0).toNat=2
  |0,l,hw,h=>by have:=hw.short;omega
  |f+1,l,hw,h=>by
    rw [Sm.nd_two f h]
    have e: ∀x y,Sb.join x y=if x= [0]∧(y= [0]∨Sb.isLf y) then y else if y= [0]∧Sb.isLf x then x else 2::Sha.tagged 10 [x,y]:=λx y=>by unfold Sb.join;rfl
    have hs:=Sm.side_len f l
    have z1:=Sm.nd_eq0 (hw.side true)
    have z2:=Sm.nd_eq0 (hw.side false)
    rw [e]
    split
    · rename_i hc
      have h0:(Sm.side f true l).length=0:=by rw [z1.1 hc.1];rfl
      have h2:=qJx (hw.side false) (by omega)
      exact h2
    · split
      · rename_i hc
        have h0:(Sm.side f false l).length=0:=by rw [z2.1 hc.1];rfl
        exact qJx (hw.side true) (by omega)
      · rfl
def qNq(s:List UInt8):Bool:=decide (s= [0]∨(s.length=17∧((s.getD 0 0).toNat=1∨(s.getD 0 0).toNat=2)))
structure qOq (bs:List (List UInt8)) (th:Bool) (pk pv k:List UInt8) (d:Nat):Prop where
 k16:k.length=16
 le:d+bs.length≤128
 nodes: ∀j,j<bs.length→qNq (bs.getD j [])=true
 last:0<bs.length→bs.getD (bs.length-1) []≠ [0]∧(th=false→((bs.getD (bs.length-1) []).getD 0 0).toNat=2)
 no:th=false→pk= []∧pv= []
 yes:th=true→pk.length=16∧Sm.belowB pk k (d+bs.length)=true
 small: ∀s∈bs,s.length≤17
theorem qOb(kv:List Sm.PR)(k:List UInt8)(d n:Nat): ∀s∈bsd kv k d n,s.length≤17:=λs hs=>by
 unfold bsd at hs
 obtain ⟨i,_,rfl⟩:=List.mem_map.1 hs
 exact qER _ _ _
theorem qQ5{kv:List Sm.PR}{k q:List UInt8}{s:Nat}(h:q∈kd kv k s):(∃v,(q,v)∈kv)∧Sm.belowB q k s=true:=by
 obtain ⟨h1,h2⟩:=List.mem_filter.1 h
 exact⟨Sm.keysS_mem.1 h1,h2⟩
theorem qNd{kv:List Sm.PR}(hf:qC9 kv){k:List UInt8}(hk:k.length=16){e:Nat}(he:e<128):(cur kv k (e+1)).length+(Sm.bel kv (turn k e) (e+1)).length=(cur kv k e).length:=by
  have hb:=Sm.bit_le k e
  have ht:=qMt hk he
  have hs:=qND hk he
  have h:=Sm.side_len (127-e) (Sm.bel kv k e)
  have hl:=hf.k16
  unfold cur
  by_cases h0:Sm.bit k e=0
  · rw [h0] at ht hs
    rw [Sm.bel_half hl hk hk he true (by rw [if_pos rfl];exact hs),Sm.bel_half hl hk ((qB0 k e).trans hk) he false (by rw [if_neg (by decide)];exact ht)]
    exact h
  · rw [show Sm.bit k e=1 by omega] at ht hs
    rw [Sm.bel_half hl hk hk he false (by rw [if_neg (by decide)];exact hs),Sm.bel_half hl hk ((qB0 k e).trans hk) he true (by rw [if_pos rfl];exact ht)]
    omega
theorem qLy{kv:List Sm.PR}(hf:qC9 kv){k:List UInt8}(hk:k.length=16){d s:Nat}(h:qMb kv k d s):qOq (bsd kv k d (s-d)) (qBN kv k s) (qEN kv k s) (qEf kv k s) k d:=by
  have hle:=h.le
  have hge:=h.ge
  have ht16: ∀e,(turn k e).length=16:=λe=>(qB0 k e).trans hk
  refine⟨hk,by rw [qCO];omega,λj hj=>?_,λh0=>?_,λht=>?_,λht=>?_,qOb _ _ _ _⟩
  · rw [qCO] at hj
    rw [qKD _ _ _ hj]
    exact decide_eq_true (qHl (Sm.bel_wf hf.once hf.k16 (ht16 _) (by omega)))
  · rw [qCO] at h0⊢
    rw [qKD _ _ _ (by omega)]
    have h2:=h.two (d+(s-d-1)) (by omega) (by omega)
    have ho:=qNd hf hk (e:=d+(s-d-1)) (by omega)
    have hone:=h.one
    rw [show d+(s-d-1)+1=s by omega] at ho⊢
    have hw:=Sm.bel_wf hf.once hf.k16 (ht16 (d+(s-d-1))) (d:=s) hle
    refine⟨λe=>?_,λhth=>?_⟩
    · have:=(Sm.nd_eq0 hw).1 e
      rw [this] at ho
      simp at ho
      omega
    · have h3:(kd kv k s).length≠1:=of_decide_eq_false hth
      rw [qG6 hf.once] at h3
      exact qJx hw (by omega)
  · have h3:(kd kv k s).length≠1:=of_decide_eq_false ht
    unfold qEN qEf
    rw [if_neg h3,if_neg h3];exact⟨rfl,rfl⟩
  · have h3:(kd kv k s).length=1:=of_decide_eq_true ht
    obtain ⟨q,hq⟩:=List.length_eq_one_iff.1 h3
    have hm:q∈kd kv k s:=by rw [hq];exact .head _
    obtain ⟨⟨v,hv⟩,hb⟩:=qQ5 hm
    unfold qEN
    rw [if_pos h3,hq,qCO,show d+(s-d)=s by omega]
    exact⟨hf.k16 _ hv,hb⟩
theorem qQE{kv:List Sm.PR}(hf:qC9 kv){k:List UInt8}{d s:Nat}(h:qMb kv k d s):(if qBN kv k s=true then Sb.leafN (qEN kv k s) (qEf kv k s) else [0])=Sm.ndB kv k s:=by
  unfold Sm.ndB
  have e1:Sm.bel kv k s=cur kv k s:=rfl
  have hone:=h.one
  by_cases h3:(kd kv k s).length=1
  · rw [if_pos (show qBN kv k s=true from decide_eq_true h3),e1,qHy hf.once h3,Sm.nd_one]
  · rw [if_neg (by unfold qBN;rw [decide_eq_false h3];decide)]
    rw [qG6 hf.once] at h3
    rw [e1,je (show(cur kv k s).length=0 by omega),Sm.nd_nil]
theorem tells{kv:List Sm.PR}(hf:qC9 kv){k:List UInt8}{d s:Nat}(h:qMb kv k d s):
    (Sm.getP kv k).isSome=(qBN kv k s&&decide (qEN kv k s=k))∧(qBN kv k s=true→qEN kv k s=k→Sm.getP kv k=some (qEf kv k s)):=by
  have hself:Sm.belowB k k s=true:=Sm.belowB_yes λ_ _=>rfl
  have hone:=h.one
  have hmem: ∀v,Sm.getP kv k=some v→(k,v)∈cur kv k s:=λv hv=>List.mem_filter.2 ⟨Sm.getP_some hv,hself⟩
  by_cases h3:(kd kv k s).length=1
  · have hc:=qHy hf.once h3
    have ht:qBN kv k s=true:=decide_eq_true h3
    have hin:(qEN kv k s,qEf kv k s)∈kv:=(List.mem_filter.1 (show(qEN kv k s,qEf kv k s)∈cur kv k s by rw [hc];exact .head _)).1
    rw [ht,Bool.true_and]
    by_cases hk:qEN kv k s=k
    · have hg:=Sm.getP_mem hf.once hin
      rw [show(qEN kv k s,qEf kv k s).1=k from hk] at hg
      rw [hg,decide_eq_true hk]
      exact⟨rfl,λ_ _=>rfl⟩
    · rw [decide_eq_false hk]
      refine⟨?_,λ_ q=>absurd q hk⟩
      cases hg:Sm.getP kv k with
      |none=>rfl
      |some v=>
        have:=hmem v hg
        rw [hc,jU] at this
        injection this with e _
        exact absurd e.symm hk
  · have ht:qBN kv k s=false:=decide_eq_false h3
    rw [ht,Bool.false_and]
    refine⟨?_,λq=>by cases q⟩
    rw [qG6 hf.once] at h3
    have h0:cur kv k s= []:=je (by omega)
    cases hg:Sm.getP kv k with
    |none=>rfl
    |some v=>
      have:=hmem v hg
      rw [h0] at this;cases this
theorem qKx{s:List UInt8}(h:s= [0]):qNq s=true:=decide_eq_true (.inl h)
theorem qFA{s:List UInt8}(h1:s.length=17)(h2:(s.getD 0 0).toNat=1∨(s.getD 0 0).toNat=2):qNq s=true:=decide_eq_true (.inr ⟨h1,h2⟩)
theorem qDS{s:List UInt8}(h0: ¬s= [0])(h: ¬(s.length=17∧((s.getD 0 0).toNat=1∨(s.getD 0 0).toNat=2))):qNq s=false:=decide_eq_false (λq=>q.elim h0 h)
theorem qPw{s:List UInt8}(h:(s.getD 0 0).toNat=2):0<s.length:=by
 cases s with
 |nil=>cases h
 |cons a r=>exact Nat.zero_lt_succ _
theorem ent94:qAE prog 94:=qAE.of func94 rfl (by kernel_rfl)
theorem ent185:qAE prog 185:=qAE.of func185 rfl (by kernel_rfl)
theorem ent219:qAE prog 219:=qAE.of func219 rfl (by kernel_rfl)
theorem ent242:qAE prog 242:=qAE.of func242 rfl (by kernel_rfl)
theorem qIe(F:Hp)(k:List UInt8)(z:Int):Ct prog 94 [Str (k),I (z)] [F] (λ_:Unit=> .bool (decide (k.length=16∧0≤z∧z≤128))) (λ_=>True) (λ_=> [F]):=by
 refine Ct.walk func94 rfl ntmps94 rfl (λw0 hw0=>?_)
 refine J.g λK1 hK1=>J.b V<|J.c hK1<|J.E 0 1 ?_
 refine J.g λK2 hK2=>J.b V<|J.f (qAg u9_ V V) V<|J.f (qAS V V V) V<|J.b V<|J.c6 (d:=8) V (λh8=>?_) (λh8=>?_)
 ·
  refine J.b V<|J.T (qA9 V V V) V<|J.j 2 V<|J.c6 (d:=12) V (λh12=>?_) (λh12=>?_)
  ·
   refine J.b V<|J.T (qGy V V V) V<|J.j 2 V<|J.c hK2<|J.A 4 ?_
   exact J.D<|J.Z hw0 V () (by first|rw [decide_eq_false (by omega)]|rw [decide_eq_true (by omega)]|exact congrArg Value.bool (decide_eq_decide.2 (by omega))) trivial [0] rfl (by decide)
  refine J.j 4 V<|J.c hK2<|J.A 4 ?_
  exact J.D<|J.Z hw0 V () (by first|rw [decide_eq_false (by omega)]|rw [decide_eq_true (by omega)]|exact congrArg Value.bool (decide_eq_decide.2 (by omega))) trivial [0] rfl (by decide)
 refine J.j 8 V<|J.c hK2<|J.A 4 ?_
 exact J.D<|J.Z hw0 V () (by first|rw [decide_eq_false (by omega)]|rw [decide_eq_true (by omega)]|exact congrArg Value.bool (decide_eq_decide.2 (by omega))) trivial [0] rfl (by decide)
theorem qMs(F:Hp)(k:List UInt8)(hk:k.length=16)(d:Nat)(hd:d<128):Ct prog 101 [Str (k),I ((d:Nat):Int)] [F] (λ_:Unit=>Str (turn k d)) (λ_=>True) (λ_=> [F]):=by
 refine Ct.walk func101 rfl ntmps101 rfl (λw0 hw0=>?_)
 refine J.g λK1 hK1=>J.b V<|J.c hK1<|J.E 0 1 ?_
 refine J.g λK2 hK2=>J.b V<|J.q (qGu V V u9_ qBm u5_) V ?_
 rintro⟨g7,c7,m7⟩ h7
 try dsimp only at h7
 change J _ ((7,.slice (some ⟨g7,0,none⟩) k.length c7)::_) _ [F,m7] _
 refine J.b V<|J.c hK2<|J.E 1 5 ?_
 refine J.k λK3 hK3=>J.b7 [F,m7] [11] (.y 0 (.y 1 (.y 2 (.y 3 (.y 4 (.y 5 (.y 6 (.y 7 (.y 8 (.y 9 (.y 10 (.e 11 .nil)))))))))))) Tryz.wide (by decide+kernel) (by simp) ?_
 refine J.L ?_
 refine J.L ?_
 refine J.p V ((qGv V V V (by first|omega|(simp only [jA,jD,jH,jE,jL] at*;omega))).nat (d/8) (by omega)) rfl rfl<|J.p rfl (qA4 (i:=d/8) (j:=0+(d/8)*1) rfl rfl rfl qBm z5_ (by first|omega|(simp only [jA,jD,jH,jE,jL] at*;omega)) (by omega)) rfl rfl<|J.p rfl (qAL rfl rfl b5_ (m:=m7) (by simp) (h7.sl.cells (qBa (qAd 0 (by first|omega|(simp only [jA,jD,jH,jE,jL] at*;omega)))))) rfl rfl<|J.L ?_
 refine J.p V ((qKo V V V (by first|omega|(simp only [jA,jD,jH,jE,jL] at*;omega))).nat (d%8) (by omega)) rfl rfl<|J.p rfl ((qAn rfl rfl rfl (by omega)).nat (7-d%8) (by omega)) rfl rfl<|J.p rfl ((qSG (a:=1) (m:=7-d%8) rfl rfl rfl).as (v':=B8 (UInt8.ofNat (1*2^(7-d%8)))) (by rw [jl (by omega)];rfl)) rfl rfl<|J.p rfl (qNe rfl rfl rfl) rfl rfl<|J.p rfl (qA4 (i:=d/8) (j:=0+(d/8)*1) rfl rfl rfl qBm z5_ (by first|omega|(simp only [jA,jD,jH,jE,jL] at*;omega)) (by omega)) rfl rfl<|J.d2 rfl (qBj (i:=1) (k:=d/8) (off:=0) (b:= [B8 (k.getD (d/8) 0^^^UInt8.ofNat (1*2^(7-d%8)))]) rfl rfl rfl rfl h7 (vs:= [B8 (k.getD (d/8) 0^^^UInt8.ofNat (1*2^(7-d%8)))]) rfl z5_ rfl (by omega) (qBa (qAd 0 (by first|omega|(simp only [jA,jD,jH,jE,jL] at*;omega)))) rfl (jJ _)) rfl rfl rfl ?_
 rintro m2_1 hm2_1
 rw [qEz] at hm2_1
 refine J.b3<|J.u (J.M hK3 ?_)
 refine J.A 5 ?_
 refine J.g λK4 hK4=>J.b V<|J.f (qCU V V qBm u5_ u9_ (m:=m2_1) (by simp) hm2_1.sl) rfl<|J.b rfl<|J.c hK4<|J.A 4 ?_
 exact J.D<|J.Z hw0 V () (by unfold turn;rfl) trivial [0] V (by decide)
theorem qPY(F:Hp)(s:List UInt8):Ct prog 185 [Str (s)] [F] (λ_:Unit=> .bool (qNq s)) (λ_=>True) (λ_=> [F]):=by
 refine Ct.walk func185 rfl ntmps185 rfl (λw0 hw0=>?_)
 refine J.g λK1 hK1=>J.b V<|J.c hK1<|J.A 0 ?_
 refine J.g λK2 hK2=>J.b V<|J.f (qBb V V V) V<|J.b V<|J.c6 (d:=5) V (λh5=>?_) (λh5=>?_)
 ·
  refine J.j 4 V<|J.d7 (Wan.un V V V V) V V ?_
  refine J.d7 (Wan.un V V V V) V V ?_
  refine J.d7 (Wan.un V V V V) V V ?_
  refine J.d7 (Wan.un V V V V) V V ?_
  refine J.d7 (Wan.un V V V V) V V ?_
  refine J.d7 (Wan.un V V V V) V V ?_
  refine J.d7 (Wan.un V V V V) V V ?_
  refine J.d7 (Wan.un V V V V) V V ?_
  refine J.j 3 V<|J.c hK2<|J.A 2 ?_
  exact J.D<|J.Z hw0 V () (by first|rw [qKx (by assumption)]|rw [qFA (by omega) (by omega)]|rw [qDS (by assumption) (by omega)]|(by_cases q:(s.getD 0 0).toNat=2;rw [qFA (by omega) (.inr q),decide_eq_true (by omega)];rw [qDS (by assumption) (by omega),decide_eq_false (by omega)])) trivial [0] rfl (by decide)
 refine J.b V<|J.T (qAg u9_ V V) V<|J.T (qAS V V V) V<|J.b V<|J.c6 (d:=9) V (λh9=>?_) (λh9=>?_)
 ·
  refine J.b V<|J.T (qBK (c:=s.getD 0 0) u9_ V V V (qAd 0 (by first|omega|(simp only [jA,jD,jH,jE,jL] at*;omega)))) rfl<|J.T (qAS rfl rfl rfl) rfl<|J.b rfl<|J.c6 (d:=13) rfl (λh13=>?_) (λh13=>?_)
  ·
   refine J.j 7 V<|J.c hK2<|J.A 2 ?_
   exact J.D<|J.Z hw0 V () (by first|rw [qKx (by assumption)]|rw [qFA (by omega) (by omega)]|rw [qDS (by assumption) (by omega)]|(by_cases q:(s.getD 0 0).toNat=2;rw [qFA (by omega) (.inr q),decide_eq_true (by omega)];rw [qDS (by assumption) (by omega),decide_eq_false (by omega)])) trivial [0] rfl (by decide)
  refine J.b V<|J.T (qBK (c:=s.getD 0 0) u9_ V V V (qAd 0 (by first|omega|(simp only [jA,jD,jH,jE,jL] at*;omega)))) rfl<|J.T (qAS rfl rfl rfl) rfl<|J.j 4 rfl<|J.c hK2<|J.A 2 ?_
  exact J.D<|J.Z hw0 V () (by first|rw [qKx (by assumption)]|rw [qFA (by omega) (by omega)]|rw [qDS (by assumption) (by omega)]|(by_cases q:(s.getD 0 0).toNat=2;rw [qFA (by omega) (.inr q),decide_eq_true (by omega)];rw [qDS (by assumption) (by omega),decide_eq_false (by omega)])) trivial [0] rfl (by decide)
 refine J.j 4 V<|J.d7 (Wan.un V V V V) V V ?_
 refine J.d7 (Wan.un V V V V) V V ?_
 refine J.d7 (Wan.un V V V V) V V ?_
 refine J.j 4 V<|J.c hK2<|J.A 2 ?_
 exact J.D<|J.Z hw0 V () (by first|rw [qKx (by assumption)]|rw [qFA (by omega) (by omega)]|rw [qDS (by assumption) (by omega)]|(by_cases q:(s.getD 0 0).toNat=2;rw [qFA (by omega) (.inr q),decide_eq_true (by omega)];rw [qDS (by assumption) (by omega),decide_eq_false (by omega)])) trivial [0] rfl (by decide)
theorem qJ3(F:Hp)(A:Option Addr)(c:Nat)(bs:List (List UInt8))(hs:Sl F 1 A bs.length c (qAH bs))(th:Bool)(pk pv k:List UInt8)(d:Nat)(hg:qOq bs th pk pv k d):Ct prog 149 [.agg #[.slice A bs.length c,.bool (th),Str (pk),Str (pv)],Str (k),I ((d:Nat):Int)] [F] (λ_:Unit=> .bool true) (λ_=>True) (λ_=> [F]):=by
 have hle:=hg.le
 have hk16:=hg.k16
 refine Ct.walk func149 rfl ntmps149 rfl (λw0 hw0=>?_)
 refine J.g λK1 hK1=>J.q (qAi V V V) V λg3 _=>J.b V<|J.c hK1<|J.G 1 2 3 ?_
 refine J.g λK2 hK2=>J.a2 0 qDI qCA V V V V V<|J.c2 1 qCR V V V V V<|J.f (qAY qAh V V) V<|J.b V<|J.c hK2<|J.O 1 2 3 7 ?_
 refine J.k λK3 hK3=>J.g λK4 hK4=>J.j 2 V<|J.q (qAB V V ent94 (Ct.use0 (λF' hF=>qIe F' k ((d:Nat):Int)))) V λg16 _=>J.f ((qAw V V).as (v':= .bool false) (by rw [decide_eq_true (show k.length=16∧(0:Int)≤((d:Nat):Int)∧((d:Nat):Int)≤128 from⟨hk16,by omega,by omega⟩)];rfl)) rfl<|J.j 3 rfl<|J.T (qAn rfl rfl rfl (by first|omega|(simp only [jA,jD,jH,jE,jL] at*;omega))) rfl<|J.T ((qA5 rfl rfl rfl).no (by omega)) rfl<|J.b rfl<|J.c hK4<|J.a0 1 2 3 7 23 ?_
 refine J.a5 ?_
 refine J.W hK3<|J.O 1 2 3 7 ?_
 refine J.k λK5 hK5=>J.g λK6 hK6=>J.a2 0 qDI qCA V V V V V<|J.c2 1 qCR V V V V V<|J.f (qAY qAh V V) V<|J.b V<|J.c hK6<|J.c5 1 2 3 7 25 26 27 ?_
 refine J.a1<|J.c1 (X:=Nat) (λζ=> [(1,Str (k)),(2,I ((d:Nat):Int)),(3,Ptr g3),(7,I ((bs.length:Nat):Int)),(25,.slice A bs.length c),(26,I ((bs.length:Nat):Int)),(27,I ((ζ:Nat):Int))]) (λζ=> [F,blk g3 [.slice A bs.length c,.bool (th),Str (pk),Str (pv)] 58]) (λζ=>ζ≤bs.length) (λζ=>bs.length-ζ) 0 (jF _) ⟨V,V,V,V,V,V,V,trivial⟩ (λ_ h=>h) ?_
 rintro i hi I0 hI0
 refine J.g λK7 hK7=>J.f (qAT V V V) V<|J.c hK7<|J.d6 1 2 3 7 25 26 27 28 ?_
 refine J.k λK8 hK8=>J.a4 V (λh28=>?_) (λh28=>?_)
 ·
  refine J.W hK8<|J.c5 1 2 3 7 25 26 27 ?_
  refine J.k λK9 hK9=>J.a1<|J.g λK10 hK10=>J.f (qAF V V V qAh z9_ hs (by first|omega|(simp only [jA,jD,jH,jE,jL] at*;omega))) rfl<|J.f (qAL rfl rfl b9_ (m:=F) (by simp) (hs.elem (qAZ (qAd [] (by first|omega|(simp only [jA,jD,jH,jE,jL] at*;omega)))))) rfl<|J.b rfl<|J.c hK10<|J.d6 1 2 3 7 9 25 26 27 ?_
  refine J.g λK11 hK11=>J.b V<|J.q (qAB V V ent185 (Ct.use0 (λF' hF=>qPY F' (bs.getD i [])))) V λg32 _=>J.f ((qAw V V).as (v':= .bool false) (by rw [hg.nodes i (by omega)];rfl)) rfl<|J.c hK11<|J.d6 1 2 3 7 25 26 27 33 ?_
  refine J.a5 ?_
  refine J.c0<|J.b0<|J.u (J.M hK9 ?_)
  refine J.c5 1 2 3 7 25 26 27 ?_
  exact J.H<|J.f ((qAQ V V V (by first|omega|(simp only [jA,jD,jH,jE,jL] at*;omega))).nat (i+1) (by omega)) rfl<|J.b rfl<|J.a8<|J.u<|J.a9 (i+1) (λη (hη:_∧bs.length-η<bs.length-i)=>hI0 η hη.1 hη.2) ⟨(by omega),by first|omega|(dsimp only;omega)⟩ ⟨rfl,rfl,rfl,rfl,rfl,rfl,rfl,trivial⟩ (λ_ h=>h)
 refine J.b8<|J.a6<|J.a6<|J.b9 ?_
 refine J.u (J.M hK5 ?_)
 refine J.O 1 2 3 7 ?_
 refine J.k λK12 hK12=>J.g λK13 hK13=>J.b V<|J.f (qA5 V V V) V<|J.c hK13<|J.a0 1 2 3 7 36 ?_
 refine J.a4 V (λh36=>?_) (λh36=>?_)
 ·
  obtain ⟨hl1,hl2⟩:=hg.last (by omega)
  refine J.g λK14 hK14=>J.a2 0 qDI qCA V V V V V<|J.c2 1 qCR V V V V V<|J.b V<|J.f ((qAn V V V (by omega)).nat (bs.length-1) (by omega)) V<|J.f (qAF V V V qAh z9_ hs (by first|omega|(simp only [jA,jD,jH,jE,jL] at*;omega))) rfl<|J.f (qAL rfl rfl b9_ (m:=F) (by simp) (hs.elem (qAZ (qAd [] (by first|omega|(simp only [jA,jD,jH,jE,jL] at*;omega)))))) rfl<|J.b rfl<|J.c hK14<|J.a0 1 2 3 7 10 ?_
  refine J.g λK15 hK15=>J.b V<|J.f ((qBb V V V).no (hl1)) V<|J.b V<|J.T (qAA V V qDI V z4_ V) V<|J.T (qAD 1 V V V b4_ V) V<|J.T (qAw V V) V<|J.b V<|J.f6 (d:=49) V (λh49=>?_) (λh49=>?_)
  ·
   refine J.b V ?_
   have hl3:=qPw (hl2 (by simpa using h49))
   refine J.T (qBK (c:=(bs.getD (bs.length-1) []).getD 0 0) u9_ V V V (qAd 0 (by first|omega|(simp only [jA,jD,jH,jE,jL] at*;omega)))) rfl<|J.T ((qAU rfl rfl rfl).no (by have:=hl2 (by simpa using h49);omega)) rfl<|J.j 2 rfl<|J.c hK15<|J.a0 1 2 3 7 54 ?_
   refine J.a5 ?_
   refine J.W hK12<|J.O 1 2 3 7 ?_
   refine J.k λK16 hK16=>J.g λK17 hK17=>J.a2 1 qDI z4_ V V V V V<|J.c2 1 b4_ V V V V V<|J.f (qAw V V) V<|J.c hK17<|J.a0 1 2 3 7 57 ?_
   refine J.e3 V (λh57=>?_) (λh57=>?_)
   ·
    refine J.g λK18 hK18=>J.a2 2 qDI z9_ V V V V V<|J.c2 1 b9_ V V V V V<|J.f ((qBb V V V).yes ((hg.no (by simpa using h57)).1)) V<|J.b V<|J.T (qAA V V qDI V z9_ V) V<|J.T (qAD 1 V V V b9_ V) V<|J.T ((qBb V V V).yes ((hg.no (by simpa using h57)).2)) V<|J.j 2 V<|J.c hK18<|J.A 6 ?_
    exact J.D<|J.a7<|J.Z hw0 V () (by first|rfl|(rw [jZ,jl (by omega),(hg.yes (by simpa using h57)).2])) trivial [0] rfl (by decide)
   refine J.W hK16<|J.O 1 2 3 7 ?_
   refine J.g λK19 hK19=>J.a2 2 qDI z9_ V V V V V<|J.c2 1 b9_ V V V V V<|J.f (qAg u9_ V V) V<|J.f ((qAS V V V).yes (by have:=(hg.yes (by simpa using h57)).1;omega)) V<|J.b V<|J.T (qAA V V qDI V z9_ V) V<|J.T (qAD 1 V V V b9_ V) V<|J.j 3 V<|J.T ((qAQ V V V (by first|omega|(simp only [jA,jD,jH,jE,jL] at*;omega))).nat (d+bs.length) (by omega)) rfl ?_
   have hpl:=(hg.yes (by simpa using h57)).1
   refine J.e0 (qAB V V ent100 (Ct.use0 (λF' hF=>qEb F' pk (by omega) k (by omega) ((d+bs.length:Nat):Int)))) V λg77 _=>J.j 2 V<|J.c hK19<|J.A 6 ?_
   exact J.D<|J.Z hw0 V () (by first|rfl|(rw [jZ,jl (by omega),(hg.yes (by simpa using h57)).2])) trivial [0] rfl (by decide)
  refine J.j 5 V<|J.c hK15<|J.a0 1 2 3 7 54 ?_
  refine J.a5 ?_
  refine J.W hK12<|J.O 1 2 3 7 ?_
  refine J.k λK20 hK20=>J.g λK21 hK21=>J.a2 1 qDI z4_ V V V V V<|J.c2 1 b4_ V V V V V<|J.f (qAw V V) V<|J.c hK21<|J.a0 1 2 3 7 57 ?_
  refine J.e3 V (λh57=>?_) (λh57=>?_)
  ·
   refine J.g λK22 hK22=>J.a2 2 qDI z9_ V V V V V<|J.c2 1 b9_ V V V V V<|J.f ((qBb V V V).yes ((hg.no (by simpa using h57)).1)) V<|J.b V<|J.T (qAA V V qDI V z9_ V) V<|J.T (qAD 1 V V V b9_ V) V<|J.T ((qBb V V V).yes ((hg.no (by simpa using h57)).2)) V<|J.j 2 V<|J.c hK22<|J.A 6 ?_
   exact J.D<|J.a7<|J.Z hw0 V () (by first|rfl|(rw [jZ,jl (by omega),(hg.yes (by simpa using h57)).2])) trivial [0] rfl (by decide)
  refine J.W hK20<|J.O 1 2 3 7 ?_
  refine J.g λK23 hK23=>J.a2 2 qDI z9_ V V V V V<|J.c2 1 b9_ V V V V V<|J.f (qAg u9_ V V) V<|J.f ((qAS V V V).yes (by have:=(hg.yes (by simpa using h57)).1;omega)) V<|J.b V<|J.T (qAA V V qDI V z9_ V) V<|J.T (qAD 1 V V V b9_ V) V<|J.j 3 V<|J.T ((qAQ V V V (by first|omega|(simp only [jA,jD,jH,jE,jL] at*;omega))).nat (d+bs.length) (by omega)) rfl ?_
  have hpl:=(hg.yes (by simpa using h57)).1
  refine J.e0 (qAB V V ent100 (Ct.use0 (λF' hF=>qEb F' pk (by omega) k (by omega) ((d+bs.length:Nat):Int)))) V λg77 _=>J.j 2 V<|J.c hK23<|J.A 6 ?_
  exact J.D<|J.Z hw0 V () (by first|rfl|(rw [jZ,jl (by omega),(hg.yes (by simpa using h57)).2])) trivial [0] rfl (by decide)
 refine J.W hK12<|J.O 1 2 3 7 ?_
 refine J.k λK24 hK24=>J.g λK25 hK25=>J.a2 1 qDI z4_ V V V V V<|J.c2 1 b4_ V V V V V<|J.f (qAw V V) V<|J.c hK25<|J.a0 1 2 3 7 57 ?_
 refine J.e3 V (λh57=>?_) (λh57=>?_)
 ·
  refine J.g λK26 hK26=>J.a2 2 qDI z9_ V V V V V<|J.c2 1 b9_ V V V V V<|J.f ((qBb V V V).yes ((hg.no (by simpa using h57)).1)) V<|J.b V<|J.T (qAA V V qDI V z9_ V) V<|J.T (qAD 1 V V V b9_ V) V<|J.T ((qBb V V V).yes ((hg.no (by simpa using h57)).2)) V<|J.j 2 V<|J.c hK26<|J.A 6 ?_
  exact J.D<|J.a7<|J.Z hw0 V () (by first|rfl|(rw [jZ,jl (by omega),(hg.yes (by simpa using h57)).2])) trivial [0] rfl (by decide)
 refine J.W hK24<|J.O 1 2 3 7 ?_
 refine J.g λK27 hK27=>J.a2 2 qDI z9_ V V V V V<|J.c2 1 b9_ V V V V V<|J.f (qAg u9_ V V) V<|J.f ((qAS V V V).yes (by have:=(hg.yes (by simpa using h57)).1;omega)) V<|J.b V<|J.T (qAA V V qDI V z9_ V) V<|J.T (qAD 1 V V V b9_ V) V<|J.j 3 V<|J.T ((qAQ V V V (by first|omega|(simp only [jA,jD,jH,jE,jL] at*;omega))).nat (d+bs.length) (by omega)) rfl ?_
 have hpl:=(hg.yes (by simpa using h57)).1
 refine J.e0 (qAB V V ent100 (Ct.use0 (λF' hF=>qEb F' pk (by omega) k (by omega) ((d+bs.length:Nat):Int)))) V λg77 _=>J.j 2 V<|J.c hK27<|J.A 6 ?_
 exact J.D<|J.Z hw0 V () (by first|rfl|(rw [jZ,jl (by omega),(hg.yes (by simpa using h57)).2])) trivial [0] rfl (by decide)
theorem qQR(F:Hp)(B:Option Addr)(n e:Nat):Ct prog 219 [.slice B n e] [F] (λx:Nat=> .func (.func 242) #[] #[Ptr x]) (λ_=>True) (λx=> [F,blk x [.slice B n e] 37]):=by
 refine Ct.walk func219 rfl ntmps219 rfl (λw0 hw0=>?_)
 refine J.g λK1 hK1=>J.q (qAi V V V) V λg1 _=>J.b V<|J.c hK1<|J.A 1 ?_
 refine J.g λK2 hK2=>J.f (qBy V V) V<|J.b V<|J.c hK2<|J.A 2 ?_
 exact J.D<|J.Z hw0 V g1 V trivial [0,1] V (by decide)
theorem qOe(Fr:Hp)(gB:Nat)(B:Option Addr)(W:List (List UInt8))(e:Nat)(hn2:W.length≤1073741824)(ha:qAP Fr ⟨gB,0,none⟩ [.slice B W.length e])(hs:Sl Fr 1 B W.length e (qAH W)):
    qKM prog 242 [Ptr gB] Fr (λi=> [I ((W.length-1-i:Nat):Int),Str (W.getD (W.length-1-i) [])]) W.length:=by
  refine qKM.walk func242 rfl ntmps242 rfl (λ{X} M IY S l x0 w0 hw0 h0 hY=>?_)
  refine J.g λK1 hK1=>J.f (qAL V V qCR (m:=Fr) (by simp) (ha)) rfl<|J.f (qAY qAh rfl rfl) rfl<|J.f ((qAn rfl rfl rfl (by omega)).as (v':=I ((W.length:Int)-1-((0:Nat):Int))) (congrArg I (by omega))) rfl<|J.b rfl<|J.c hK1<|J.G 0 1 3 ?_
  refine J.a1<|J.c1 (X:=Nat×X) (λy=> [(0,.func (.yield l) #[] #[]),(1,Ptr gB),(3,I ((W.length:Int)-1-(y.1:Int)))]) (λy=> [Fr,M y.2]) (λy=>y.1≤W.length∧IY y.1 y.2) (λy=>W.length-y.1) (0,x0) (⟨jF _,h0⟩) ⟨V,V,V,trivial⟩ (λ_ h=>h) ?_
  rintro⟨i,x⟩ ⟨hi,hI⟩ I0 hI0
  dsimp only at hi hI⊢
  refine J.k λK2 hK2=>J.g λK3 hK3=>J.b V<|J.f (qA9 V V V) V<|J.c hK3<|J.O 0 1 3 8 ?_
  refine J.a4 V (λh8=>?_) (λh8=>?_)
  ·
    refine J.W hK2<|J.G 0 1 3 ?_
    refine J.k λK4 hK4=>J.a1<|J.k λK5 hK5=>J.h1 ?_
    refine J.d8 (qAb V V) V V V ?_
    refine J.d8 ((qAb V V).nat (W.length-1-i) (by omega)) V V V ?_
    refine J.d8 (qAL V V qCR (m:=Fr) (by simp) (ha)) rfl rfl rfl ?_
    refine J.d8 ((qAb V V).nat (W.length-1-i) (by omega)) V V V ?_
    refine J.d8 (qAF V V V qAh z9_ hs (by first|omega|(simp only [jA,jD,jH,jE,jL] at*;omega))) rfl rfl rfl ?_
    refine J.d8 (qAL V V b9_ (m:=Fr) (by simp) (hs.elem (qAZ (qAd [] (by first|omega|(simp only [jA,jD,jH,jE,jL] at*;omega)))))) rfl rfl rfl ?_
    refine J.h2 (ex:= []) V V V V V V (hY i x (by omega) hI) ?_
    rintro x' b hb1 hb2
    cases b
    ·
      have hyb:=hb2 rfl
      refine J.d8 (qAw V V) V V V ?_
      refine J.f9 ?_
      refine J.u (J.M hK5 ?_)
      refine J.O 0 1 3 18 ?_
      refine J.c7 ?_
      exact J.D<|J.b6<|J.a7<|J.a7<|J.b6<|J.b4 hw0 (λ_ _ h=>h) (qJX V) (λw hs=>⟨x',⟨_,V⟩,.inr hyb,hs⟩)
    have hyb:=hb1 rfl
    refine J.d8 (qAw V V) V V V ?_
    refine J.f9 ?_
    refine J.u (J.M hK5 ?_)
    refine J.O 0 1 3 18 ?_
    refine J.a5 ?_
    refine J.c0<|J.b0<|J.u (J.M hK4 ?_)
    refine J.G 0 1 3 ?_
    exact J.H<|J.b V<|J.f ((qAn V V V (by omega)).as (v':=I ((W.length:Int)-1-((i+1:Nat):Int))) (congrArg I (by omega))) V<|J.b V<|J.a8<|J.u<|J.a9 (i+1,x') (λy (hy:_∧W.length-y.1<W.length-i)=>hI0 y hy.1 hy.2) ⟨⟨by dsimp only;omega,hyb⟩,by dsimp only;omega⟩ ⟨V,V,V,trivial⟩ (λ_ h=>h)
  refine J.b8<|J.a6<|J.a6<|J.b9 ?_
  exact J.e7 hw0 (λ_ _ h=>h) (qJX V) (λw hs=>⟨x,⟨_,V⟩,.inl (by rw [show W.length=i by omega];exact hI),hs⟩)
theorem qDQ(F:Hp)(hK:KF F)(A:Option Addr)(c:Nat)(bs:List (List UInt8))(hs:Sl F 1 A bs.length c (qAH bs))(th:Bool)(pk pv xx k:List UInt8)(d:Nat)(hle:d+bs.length≤128)(hk16:k.length=16)(hsm: ∀s∈bs,s.length≤17)(hx:xx.length≤17):
    Ct prog 186 [.agg #[.slice A bs.length c,.bool (th),Str (pk),Str (pv)],Str xx,Str k,I ((d:Nat):Int)] [F] (λ_:Unit=>Str (clm k d bs xx bs.length)) (λ_=>True) (λ_=> [F]):=by
  refine Ct.walk func186 rfl ntmps186 rfl (λw0 hw0=>?_)
  refine J.g λK1 hK1=>J.q (qAi V V V) V λg4 _=>J.q (qAi V V V) V λg5 _=>J.q (qAi V V V) V λg6 _=>J.q (qAi V V V) V λg7 _=>J.b V<|J.c hK1<|J.O 4 5 6 7 ?_
  refine J.k λK2 hK2=>J.g λK3 hK3=>J.a2 0 qDI qCA V V V V V<|J.c2 1 qCR V V V V V<|J.q (qAB V V ent219 (Ct.use (λF' _=>qQR F' A bs.length c))) V ?_
  rintro gB _
  refine J.c hK3<|J.O 5 6 7 13 ?_
  refine J.a1<|J.c9 [2,0,1,3,4,5] [blk g5 [Str (xx)] 9,F,blk g4 [.slice A bs.length c,.bool (th),Str (pk),Str (pv)] 58,blk g6 [Str (k)] 9,blk g7 [I ((d:Nat):Int)] 3,blk gB [.slice A bs.length c] 37] V (by decide)<|J.i0 (λx:List UInt8=> [blk g5 [Str (x)] 9]) [F,blk g4 [.slice A bs.length c,.bool (th),Str (pk),Str (pv)] 58,blk g6 [Str (k)] 9,blk g7 [I ((d:Nat):Int)] 3,blk gB [.slice A bs.length c] 37] (λi x=>x=clm k d bs xx i) (λ_ _=>False) xx V ent242 (λFr hF=>qOe Fr gB A bs c (by omega) (qAP.blk0.mono (hF (blk gB [.slice A bs.length c] 37) (by simp))) (hs.mono (hF F (by simp)))) (λ_ _=>rfl) rfl (rfl) ?_ ?_ ?_
  ·
    intro i x l wa wb hi hI K4 Post4 hK4 hN4 hR4 hE4
    subst hI
    obtain ⟨y,hy⟩: ∃y,y=clm k d bs xx i:=⟨_,rfl⟩
    obtain ⟨s,hsd⟩: ∃s,s=bs.getD (bs.length-1-i) []:=⟨_,rfl⟩
    have hyl:y.length≤17:=by rw [hy];exact qJB hsm hx i
    have hsl:s.length≤17:=by rw [hsd,jB,jC (show bs.length-1-i<bs.length by omega)];exact hsm _ (jc _)
    rw [←hy,←hsd]
    refine J.g6 (λK5 hK5=>?_)
    refine J.f2 ?_
    refine J.b V<|J.f3 ?_
    refine J.u (J.M hK5 ?_)
    refine J.a0 5 6 7 9 15 ?_
    refine J.f2 ?_
    refine J.b V<|J.f3 ?_
    refine J.u (hK4 _ _ ?_)
    refine J.a0 5 6 7 9 10 ?_
    refine J.h0 ?_
    refine J.g6 (λK6 hK6=>?_)
    refine J.f2 ?_
    refine J.c2 3 b9_ V V V V V<|J.c2 4 b3_ V V V V V<|J.b V<|J.f ((qAQ V V V (by omega)).nat (d+(bs.length-1-i)) (by omega)) V<|J.q (qAB V V ent147 (Ct.use0 (λF' hF=>qFC F' k (by omega) (d+(bs.length-1-i)) (by omega)))) V λg20 _=>J.f (qAS V V V) V<|J.f3 ?_
    refine J.u (J.M hK6 ?_)
    refine J.G 5 10 21 ?_
    refine J.h9 V (λh21=>?_) (λh21=>?_)
    ·
      refine J.f2 ?_
      refine J.c2 0 b9_ V V V V V<|J.b V<|J.q (qAB V V ent177 (Ct.use0 (λF' hF=>qCD F' (hK.mo hF) y s (by omega) (by omega)))) V λg24 _=>J.b1 (qAG (l:= [Str (y)]) (i:=0) (vs:= [Str (Sb.join y s)]) V V V V V z9_ V V) V V λ_ _=>J.f3 ?_
      refine J.b0 ?_
      exact hN4 _ (Sb.join y s) (by rw [clm,up,if_pos (by omega),←hy,←hsd])
    refine J.f2 ?_
    refine J.b V<|J.c2 0 b9_ V V V V V<|J.q (qAB V V ent177 (Ct.use0 (λF' hF=>qCD F' (hK.mo hF) s y (by omega) (by omega)))) V λg27 _=>J.b1 (qAG (l:= [Str (y)]) (i:=0) (vs:= [Str (Sb.join s y)]) V V V V V z9_ V V) V V λ_ _=>J.f3 ?_
    refine J.b0 ?_
    exact hN4 _ (Sb.join s y) (by rw [clm,up,if_neg (by omega),←hy,←hsd])
  ·
    intro w4 x hx4 hI
    subst hI
    refine J.b0<|J.u (J.M hK2 ?_)
    refine J.A 5 ?_
    refine J.g λK7 hK7=>J.c2 0 b9_ V V V V V<|J.b V<|J.c hK7<|J.A 8 ?_
    exact J.D<|J.g7 hw0 hx4 (λ_ _ h=>h) (qJW V V) (qAj () V trivial [1] V (by decide))
  intro w4 x c hx4 hS
  exact hS.elim
theorem qKj{kv:List Sm.PR}(ho:Sm.Once kv){k v:List UInt8}{p:Sm.PR}:p∈Sm.putP kv k v↔(p∈kv∧p.1≠k)∨p=(k,v):=by
 rw [(Sm.putP_perm k v ho).mem_iff]
 unfold Sm.setP
 rw [List.mem_append,List.mem_filter,decide_eq_true_eq,jU]
theorem qC9.put{kv:List Sm.PR}(hf:qC9 kv){k v:List UInt8}(hk:k.length=16)(hv:v.length≤1000000)(hl:kv.length≤100000):qC9 (Sm.putP kv k v):=by
  refine⟨(Sm.setP_once k v hf.once).perm (Sm.putP_perm k v hf.once).symm,λp q=>?_,λp q=>?_,jd (Sm.putP_len kv k v) (by omega)⟩
  · rcases(qKj hf.once).1 q with ⟨q,_⟩|rfl
    · exact hf.k16 p q
    · exact hk
  · rcases(qKj hf.once).1 q with ⟨q,_⟩|rfl
    · exact hf.small p q
    · exact hv
theorem qEo{kv:List Sm.PR}(hf:qC9 kv){k v:List UInt8}(hk:k.length=16){b:List UInt8}(hb:b.length=16){d:Nat}(hd:d≤128)(hn:Sm.belowB k b d=false)(hv:v.length≤1000000)(hl:kv.length≤100000):
    Sm.ndB (Sm.putP kv k v) b d=Sm.ndB kv b d:=by
  have hf':=hf.put hk hv hl
  have h1:Sm.ndB (Sm.putP kv k v) b d=Sm.ndB (Sm.setP kv k v) b d:=Sm.ndB_perm hf'.once hf'.k16 (Sm.putP_perm k v hf.once) hb hd
  rw [h1]
  unfold Sm.ndB Sm.bel Sm.setP
  rw [zM,jj,if_neg (by rw [hn];decide),zk,jS,ze]
  congr 1
  refine zZ λp hp=>?_
  by_cases h:p.1=k
  · rw [h,hn];rfl
  · rw [decide_eq_true h,Bool.and_true]
theorem qS4{kv:List Sm.PR}(hf:qC9 kv){k v:List UInt8}(hk:k.length=16)(hv:v.length≤1000000)(hl:kv.length≤100000){d n:Nat}(hd:d+n≤128):bsd (Sm.putP kv k v) k d n=bsd kv k d n:=by
 unfold bsd
 refine List.map_congr_left λi hi=>?_
 have:=List.mem_range.1 hi
 have hb:=Sm.bit_le k (d+i)
 refine qEo hf hk ((qB0 _ _).trans hk) (by omega) (Sm.belowB_no (i:=d+i) (by omega) ?_) hv hl
 rw [qCx hk (by omega) (by omega),if_pos rfl]
 omega
theorem qR6{kv:List Sm.PR}(hf:qC9 kv){k v:List UInt8}(hk:k.length=16)(hv:v.length≤1000000)(hl:kv.length≤100000){s:Nat}(hs:s≤128)(ho: ∀p∈cur kv k s,p.1=k):Sm.ndB (Sm.putP kv k v) k s=Sb.leafN k v:=by
 have hf':=hf.put hk hv hl
 have h1:Sm.ndB (Sm.putP kv k v) k s=Sm.ndB (Sm.setP kv k v) k s:=Sm.ndB_perm hf'.once hf'.k16 (Sm.putP_perm k v hf.once) hk hs
 have hself:Sm.belowB k k s=true:=Sm.belowB_yes λ_ _=>rfl
 rw [h1]
 unfold Sm.ndB Sm.bel Sm.setP
 rw [zM,jj,if_pos hself,zk,ze,List.filter_eq_nil_iff.2 (λp hp=>by
  intro q
  rw [jh,decide_eq_true_eq] at q
  exact q.2 (ho p (List.mem_filter.2 ⟨hp,q.1⟩))),jp,Sm.nd_one]
theorem qPT{kv:List Sm.PR}(hf:qC9 kv){k v q w:List UInt8}(hk:k.length=16)(hv:v.length≤1000000)(hl:kv.length≤100000){s:Nat}(hs:s≤128)(hc:cur kv k s= [(q,w)])(hq:q≠k):Sm.ndB (Sm.putP kv k v) k s=Sm.ndB [(k,v),(q,w)] k s:=by
 have hf':=hf.put hk hv hl
 have h1:Sm.ndB (Sm.putP kv k v) k s=Sm.ndB (Sm.setP kv k v) k s:=Sm.ndB_perm hf'.once hf'.k16 (Sm.putP_perm k v hf.once) hk hs
 have hself:Sm.belowB k k s=true:=Sm.belowB_yes λ_ _=>rfl
 have hqb:Sm.belowB q k s=true:=(List.mem_filter.1 (show(q,w)∈cur kv k s by rw [hc];exact .head _)).2
 have e1:Sm.bel (Sm.setP kv k v) k s= [(q,w),(k,v)]:=by
  unfold Sm.bel Sm.setP
  rw [zM,jj,if_pos hself,zk,ze]
  have e2:kv.filter (λp=>Sm.belowB p.1 k s&&decide (p.1≠k))=(cur kv k s).filter (λp=>decide (p.1≠k)):=by
   show _=(kv.filter λp=>Sm.belowB p.1 k s).filter (λp=>decide (p.1≠k))
   rw [ze]
   refine zZ λp _=>?_
   rw [Bool.and_comm]
  rw [e2,hc,jj,if_pos (decide_eq_true hq),zk];rfl
 have e3:Sm.bel [(k,v),(q,w)] k s= [(k,v),(q,w)]:=by unfold Sm.bel;rw [jj,if_pos hself,jj,if_pos hqb,zk]
 have hw:Sm.WF (128-s) (Sm.bel (Sm.setP kv k v) k s):=(Sm.bel_wf hf'.once hf'.k16 hk hs).perm ((Sm.putP_perm k v hf.once).filter _)
 rw [h1]
 unfold Sm.ndB
 rw [e3]
 exact Sm.nd_perm _ hw (show(Sm.bel (Sm.setP kv k v) k s).Perm [(k,v),(q,w)] by rw [e1];exact List.Perm.swap _ _ _)
structure Two (k q:List UInt8) (a:Nat):Prop where
 k16:k.length=16
 q16:q.length=16
 lt:a<128
 same: ∀i,i<a→Sm.bit k i=Sm.bit q i
 differ:Sm.bit k a≠Sm.bit q a
theorem Two.ne{k q:List UInt8}{a:Nat}(h:Two k q a):q≠k:=λe=>h.differ (by rw [e])
theorem Two.fine{k q v w:List UInt8}{a:Nat}(h:Two k q a)(hv:v.length≤1000000)(hw:w.length≤1000000):qC9 [(k,v),(q,w)]:=by
  refine⟨?_,λp hp=>?_,λp hp=>?_,by simp⟩
  · unfold Sm.Once
    rw [jr]
    exact⟨λp hp=>by rw [List.mem_singleton.1 hp];exact λe=>h.ne e.symm,by simp⟩
  · rcases List.mem_cons.1 hp with rfl|hp
    · exact h.k16
    · rw [List.mem_singleton.1 hp];exact h.q16
  · rcases List.mem_cons.1 hp with rfl|hp
    · exact hv
    · rw [List.mem_singleton.1 hp];exact hw
theorem Two.top{k q v w:List UInt8}{a:Nat}(h:Two k q a)(hv:v.length≤1000000)(hw:w.length≤1000000):Sm.ndB [(k,v),(q,w)] k a=up k a (Sb.leafN k v) (Sb.leafN q w):=by
 rw [←qJc (h.fine hv hw) h.k16 h.lt]
 have hb:=Sm.bit_le k a
 have hb2:=Sm.bit_le q a
 have hd:=h.differ
 have h1:Sm.belowB k k (a+1)=true:=Sm.belowB_yes λ_ _=>rfl
 have h2:Sm.belowB q k (a+1)=false:=Sm.belowB_no (i:=a) (by omega) λe=>h.differ e.symm
 have h3:Sm.belowB k (turn k a) (a+1)=false:=Sm.belowB_no (i:=a) (by omega) (by rw [qCx h.k16 h.lt h.lt,if_pos rfl];omega)
 have h4:Sm.belowB q (turn k a) (a+1)=true:=Sm.belowB_yes λi hi=>by
  have hlt:=h.lt
  rw [qCx h.k16 h.lt (by omega)]
  by_cases hia:i=a
  · rw [if_pos hia,hia];omega
  · rw [if_neg hia];exact(h.same i (by omega)).symm
 unfold Sm.ndB
 have e1:Sm.bel [(k,v),(q,w)] k (a+1)= [(k,v)]:=by unfold Sm.bel;rw [jj,if_pos h1,jj,if_neg (by rw [h2];decide),zk]
 have e2:Sm.bel [(k,v),(q,w)] (turn k a) (a+1)= [(q,w)]:=by unfold Sm.bel;rw [jj,if_neg (by rw [h3];decide),jj,if_pos h4,zk]
 rw [e1,e2,Sm.nd_one,Sm.nd_one]
theorem Two.step{k q v w:List UInt8}{a:Nat}(h:Two k q a)(hv:v.length≤1000000)(hw:w.length≤1000000){e:Nat}(he:e<a):Sm.ndB [(k,v),(q,w)] k e=up k e (Sm.ndB [(k,v),(q,w)] k (e+1)) [0]:=by
 have hlt:=h.lt
 rw [←qJc (h.fine hv hw) h.k16 (d:=e) (by omega)]
 have hb:=Sm.bit_le k e
 have hs:=h.same e he
 have h3:Sm.belowB k (turn k e) (e+1)=false:=Sm.belowB_no (i:=e) (by omega) (by rw [qCx h.k16 (by omega) (by omega),if_pos rfl];omega)
 have h4:Sm.belowB q (turn k e) (e+1)=false:=Sm.belowB_no (i:=e) (by omega) (by rw [qCx h.k16 (by omega) (by omega),if_pos rfl];omega)
 have e2:Sm.bel [(k,v),(q,w)] (turn k e) (e+1)= []:=by unfold Sm.bel;rw [jj,if_neg (by rw [h3];decide),jj,if_neg (by rw [h4];decide),zk]
 congr 1
 unfold Sm.ndB
 rw [e2,Sm.nd_nil]
theorem Two.le{k q:List UInt8}{a s:Nat}(h:Two k q a)(hs:Sm.belowB q k s=true):s≤a:=by
  rcases zn a s with h1|h1
  · have:=List.all_eq_true.1 hs a (List.mem_range.2 h1)
    exact absurd (of_decide_eq_true this).symm h.differ
  · exact h1
def qIA(x:Nat):Nat:=if x=0 then 0 else Nat.log2 x+1
theorem qS1: ∀x:Fin 256,x.val≠0→1≤qIA x.val∧qIA x.val≤8∧x.val/2^(qIA x.val-1)%2=1∧x.val<2^qIA x.val:=by decide+kernel
theorem qKO(x y j:Nat):(x^^^y)/2^j%2=1↔x/2^j%2≠y/2^j%2:=by
 have h1:=zN (x:=x^^^y) (i:=j)
 have h2:=zN (x:=x) (i:=j)
 have h3:=zN (x:=y) (i:=j)
 rw [Nat.testBit_xor,h2,h3] at h1
 have a2:x/2^j%2<2:=Nat.mod_lt _ (by decide)
 have a3:y/2^j%2<2:=Nat.mod_lt _ (by decide)
 have hx:x/2^j%2=0∨x/2^j%2=1:=by omega
 have hy:y/2^j%2=0∨y/2^j%2=1:=by omega
 rcases hx with hx|hx<;>rcases hy with hy|hy<;>rw [hx,hy] at h1⊢ <;>simp at h1<;>omega
theorem qTT{k q:List UInt8}(hk:k.length=16)(hq:q.length=16){i:Nat}(hi:i<16)(hs: ∀j,j<i→k.getD j 0=q.getD j 0)(hn:(k.getD i 0^^^q.getD i 0).toNat≠0):
    Two k q (8*i+(8-qIA (k.getD i 0^^^q.getD i 0).toNat)):=by
  obtain ⟨x,hx⟩: ∃x,x=(k.getD i 0^^^q.getD i 0).toNat:=⟨_,rfl⟩
  rw [←hx] at hn⊢
  have hxl:x<256:=by rw [hx];exact(k.getD i 0^^^q.getD i 0).toNat_lt
  obtain ⟨h1,h2,h3,h4⟩:=qS1 ⟨x,hxl⟩ hn
  dsimp only at h1 h2 h3 h4
  have hxe:x=(k.getD i 0).toNat^^^(q.getD i 0).toNat:=by rw [hx,UInt8.toNat_xor]
  have hbit: ∀(z:Nat),z<8→Sm.bit k (8*i+z)=(k.getD i 0).toNat/2^(7-z)%2∧Sm.bit q (8*i+z)=(q.getD i 0).toNat/2^(7-z)%2:=λz hz=>by
    unfold Sm.bit
    rw [if_pos (by omega),if_pos (by omega),show(8*i+z)/8=i by omega,show(8*i+z)%8=z by omega]
    exact⟨rfl,rfl⟩
  refine⟨hk,hq,by omega,λj hj=>?_,?_⟩
  · by_cases hji:j/8<i
    · unfold Sm.bit
      rw [if_pos (by omega),if_pos (by omega),hs _ hji]
    · have hj8:j=8*i+(j-8*i):=by omega
      obtain ⟨b1,b2⟩:=hbit (j-8*i) (by omega)
      rw [←hj8] at b1 b2
      rw [b1,b2]
      have h5: ¬(x/2^(7-(j-8*i))%2=1):=by
        have h6:x/2^(7-(j-8*i))=0:=j8 (jx h4 (jg (by decide) (by omega)))
        rw [h6];decide
      rw [hxe] at h5
      exact Decidable.by_contra λh=>h5 ((qKO _ _ _).2 h)
  · obtain ⟨b1,b2⟩:=hbit (8-qIA x) (by omega)
    rw [b1,b2,show 7-(8-qIA x)=qIA x-1 by omega]
    rw [hxe] at h3
    exact(qKO _ _ _).1 (by rw [←hxe];rw [←hxe] at h3;exact h3)
end Go.Proofs.YtfldiegfenndjaaGreatDoor
