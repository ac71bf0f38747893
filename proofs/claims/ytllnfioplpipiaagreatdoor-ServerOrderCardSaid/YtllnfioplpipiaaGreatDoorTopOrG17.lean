/- A part of the proof. -/
import Derived.Test.YtllnfioplpipiaaGreatDoorTopOrG15
import Derived.Test.YtllnfioplpipiaaGreatDoorTopOrG16
import Derived.Test.YtllnfioplpipiaaGreatDoorTopOrG8
import Derived.Test.YtllnfioplpipiaaGreatDoorTopOrG6
set_option linter.unusedSimpArgs false
set_option linter.unusedVariables false
namespace Go.Proofs.YtllnfioplpipiaaGreatDoor
open Go Go.Fw Go.Proofs.Tryz
set_option maxRecDepth 100000
set_option maxHeartbeats 1000000
theorem qQ0{k:List UInt8}(hk:k.length=16){i:Nat}(hi:i≤16):Sm.kv k/2^(128-i)<2^i:=by
 have h:=Sm.kv_lt k
 rw [hk] at h
 rw [Nat.div_lt_iff_lt_mul (Nat.two_pow_pos _),←Nat.pow_add,show i+(128-i)=128 by omega]
 exact Nat.lt_of_lt_of_eq h (by decide)
theorem qSY{i:Nat}(hi:i≤16):2^i≤65536:=Nat.le_trans (Nat.pow_le_pow_right (by decide) hi) (by decide)
def qEg(k:List UInt8):Nat→Nat
 |0=>0
 |i+1=>qEg k i*2^1|||Sm.bit k i
theorem qHn(k:List UInt8): ∀i,qEg k i<2^i
 |0=>Nat.one_pos
 |i+1=>by
  have h1:=qHn k i
  have h2:=Sm.bit_le k i
  have h3:2^(i+1)=2^i*2:=Nat.pow_succ 2 i
  have e:=Nat.two_pow_add_eq_or_of_lt (i:=1) (b:=Sm.bit k i) (by omega) (qEg k i)
  rw [qEg,Nat.mul_comm,←e]
  omega
def kF(n d:Nat):List UInt8:= [UInt8.ofNat (n*2^(16-d)/2^8),UInt8.ofNat (n*2^(16-d)),0,0,0,0,0,0,0,0,0,0,0,0,0,0]
theorem qIh(n d:Nat):(kF n d).length=16:=rfl
theorem qRJ{n d:Nat}(hd:d≤16)(hn:n<2^d):n*2^(16-d)<65536:=by
 have h:=Nat.mul_lt_mul_of_pos_right hn (Nat.two_pow_pos (16-d))
 rw [←Nat.pow_add,show d+(16-d)=16 by omega] at h
 exact h
theorem kF_kv{n d:Nat}(hd:d≤16)(hn:n<2^d):Sm.kv (kF n d)=n*2^(128-d):=by
 have ht:=qRJ hd hn
 obtain ⟨t,hte⟩: ∃t,t=n*2^(16-d):=⟨_,rfl⟩
 have e:n*2^(128-d)=t*2^112:=by rw [hte,Nat.mul_assoc,←Nat.pow_add,show 16-d+112=128-d by omega]
 have h1:(UInt8.ofNat (t/2^8)).toNat=t/2^8:=UInt8.toNat_ofNat_of_lt' (by show _<256;omega)
 have h2:(UInt8.ofNat t).toNat=t%256:=by simp
 rw [e]
 unfold kF
 rw [←hte]
 simp only [Sm.kv,List.length_cons,List.length_nil,h1,h2]
 show t/2^8*256^15+(t%256*256^14+0)=_
 rw [show(256:Nat)^15=256*2^112 by decide,show(256:Nat)^14=2^112 by decide,←Nat.mul_assoc,Nat.add_zero,←Nat.add_mul]
 congr 1
 omega
theorem qN9{n d:Nat}(hd:d≤16)(hn:n<2^d):Sm.kv (kF n d)/2^(128-d)=n:=by rw [kF_kv hd hn,Nat.mul_div_cancel _ (Nat.two_pow_pos _)]
theorem qTf(F:Hp)(k:List UInt8)(hk:k.length≤1000000)(d:Nat)(hd:d≤16):Ct prog 170 [Str (k),I ((d:Nat):Int)] [F] (λ_:Unit=>I ((qEg k d:Nat):Int)) (λ_=>True) (λ_=> [F]):=by
 refine Ct.walk func170 rfl ntmps170 rfl (λw0 hw0=>?_)
 change J _ [(0,_),(1,_)] _ _ _
 refine J.g λK1 hK1=>J.b O<|J.c hK1<|J.E 0 1 ?_
 refine J.j λK2 hK2=>J.g λK3 hK3=>J.b O<|J.f (qAT O O O) O<|J.b O<|J.c4 (d:=9) O (λh9=>?_) (λh9=>?_)
 ·
  refine J.p 3 O<|J.c hK3<|J.G 0 1 12 ?_
  refine J.d0 ?_
  refine J.g λK4 hK4=>J.b O<|J.c hK4<|J.u 4 ?_
  exact J.D<|J.a4<|J.M hw0 O () (by exfalso;omega) trivial [0] O (by decide)
 refine J.b O<|J.Z (qAz O O O) O<|J.b O<|J.c hK3<|J.G 0 1 12 ?_
 refine J.a2 O (λh12=>?_) (λh12=>?_)
 ·
  refine J.g λK5 hK5=>J.b O<|J.c hK5<|J.u 4 ?_
  exact J.D<|J.a4<|J.M hw0 O () (by exfalso;omega) trivial [0] O (by decide)
 refine J.W hK2<|J.E 0 1 ?_
 refine J.g λK6 hK6=>J.b O<|J.c hK6<|J.G 0 1 5 ?_
 refine J.j λK7 hK7=>J.g λK8 hK8=>J.p 2 O<|J.c hK8<|J.O 0 5 13 14 ?_
 refine J.V<|J.b6 (X:=Nat) (λζ=> [(0,Str (k)),(5,I ((qEg k ζ:Nat):Int)),(13,I ((d:Nat):Int)),(14,I ((ζ:Nat):Int))]) (λζ=> [F]) (λζ=>ζ≤d) (λζ=>d-ζ) 0 (Nat.zero_le _) ⟨O,O,O,O,trivial⟩ (λ_ h=>h) ?_
 rintro i hi I0 hI0
 have hlt:=qHn k i
 have hp16:=qSY (i:=i) (by omega)
 have hbl:=Sm.bit_le k i
 refine J.g λK9 hK9=>J.f (qAT O O O) O<|J.c hK9<|J.a0 0 5 13 14 15 ?_
 refine J.j λK10 hK10=>J.a2 O (λh15=>?_) (λh15=>?_)
 ·
  refine J.W hK10<|J.O 0 5 13 14 ?_
  refine J.j λK11 hK11=>J.V<|J.g λK12 hK12=>J.p 2 O<|J.c hK12<|J.a0 0 5 6 13 14 ?_
  refine J.L<|J.b O<|J.f (qJj (a:=qEg k i) (m:=1) O O O (by omega)) O<|J.p 2 O<|J.k (qAA O O ent174 (Ct.use0 (λF' hF=>qI9 F' k (by first|omega|exact hsm _) i (by omega)))) O λg21 _=>J.f (qRO (a:=(qEg k i)*2^1) (b:=Sm.bit k i) O O O (by omega)) O<|J.b O<|J.a7<|J.a6<|J.A (J.H hK11 ?_)
  refine J.O 0 5 13 14 ?_
  exact J.L<|J.f ((qAO O O O (by omega)).nat (i+1) (by omega)) O<|J.b O<|J.a7<|J.A<|J.a8 (i+1) (λη (hη:_∧d-η<d-i)=>hI0 η hη.1 hη.2) ⟨(by omega),by first|omega|(dsimp only;omega)⟩ ⟨O,O,O,O,trivial⟩ (λ_ h=>h)
 refine J.b4<|J.a1<|J.a1<|J.b5 ?_
 refine J.A (J.H hK7 ?_)
 refine J.u 5 ?_
 refine J.g λK13 hK13=>J.p 2 O<|J.c hK13<|J.u 4 ?_
 exact J.D<|J.M hw0 O () (by rw [show i=d by omega]) trivial [0] rfl (by decide)
theorem qIr(F:Hp)(n d:Nat)(hd:d≤16)(hn:n<2^d):Ct prog 150 [I ((n:Nat):Int),I ((d:Nat):Int)] [F] (λ_:Unit=>Str (kF n d)) (λ_=>True) (λ_=> [F]):=by
 have hp16:=qSY hd
 have htl:=qRJ hd hn
 have hpe:2^(16-d)≤65536:=qSY (Nat.sub_le _ _)
 refine Ct.walk func150 rfl ntmps150 rfl (λw0 hw0=>?_)
 change J _ [(0,_),(1,_)] _ _ _
 refine J.g λK1 hK1=>J.b O<|J.c hK1<|J.E 0 1 ?_
 refine J.g λK2 hK2=>J.k (qC2 (n':=16) O O qBV el5 (by omega) (by omega)) O ?_
 rintro g7 _
 change J _ ((7,.slice (some ⟨g7,0,none⟩) 16 16)::_) _ [F,blk g7 (List.replicate 16 [.int .u8 0]).flatten 5] _
 refine J.b O<|J.c hK2<|J.G 0 1 5 ?_
 refine J.j λK3 hK3=>J.g λK4 hK4=>J.b O<|J.f ((qBN O O O).yes (by omega)) O<|J.p 2 O<|J.Z ((qB5 O O O).yes (by omega)) O<|J.p 3 O<|J.Z ((qBN O O O).yes (by omega)) O<|J.p 4 O<|J.Z ((qJj (a:=1) (m:=d) O O O ⟨by omega,by omega⟩)) O<|J.Z ((qAT O O O).yes (by omega)) O<|J.b O<|J.c hK4<|J.O 0 1 5 23 ?_
 refine J.d0 ?_
 refine J.g λK5 hK5=>J.p 2 O<|J.f ((qAw O O O (by omega)).nat (16-d) (by omega)) O<|J.f (qJj (a:=n) (m:=16-d) O O O (by first|omega|decide|(simp only [List.length_set,List.length_replicate] at*;omega))) rfl<|J.b rfl<|J.c hK5<|J.E 5 6 ?_
 refine J.L<|J.p 3 O<|J.f (qNX (a:=n*2^(16-d)) (m:=8) O O O (by first|omega|decide|(simp only [List.length_set,List.length_replicate] at*;omega))) rfl<|J.f (qAj (m:=(n*2^(16-d))/2^8) rfl rfl u3_ u5_) rfl<|J.b rfl<|J.f (qAj (m:=n*2^(16-d)) rfl rfl u3_ u5_) rfl<|J.f (qAm (i:=0) (j:=0+0*1) rfl rfl rfl qBV z5_ (by first|omega|decide|(simp only [List.length_set,List.length_replicate] at*;omega)) (by omega)) rfl<|J.b0 (qBI (i:=1) (k:=0) (off:=0) (b:= [B8 (UInt8.ofNat ((n*2^(16-d))/2^8))]) rfl rfl rfl rfl (qAk (q:=True) (sz:=1) (xs:=qAR (List.replicate 16 0)) rfl (by intro x hx;obtain ⟨_,_,rfl⟩:=List.mem_map.1 hx;rfl)) (vs:= [B8 (UInt8.ofNat ((n*2^(16-d))/2^8))]) rfl z5_ rfl (by omega) (qBL (qAc 0 (by first|omega|decide|(simp only [List.length_set,List.length_replicate] at*;omega)))) rfl (Nat.le_refl _)) rfl rfl ?_
 rintro m4_1 hm4_1
 change J _ _ _ [_,m4_1] _
 rw [qEQ] at hm4_1
 refine J.f (qAm (i:=1) (j:=0+1*1) O O O qBV z5_ (by first|omega|decide|(simp only [List.length_set,List.length_replicate] at*;omega)) (by omega)) rfl<|J.b0 (qBI (i:=1) (k:=1) (off:=0) (b:= [B8 (UInt8.ofNat (n*2^(16-d)))]) rfl rfl rfl rfl hm4_1 (vs:= [B8 (UInt8.ofNat (n*2^(16-d)))]) rfl z5_ rfl (by omega) (qBL (qAc 0 (by first|omega|decide|(simp only [List.length_set,List.length_replicate] at*;omega)))) rfl (Nat.le_refl _)) rfl rfl ?_
 rintro m4_2 hm4_2
 change J _ _ _ [_,m4_2] _
 rw [qEQ] at hm4_2
 refine J.c hK3<|J.u 5 ?_
 refine J.g λK6 hK6=>J.b O<|J.f (qBY (l:=((List.replicate 16 0).set 0 (UInt8.ofNat ((n*2^(16-d))/2^8))).set 1 (UInt8.ofNat (n*2^(16-d)))) O O qBV u5_ u9_ (m:=m4_2) (by simp) hm4_2.sl) rfl<|J.b rfl<|J.c hK6<|J.u 4 ?_
 exact J.D<|J.M hw0 O () (by unfold kF;rfl) trivial [0] O (by decide)
def belR(m:List Pr)(k:List UInt8)(d:Nat):List Pr:=m.filter λp=>Sm.belowB p.k k d
theorem qQz(m:List Pr)(k:List UInt8)(d:Nat):(belR m k d).map toP=Sm.bel (m.map toP) k d:=by
 unfold belR Sm.bel
 rw [List.filter_map];rfl
theorem qDf.ndB{m:List Pr}{kv:List Sm.PR}(h:qDf m kv){k:List UInt8}(hk:k.length=16){d:Nat}(hd:d≤128):Sm.ndB kv k d=Sm.nd (128-d) ((belR m k d).map toP):=by
 rw [qQz];exact(Sm.ndB_perm h.once h.k16 h.perm hk hd).symm
theorem qNm(l:List Sm.PR)(b:List UInt8)(d:Nat):(Sm.ndB l b d).length≤17:=Sm.nd_small _ _
theorem qL3{kv:List Sm.PR}(hf:qCI kv){k:List UInt8}(hk:k.length=16){d:Nat}(hd:d≤15){n:Nat}(hn:n=Sm.kv k/2^(128-d)):
    Sb.join (Sm.ndB kv (kF (2*n) (d+1)) (d+1)) (Sm.ndB kv (kF (2*n+1) (d+1)) (d+1))=Sm.ndB kv k d:=by
  have hlt:=qQ0 hk (i:=d) (by omega)
  have h2:2^(d+1)=2^d*2:=Nat.pow_succ 2 d
  have f0:=qN9 (n:=2*n) (d:=d+1) (by omega) (by omega)
  have f1:=qN9 (n:=2*n+1) (d:=d+1) (by omega) (by omega)
  rw [show 128-(d+1)=127-d by omega] at f0 f1
  exact Sm.ndB_join hf.once hf.k16 hk (qIh _ _) (qIh _ _) (by omega) (by rw [f0,hn]) (by rw [f1,hn])
theorem qRp(x m j:Nat):(x^^^2^m)/2^j%2=if j=m then 1-x/2^j%2 else x/2^j%2:=by
  have h1:=Nat.testBit_eq_decide_div_mod_eq (x:=x^^^2^m) (i:=j)
  have h2:=Nat.testBit_eq_decide_div_mod_eq (x:=x) (i:=j)
  rw [Nat.testBit_xor,Nat.testBit_two_pow,h2] at h1
  have a1:(x^^^2^m)/2^j%2<2:=Nat.mod_lt _ (by decide)
  have a2:x/2^j%2<2:=Nat.mod_lt _ (by decide)
  by_cases h:j=m
  · rw [if_pos h]
    rw [decide_eq_true h.symm] at h1
    by_cases h3:x/2^j%2=1
    · rw [decide_eq_true h3] at h1
      have: ¬(x^^^2^m)/2^j%2=1:=by simpa using h1.symm
      omega
    · rw [decide_eq_false h3] at h1
      have:(x^^^2^m)/2^j%2=1:=by simpa using h1.symm
      omega
  · rw [if_neg h]
    rw [show decide (m=j)=false from decide_eq_false (λe=>h e.symm),Bool.xor_false] at h1
    have:=decide_eq_decide.1 h1
    omega
def turn(k:List UInt8)(d:Nat):List UInt8:=k.set (d/8) (k.getD (d/8) 0^^^UInt8.ofNat (1*2^(7-d%8)))
theorem qBh(k:List UInt8)(d:Nat):(turn k d).length=k.length:=by unfold turn;rw [List.length_set]
theorem qDi{k:List UInt8}(hk:k.length=16){d i:Nat}(hd:d<128)(hi:i<128):Sm.bit (turn k d) i=if i=d then 1-Sm.bit k i else Sm.bit k i:=by
  have hlt:i<8*k.length:=by omega
  unfold Sm.bit
  rw [qBh,if_pos hlt,if_pos hlt]
  unfold turn
  have h1:(1*2^(7-d%8))%256=2^(7-d%8):=by
    rw [Nat.one_mul]
    exact Nat.mod_eq_of_lt (Nat.lt_of_le_of_lt (Nat.pow_le_pow_right (by decide) (show 7-d%8≤7 by omega)) (by decide))
  by_cases hq:i/8=d/8
  · rw [hq]
    have hg:(k.set (d/8) (k.getD (d/8) 0^^^UInt8.ofNat (1*2^(7-d%8)))).getD (d/8) 0=k.getD (d/8) 0^^^UInt8.ofNat (1*2^(7-d%8)):=by
      rw [List.getD_eq_getElem?_getD,List.getElem?_set_self (by omega)];rfl
    rw [hg,UInt8.toNat_xor,show(UInt8.ofNat (1*2^(7-d%8))).toNat=2^(7-d%8) by rw [UInt8.toNat_ofNat'];exact h1,qRp]
    by_cases hid:i=d
    · rw [if_pos (by rw [hid]),if_pos hid]
    · rw [if_neg (by omega),if_neg hid]
  · rw [List.getD_eq_getElem?_getD,List.getElem?_set_ne (λe=>hq e.symm),←List.getD_eq_getElem?_getD,if_neg (λe=>hq (by rw [e]))]
theorem qMj{k:List UInt8}(hk:k.length=16){d:Nat}(hd:d<128):Sm.kv (turn k d)/2^(127-d)=2*(Sm.kv k/2^(128-d))+(1-Sm.bit k d):=by
 have h1:Sm.belowB (turn k d) k d=true:=Sm.belowB_yes λi hi=>by rw [qDi hk hd (by omega),if_neg (by omega)]
 have h2:=(Sm.belowB_kv ((qBh k d).trans hk) hk (by omega)).1 h1
 have e:=Sm.pre_succ (Sm.kv (turn k d)) (127-d)
 rw [show 127-d+1=128-d by omega,h2,←Sm.bit_kv ((qBh k d).trans hk) hd,qDi hk hd hd,if_pos rfl] at e
 exact e
theorem qMz{k:List UInt8}(hk:k.length=16){d:Nat}(hd:d<128):Sm.kv k/2^(127-d)=2*(Sm.kv k/2^(128-d))+Sm.bit k d:=by
 have e:=Sm.pre_succ (Sm.kv k) (127-d)
 rw [show 127-d+1=128-d by omega,←Sm.bit_kv hk hd] at e
 exact e
def up(k:List UInt8)(d:Nat)(x s:List UInt8):List UInt8:=if Sm.bit k d=0 then Sb.join x s else Sb.join s x
theorem qMd{kv:List Sm.PR}(hf:qCI kv){k:List UInt8}(hk:k.length=16){d:Nat}(hd:d<128):up k d (Sm.ndB kv k (d+1)) (Sm.ndB kv (turn k d) (d+1))=Sm.ndB kv k d:=by
  have hb:=Sm.bit_le k d
  have ht:=qMj hk hd
  have hs:=qMz hk hd
  unfold up
  split
  · rename_i h
    rw [h] at ht hs
    exact Sm.ndB_join hf.once hf.k16 hk hk ((qBh k d).trans hk) hd hs ht
  · rename_i h
    rw [show Sm.bit k d=1 by omega] at ht hs
    exact Sm.ndB_join hf.once hf.k16 hk ((qBh k d).trans hk) hk hd ht hs
def bsd(kv:List Sm.PR)(k:List UInt8)(d n:Nat):List (List UInt8):=(List.range n).map λi=>Sm.ndB kv (turn k (d+i)) (d+i+1)
theorem qQv(kv:List Sm.PR)(k:List UInt8)(d n:Nat):bsd kv k d (n+1)=bsd kv k d n++ [Sm.ndB kv (turn k (d+n)) (d+n+1)]:=by unfold bsd;rw [List.range_succ,List.map_append];rfl
theorem qCB(kv:List Sm.PR)(k:List UInt8)(d n:Nat):(bsd kv k d n).length=n:=by unfold bsd;rw [List.length_map,List.length_range]
theorem qKC(kv:List Sm.PR)(k:List UInt8)(d:Nat){n i:Nat}(hi:i<n):(bsd kv k d n).getD i []=Sm.ndB kv (turn k (d+i)) (d+i+1):=by
 unfold bsd
 rw [List.getD_eq_getElem?_getD,List.getElem?_map,List.getElem?_range hi];rfl
def clm(k:List UInt8)(d:Nat)(bs:List (List UInt8))(x:List UInt8):Nat→List UInt8
 |0=>x
 |i+1=>up k (d+(bs.length-1-i)) (clm k d bs x i) (bs.getD (bs.length-1-i) [])
theorem qHj{kv:List Sm.PR}(hf:qCI kv){k:List UInt8}(hk:k.length=16){d n:Nat}(hd:d+n≤128): ∀i,i≤n→clm k d (bsd kv k d n) (Sm.ndB kv k (d+n)) i=Sm.ndB kv k (d+n-i)
 |0,_=>rfl
 |i+1,hi=>by
  rw [clm,qHj hf hk hd i (by omega),qCB,qKC _ _ _ (by omega)]
  have h:=qMd hf hk (d:=d+(n-1-i)) (by omega)
  rw [show d+(n-1-i)+1=d+n-i by omega] at h⊢
  rw [h,show d+(n-1-i)=d+n-(i+1) by omega]
theorem qK9{a b:List UInt8}(ha:a.length≤17)(hb:b.length≤17):(Sb.join a b).length≤17:=by
  have e:Sb.join a b=if a= [0]∧(b= [0]∨Sb.isLf b) then b else if b= [0]∧Sb.isLf a then a else 2::Sha.tagged 10 [a,b]:=by unfold Sb.join;rfl
  rw [e]
  split
  · exact hb
  · split
    · exact ha
    · rw [List.length_cons,Sha.tagged_length];decide
theorem qI2{k:List UInt8}{d:Nat}{bs:List (List UInt8)}{x:List UInt8}(hb: ∀s∈bs,s.length≤17)(hx:x.length≤17): ∀i,(clm k d bs x i).length≤17
 |0=>hx
 |i+1=>by
  have h1:=qI2 (k:=k) (d:=d) hb hx i
  have h2:(bs.getD (bs.length-1-i) []).length≤17:=by
   by_cases h:bs.length-1-i<bs.length
   · rw [List.getD_eq_getElem?_getD,List.getElem?_eq_getElem h];exact hb _ (List.getElem_mem h)
   · rw [List.getD_eq_getElem?_getD,List.getElem?_eq_none (by omega)];exact Nat.zero_le _
  rw [clm,up]
  split
  · exact qK9 h1 h2
  · exact qK9 h2 h1
def cur(kv:List Sm.PR)(k:List UInt8)(d:Nat):List Sm.PR:=Sm.bel kv k d
def kd(kv:List Sm.PR)(k:List UInt8)(d:Nat):List (List UInt8):=(Sm.keysS kv).filter λq=>Sm.belowB q k d
theorem qGY{kv:List Sm.PR}(ho:Sm.Once kv)(k:List UInt8)(d:Nat):(kd kv k d).length=(cur kv k d).length:=by
 have h:(Sm.prs kv (kd kv k d)).length=(kd kv k d).length:=Sm.prs_len _ _
 rw [←h]
 unfold kd
 rw [Sm.prs_filter]
 exact((Sm.prs_perm ho).filter _).length_eq
theorem qMD{q k:List UInt8}{d:Nat}(h:Sm.belowB q k (d+1)=true):Sm.belowB q k d=true:=by
 rw [Sm.belowB_succ,Bool.and_eq_true] at h;exact h.1
theorem qTE(kv:List Sm.PR)(k:List UInt8)(d:Nat):(kd kv k d).filter (λq=>Sm.belowB q k (d+1))=kd kv k (d+1):=by
 unfold kd
 rw [List.filter_filter]
 refine List.filter_congr λq _=>?_
 cases h:Sm.belowB q k (d+1) with
 |false=>rfl
 |true=>rw [qMD h];rfl
structure qLT (kv:List Sm.PR) (k:List UInt8) (d s:Nat):Prop where
 ge:d≤s
 le:s≤128
 one:(cur kv k s).length≤1
 two: ∀e,d≤e→e<s→2≤(cur kv k e).length
theorem qLT.from{kv:List Sm.PR}{k:List UInt8}{d e s:Nat}(h:qLT kv k d s)(h1:d≤e)(h2:e≤s):qLT kv k e s:=⟨h2,h.le,h.one,λx q1 q2=>h.two x (by omega) q2⟩
theorem qTW{kv:List Sm.PR}(hf:qCI kv){k:List UInt8}(hk:k.length=16):(cur kv k 128).length≤1:=(Sm.bel_wf hf.once hf.k16 hk (d:=128) (Nat.le_refl _)).short
def qAr(kv:List Sm.PR)(k:List UInt8)(s:Nat):Bool:=decide ((kd kv k s).length=1)
def qBy(kv:List Sm.PR)(k:List UInt8)(s:Nat):List UInt8:=if(kd kv k s).length=1 then(kd kv k s).getD 0 [] else []
def qCG(kv:List Sm.PR)(k:List UInt8)(s:Nat):List UInt8:=if(kd kv k s).length=1 then(Sm.getP kv ((kd kv k s).getD 0 [])).getD [] else []
theorem qHh{kv:List Sm.PR}(ho:Sm.Once kv){k:List UInt8}{s:Nat}(h:(kd kv k s).length=1):cur kv k s= [(qBy kv k s,qCG kv k s)]:=by
 obtain ⟨q,hq⟩:=List.length_eq_one_iff.1 h
 have h1:(cur kv k s).Perm (Sm.prs kv (kd kv k s)):=by
  unfold kd
  rw [Sm.prs_filter]
  exact(Sm.prs_perm ho).symm.filter _
 unfold qBy qCG
 rw [if_pos h,if_pos h,hq]
 rw [hq] at h1
 exact List.perm_singleton.1 h1
theorem qJt: ∀{f:Nat} {l:List Sm.PR},Sm.WF f l→Sm.nd f l= [0]∨((Sm.nd f l).length=17∧(((Sm.nd f l).getD 0 0).toNat=1∨((Sm.nd f l).getD 0 0).toNat=2))
  |f,[],_=> .inl (Sm.nd_nil f)
  |f,[p],_=> .inr (by rw [Sm.nd_one];unfold Sb.leafN;exact⟨by rw [List.length_cons,Sha.tagged_length],.inl rfl⟩)
  |0,a::b::r,hw=>by have:=hw.short;simp at this
  |f+1,a::b::r,hw=>by
    rw [Sm.nd_two f (by simp)]
    have e: ∀x y,Sb.join x y=if x= [0]∧(y= [0]∨Sb.isLf y) then y else if y= [0]∧Sb.isLf x then x else 2::Sha.tagged 10 [x,y]:=λx y=>by unfold Sb.join;rfl
    rw [e]
    split
    · exact qJt (hw.side false)
    · split
      · exact qJt (hw.side true)
      · exact .inr ⟨by rw [List.length_cons,Sha.tagged_length],.inr rfl⟩
theorem qJs: ∀{f:Nat} {l:List Sm.PR},Sm.WF f l→2≤l.length→((Sm.nd f l).getD 0 0).toNat=2
  |0,l,hw,h=>by have:=hw.short;omega
  |f+1,l,hw,h=>by
    rw [Sm.nd_two f h]
    have e: ∀x y,Sb.join x y=if x= [0]∧(y= [0]∨Sb.isLf y) then y else if y= [0]∧Sb.isLf x then x else 2::Sha.tagged 10 [x,y]:=λx y=>by unfold Sb.join;rfl
    have hs:=Sm.side_len f l
    have z1:=Sm.nd_eq0 (hw.side true)
    have z2:=Sm.nd_eq0 (hw.side false)
    rw [e]
    split
    · rename_i hc
      have h0:(Sm.side f true l).length=0:=by rw [z1.1 hc.1];rfl
      have h2:=qJs (hw.side false) (by omega)
      exact h2
    · split
      · rename_i hc
        have h0:(Sm.side f false l).length=0:=by rw [z2.1 hc.1];rfl
        exact qJs (hw.side true) (by omega)
      · rfl
def qNk(s:List UInt8):Bool:=decide (s= [0]∨(s.length=17∧((s.getD 0 0).toNat=1∨(s.getD 0 0).toNat=2)))
structure qOv (bs:List (List UInt8)) (th:Bool) (pk pv k:List UInt8) (d:Nat):Prop where
 k16:k.length=16
 le:d+bs.length≤128
 nodes: ∀j,j<bs.length→qNk (bs.getD j [])=true
 last:0<bs.length→bs.getD (bs.length-1) []≠ [0]∧(th=false→((bs.getD (bs.length-1) []).getD 0 0).toNat=2)
 no:th=false→pk= []∧pv= []
 yes:th=true→pk.length=16∧Sm.belowB pk k (d+bs.length)=true
 small: ∀s∈bs,s.length≤17
theorem qOg(kv:List Sm.PR)(k:List UInt8)(d n:Nat): ∀s∈bsd kv k d n,s.length≤17:=λs hs=>by
 unfold bsd at hs
 obtain ⟨i,_,rfl⟩:=List.mem_map.1 hs
 exact qNm _ _ _
theorem qRZ{kv:List Sm.PR}{k q:List UInt8}{s:Nat}(h:q∈kd kv k s):(∃v,(q,v)∈kv)∧Sm.belowB q k s=true:=by
 obtain ⟨h1,h2⟩:=List.mem_filter.1 h
 exact⟨Sm.keysS_mem.1 h1,h2⟩
theorem qNW{kv:List Sm.PR}(hf:qCI kv){k:List UInt8}(hk:k.length=16){e:Nat}(he:e<128):(cur kv k (e+1)).length+(Sm.bel kv (turn k e) (e+1)).length=(cur kv k e).length:=by
  have hb:=Sm.bit_le k e
  have ht:=qMj hk he
  have hs:=qMz hk he
  have h:=Sm.side_len (127-e) (Sm.bel kv k e)
  have hl:=hf.k16
  unfold cur
  by_cases h0:Sm.bit k e=0
  · rw [h0] at ht hs
    rw [Sm.bel_half hl hk hk he true (by rw [if_pos rfl];exact hs),Sm.bel_half hl hk ((qBh k e).trans hk) he false (by rw [if_neg (by decide)];exact ht)]
    exact h
  · rw [show Sm.bit k e=1 by omega] at ht hs
    rw [Sm.bel_half hl hk hk he false (by rw [if_neg (by decide)];exact hs),Sm.bel_half hl hk ((qBh k e).trans hk) he true (by rw [if_pos rfl];exact ht)]
    omega
theorem qGM{kv:List Sm.PR}(hf:qCI kv){k:List UInt8}(hk:k.length=16){d s:Nat}(h:qLT kv k d s):qOv (bsd kv k d (s-d)) (qAr kv k s) (qBy kv k s) (qCG kv k s) k d:=by
  have hle:=h.le
  have hge:=h.ge
  have ht16: ∀e,(turn k e).length=16:=λe=>(qBh k e).trans hk
  refine⟨hk,by rw [qCB];omega,λj hj=>?_,λh0=>?_,λht=>?_,λht=>?_,qOg _ _ _ _⟩
  · rw [qCB] at hj
    rw [qKC _ _ _ hj]
    exact decide_eq_true (qJt (Sm.bel_wf hf.once hf.k16 (ht16 _) (by omega)))
  · rw [qCB] at h0⊢
    rw [qKC _ _ _ (by omega)]
    have h2:=h.two (d+(s-d-1)) (by omega) (by omega)
    have ho:=qNW hf hk (e:=d+(s-d-1)) (by omega)
    have hone:=h.one
    rw [show d+(s-d-1)+1=s by omega] at ho⊢
    have hw:=Sm.bel_wf hf.once hf.k16 (ht16 (d+(s-d-1))) (d:=s) hle
    refine⟨λe=>?_,λhth=>?_⟩
    · have:=(Sm.nd_eq0 hw).1 e
      rw [this] at ho
      simp at ho
      omega
    · have h3:(kd kv k s).length≠1:=of_decide_eq_false hth
      rw [qGY hf.once] at h3
      exact qJs hw (by omega)
  · have h3:(kd kv k s).length≠1:=of_decide_eq_false ht
    unfold qBy qCG
    rw [if_neg h3,if_neg h3];exact⟨rfl,rfl⟩
  · have h3:(kd kv k s).length=1:=of_decide_eq_true ht
    obtain ⟨q,hq⟩:=List.length_eq_one_iff.1 h3
    have hm:q∈kd kv k s:=by rw [hq];exact .head _
    obtain ⟨⟨v,hv⟩,hb⟩:=qRZ hm
    unfold qBy
    rw [if_pos h3,hq,qCB,show d+(s-d)=s by omega]
    exact⟨hf.k16 _ hv,hb⟩
theorem qQn{kv:List Sm.PR}(hf:qCI kv){k:List UInt8}{d s:Nat}(h:qLT kv k d s):(if qAr kv k s=true then Sb.leafN (qBy kv k s) (qCG kv k s) else [0])=Sm.ndB kv k s:=by
  unfold Sm.ndB
  have e1:Sm.bel kv k s=cur kv k s:=rfl
  have hone:=h.one
  by_cases h3:(kd kv k s).length=1
  · rw [if_pos (show qAr kv k s=true from decide_eq_true h3),e1,qHh hf.once h3,Sm.nd_one]
  · rw [if_neg (by unfold qAr;rw [decide_eq_false h3];decide)]
    rw [qGY hf.once] at h3
    rw [e1,List.eq_nil_of_length_eq_zero (show(cur kv k s).length=0 by omega),Sm.nd_nil]
theorem tells{kv:List Sm.PR}(hf:qCI kv){k:List UInt8}{d s:Nat}(h:qLT kv k d s):
    (Sm.getP kv k).isSome=(qAr kv k s&&decide (qBy kv k s=k))∧(qAr kv k s=true→qBy kv k s=k→Sm.getP kv k=some (qCG kv k s)):=by
  have hself:Sm.belowB k k s=true:=Sm.belowB_yes λ_ _=>rfl
  have hone:=h.one
  have hmem: ∀v,Sm.getP kv k=some v→(k,v)∈cur kv k s:=λv hv=>List.mem_filter.2 ⟨Sm.getP_some hv,hself⟩
  by_cases h3:(kd kv k s).length=1
  · have hc:=qHh hf.once h3
    have ht:qAr kv k s=true:=decide_eq_true h3
    have hin:(qBy kv k s,qCG kv k s)∈kv:=(List.mem_filter.1 (show(qBy kv k s,qCG kv k s)∈cur kv k s by rw [hc];exact .head _)).1
    rw [ht,Bool.true_and]
    by_cases hk:qBy kv k s=k
    · have hg:=Sm.getP_mem hf.once hin
      rw [show(qBy kv k s,qCG kv k s).1=k from hk] at hg
      rw [hg,decide_eq_true hk]
      exact⟨rfl,λ_ _=>rfl⟩
    · rw [decide_eq_false hk]
      refine⟨?_,λ_ q=>absurd q hk⟩
      cases hg:Sm.getP kv k with
      |none=>rfl
      |some v=>
        have:=hmem v hg
        rw [hc,List.mem_singleton] at this
        injection this with e _
        exact absurd e.symm hk
  · have ht:qAr kv k s=false:=decide_eq_false h3
    rw [ht,Bool.false_and]
    refine⟨?_,λq=>by cases q⟩
    rw [qGY hf.once] at h3
    have h0:cur kv k s= []:=List.eq_nil_of_length_eq_zero (by omega)
    cases hg:Sm.getP kv k with
    |none=>rfl
    |some v=>
      have:=hmem v hg
      rw [h0] at this;cases this
theorem qKw{s:List UInt8}(h:s= [0]):qNk s=true:=decide_eq_true (.inl h)
theorem qEW{s:List UInt8}(h1:s.length=17)(h2:(s.getD 0 0).toNat=1∨(s.getD 0 0).toNat=2):qNk s=true:=decide_eq_true (.inr ⟨h1,h2⟩)
theorem qC4{s:List UInt8}(h0: ¬s= [0])(h: ¬(s.length=17∧((s.getD 0 0).toNat=1∨(s.getD 0 0).toNat=2))):qNk s=false:=decide_eq_false (λq=>q.elim h0 h)
theorem qQQ{s:List UInt8}(h:(s.getD 0 0).toNat=2):0<s.length:=by
 cases s with
 |nil=>cases h
 |cons a r=>exact Nat.zero_lt_succ _
theorem ent121:qAD prog 121:=qAD.of func121 rfl (by kernel_rfl)
theorem ent122:qAD prog 122:=qAD.of func122 rfl (by kernel_rfl)
theorem ent175:qAD prog 175:=qAD.of func175 rfl (by kernel_rfl)
theorem ent210:qAD prog 210:=qAD.of func210 rfl (by kernel_rfl)
theorem qIM(F:Hp)(k:List UInt8)(z:Int):Ct prog 121 [Str (k),I (z)] [F] (λ_:Unit=> .bool (decide (k.length=16∧0≤z∧z≤128))) (λ_=>True) (λ_=> [F]):=by
 refine Ct.walk func121 rfl ntmps121 rfl (λw0 hw0=>?_)
 change J _ [(0,_),(1,_)] _ _ _
 refine J.g λK1 hK1=>J.b O<|J.c hK1<|J.E 0 1 ?_
 refine J.g λK2 hK2=>J.b O<|J.f (qAl u9_ O O) O<|J.f (qAY O O O) O<|J.b O<|J.c4 (d:=8) O (λh8=>?_) (λh8=>?_)
 ·
  refine J.b O<|J.Z (qBN O O O) O<|J.p 2 O<|J.c4 (d:=12) O (λh12=>?_) (λh12=>?_)
  ·
   refine J.b O<|J.Z (qB5 O O O) O<|J.p 2 O<|J.c hK2<|J.u 4 ?_
   exact J.D<|J.M hw0 O () (by first|rw [decide_eq_false (by omega)]|rw [decide_eq_true (by omega)]|exact congrArg Value.bool (decide_eq_decide.2 (by omega))) trivial [0] rfl (by decide)
  refine J.p 4 O<|J.c hK2<|J.u 4 ?_
  exact J.D<|J.M hw0 O () (by first|rw [decide_eq_false (by omega)]|rw [decide_eq_true (by omega)]|exact congrArg Value.bool (decide_eq_decide.2 (by omega))) trivial [0] rfl (by decide)
 refine J.p 8 O<|J.c hK2<|J.u 4 ?_
 exact J.D<|J.M hw0 O () (by first|rw [decide_eq_false (by omega)]|rw [decide_eq_true (by omega)]|exact congrArg Value.bool (decide_eq_decide.2 (by omega))) trivial [0] rfl (by decide)
theorem qMi(F:Hp)(k:List UInt8)(hk:k.length=16)(d:Nat)(hd:d<128):Ct prog 139 [Str (k),I ((d:Nat):Int)] [F] (λ_:Unit=>Str (turn k d)) (λ_=>True) (λ_=> [F]):=by
 refine Ct.walk func139 rfl ntmps139 rfl (λw0 hw0=>?_)
 change J _ [(0,_),(1,_)] _ _ _
 refine J.g λK1 hK1=>J.b O<|J.c hK1<|J.E 0 1 ?_
 refine J.g λK2 hK2=>J.b O<|J.k (qGP O O u9_ qBV u5_) O ?_
 rintro⟨g7,c7,m7⟩ h7
 try dsimp only at h7
 change J _ ((7,.slice (some ⟨g7,0,none⟩) k.length c7)::_) _ [F,m7] _
 refine J.b O<|J.c hK2<|J.E 1 5 ?_
 refine J.j λK3 hK3=>J.c1 [F,m7] [11] (.y 0 (.y 1 (.y 2 (.y 3 (.y 4 (.y 5 (.y 6 (.y 7 (.y 8 (.y 9 (.y 10 (.e 11 .nil)))))))))))) Tryz.wide (by decide+kernel) (by simp) ?_
 refine J.T ?_
 refine J.T ?_
 refine J.q O ((qGS O O O (by first|omega|(simp only [List.length_append,List.length_cons,List.length_nil,List.length_take,List.length_drop] at*;omega))).nat (d/8) (by omega)) rfl rfl<|J.q rfl (qAm (i:=d/8) (j:=0+(d/8)*1) rfl rfl rfl qBV z5_ (by first|omega|(simp only [List.length_append,List.length_cons,List.length_nil,List.length_take,List.length_drop] at*;omega)) (by omega)) rfl rfl<|J.q rfl (qAJ rfl rfl b5_ (m:=m7) (by simp) (h7.sl.cells (qBL (qAc 0 (by first|omega|(simp only [List.length_append,List.length_cons,List.length_nil,List.length_take,List.length_drop] at*;omega)))))) rfl rfl<|J.T ?_
 refine J.q O ((qGR O O O (by first|omega|(simp only [List.length_append,List.length_cons,List.length_nil,List.length_take,List.length_drop] at*;omega))).nat (d%8) (by omega)) rfl rfl<|J.q rfl ((qAw rfl rfl rfl (by omega)).nat (7-d%8) (by omega)) rfl rfl<|J.q rfl ((qSg (a:=1) (m:=7-d%8) rfl rfl rfl).as (v':=B8 (UInt8.ofNat (1*2^(7-d%8)))) (by rw [Nat.min_eq_left (by omega)];rfl)) rfl rfl<|J.q rfl (qSe rfl rfl rfl) rfl rfl<|J.q rfl (qAm (i:=d/8) (j:=0+(d/8)*1) rfl rfl rfl qBV z5_ (by first|omega|(simp only [List.length_append,List.length_cons,List.length_nil,List.length_take,List.length_drop] at*;omega)) (by omega)) rfl rfl<|J.d3 rfl (qBI (i:=1) (k:=d/8) (off:=0) (b:= [B8 (k.getD (d/8) 0^^^UInt8.ofNat (1*2^(7-d%8)))]) rfl rfl rfl rfl h7 (vs:= [B8 (k.getD (d/8) 0^^^UInt8.ofNat (1*2^(7-d%8)))]) rfl z5_ rfl (by omega) (qBL (qAc 0 (by first|omega|(simp only [List.length_append,List.length_cons,List.length_nil,List.length_take,List.length_drop] at*;omega)))) rfl (Nat.le_refl _)) rfl rfl rfl ?_
 rintro m2_1 hm2_1
 change J _ _ _ [_,m2_1] _
 rw [qEQ] at hm2_1
 refine J.b9<|J.A (J.H hK3 ?_)
 refine J.u 5 ?_
 refine J.g λK4 hK4=>J.b O<|J.f (qBY (l:=k.set (d/8) (k.getD (d/8) 0^^^UInt8.ofNat (1*2^(7-d%8)))) O O qBV u5_ u9_ (m:=m2_1) (by simp) hm2_1.sl) rfl<|J.b rfl<|J.c hK4<|J.u 4 ?_
 exact J.D<|J.M hw0 O () (by unfold turn;rfl) trivial [0] O (by decide)
theorem qPx(F:Hp)(s:List UInt8):Ct prog 122 [Str (s)] [F] (λ_:Unit=> .bool (qNk s)) (λ_=>True) (λ_=> [F]):=by
 refine Ct.walk func122 rfl ntmps122 rfl (λw0 hw0=>?_)
 change J _ [(0,_)] _ _ _
 refine J.g λK1 hK1=>J.b O<|J.c hK1<|J.u 0 ?_
 refine J.g λK2 hK2=>J.b O<|J.f (qBQ O O O) O<|J.b O<|J.c4 (d:=5) O (λh5=>?_) (λh5=>?_)
 ·
  refine J.p 4 O<|J.d4 (Wan.un O O O O) O O ?_
  refine J.d4 (Wan.un O O O O) O O ?_
  refine J.d4 (Wan.un O O O O) O O ?_
  refine J.d4 (Wan.un O O O O) O O ?_
  refine J.d4 (Wan.un O O O O) O O ?_
  refine J.d4 (Wan.un O O O O) O O ?_
  refine J.d4 (Wan.un O O O O) O O ?_
  refine J.d4 (Wan.un O O O O) O O ?_
  refine J.p 3 O<|J.c hK2<|J.u 2 ?_
  exact J.D<|J.M hw0 O () (by first|rw [qKw (by assumption)]|rw [qEW (by omega) (by omega)]|rw [qC4 (by assumption) (by omega)]|(by_cases q:(s.getD 0 0).toNat=2;rw [qEW (by omega) (.inr q),decide_eq_true (by omega)];rw [qC4 (by assumption) (by omega),decide_eq_false (by omega)])) trivial [0] rfl (by decide)
 refine J.b O<|J.Z (qAl u9_ O O) O<|J.Z (qAY O O O) O<|J.b O<|J.c4 (d:=9) O (λh9=>?_) (λh9=>?_)
 ·
  refine J.b O<|J.Z (qBW (c:=s.getD 0 0) u9_ O O O (qAc 0 (by first|omega|(simp only [List.length_append,List.length_cons,List.length_nil,List.length_take,List.length_drop] at*;omega)))) rfl<|J.Z (qAY rfl rfl rfl) rfl<|J.b rfl<|J.c4 (d:=13) rfl (λh13=>?_) (λh13=>?_)
  ·
   refine J.p 7 O<|J.c hK2<|J.u 2 ?_
   exact J.D<|J.M hw0 O () (by first|rw [qKw (by assumption)]|rw [qEW (by omega) (by omega)]|rw [qC4 (by assumption) (by omega)]|(by_cases q:(s.getD 0 0).toNat=2;rw [qEW (by omega) (.inr q),decide_eq_true (by omega)];rw [qC4 (by assumption) (by omega),decide_eq_false (by omega)])) trivial [0] rfl (by decide)
  refine J.b O<|J.Z (qBW (c:=s.getD 0 0) u9_ O O O (qAc 0 (by first|omega|(simp only [List.length_append,List.length_cons,List.length_nil,List.length_take,List.length_drop] at*;omega)))) rfl<|J.Z (qAY rfl rfl rfl) rfl<|J.p 4 rfl<|J.c hK2<|J.u 2 ?_
  exact J.D<|J.M hw0 O () (by first|rw [qKw (by assumption)]|rw [qEW (by omega) (by omega)]|rw [qC4 (by assumption) (by omega)]|(by_cases q:(s.getD 0 0).toNat=2;rw [qEW (by omega) (.inr q),decide_eq_true (by omega)];rw [qC4 (by assumption) (by omega),decide_eq_false (by omega)])) trivial [0] rfl (by decide)
 refine J.p 4 O<|J.d4 (Wan.un O O O O) O O ?_
 refine J.d4 (Wan.un O O O O) O O ?_
 refine J.d4 (Wan.un O O O O) O O ?_
 refine J.p 4 O<|J.c hK2<|J.u 2 ?_
 exact J.D<|J.M hw0 O () (by first|rw [qKw (by assumption)]|rw [qEW (by omega) (by omega)]|rw [qC4 (by assumption) (by omega)]|(by_cases q:(s.getD 0 0).toNat=2;rw [qEW (by omega) (.inr q),decide_eq_true (by omega)];rw [qC4 (by assumption) (by omega),decide_eq_false (by omega)])) trivial [0] rfl (by decide)
theorem qOF(F:Hp)(A:Option Addr)(c:Nat)(bs:List (List UInt8))(hs:Sl F 1 A bs.length c (qAG bs))(th:Bool)(pk pv k:List UInt8)(d:Nat)(hg:qOv bs th pk pv k d):Ct prog 61 [.agg #[.slice A bs.length c,.bool (th),Str (pk),Str (pv)],Str (k),I ((d:Nat):Int)] [F] (λ_:Unit=> .bool true) (λ_=>True) (λ_=> [F]):=by
 have hle:=hg.le
 have hk16:=hg.k16
 refine Ct.walk func61 rfl ntmps61 rfl (λw0 hw0=>?_)
 change J _ [(0,_),(1,_),(2,_)] _ _ _
 refine J.g λK1 hK1=>J.k (qAi (l:= [.slice A bs.length c,.bool (th),Str (pk),Str (pv)]) O O O) O λg3 _=>?_
 change J _ _ _ [F,blk g3 [.slice A bs.length c,.bool (th),Str (pk),Str (pv)] 80] _
 refine J.b O<|J.c hK1<|J.G 1 2 3 ?_
 refine J.g λK2 hK2=>J.a3 0 qDP qBf O O O O O<|J.f (qAE 1 (v:= .slice A bs.length c) O O O qBo O) O<|J.f (qAP qAe O O) O<|J.b O<|J.c hK2<|J.O 1 2 3 7 ?_
 refine J.j λK3 hK3=>J.g λK4 hK4=>J.p 2 O<|J.k (qAA O O ent121 (Ct.use0 (λF' hF=>qIM F' k ((d:Nat):Int)))) O λg16 _=>J.f ((qAt O O).as (v':= .bool false) (by rw [decide_eq_true (show k.length=16∧(0:Int)≤((d:Nat):Int)∧((d:Nat):Int)≤128 from⟨hk16,by omega,by omega⟩)];rfl)) rfl<|J.p 3 rfl<|J.Z (qAw rfl rfl rfl (by first|omega|(simp only [List.length_append,List.length_cons,List.length_nil,List.length_take,List.length_drop] at*;omega))) rfl<|J.Z ((qAz rfl rfl rfl).no (by omega)) rfl<|J.b rfl<|J.c hK4<|J.a0 1 2 3 7 23 ?_
 refine J.a5 ?_
 refine J.W hK3<|J.O 1 2 3 7 ?_
 refine J.j λK5 hK5=>J.g λK6 hK6=>J.a3 0 qDP qBf O O O O O<|J.f (qAE 1 (v:= .slice A bs.length c) O O O qBo O) O<|J.f (qAP qAe O O) O<|J.b O<|J.c hK6<|J.c2 1 2 3 7 25 26 27 ?_
 refine J.V<|J.b6 (X:=Nat) (λζ=> [(1,Str (k)),(2,I ((d:Nat):Int)),(3,Ptr g3),(7,I ((bs.length:Nat):Int)),(25,.slice A bs.length c),(26,I ((bs.length:Nat):Int)),(27,I ((ζ:Nat):Int))]) (λζ=> [F,blk g3 [.slice A bs.length c,.bool (th),Str (pk),Str (pv)] 80]) (λζ=>ζ≤bs.length) (λζ=>bs.length-ζ) 0 (Nat.zero_le _) ⟨O,O,O,O,O,O,O,trivial⟩ (λ_ h=>h) ?_
 rintro i hi I0 hI0
 refine J.g λK7 hK7=>J.f (qAT O O O) O<|J.c hK7<|J.d1 1 2 3 7 25 26 27 28 ?_
 refine J.j λK8 hK8=>J.a2 O (λh28=>?_) (λh28=>?_)
 ·
  refine J.W hK8<|J.c2 1 2 3 7 25 26 27 ?_
  refine J.j λK9 hK9=>J.V<|J.g λK10 hK10=>J.f (qAH (i:=i) O O O qAe z9_ hs (by first|omega|(simp only [List.length_append,List.length_cons,List.length_nil,List.length_take,List.length_drop] at*;omega))) rfl<|J.f (qAJ rfl rfl b9_ (m:=F) (by simp) (hs.elem (qAQ (qAc [] (by first|omega|(simp only [List.length_append,List.length_cons,List.length_nil,List.length_take,List.length_drop] at*;omega)))))) rfl<|J.b rfl<|J.c hK10<|J.d1 1 2 3 7 9 25 26 27 ?_
  refine J.g λK11 hK11=>J.b O<|J.k (qAA O O ent122 (Ct.use0 (λF' hF=>qPx F' (bs.getD i [])))) O λg32 _=>J.f ((qAt O O).as (v':= .bool false) (by rw [hg.nodes i (by omega)];rfl)) rfl<|J.c hK11<|J.d1 1 2 3 7 25 26 27 33 ?_
  refine J.a5 ?_
  refine J.b7<|J.a6<|J.A (J.H hK9 ?_)
  refine J.c2 1 2 3 7 25 26 27 ?_
  exact J.L<|J.f ((qAO O O O (by first|omega|(simp only [List.length_append,List.length_cons,List.length_nil,List.length_take,List.length_drop] at*;omega))).nat (i+1) (by omega)) rfl<|J.b rfl<|J.a7<|J.A<|J.a8 (i+1) (λη (hη:_∧bs.length-η<bs.length-i)=>hI0 η hη.1 hη.2) ⟨(by omega),by first|omega|(dsimp only;omega)⟩ ⟨rfl,rfl,rfl,rfl,rfl,rfl,rfl,trivial⟩ (λ_ h=>h)
 refine J.b4<|J.a1<|J.a1<|J.b5 ?_
 refine J.A (J.H hK5 ?_)
 refine J.O 1 2 3 7 ?_
 refine J.j λK12 hK12=>J.g λK13 hK13=>J.b O<|J.f (qAz O O O) O<|J.c hK13<|J.a0 1 2 3 7 36 ?_
 refine J.a2 O (λh36=>?_) (λh36=>?_)
 ·
  obtain ⟨hl1,hl2⟩:=hg.last (by omega)
  refine J.g λK14 hK14=>J.a3 0 qDP qBf O O O O O<|J.f (qAE 1 (v:= .slice A bs.length c) O O O qBo O) O<|J.b O<|J.f ((qAw O O O (by omega)).nat (bs.length-1) (by omega)) O<|J.f (qAH (i:=bs.length-1) O O O qAe z9_ hs (by first|omega|(simp only [List.length_append,List.length_cons,List.length_nil,List.length_take,List.length_drop] at*;omega))) rfl<|J.f (qAJ rfl rfl b9_ (m:=F) (by simp) (hs.elem (qAQ (qAc [] (by first|omega|(simp only [List.length_append,List.length_cons,List.length_nil,List.length_take,List.length_drop] at*;omega)))))) rfl<|J.b rfl<|J.c hK14<|J.a0 1 2 3 7 10 ?_
  refine J.g λK15 hK15=>J.b O<|J.f ((qBQ O O O).no (hl1)) O<|J.b O<|J.Z (qAB (j:=1) O O qDP O z4_ O) O<|J.Z (qAE 1 (v:= .bool (th)) O O O b4_ O) O<|J.Z (qAt O O) O<|J.b O<|J.g7 (d:=49) O (λh49=>?_) (λh49=>?_)
  ·
   refine J.b O ?_
   have hl3:=qQQ (hl2 (by simpa using h49))
   refine J.Z (qBW (c:=(bs.getD (bs.length-1) []).getD 0 0) u9_ O O O (qAc 0 (by first|omega|(simp only [List.length_append,List.length_cons,List.length_nil,List.length_take,List.length_drop] at*;omega)))) rfl<|J.Z ((qAb rfl rfl rfl).no (by have:=hl2 (by simpa using h49);omega)) rfl<|J.p 2 rfl<|J.c hK15<|J.a0 1 2 3 7 54 ?_
   refine J.a5 ?_
   refine J.W hK12<|J.O 1 2 3 7 ?_
   refine J.j λK16 hK16=>J.g λK17 hK17=>J.a3 1 qDP z4_ O O O O O<|J.f (qAE 1 (v:= .bool (th)) O O O b4_ O) O<|J.f (qAt O O) O<|J.c hK17<|J.a0 1 2 3 7 57 ?_
   refine J.d6 O (λh57=>?_) (λh57=>?_)
   ·
    refine J.g λK18 hK18=>J.a3 2 qDP z9_ O O O O O<|J.f (qAE 1 (v:=Str (pk)) O O O b9_ O) O<|J.f ((qBQ O O O).yes ((hg.no (by simpa using h57)).1)) O<|J.b O<|J.Z (qAB (j:=3) O O qDP O z9_ O) O<|J.Z (qAE 1 (v:=Str (pv)) O O O b9_ O) O<|J.Z ((qBQ O O O).yes ((hg.no (by simpa using h57)).2)) O<|J.p 2 O<|J.c hK18<|J.u 6 ?_
    exact J.D<|J.a4<|J.M hw0 O () (by first|rfl|(rw [Int.toNat_natCast,Nat.min_eq_left (by omega),(hg.yes (by simpa using h57)).2])) trivial [0] rfl (by decide)
   refine J.W hK16<|J.O 1 2 3 7 ?_
   refine J.g λK19 hK19=>J.a3 2 qDP z9_ O O O O O<|J.f (qAE 1 (v:=Str (pk)) O O O b9_ O) O<|J.f (qAl u9_ O O) O<|J.f ((qAY O O O).yes (by have:=(hg.yes (by simpa using h57)).1;omega)) O<|J.b O<|J.Z (qAB (j:=2) O O qDP O z9_ O) O<|J.Z (qAE 1 (v:=Str (pk)) O O O b9_ O) O<|J.p 3 O<|J.Z ((qAO O O O (by first|omega|(simp only [List.length_append,List.length_cons,List.length_nil,List.length_take,List.length_drop] at*;omega))).nat (d+bs.length) (by omega)) rfl ?_
   have hpl:=(hg.yes (by simpa using h57)).1
   refine J.d7 (qAA O O ent123 (Ct.use0 (λF' hF=>qDz F' pk (by omega) k (by omega) ((d+bs.length:Nat):Int)))) O λg77 _=>J.p 2 O<|J.c hK19<|J.u 6 ?_
   exact J.D<|J.M hw0 O () (by first|rfl|(rw [Int.toNat_natCast,Nat.min_eq_left (by omega),(hg.yes (by simpa using h57)).2])) trivial [0] rfl (by decide)
  refine J.p 5 O<|J.c hK15<|J.a0 1 2 3 7 54 ?_
  refine J.a5 ?_
  refine J.W hK12<|J.O 1 2 3 7 ?_
  refine J.j λK20 hK20=>J.g λK21 hK21=>J.a3 1 qDP z4_ O O O O O<|J.f (qAE 1 (v:= .bool (th)) O O O b4_ O) O<|J.f (qAt O O) O<|J.c hK21<|J.a0 1 2 3 7 57 ?_
  refine J.d6 O (λh57=>?_) (λh57=>?_)
  ·
   refine J.g λK22 hK22=>J.a3 2 qDP z9_ O O O O O<|J.f (qAE 1 (v:=Str (pk)) O O O b9_ O) O<|J.f ((qBQ O O O).yes ((hg.no (by simpa using h57)).1)) O<|J.b O<|J.Z (qAB (j:=3) O O qDP O z9_ O) O<|J.Z (qAE 1 (v:=Str (pv)) O O O b9_ O) O<|J.Z ((qBQ O O O).yes ((hg.no (by simpa using h57)).2)) O<|J.p 2 O<|J.c hK22<|J.u 6 ?_
   exact J.D<|J.a4<|J.M hw0 O () (by first|rfl|(rw [Int.toNat_natCast,Nat.min_eq_left (by omega),(hg.yes (by simpa using h57)).2])) trivial [0] rfl (by decide)
  refine J.W hK20<|J.O 1 2 3 7 ?_
  refine J.g λK23 hK23=>J.a3 2 qDP z9_ O O O O O<|J.f (qAE 1 (v:=Str (pk)) O O O b9_ O) O<|J.f (qAl u9_ O O) O<|J.f ((qAY O O O).yes (by have:=(hg.yes (by simpa using h57)).1;omega)) O<|J.b O<|J.Z (qAB (j:=2) O O qDP O z9_ O) O<|J.Z (qAE 1 (v:=Str (pk)) O O O b9_ O) O<|J.p 3 O<|J.Z ((qAO O O O (by first|omega|(simp only [List.length_append,List.length_cons,List.length_nil,List.length_take,List.length_drop] at*;omega))).nat (d+bs.length) (by omega)) rfl ?_
  have hpl:=(hg.yes (by simpa using h57)).1
  refine J.d7 (qAA O O ent123 (Ct.use0 (λF' hF=>qDz F' pk (by omega) k (by omega) ((d+bs.length:Nat):Int)))) O λg77 _=>J.p 2 O<|J.c hK23<|J.u 6 ?_
  exact J.D<|J.M hw0 O () (by first|rfl|(rw [Int.toNat_natCast,Nat.min_eq_left (by omega),(hg.yes (by simpa using h57)).2])) trivial [0] rfl (by decide)
 refine J.W hK12<|J.O 1 2 3 7 ?_
 refine J.j λK24 hK24=>J.g λK25 hK25=>J.a3 1 qDP z4_ O O O O O<|J.f (qAE 1 (v:= .bool (th)) O O O b4_ O) O<|J.f (qAt O O) O<|J.c hK25<|J.a0 1 2 3 7 57 ?_
 refine J.d6 O (λh57=>?_) (λh57=>?_)
 ·
  refine J.g λK26 hK26=>J.a3 2 qDP z9_ O O O O O<|J.f (qAE 1 (v:=Str (pk)) O O O b9_ O) O<|J.f ((qBQ O O O).yes ((hg.no (by simpa using h57)).1)) O<|J.b O<|J.Z (qAB (j:=3) O O qDP O z9_ O) O<|J.Z (qAE 1 (v:=Str (pv)) O O O b9_ O) O<|J.Z ((qBQ O O O).yes ((hg.no (by simpa using h57)).2)) O<|J.p 2 O<|J.c hK26<|J.u 6 ?_
  exact J.D<|J.a4<|J.M hw0 O () (by first|rfl|(rw [Int.toNat_natCast,Nat.min_eq_left (by omega),(hg.yes (by simpa using h57)).2])) trivial [0] rfl (by decide)
 refine J.W hK24<|J.O 1 2 3 7 ?_
 refine J.g λK27 hK27=>J.a3 2 qDP z9_ O O O O O<|J.f (qAE 1 (v:=Str (pk)) O O O b9_ O) O<|J.f (qAl u9_ O O) O<|J.f ((qAY O O O).yes (by have:=(hg.yes (by simpa using h57)).1;omega)) O<|J.b O<|J.Z (qAB (j:=2) O O qDP O z9_ O) O<|J.Z (qAE 1 (v:=Str (pk)) O O O b9_ O) O<|J.p 3 O<|J.Z ((qAO O O O (by first|omega|(simp only [List.length_append,List.length_cons,List.length_nil,List.length_take,List.length_drop] at*;omega))).nat (d+bs.length) (by omega)) rfl ?_
 have hpl:=(hg.yes (by simpa using h57)).1
 refine J.d7 (qAA O O ent123 (Ct.use0 (λF' hF=>qDz F' pk (by omega) k (by omega) ((d+bs.length:Nat):Int)))) O λg77 _=>J.p 2 O<|J.c hK27<|J.u 6 ?_
 exact J.D<|J.M hw0 O () (by first|rfl|(rw [Int.toNat_natCast,Nat.min_eq_left (by omega),(hg.yes (by simpa using h57)).2])) trivial [0] rfl (by decide)
theorem qQ2(F:Hp)(B:Option Addr)(n e:Nat):Ct prog 175 [.slice B n e] [F] (λx:Nat=> .func (.func 210) #[] #[Ptr x]) (λ_=>True) (λx=> [F,blk x [.slice B n e] 44]):=by
 refine Ct.walk func175 rfl ntmps175 rfl (λw0 hw0=>?_)
 change J _ [(0,_)] _ _ _
 refine J.g λK1 hK1=>J.k (qAi (l:= [.slice B n e]) O O O) O λg1 _=>?_
 change J _ _ _ [F,blk g1 [.slice B n e] 44] _
 refine J.b O<|J.c hK1<|J.u 1 ?_
 refine J.g λK2 hK2=>J.f (qBR O O) O<|J.b O<|J.c hK2<|J.u 2 ?_
 exact J.D<|J.M hw0 O g1 O trivial [0,1] O (by decide)
theorem qOm(Fr:Hp)(gB:Nat)(B:Option Addr)(W:List (List UInt8))(e:Nat)(hn2:W.length≤1073741824)(ha:qAL Fr ⟨gB,0,none⟩ [.slice B W.length e])(hs:Sl Fr 1 B W.length e (qAG W)):
    qHp prog 210 [Ptr gB] Fr (λi=> [I ((W.length-1-i:Nat):Int),Str (W.getD (W.length-1-i) [])]) W.length:=by
  refine qHp.walk func210 rfl ntmps210 rfl (λ{X} M IY S l x0 w0 hw0 h0 hY=>?_)
  change J _ [(0,_),(1,_)] _ _ _
  refine J.g λK1 hK1=>J.f (qAJ (v:= .slice B W.length e) O O qBo (m:=Fr) (by simp) (ha)) rfl<|J.f (qAP qAe rfl rfl) rfl<|J.f ((qAw rfl rfl rfl (by omega)).as (v':=I ((W.length:Int)-1-((0:Nat):Int))) (congrArg I (by omega))) rfl<|J.b rfl<|J.c hK1<|J.G 0 1 3 ?_
  refine J.V<|J.b6 (X:=Nat×X) (λy=> [(0,.func (.yield l) #[] #[]),(1,Ptr gB),(3,I ((W.length:Int)-1-(y.1:Int)))]) (λy=> [Fr,M y.2]) (λy=>y.1≤W.length∧IY y.1 y.2) (λy=>W.length-y.1) (0,x0) (⟨Nat.zero_le _,h0⟩) ⟨O,O,O,trivial⟩ (λ_ h=>h) ?_
  rintro⟨i,x⟩ ⟨hi,hI⟩ I0 hI0
  dsimp only at hi hI⊢
  refine J.j λK2 hK2=>J.g λK3 hK3=>J.b O<|J.f (qBN O O O) O<|J.c hK3<|J.O 0 1 3 8 ?_
  refine J.a2 O (λh8=>?_) (λh8=>?_)
  ·
    refine J.W hK2<|J.G 0 1 3 ?_
    refine J.j λK4 hK4=>J.V<|J.j λK5 hK5=>J.g5 ?_
    refine J.d2 (qAx O O) O O O ?_
    refine J.d2 ((qAx O O).nat (W.length-1-i) (by omega)) O O O ?_
    refine J.d2 (qAJ (v:= .slice B W.length e) O O qBo (m:=Fr) (by simp) (ha)) rfl rfl rfl ?_
    refine J.d2 ((qAx O O).nat (W.length-1-i) (by omega)) O O O ?_
    refine J.d2 (qAH (i:=W.length-1-i) O O O qAe z9_ hs (by first|omega|(simp only [List.length_append,List.length_cons,List.length_nil,List.length_take,List.length_drop] at*;omega))) rfl rfl rfl ?_
    refine J.d2 (qAJ O O b9_ (m:=Fr) (by simp) (hs.elem (qAQ (qAc [] (by first|omega|(simp only [List.length_append,List.length_cons,List.length_nil,List.length_take,List.length_drop] at*;omega)))))) rfl rfl rfl ?_
    refine J.g6 (ex:= []) O O O O O O (hY i x (by omega) hI) ?_
    rintro x' b hb1 hb2
    cases b
    ·
      have hyb:=hb2 rfl
      change J _ _ _ [Fr,M x'] _
      refine J.d2 (qAt O O) O O O ?_
      refine J.e7 ?_
      refine J.A (J.H hK5 ?_)
      refine J.O 0 1 3 18 ?_
      refine J.d0 ?_
      exact J.D<|J.b1<|J.a4<|J.a4<|J.b1<|J.b2 hw0 (λ_ _ h=>h) (qHr O) (λw hs=>⟨x',⟨_,O⟩,.inr hyb,hs⟩)
    have hyb:=hb1 rfl
    change J _ _ _ [Fr,M x'] _
    refine J.d2 (qAt O O) O O O ?_
    refine J.e7 ?_
    refine J.A (J.H hK5 ?_)
    refine J.O 0 1 3 18 ?_
    refine J.a5 ?_
    refine J.b7<|J.a6<|J.A (J.H hK4 ?_)
    refine J.G 0 1 3 ?_
    exact J.L<|J.b O<|J.f ((qAw O O O (by omega)).as (v':=I ((W.length:Int)-1-((i+1:Nat):Int))) (congrArg I (by omega))) O<|J.b O<|J.a7<|J.A<|J.a8 (i+1,x') (λy (hy:_∧W.length-y.1<W.length-i)=>hI0 y hy.1 hy.2) ⟨⟨by dsimp only;omega,hyb⟩,by dsimp only;omega⟩ ⟨O,O,O,trivial⟩ (λ_ h=>h)
  refine J.b4<|J.a1<|J.a1<|J.b5 ?_
  exact J.e0 hw0 (λ_ _ h=>h) (qHr O) (λw hs=>⟨x,⟨_,O⟩,.inl (by rw [show W.length=i by omega];exact hI),hs⟩)
theorem qIQ(F:Hp)(hK:KF F)(A:Option Addr)(c:Nat)(bs:List (List UInt8))(hs:Sl F 1 A bs.length c (qAG bs))(th:Bool)(pk pv xx k:List UInt8)(d:Nat)(hle:d+bs.length≤128)(hk16:k.length=16)(hsm: ∀s∈bs,s.length≤17)(hx:xx.length≤17):
    Ct prog 125 [.agg #[.slice A bs.length c,.bool (th),Str (pk),Str (pv)],Str xx,Str k,I ((d:Nat):Int)] [F] (λ_:Unit=>Str (clm k d bs xx bs.length)) (λ_=>True) (λ_=> [F]):=by
  refine Ct.walk func125 rfl ntmps125 rfl (λw0 hw0=>?_)
  change J _ [(0,_),(1,_),(2,_),(3,_)] _ _ _
  refine J.g λK1 hK1=>J.k (qAi (l:= [.slice A bs.length c,.bool (th),Str (pk),Str (pv)]) O O O) O λg4 _=>?_
  change J _ _ _ [F,blk g4 [.slice A bs.length c,.bool (th),Str (pk),Str (pv)] 80] _
  refine J.k (qAi (l:= [Str (xx)]) O O O) O λg5 _=>?_
  change J _ _ _ [_,_,blk g5 [Str (xx)] 9] _
  refine J.k (qAi (l:= [Str (k)]) O O O) O λg6 _=>?_
  change J _ _ _ [_,_,_,blk g6 [Str (k)] 9] _
  refine J.k (qAi (l:= [I ((d:Nat):Int)]) O O O) O λg7 _=>?_
  change J _ _ _ [_,_,_,_,blk g7 [I ((d:Nat):Int)] 3] _
  refine J.b O<|J.c hK1<|J.O 4 5 6 7 ?_
  refine J.j λK2 hK2=>J.g λK3 hK3=>J.a3 0 qDP qBf O O O O O<|J.f (qAE 1 (v:= .slice A bs.length c) O O O qBo O) O<|J.k (qAA O O ent175 (Ct.use (new:=λx:Nat=> [blk x [.slice A bs.length c] 44]) (λF' _=>qQ2 F' A bs.length c))) O ?_
  rintro gB _
  change J _ ((13,.func (.func 210) #[] #[Ptr gB])::_) _ [_,_,_,_,_,blk gB [.slice A bs.length c] 44] _
  refine J.c hK3<|J.O 5 6 7 13 ?_
  refine J.V<|J.c8 [2,0,1,3,4,5] [blk g5 [Str (xx)] 9,F,blk g4 [.slice A bs.length c,.bool (th),Str (pk),Str (pv)] 80,blk g6 [Str (k)] 9,blk g7 [I ((d:Nat):Int)] 3,blk gB [.slice A bs.length c] 44] O (by decide)<|J.g9 (λx:List UInt8=> [blk g5 [Str (x)] 9]) [F,blk g4 [.slice A bs.length c,.bool (th),Str (pk),Str (pv)] 80,blk g6 [Str (k)] 9,blk g7 [I ((d:Nat):Int)] 3,blk gB [.slice A bs.length c] 44] (λi x=>x=clm k d bs xx i) (λ_ _=>False) xx O ent210 (λFr hF=>qOm Fr gB A bs c (by omega) (qAL.blk0.mono (hF (blk gB [.slice A bs.length c] 44) (by simp))) (hs.mono (hF F (by simp)))) (λ_ _=>rfl) rfl (rfl) ?_ ?_ ?_
  ·
    intro i x l wa wb hi hI K4 Post4 hK4 hN4 hR4 hE4
    subst hI
    obtain ⟨y,hy⟩: ∃y,y=clm k d bs xx i:=⟨_,rfl⟩
    obtain ⟨s,hsd⟩: ∃s,s=bs.getD (bs.length-1-i) []:=⟨_,rfl⟩
    have hyl:y.length≤17:=by rw [hy];exact qI2 hsm hx i
    have hsl:s.length≤17:=by rw [hsd,List.getD_eq_getElem?_getD,List.getElem?_eq_getElem (show bs.length-1-i<bs.length by omega)];exact hsm _ (List.getElem_mem _)
    rw [←hy,←hsd]
    change J _ ((15,Str s)::(14,I ((bs.length-1-i:Nat):Int))::_) _ [blk g5 [Str (y)] 9,F,blk g4 [.slice A bs.length c,.bool (th),Str (pk),Str (pv)] 80,blk g6 [Str (k)] 9,blk g7 [I ((d:Nat):Int)] 3,blk gB [.slice A bs.length c] 44] _
    refine J.g3 (λK5 hK5=>?_)
    refine J.e2 ?_
    refine J.b O<|J.e3 ?_
    refine J.A (J.H hK5 ?_)
    refine J.a0 5 6 7 9 15 ?_
    refine J.e2 ?_
    refine J.b O<|J.e3 ?_
    refine J.A (hK4 _ _ ?_)
    refine J.a0 5 6 7 9 10 ?_
    refine J.g4 ?_
    refine J.g3 (λK6 hK6=>?_)
    refine J.e2 ?_
    refine J.c7 3 b9_ O O O O O<|J.c7 4 b3_ O O O O O<|J.b O<|J.f ((qAO O O O (by omega)).nat (d+(bs.length-1-i)) (by omega)) O<|J.k (qAA O O ent174 (Ct.use0 (λF' hF=>qI9 F' k (by omega) (d+(bs.length-1-i)) (by omega)))) O λg20 _=>J.f (qAY O O O) O<|J.e3 ?_
    refine J.A (J.H hK6 ?_)
    refine J.G 5 10 21 ?_
    refine J.h6 O (λh21=>?_) (λh21=>?_)
    ·
      refine J.e2 ?_
      refine J.c7 0 b9_ O O O O O<|J.b O<|J.k (qAA O O ent116 (Ct.use0 (λF' hF=>qEk F' (hK.mo hF) y s (by omega) (by omega)))) O λg24 _=>J.b0 (qAI (l:= [Str (y)]) (i:=0) (vs:= [Str (Sb.join y s)]) O O O O O z9_ O O) O O λ_ _=>?_
      change J _ _ _ [blk g5 [Str (Sb.join y s)] 9,_,_,_,_,_] _
      refine J.e3 ?_
      refine J.a6 ?_
      exact hN4 _ (Sb.join y s) (by rw [clm,up,if_pos (by omega),←hy,←hsd])
    refine J.e2 ?_
    refine J.b O<|J.c7 0 b9_ O O O O O<|J.k (qAA O O ent116 (Ct.use0 (λF' hF=>qEk F' (hK.mo hF) s y (by omega) (by omega)))) O λg27 _=>J.b0 (qAI (l:= [Str (y)]) (i:=0) (vs:= [Str (Sb.join s y)]) O O O O O z9_ O O) O O λ_ _=>?_
    change J _ _ _ [blk g5 [Str (Sb.join s y)] 9,_,_,_,_,_] _
    refine J.e3 ?_
    refine J.a6 ?_
    exact hN4 _ (Sb.join s y) (by rw [clm,up,if_neg (by omega),←hy,←hsd])
  ·
    intro w4 x hx4 hI
    subst hI
    change J _ _ _ [blk g5 [Str (clm k d bs xx bs.length)] 9,F,blk g4 [.slice A bs.length c,.bool (th),Str (pk),Str (pv)] 80,blk g6 [Str (k)] 9,blk g7 [I ((d:Nat):Int)] 3,blk gB [.slice A bs.length c] 44] _
    refine J.a6<|J.A (J.H hK2 ?_)
    refine J.u 5 ?_
    refine J.g λK7 hK7=>J.c7 0 b9_ O O O O O<|J.b O<|J.c hK7<|J.u 8 ?_
    exact J.D<|J.f6 hw0 hx4 (λ_ _ h=>h) (qIJ O O) (qAn () O trivial [1] O (by decide))
  intro w4 x c hx4 hS
  exact hS.elim
theorem qKi{kv:List Sm.PR}(ho:Sm.Once kv){k v:List UInt8}{p:Sm.PR}:p∈Sm.putP kv k v↔(p∈kv∧p.1≠k)∨p=(k,v):=by
 rw [(Sm.putP_perm k v ho).mem_iff]
 unfold Sm.setP
 rw [List.mem_append,List.mem_filter,decide_eq_true_eq,List.mem_singleton]
theorem qCI.put{kv:List Sm.PR}(hf:qCI kv){k v:List UInt8}(hk:k.length=16)(hv:v.length≤1000000)(hl:kv.length≤100000):qCI (Sm.putP kv k v):=by
  refine⟨(Sm.setP_once k v hf.once).perm (Sm.putP_perm k v hf.once).symm,λp q=>?_,λp q=>?_,Nat.le_trans (Sm.putP_len kv k v) (by omega)⟩
  · rcases(qKi hf.once).1 q with ⟨q,_⟩|rfl
    · exact hf.k16 p q
    · exact hk
  · rcases(qKi hf.once).1 q with ⟨q,_⟩|rfl
    · exact hf.small p q
    · exact hv
theorem qLl{kv:List Sm.PR}(hf:qCI kv){k v:List UInt8}(hk:k.length=16){b:List UInt8}(hb:b.length=16){d:Nat}(hd:d≤128)(hn:Sm.belowB k b d=false)(hv:v.length≤1000000)(hl:kv.length≤100000):
    Sm.ndB (Sm.putP kv k v) b d=Sm.ndB kv b d:=by
  have hf':=hf.put hk hv hl
  have h1:Sm.ndB (Sm.putP kv k v) b d=Sm.ndB (Sm.setP kv k v) b d:=Sm.ndB_perm hf'.once hf'.k16 (Sm.putP_perm k v hf.once) hb hd
  rw [h1]
  unfold Sm.ndB Sm.bel Sm.setP
  rw [List.filter_append,List.filter_cons,if_neg (by rw [hn];decide),List.filter_nil,List.append_nil,List.filter_filter]
  congr 1
  refine List.filter_congr λp hp=>?_
  by_cases h:p.1=k
  · rw [h,hn];rfl
  · rw [decide_eq_true h,Bool.and_true]
theorem qTd{kv:List Sm.PR}(hf:qCI kv){k v:List UInt8}(hk:k.length=16)(hv:v.length≤1000000)(hl:kv.length≤100000){d n:Nat}(hd:d+n≤128):bsd (Sm.putP kv k v) k d n=bsd kv k d n:=by
 unfold bsd
 refine List.map_congr_left λi hi=>?_
 have:=List.mem_range.1 hi
 have hb:=Sm.bit_le k (d+i)
 refine qLl hf hk ((qBh _ _).trans hk) (by omega) (Sm.belowB_no (i:=d+i) (by omega) ?_) hv hl
 rw [qDi hk (by omega) (by omega),if_pos rfl]
 omega
theorem qSU{kv:List Sm.PR}(hf:qCI kv){k v:List UInt8}(hk:k.length=16)(hv:v.length≤1000000)(hl:kv.length≤100000){s:Nat}(hs:s≤128)(ho: ∀p∈cur kv k s,p.1=k):Sm.ndB (Sm.putP kv k v) k s=Sb.leafN k v:=by
 have hf':=hf.put hk hv hl
 have h1:Sm.ndB (Sm.putP kv k v) k s=Sm.ndB (Sm.setP kv k v) k s:=Sm.ndB_perm hf'.once hf'.k16 (Sm.putP_perm k v hf.once) hk hs
 have hself:Sm.belowB k k s=true:=Sm.belowB_yes λ_ _=>rfl
 rw [h1]
 unfold Sm.ndB Sm.bel Sm.setP
 rw [List.filter_append,List.filter_cons,if_pos hself,List.filter_nil,List.filter_filter,List.filter_eq_nil_iff.2 (λp hp=>by
  intro q
  rw [Bool.and_eq_true,decide_eq_true_eq] at q
  exact q.2 (ho p (List.mem_filter.2 ⟨hp,q.1⟩))),List.nil_append,Sm.nd_one]
theorem qPt{kv:List Sm.PR}(hf:qCI kv){k v q w:List UInt8}(hk:k.length=16)(hv:v.length≤1000000)(hl:kv.length≤100000){s:Nat}(hs:s≤128)(hc:cur kv k s= [(q,w)])(hq:q≠k):Sm.ndB (Sm.putP kv k v) k s=Sm.ndB [(k,v),(q,w)] k s:=by
 have hf':=hf.put hk hv hl
 have h1:Sm.ndB (Sm.putP kv k v) k s=Sm.ndB (Sm.setP kv k v) k s:=Sm.ndB_perm hf'.once hf'.k16 (Sm.putP_perm k v hf.once) hk hs
 have hself:Sm.belowB k k s=true:=Sm.belowB_yes λ_ _=>rfl
 have hqb:Sm.belowB q k s=true:=(List.mem_filter.1 (show(q,w)∈cur kv k s by rw [hc];exact .head _)).2
 have e1:Sm.bel (Sm.setP kv k v) k s= [(q,w),(k,v)]:=by
  unfold Sm.bel Sm.setP
  rw [List.filter_append,List.filter_cons,if_pos hself,List.filter_nil,List.filter_filter]
  have e2:kv.filter (λp=>Sm.belowB p.1 k s&&decide (p.1≠k))=(cur kv k s).filter (λp=>decide (p.1≠k)):=by
   show _=(kv.filter λp=>Sm.belowB p.1 k s).filter (λp=>decide (p.1≠k))
   rw [List.filter_filter]
   refine List.filter_congr λp _=>?_
   rw [Bool.and_comm]
  rw [e2,hc,List.filter_cons,if_pos (decide_eq_true hq),List.filter_nil];rfl
 have e3:Sm.bel [(k,v),(q,w)] k s= [(k,v),(q,w)]:=by unfold Sm.bel;rw [List.filter_cons,if_pos hself,List.filter_cons,if_pos hqb,List.filter_nil]
 have hw:Sm.WF (128-s) (Sm.bel (Sm.setP kv k v) k s):=(Sm.bel_wf hf'.once hf'.k16 hk hs).perm ((Sm.putP_perm k v hf.once).filter _)
 rw [h1]
 unfold Sm.ndB
 rw [e3]
 exact Sm.nd_perm _ hw (show(Sm.bel (Sm.setP kv k v) k s).Perm [(k,v),(q,w)] by rw [e1];exact List.Perm.swap _ _ _)
structure Two (k q:List UInt8) (a:Nat):Prop where
 k16:k.length=16
 q16:q.length=16
 lt:a<128
 same: ∀i,i<a→Sm.bit k i=Sm.bit q i
 differ:Sm.bit k a≠Sm.bit q a
theorem Two.ne{k q:List UInt8}{a:Nat}(h:Two k q a):q≠k:=λe=>h.differ (by rw [e])
theorem Two.fine{k q v w:List UInt8}{a:Nat}(h:Two k q a)(hv:v.length≤1000000)(hw:w.length≤1000000):qCI [(k,v),(q,w)]:=by
  refine⟨?_,λp hp=>?_,λp hp=>?_,by simp⟩
  · unfold Sm.Once
    rw [List.pairwise_cons]
    exact⟨λp hp=>by rw [List.mem_singleton.1 hp];exact λe=>h.ne e.symm,by simp⟩
  · rcases List.mem_cons.1 hp with rfl|hp
    · exact h.k16
    · rw [List.mem_singleton.1 hp];exact h.q16
  · rcases List.mem_cons.1 hp with rfl|hp
    · exact hv
    · rw [List.mem_singleton.1 hp];exact hw
theorem Two.top{k q v w:List UInt8}{a:Nat}(h:Two k q a)(hv:v.length≤1000000)(hw:w.length≤1000000):Sm.ndB [(k,v),(q,w)] k a=up k a (Sb.leafN k v) (Sb.leafN q w):=by
 rw [←qMd (h.fine hv hw) h.k16 h.lt]
 have hb:=Sm.bit_le k a
 have hb2:=Sm.bit_le q a
 have hd:=h.differ
 have h1:Sm.belowB k k (a+1)=true:=Sm.belowB_yes λ_ _=>rfl
 have h2:Sm.belowB q k (a+1)=false:=Sm.belowB_no (i:=a) (by omega) λe=>h.differ e.symm
 have h3:Sm.belowB k (turn k a) (a+1)=false:=Sm.belowB_no (i:=a) (by omega) (by rw [qDi h.k16 h.lt h.lt,if_pos rfl];omega)
 have h4:Sm.belowB q (turn k a) (a+1)=true:=Sm.belowB_yes λi hi=>by
  have hlt:=h.lt
  rw [qDi h.k16 h.lt (by omega)]
  by_cases hia:i=a
  · rw [if_pos hia,hia];omega
  · rw [if_neg hia];exact(h.same i (by omega)).symm
 unfold Sm.ndB
 have e1:Sm.bel [(k,v),(q,w)] k (a+1)= [(k,v)]:=by unfold Sm.bel;rw [List.filter_cons,if_pos h1,List.filter_cons,if_neg (by rw [h2];decide),List.filter_nil]
 have e2:Sm.bel [(k,v),(q,w)] (turn k a) (a+1)= [(q,w)]:=by unfold Sm.bel;rw [List.filter_cons,if_neg (by rw [h3];decide),List.filter_cons,if_pos h4,List.filter_nil]
 rw [e1,e2,Sm.nd_one,Sm.nd_one]
theorem Two.le{k q:List UInt8}{a s:Nat}(h:Two k q a)(hs:Sm.belowB q k s=true):s≤a:=by
  rcases Nat.lt_or_ge a s with h1|h1
  · have:=List.all_eq_true.1 hs a (List.mem_range.2 h1)
    exact absurd (of_decide_eq_true this).symm h.differ
  · exact h1
end Go.Proofs.YtllnfioplpipiaaGreatDoor
