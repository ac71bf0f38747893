/- A part of the proof. -/
import Derived.Test.YtmemgokiolfdoaaGreatDoorTopMrG17
set_option maxRecDepth 100000
set_option maxHeartbeats 1000000
set_option linter.unusedSimpArgs false
set_option linter.unusedVariables false
namespace Go.Proofs.YtmemgokiolfdoaaGreatDoor
open Go Go.Fw Go.Proofs.Tryz
def qUI(bs:List xA)(th:Bool)(pk pv k v:xA)(d:Nat):xA:=if th=true∧pk≠k then Sm.ndB [(k,v),(pk,pv)] k (d+bs.length) else Sb.leafN k v
def qRH(bs:List xA)(th:Bool)(pk pv k v:xA)(d:Nat):xA:=clm k d bs (qUI bs th pk pv k v d) bs.length
theorem qLF{kv:List Sm.PR}(hf:qCE kv){k v:xA}(hk:k.length=16)(hv:v.length≤1000000)(hl:kv.length≤100000){d s:Nat}(h:qJE kv k d s):
    qRH (bsd kv k d (s-d)) (qAn kv k s) (qBj kv k s) (qBl kv k s) k v d=Sm.ndB (Sm.putP kv k v) k d:=by
  have h1:=h.le
  have h2:=h.ge
  have hone:=h.one
  have hf':=hf.put hk hv hl
  have h3:=qI6 hf' hk (d:=d) (n:=s-d) xB (s-d) (jK _)
  rw [show d+(s-d)=s by omega,show s-(s-d)=d by omega,qWR hf hk hv hl xB] at h3
  unfold qRH
  rw [qCa,←h3]
  congr 1
  unfold qUI
  rw [qCa,show d+(s-d)=s by omega]
  split
  · rename_i hc
    have hc1:(kd kv k s).length=1:=of_decide_eq_true hc.1
    exact(qSL hf hk hv hl h1 (qI2 hf.once hc1) hc.2).symm
  · rename_i hc
    refine(qU8 hf hk hv hl h1 λp hp=>?_).symm
    have hc1:(kd kv k s).length=1:=by
      rw [qHw hf.once]
      have:=List.length_pos_of_mem hp
      omega
    have ht:qAn kv k s=true:=decide_eq_true hc1
    rw [qI2 hf.once hc1,jQ] at hp
    rw [hp]
    exact Decidable.by_contra λq=>hc ⟨ht,q⟩
theorem qDN{x y:UInt8}(h:(x^^^y).toNat=0):x=y:=by
 have:x^^^y=0:=UInt8.toNat_inj.1 h
 exact UInt8.xor_eq_zero_iff.1 this
attribute [local irreducible] Sha.tagged Sb.join Sb.lvl Sb.lvls Sb.root
theorem qTK(F:Hp)(A:Option Addr)(n c:Nat):Ct prog 187 [.slice A n c,I 2] [F] (λx:Nat×Nat=> .func (.func 246) #[] #[Ptr x.1,Ptr x.2]) (λ_=>True) (λx=> [F,blk x.1 [.slice A n c] 50,blk x.2 [I 2] 3]):=by
 refine Ct.walk func187 O ntmps187 O (λw0 hw0=>?_)
 refine J.f λ_ j1=>J.q (qAd O O O) O λg2 _=>J.q (qAd O O O) O λg3 _=>J.b O<|J.c j1<|J.p λ_ j2=>J.f λ_ j3=>J.a5 2 b3_ O O O O O<|J.g ((qAQ O O O).no xB) O<|J.c j3<|J.a3 ?_
 exact J.M j2<|J.f λ_ j4=>J.g (qBC O O) O<|J.b O<|J.c j4<|J.A<|J.E hw0 O (g2,g3) O trivial [0,1,2] O xC
theorem qQq(Fr:Hp)(gA gB:Nat)(A:Option Addr)(N n c:Nat)(hn:n=2*N)(hnc:n≤c)(hn2:n≤1073741824)(ha:qAG Fr ⟨gA,0,none⟩ [.slice A n c])(hb:qAG Fr ⟨gB,0,none⟩ [I 2]):
    qJA prog 246 [Ptr gA,Ptr gB] Fr (λi=> [.slice (A.map (·.add (2*i*1))) 2 2]) N:=by
  refine qJA.walk func246 O ntmps246 O (λ{X} M IY S l x0 w0 hw0 h0 hY=>?_)
  refine J.f λ_ j1=>J.b O<|J.c j1<|J.T<|J.b6 (X:=Nat×X) (λy=> [(0,.func (.yield l) #[] #[]),(1,Ptr gA),(2,Ptr gB),(4,I (2*y.1:Nat))]) (λy=> [Fr,M y.2]) (λy=>y.1≤N∧IY y.1 y.2) (λy=>N-y.1) (0,x0) (⟨jF _,h0⟩) ⟨O,O,O,O,trivial⟩ (λ_ h=>h) ?_
  rintro⟨i,x⟩ ⟨hi,hI⟩ I0 hI0
  dsimp only at hi hI⊢
  refine J.p λ_ j2=>J.f λ_ j3=>J.b O<|J.g (qAI O O qCA (m:=Fr) xD (ha)) O<|J.g (qAP qAj O O) O<|J.g (qAQ O O O) O<|J.c j3<|J.Z O (λh9=>?_) (λh9=>?_)
  ·
    refine J.M j2<|J.p λ_ j4=>J.T<|J.p λ_ j5=>J.b1 [Fr,M x] [] (.y 0 (.y 1 (.y 2 (.y 3 (.y 4 (.y 5 (.y 6 .nil))))))) Tryz.wide xF xD ?_
    refine J.k O (qAI O O b3_ (m:=Fr) xD (hb)) O O<|J.k O (qAI O O qCA (m:=Fr) xD (ha)) O O<|J.L ?_
    refine J.k O (qCd O O qAj z9_ O O xB) O O<|J.k O (qAP qAj O O) O O<|J.k O ((qEB O O O).nat (2) xB) O O<|J.b7 ?_
    refine J.b0<|J.u (J.D j5 ?_)
    refine J.p λ_ j6=>J.f7 ?_
    refine J.c7 (qAz O O) O O O ?_
    refine J.c7 (qAI O O qCA (m:=Fr) xD (ha)) O O O ?_
    refine J.c7 (qAz O O) O O O ?_
    refine J.c7 (qAz O O) O O O ?_
    refine J.c7 (qAz O O) O O O ?_
    refine J.c7 ((qAR O O O xB).nat (2*i+2) xB) O O O ?_
    refine J.c7 (qAz O O) O O O ?_
    refine J.c7 (qAz O O) O O O ?_
    refine J.c7 ((qAR O O O xB).nat (2*i+2) xB) O O O ?_
    refine J.c7 ((qNs O O qAj z9_ O O O xB).as (v':= .slice (A.map (·.add (2*i*1))) 2 2) (by rw [if_neg xB,show 2*i+2-2*i=2 by omega])) O O O ?_
    refine J.f8 (ex:= []) O O O O O O (hY i x xB hI) ?_
    rintro x' b hb1 hb2
    cases b
    ·
      have hyb:=hb2 O
      refine J.c7 (qAu O O) O O O ?_
      refine J.e1 ?_
      refine J.u (J.D j6 ?_)
      refine J.c4 ?_
      exact J.A<|J.a6<|J.V<|J.V<|J.a6<|J.a9 hw0 (λ_ _ h=>h) (qIU O) (λw hs=>⟨x',⟨_,O⟩,.inr hyb,hs⟩)
    have hyb:=hb1 O
    refine J.c7 (qAu O O) O O O ?_
    refine J.e1 ?_
    refine J.u (J.D j6 ?_)
    refine J.a3 ?_
    refine J.b2<|J.a1<|J.u (J.D j4 ?_)
    exact J.H<|J.b O<|J.g (qAI O O b3_ (m:=Fr) xD (hb)) O<|J.g ((qAR O O O xB).nat (2*(i+1)) xB) O<|J.b O<|J.a4<|J.u<|J.a7 (i+1,x') (λy (hy:_∧N-y.1<N-i)=>hI0 y hy.1 hy.2) ⟨⟨by dsimp only;omega,hyb⟩,by dsimp only;omega⟩ ⟨O,O,O,O,trivial⟩ (λ_ h=>h)
  refine J.b4<|J.a0<|J.a0<|J.b5 ?_
  exact J.d3 hw0 (λ_ _ h=>h) (qIU O) (λw hs=>⟨x,⟨_,O⟩,.inl (by rw [show N=i by omega];exact hI),hs⟩)
theorem qB9(F:Hp)(d:Int):Cz prog 44 [I d] F (I (cnt d)):=by
 refine Ct.walk func44 O ntmps44 O (λw0 hw0=>?_)
 refine J.f λ_ j1=>J.b O<|J.c j1<|J.p λ_ j2=>J.f λ_ j3=>J.b O<|J.g (qAQ O O O) O<|J.b O<|J.b9 (d:=5) O (λh5=>?_) (λh5=>?_)
 ·
  refine J.j 3 O<|J.c j3<|J.c4 ?_
  exact J.f λ_ j4=>J.b O<|J.c j4<|J.A<|J.V<|J.E hw0 O () (by rw [qF9.2 xB];rfl) trivial [0] O xC
 refine J.b O<|J.G (qA0 O O O) O<|J.b O<|J.c j3<|J.Z O (λh8=>?_) (λh8=>?_)
 ·
  exact J.f λ_ j5=>J.b O<|J.c j5<|J.A<|J.V<|J.E hw0 O () (by rw [qF9.2 xB];rfl) trivial [0] O xC
 exact J.M j2<|J.f λ_ j6=>J.b O<|J.g ((qId O O (by show some (I d)=_;rw [show((d.toNat:Nat):Int)=d by omega]) ⟨xB,by have:=Int.pow_pos (n:=2) (m:=d.toNat) xC;omega,by rw [Int.one_mul];have h1:=jm (n:=2) xC (show d.toNat≤4 by omega);have h2:((2^d.toNat:Nat):Int)≤((2^4:Nat):Int):=Int.ofNat_le.2 h1;simp only [Int.natCast_pow] at h2;exact Int.le_trans h2 xC⟩).as (v':=I (cnt d)) (congrArg I (by unfold cnt;rw [if_neg xB];simp))) O<|J.b O<|J.c j6<|J.A<|J.E hw0 O () O trivial [0] O xC
theorem qTP(F:Hp)(hK:qAG F ⟨3,0,none⟩ (Sha.K.map W32))(d:Int)(l:List xA)(A:Option Addr)(c:Nat)(hsl:Sl F 1 A l.length c (qAH l))(hsm: ∀s∈l,s.length≤1048576):
    Cz prog 105 [.slice A l.length c,I d] F (.tuple #[Str (qCP l d),I (qKa l d)]):=by
  refine Ct.walk func105 O ntmps105 O (λw0 hw0=>?_)
  refine J.f λ_ j1=>J.j 2 O<|J.c j1<|J.p λ_ j2=>J.f λ_ j3=>J.b O<|J.q (qAa O O (λF' hF=>qB9 F' d)) O λg10 _=>J.b O<|J.c j3<|J.T<|J.f λ_ j4=>J.b O<|J.g (qAZ O O O) O<|J.b O<|J.c j4<|J.Z O (λh11=>?_) (λh11=>?_)
  ·
    exact J.f λ_ j5=>J.j 2 O<|J.c j5<|J.A<|J.a6<|J.V<|J.a9 hw0 (λ_ _ h=>h) (qBk O O O) (qAg () (by unfold qCP qKa;rw [if_pos (show cnt d=0 by omega)];rfl) trivial [0] O xC)
  refine J.f λ_ j6=>J.j 2 O<|J.g (qAP qAj O O) O<|J.g (qAY O O O) O<|J.b O<|J.c5 [0,1] [F,(λ_=>none)] O xC<|J.c j6<|J.Z O (λh14=>?_) (λh14=>?_)
  ·
    exact J.f λ_ j7=>J.j 2 O<|J.c j7<|J.A<|J.a6<|J.V<|J.a9 hw0 (λ_ _ h=>h) (qBk O O O) (qAg () (by unfold qCP qKa;rw [if_neg (show¬cnt d=0 by omega),if_pos (show l.length≠cnt d by omega)];rfl) trivial [0] O xC)
  refine J.b2<|J.a1<|J.u (J.D j2 ?_)
  refine J.p λ_ j8=>J.T ?_
  have hd0:cnt d≠0:=xB
  have hld:l.length=2^d.toNat:=by rw [←qWK hd0];omega
  have hd4: ¬(d<0∨4<d):=λe=>hd0 (qF9.2 e)
  refine J.i0 (X:=Nat×Option Addr×Nat×Hp) (λx=> [(0,.slice x.2.1 (Sb.lvls l x.1).length x.2.2.1)]) (λx=> [F,x.2.2.2]) (λx=>x.1≤d.toNat∧ ∃m,(m=F∨m=x.2.2.2)∧Sl m 1 x.2.1 (Sb.lvls l x.1).length x.2.2.1 (qAH (Sb.lvls l x.1))) (λx=>d.toNat-x.1) (0,A,c,λ_=>none) (⟨jF _,F,.inl O,by rw [Sb.lvls_zero];exact hsl⟩) ⟨by rw [Sb.lvls_zero];rfl,trivial⟩ (λ_ h=>h) ?_
  rintro⟨k,A',c',mm⟩ wL ⟨hk,m,hm,hsl'⟩ hxL I0 hI0
  dsimp only at hk hm hsl'⊢
  obtain ⟨L,hL⟩: ∃L,L=Sb.lvls l k:=⟨_,rfl⟩
  have hlen:=Sb.lvls_length hld k hk
  have hLs:=Sb.lvls_small hsm k
  have hp16:2^(d.toNat-k)≤16:=jg (jm xC (show d.toNat-k≤4 by omega)) xC
  have hp1:=jy (d.toNat-k)
  refine J.p λ_ j9=>J.f λ_ j10=>J.b O<|J.g (qAP qAj O O) O<|J.g (qA0 O O O) O<|J.c j10<|J.Z O (λh21=>?_) (λh21=>?_)
  ·
    refine J.M j9<|J.T<|J.f λ_ j11=>J.q (qAJ O zeroValue50 O) O λg7 _=>J.c j11<|J.p λ_ j12=>J.p λ_ j13=>?_
    rw [←hL]
    refine J.H<|J.b O<|J.q (qBV O O (λF' _=>qTK F' A' L.length c')) O ?_
    rintro⟨gA,gB⟩ _
    refine J.c j13<|J.T<|J.c5 [2,5,0,1,3,4] [blk g7 [.slice none 0 0] 50,(λ_=>none),F,mm,blk gA [.slice A' L.length c'] 50,blk gB [I 2] 3] O xC ?_
    rw [←hL] at hlen hsl' hLs h21
    obtain ⟨q,hq⟩: ∃q,d.toNat-k=q+1:=Nat.exists_eq_succ_of_ne_zero (λe=>by rw [e,Nat.pow_zero] at hlen;omega)
    have hev:L.length=2*(L.length/2):=by rw [hlen,hq,jv];omega
    have hLn:L.length≤1073741824:=xB
    have hlc:=hsl'.2.1
    refine J.g1 (λx:Option Addr×Nat×Nat×Hp=> [blk g7 [.slice x.1 x.2.1 x.2.2.1] 50,x.2.2.2]) [F,mm,blk gA [.slice A' L.length c'] 50,blk gB [I 2] 3] (λi x=>x.2.1=i∧Row x.2.2.2 9 1 x.1 i x.2.2.1 (qAH ((Sb.lvl L).take i))) (λ_ _=>False) (none,0,0,λ_=>none) O ent (λFr hF=>qQq Fr gA gB A' (L.length/2) L.length c' hev hlc hLn (qAG.blk0.mono (hF (blk gA [.slice A' L.length c'] 50) xD)) (qAG.blk0.mono (hF (blk gB [I 2] 3) xD))) (λ_ _=>rfl) O (⟨O,by rw [zk];exact qBS.nil⟩) ?_ ?_ ?_
    ·
      intro i x l wa wb hi hI K14 Post14 j14 hN14 hR14 hE14
      obtain ⟨Ax,nx,cx,mx⟩:=x
      obtain ⟨hnx,hr⟩:=hI
      dsimp only at hnx hr
      subst hnx
      have hc:=hsl'.cut (lo:=2*nx) (hi:=2*nx+2) (mx:=2*nx+2) xB xB xB
      rw [if_neg xB,show 2*nx+2-2*nx=2 by omega,qDu,qHb] at hc
      have hcl:((L.take (2*nx+2)).drop (2*nx)).length=2:=by rw [jH,jE];omega
      have hc0:((L.take (2*nx+2)).drop (2*nx)).getD 0 []=L.getD (2*nx) []:=by simp [jB,jp,zI]
      have hc1:((L.take (2*nx+2)).drop (2*nx)).getD 1 []=L.getD (2*nx+1) []:=by simp [jB,jp,zI]
      refine J.d8 ?_
      refine J.b O<|J.d9 ?_
      refine J.u (j14 _ _ ?_)
      refine J.f6 ?_
      refine J.h5 [blk g7 [.slice Ax nx cx] 50,F,mm,blk gA [.slice A' L.length c'] 50,blk gB [I 2] 3] [10] (.y 0 (.y 1 (.y 2 (.y 3 (.y 4 (.y 5 (.y 6 (.e 7 (.e 8 (.e 9 (.e 10 .nil))))))))))) Tryz.wide xF xD ?_
      refine J.k O (qAC 0 O O O qCA O) O O<|J.L ?_
      refine J.k O (qAF (i:=0) O O O qAj z9_ hc xB) O O<|J.k O (qAI O O b9_ (m:=m) (by rcases hm with rfl|rfl<;>simp) (hc.elem (qAb (qAh [] (show 0<((L.take (2*nx+2)).drop (2*nx)).length by rw [hcl];omega))|>.trans (by rw [hc0])))) O O<|J.L ?_
      refine J.k O (qAF (i:=1) O O O qAj z9_ hc xB) O O<|J.k O (qAI O O b9_ (m:=m) (by rcases hm with rfl|rfl<;>simp) (hc.elem (qAb (qAh [] (show 1<((L.take (2*nx+2)).drop (2*nx)).length by rw [hcl];omega))|>.trans (by rw [hc1])))) O O<|J.a2 O (qAa O O (λF' hF=>qFv F' (hK.mo hF) (L.getD (2*nx) []) (L.getD (2*nx+1) []) (Sb.getD_small hLs _) (Sb.getD_small hLs _))) O xD λg32 _=>J.a2 O (qAE (l:= [.tmp 32]) (xs:= [[Str (Sb.join (L.getD (2*nx) []) (L.getD (2*nx+1) []))]]) O O O O qAj el9 O xC xC xD) O xD λg33 _=>J.a2 O (qAW (i:=1) (m2:=blk g33 [Str (Sb.join (L.getD (2*nx) []) (L.getD (2*nx+1) []))] 9) O O O qAj qAj el9 O hr xD (slS [Sb.join (L.getD (2*nx) []) (L.getD (2*nx+1) [])] O) (qCi _) xB xB) O xD ?_
      rintro⟨A34,c34,m34⟩ h34
      try dsimp only at h34
      refine J.c1 O (qAV (i:=0) O O O O O qBt O xD) O O O λ_ _=>J.c3 [0,1,2,3,4,5] [blk g7 [.slice A34 (nx+1) c34] 50,m34,F,mm,blk gA [.slice A' L.length c'] 50,blk gB [I 2] 3] O xC<|J.h6 ?_
      refine J.a1 ?_
      exact hN14 _ (A34,nx+1,c34,m34) ⟨O,by rw [Sb.lvl_take xB];rw [show∀a b,qAH (a++b)=qAH a++qAH b from λa b=>by simp [qAH]];exact h34⟩
    ·
      intro w14 x hx14 hI
      obtain ⟨Ax,nx,cx,mx⟩:=x
      obtain ⟨hnx,hr⟩:=hI
      dsimp only at hnx hr
      subst hnx
      have hlen1:(Sb.lvls l (k+1)).length=L.length/2:=by rw [Sb.lvls_succ,Sb.lvl_length,hL]
      have hfin:Sl mx 1 Ax (Sb.lvls l (k+1)).length cx (qAH (Sb.lvls l (k+1))):=by
        rw [hlen1,Sb.lvls_succ,←hL]
        rw [jY (by rw [Sb.lvl_length];exact jK _)] at hr
        exact hr.sl
      refine J.a1<|J.u (J.D j12 ?_)
      refine J.H<|J.a5 0 qCA O O O O O<|J.c3 [2,1] [F,mx] O xC<|J.b O<|J.a4<|J.a1<|J.u ?_
      rw [show Ax=Ax from rfl]
      exact J.a7 (k+1,Ax,cx,mx) (λx (hx:_∧d.toNat-x.1<d.toNat-k)=>hI0 x _ hx.1 hx.2 hx14) ⟨⟨by dsimp only;omega,mx,.inr O,hfin⟩,by dsimp only;omega⟩ ⟨by dsimp only;rw [hlen1];rfl,trivial⟩ (λ_ h=>h)
    intro w14 x c hx14 hS
    exact hS.elim
  refine J.b4<|J.a0<|J.a0<|J.b5 ?_
  refine J.u (J.D j8 ?_)
  refine J.p λ_ j15=>?_
  have hkd:k=d.toNat:=by
    by_cases e:k=d.toNat
    · exact e
    · have:=jm (n:=2) xC (show 1≤d.toNat-k by omega)
      omega
  exact J.H<|J.b O<|J.g (qAF (i:=0) O O O qAj z9_ hsl' xB) O<|J.g (qAI O O b9_ (m:=m) (by rcases hm with rfl|rfl<;>simp) (v:=Str ((Sb.lvls l k).getD 0 [])) (hsl'.elem (qAb (qAh [] xB)))) O<|J.j 2 O<|J.c j15<|J.A<|J.e8 hw0 hxL (λ_ _ h=>h) (qBk O O O) (qAg () (by unfold qCP qKa;rw [if_neg hd0,if_neg (show¬l.length≠cnt d by omega),if_pos rfl,Sb.root,←hkd]) trivial [0] O xC)
end Go.Proofs.YtmemgokiolfdoaaGreatDoor
namespace Go.Proofs.YtmemgokiolfdoaaGreatDoor
open Go Go.Fw Go.Proofs.Tryz
structure Tw where
 a:UInt8
 b:UInt8
 deriving DecidableEq
def Tw.cells(x:Tw):List Value:= [B8 (x.a),B8 (x.b)]
def qCX(l:List Sm.PR)(d i:Nat):List xA:=(List.range i).map λj=>Sm.ndB l (kF j d) d
abbrev qAr(l:List Sm.PR)(d:Nat):List xA:=qCX l d (2^d)
theorem qGn(l:List Sm.PR)(d i:Nat):qCX l d (i+1)=qCX l d i++ [Sm.ndB l (kF i d) d]:=by unfold qCX;rw [jz,jO];rfl
theorem qBz(l:List Sm.PR)(d i:Nat):(qCX l d i).length=i:=by unfold qCX;rw [jP,zd]
theorem qFQ(l:List Sm.PR)(d:Nat){i j:Nat}(h:j<i):(qCX l d i).getD j []=Sm.ndB l (kF j d) d:=by
 unfold qCX
 rw [jB,jN,zA h];rfl
theorem qCs{d:Nat}(hd:d≤4):cnt ((d:Nat):Int)=2^d:=by
 unfold cnt
 rw [if_neg xB];rfl
theorem qVE{d:Nat}(hd:d≤4):0<2^d∧2^d≤16:=⟨jy _,jg (jm xC hd) xC⟩
theorem qPu{l:List Sm.PR}(hf:qCE l){e:Nat}(he:e≤15):Sb.lvl (qAr l (e+1))=qAr l e:=by
 have e2:2^(e+1)/2=2^e:=by rw [jv,Nat.mul_div_cancel _ xC]
 have h2:2^(e+1)=2^e*2:=jv 2 e
 unfold Sb.lvl
 rw [qBz,e2]
 show _=(List.range (2^e)).map _
 refine List.map_congr_left λj hj=>?_
 have hj2:=List.mem_range.1 hj
 rw [qFQ _ _ xB,qFQ _ _ xB]
 exact qNz hf (qHx j e) he (qQJ xB hj2).symm
theorem qHq{l:List Sm.PR}(hf:qCE l){d:Nat}(hd:d≤16): ∀j,j≤d→Sb.lvls (qAr l d) j=qAr l (d-j)
 |0,_=>rfl
 |j+1,hj=>by
  rw [Sb.lvls_succ,qHq hf hd j xB,show d-j=(d-(j+1))+1 by omega,qPu hf xB]
theorem qNy{l:List Sm.PR}(hf:qCE l){d:Nat}(hd:d≤16):Sb.root (qAr l d) d=Sm.nd 128 l:=by
 have e:Sb.root (qAr l d) d=(Sb.lvls (qAr l d) d).getD 0 []:=by unfold Sb.root;rfl
 rw [e,qHq hf hd d (jK _),zB,qFQ _ _ xC,Sm.ndB_zero]
theorem qMg{l:List Sm.PR}(hf:qCE l){d:Nat}(hd:d≤4):qKa (qAr l d) ((d:Nat):Int)=0∧qCP (qAr l d) ((d:Nat):Int)=Sm.nd 128 l:=by
 have h1:qKa (qAr l d) ((d:Nat):Int)=0:=by
  unfold qKa
  rw [qCs hd,if_neg (by have:=qVE hd;omega),qBz,if_neg (λh=>h rfl)]
 refine⟨h1,?_⟩
 unfold qCP
 rw [if_pos h1]
 exact qNy hf xB
def ofV(k:xA)(d:Nat):Nat:=if k.length=16 then qFc k d else 0
def ofE(k:xA):Nat:=if k.length=16 then 0 else 10
theorem qQ3(F:Hp)(hK:qAG F ⟨3,0,none⟩ (Sha.K.map W32))(g:Nat)(l:List Sm.PR)(hT:qCQ F g l)(hf:qCE l)(d:Nat)(hd:d≤4):Ct prog 118 [Ptr g,I (d:Nat)] [F] (λx:Option Addr×Nat×Hp=> .tuple #[.slice x.1 (qAr l d).length x.2.1,I (0:Nat)]) (λx=>Row x.2.2 9 1 x.1 (qAr l d).length x.2.1 (qAH (qAr l d))) (λx=> [F,x.2.2]):=by
 have hpw:=qVE hd
 have hcn:=qCs hd
 refine Ct.walk func118 O ntmps118 O (λw0 hw0=>?_)
 refine J.f λ_ j1=>J.j 2 O<|J.c j1<|J.f λ_ j2=>J.b O<|J.q (qAa O O (λF' hF=>qB9 F' ((d:Nat):Int))) O λg10 _=>J.b O<|J.c j2<|J.p λ_ j3=>J.p λ_ j4=>?_
 rw [hcn]
 refine J.H<|J.b O<|J.g ((qAZ O O O).no xB) O<|J.c j4<|J.a3 ?_
 refine J.M j3<|J.f λ_ j5=>J.b O<|J.c j5<|J.p λ_ j6=>J.f λ_ j7=>J.j 2 O<|J.c j7<|J.T<|J.b6 (X:=Nat×Option Addr×Nat×Hp) (λζ=> [(0,Ptr g),(1,I (d:Nat)),(7,.slice ζ.2.1 ((qCX l d ζ.1).length) ζ.2.2.1),(13,I (2^d:Nat)),(14,I (ζ.1:Nat))]) (λζ=> [F,ζ.2.2.2]) (λζ=>ζ.1≤2^d∧Row ζ.2.2.2 9 1 ζ.2.1 (qCX l d ζ.1).length ζ.2.2.1 (qAH (qCX l d ζ.1))) (λζ=>2^d-ζ.1) (0,none,0,(λ_=>none)) (⟨jF _,qBS.nil⟩) ⟨O,O,O,O,O,trivial⟩ (λ_ h=>h.empty.pick [0,1] xC) ?_
 rintro⟨i,A,c,m⟩ ⟨hi,hr⟩ I0 hI0
 dsimp only at hi hr⊢
 have hnl:=qBz l d i
 refine J.f λ_ j8=>J.g (qAQ O O O) O<|J.c j8<|J.p λ_ j9=>J.Z O (λh15=>?_) (λh15=>?_)
 ·
  have hi2:i<2^d:=xB
  have hkf:=qHx i d
  have hmd:min (((d:Nat):Int)).toNat 128=d:=by rw [jZ];omega
  refine J.M j9<|J.p λ_ j10=>J.T<|J.f λ_ j11=>J.j 2 O<|J.c j11<|J.H<|J.j 4 O<|J.q (qAa O O (λF' hF=>qKK F' i d xB xG)) O λg21 _=>J.b O<|J.q (qAa O O (λF' hF=>qFu F' (hK.mo hF) g l (hT.mono (Fa hF)) xG (kF i d) xN ((d:Nat):Int) (by first|assumption|exact qIH xG|exact qL1 xG xG))) O λg23 _=>J.q (qAE (l:= [.tmp 23]) (xs:= [[Str (Sm.ndB l (kF i d) (min ((d:Nat):Int).toNat 128))]]) O O O O qAj el9 O xC xC xD) O λg24 _=>?_
  change J _ _ _ [F,m,blk g24 [Str (Sm.ndB l (kF i d) (min ((d:Nat):Int).toNat 128))] 9] _
  refine J.q (qAW (i:=1) (xs:=qAH (qCX l d i)) (m2:=blk g24 [Str (Sm.ndB l (kF i d) (min ((d:Nat):Int).toNat 128))] 9) (ys:= [[Str (Sm.ndB l (kF i d) (min ((d:Nat):Int).toNat 128))]]) O O O qAj qAj el9 O hr xD ((qA5 (q:=True) (qAH [Sm.ndB l (kF i d) (min ((d:Nat):Int).toNat 128)]) O (by simp [qAH]) O).sl) O xB xB) O ?_
  rintro⟨A25,c25,m25⟩ h25
  try dsimp only at h25
  change J _ ((25,.slice A25 (((qCX l d i).length)+1) c25)::_) _ [_,m25,_] _
  rw [←qBx] at h25
  refine J.b O<|J.a4<|J.a1<|J.u (J.D j10 ?_)
  exact J.H<|J.g ((qAR O O O xB).nat (i+1) xB) O<|J.b O<|J.a4<|J.u<|J.a7 (i+1,A25,c25,m25) (λη (hη:_∧2^d-η.1<2^d-i)=>hI0 η hη.1 hη.2) ⟨⟨by dsimp only;omega,by dsimp only;rw [qGn,jA];rw [hmd] at h25;exact h25⟩,by first|omega|(dsimp only;omega)⟩ ⟨O,O,by dsimp only;rw [qGn,jA];rfl,O,O,trivial⟩ (λ_ h=>h.pick [0,1] xC)
 refine J.b4<|J.a0<|J.a0<|J.b5 ?_
 refine J.u (J.D j6 ?_)
 refine J.f λ_ j12=>J.j 3 O<|J.c j12<|J.A ?_
 obtain rfl:i=2^d:=by omega
 exact J.a9 hw0 (λ_ _ h=>h) (qBk O O O) (qAg (A,c,m) O hr [0,1] O xC)
theorem qUG(F:Hp)(k:xA)(hk:k.length≤1000000)(d:Nat)(hd:d≤4):Cz prog 138 [Str (k),I (d:Nat)] F (.tuple #[I (ofV k d:Nat),I (ofE k:Nat)]):=by
 have hpw:=qVE hd
 have hcn:=qCs hd
 refine Ct.walk func138 O ntmps138 O (λw0 hw0=>?_)
 refine J.f λ_ j1=>J.j 2 O<|J.c j1<|J.p λ_ j2=>J.T<|J.f λ_ j3=>J.b O<|J.q (qAa O O (λF' hF=>qB9 F' ((d:Nat):Int))) O λg8 _=>J.g ((qAZ O O O).no xB) O<|J.b O<|J.c j3<|J.a3 ?_
 refine J.f λ_ j4=>J.b O<|J.g (qAp u9_ O O) O<|J.g (qAY O O O) O<|J.b O<|J.c j4<|J.Z O (λh10=>?_) (λh10=>?_)
 ·
  exact J.f λ_ j5=>J.j 2 O<|J.c j5<|J.A<|J.a6<|J.V<|J.a9 hw0 (λ_ _ h=>h) (qBk O O O) (qAg () (by unfold ofV ofE;rw [if_neg xB,if_neg xB];rfl) trivial [0] O xC)
 refine J.b2<|J.a1<|J.u (J.D j2 ?_)
 exact J.f λ_ j6=>J.j 2 O<|J.q (qAa O O (λF' hF=>qWT F' k (by first|omega|exact hsm _) d xB)) O λg16 _=>J.j 2 O<|J.c j6<|J.A<|J.a9 hw0 (λ_ _ h=>h) (qBk O O O) (qAg () (by unfold ofV ofE;rw [if_pos xB,if_pos xB];rfl) trivial [0] O xC)
theorem qLy{s bs:xA}(h:s.length≤4096):qKu s bs 0=bs++Sha.numB (UInt64.ofNat s.length) 2++s∧qCC (okT s) 2 0=0:=by
 have h1:okT s=true:=decide_eq_true h
 unfold qKu
 rw [h1,qBv,if_pos rfl]
 exact⟨O,O⟩
structure Hd where
 ep:Nat
 par:xA
 dep:Int
 aud:Int
 nodes:List xA
def qEO(s:xA):Prop:=s= [0]∨(s.length=17∧(s.getD 0 0=1∨s.getD 0 0=2))
instance (s:xA):Decidable (qEO s):=by unfold qEO;infer_instance
def Hd.cells(x:Hd)(A:Option Addr)(c:Nat):List Value:= [N64 x.ep,Str x.par,I x.dep,I x.aud,.slice A x.nodes.length c]
def Hd.out(x:Hd):Prop:=4294967295<x.ep∨x.par.length≠16∨cnt x.dep=0∨x.aud<0∨64<x.aud
instance (x:Hd):Decidable x.out:=by unfold Hd.out;infer_instance
def Hd.err(x:Hd):Int:=if x.out then 10 else if x.nodes.length≠cnt x.dep then 22 else if∀s∈x.nodes,qEO s then 0 else 4
def ndB(s:xA):xA:=Sha.numB (UInt64.ofNat s.length) 2++s
def Hd.bytes(x:Hd):xA:=Sha.numB (UInt64.ofNat x.ep) 4++x.par++ [UInt8.ofNat x.dep.toNat]++ [UInt8.ofNat x.aud.toNat]++(x.nodes.map ndB).flatten
def Hd.enc(x:Hd):xA:=if x.err=0 then x.bytes else []
def Hd.dig(x:Hd):xA:=if x.err=0 then Sha.tagged 14 [x.bytes] else []
def Hd.good(x:Hd):Prop:=x.ep<18446744073709551616∧x.par.length≤1048576∧x.nodes.length≤1073741824
theorem qKL{x:Hd}(h:x.out):x.err=10:=if_pos h
theorem qXa{x:Hd}(h: ¬x.out)(h2:x.nodes.length≠cnt x.dep):x.err=22:=by unfold Hd.err;rw [if_neg h,if_pos h2]
theorem err_4{x:Hd}(h: ¬x.out)(h2: ¬x.nodes.length≠cnt x.dep){s:xA}(hs:s∈x.nodes)(hn: ¬qEO s):x.err=4:=by unfold Hd.err;rw [if_neg h,if_neg h2,if_neg (λe=>hn (e s hs))]
theorem qXb{x:Hd}(h: ¬x.out)(h2: ¬x.nodes.length≠cnt x.dep)(hs: ∀s∈x.nodes,qEO s):x.err=0:=by unfold Hd.err;rw [if_neg h,if_neg h2,if_pos hs]
theorem qQe{x:Hd}(h:x.err=0): ¬x.out∧x.nodes.length=cnt x.dep∧ ∀s∈x.nodes,qEO s:=by
  unfold Hd.err at h
  split at h
  · omega
  · rename_i h1
    split at h
    · omega
    · rename_i h2
      split at h
      · rename_i h3;exact⟨h1,Decidable.not_not.1 h2,h3⟩
      · omega
theorem qMh{s:xA}(h:qEO s):s.length≤17:=by
 rcases h with rfl|⟨h,_⟩
 · decide
 · omega
theorem qWX{l:List xA}{p:xA→Prop}{k:Nat}(h:k<l.length)(h1: ∀s∈l.take k,p s)(h2:p (l.getD k [])): ∀s∈l.take (k+1),p s:=λs hs=>by
  rw [jI h] at hs
  rcases List.mem_append.1 hs with h3|h3
  · exact h1 s h3
  · rw [jQ] at h3
    rw [h3]
    rw [jB,jC h] at h2
    exact h2
theorem qQZ{l:List xA}{k:Nat}(h:k<l.length):l.getD k []∈l:=by
 rw [jB,jC h]
 exact jS h
theorem u8eq{c:UInt8}(k:UInt8):((c.toNat:Int)=(k.toNat:Int))↔c=k:=⟨λh=>UInt8.toNat_inj.1 xB,λh=>by rw [h]⟩
theorem qS5(F:Hp)(s:xA):Cz prog 141 [Str s] F (.bool (decide (qEO s))):=by
 refine Ct.walk func141 O ntmps141 O (λw0 hw0=>?_)
 refine J.f λ_ j1=>J.b O<|J.c j1 ?_
 refine J.f λ_ j2=>J.b O<|J.g (qBF O O O) O<|J.b O<|J.b9 (d:=5) O (λh5=>?_) (λh5=>?_)
 ·
  refine J.j 4 O<|J.c9 (Wan.un O O O O) O O ?_
  refine J.c9 (Wan.un O O O O) O O ?_
  refine J.c9 (Wan.un O O O O) O O ?_
  refine J.c9 (Wan.un O O O O) O O ?_
  refine J.c9 (Wan.un O O O O) O O ?_
  refine J.c9 (Wan.un O O O O) O O ?_
  refine J.c9 (Wan.un O O O O) O O ?_
  refine J.c9 (Wan.un O O O O) O O ?_
  refine J.j 3 O<|J.c j2 ?_
  exact J.A<|J.E hw0 O () (congrArg Value.bool (decide_eq_true (show qEO s from .inl h5)).symm) trivial [0] O xC
 refine J.b O<|J.G (qAp u9_ O O) O<|J.G (qAZ O O O) O<|J.b O<|J.b9 (d:=9) O (λh9=>?_) (λh9=>?_)
 ·
  refine J.b O<|J.G (qBb (i:=0) (c:=s.getD 0 0) u9_ O O O (by rw [jB,jC (show 0<s.length by omega)];rfl)) O ?_
  refine J.G (qAZ O O O) O<|J.b O<|J.b9 (d:=13) O (λh13=>?_) (λh13=>?_)
  ·
   refine J.j 7 O<|J.c j2 ?_
   exact J.A<|J.E hw0 O () (congrArg Value.bool (decide_eq_true (show qEO s from .inr ⟨xB,.inl ((u8eq 1).1 h13)⟩)).symm) trivial [0] O xC
  refine J.b O<|J.G (qBb (i:=0) (c:=s.getD 0 0) u9_ O O O (by rw [jB,jC (show 0<s.length by omega)];rfl)) O ?_
  refine J.G (qAZ O O O) O<|J.j 4 O<|J.c j2 ?_
  exact J.A<|J.E hw0 O () (congrArg Value.bool (decide_eq_decide.2 ⟨λh=>(show qEO s from .inr ⟨xB,.inr ((u8eq 2).1 h)⟩),λh=>by rcases h with h|⟨_,h|h⟩;exact absurd h h5;exact absurd ((u8eq 1).2 h) h13;exact(u8eq 2).2 h⟩)) trivial [0] O xC
 refine J.j 4 O<|J.c9 (Wan.un O O O O) O O ?_
 refine J.c9 (Wan.un O O O O) O O ?_
 refine J.c9 (Wan.un O O O O) O O ?_
 refine J.j 4 O<|J.c j2 ?_
 exact J.A<|J.E hw0 O () (congrArg Value.bool (decide_eq_false (show¬qEO s from λh=>by rcases h with h|⟨h,_⟩;exact h5 h;omega)).symm) trivial [0] O xC
theorem qGw(F:Hp)(x:Hd)(A:Option Addr)(c:Nat)(hg:x.good)(hsl:Sl F 1 A x.nodes.length c (qAH x.nodes)):
    Cz prog 69 [.agg #[N64 x.ep,Str x.par,I x.dep,I x.aud,.slice A x.nodes.length c]] F (I x.err):=by
  obtain ⟨hg1,hg2,hg3⟩:=hg
  refine Ct.walk func69 O ntmps69 O (λw0 hw0=>?_)
  refine J.f λ_ j1=>J.q (qAd O O O) O λg1 _=>J.b O<|J.c j1 ?_
  refine J.f λ_ j2=>J.W 2 qDs z3_ O O O O O<|J.a5 1 b3_ O O O O O<|J.q (qAa O O (λF' hF=>qB9 F' x.dep)) O λg8 _=>J.b O<|J.c j2 ?_
  refine J.p λ_ j3=>J.T<|J.f λ_ j4=>J.W 0 qDs qD8 O O O O O<|J.a5 1 qFC O O O O O<|J.g (qA0 O O O) O<|J.b O<|J.b9 (d:=13) O (λh13=>?_) (λh13=>?_)
  ·
    refine J.j 20 O<|J.c j4 ?_
    refine J.c4 ?_
    refine J.f λ_ j5=>J.b O<|J.c j5 ?_
    exact J.A<|J.a6<|J.V<|J.E hw0 O () (congrArg I (qKL (show x.out by unfold Hd.out;omega)).symm) trivial [0] O xC
  refine J.G (qAA O O qDs O z9_ O) O<|J.G (qAC 1 O O O b9_ O) O<|J.G (qAp u9_ O O) O<|J.G (qAY O O O) O<|J.j 2 O<|J.b9 (d:=19) O (λh19=>?_) (λh19=>?_)
  ·
    refine J.j 14 O<|J.c j4 ?_
    refine J.c4 ?_
    refine J.f λ_ j6=>J.b O<|J.c j6 ?_
    exact J.A<|J.a6<|J.V<|J.E hw0 O () (congrArg I (qKL (show x.out by unfold Hd.out;omega)).symm) trivial [0] O xC
  refine J.b O<|J.G (qAZ O O O) O<|J.j 2 O<|J.b9 (d:=23) O (λh23=>?_) (λh23=>?_)
  ·
    refine J.j 10 O<|J.c j4 ?_
    refine J.c4 ?_
    refine J.f λ_ j7=>J.b O<|J.c j7 ?_
    exact J.A<|J.a6<|J.V<|J.E hw0 O () (congrArg I (qKL (show x.out by unfold Hd.out;omega)).symm) trivial [0] O xC
  refine J.G (qAA O O qDs O z3_ O) O<|J.G (qAC 1 O O O b3_ O) O<|J.G (qAQ O O O) O<|J.j 2 O<|J.b9 (d:=28) O (λh28=>?_) (λh28=>?_)
  ·
    refine J.j 5 O<|J.c j4 ?_
    refine J.c4 ?_
    refine J.f λ_ j8=>J.b O<|J.c j8 ?_
    exact J.A<|J.a6<|J.V<|J.E hw0 O () (congrArg I (qKL (show x.out by unfold Hd.out;omega)).symm) trivial [0] O xC
  refine J.G (qAA O O qDs O z3_ O) O<|J.G (qAC 1 O O O b3_ O) O<|J.G (qA0 O O O) O<|J.j 2 O<|J.c j4 ?_
  refine J.Z O (λh9=>?_) (λh9=>?_)
  ·
    refine J.f λ_ j9=>J.b O<|J.c j9 ?_
    exact J.A<|J.a6<|J.V<|J.E hw0 O () (congrArg I (qKL (show x.out by unfold Hd.out;omega)).symm) trivial [0] O xC
  refine J.f λ_ j10=>J.W 4 qDs qBt O O O O O<|J.a5 1 qCA O O O O O<|J.g (qAP qAj O O) O<|J.b O<|J.g (qAY O O O) O<|J.b O<|J.c j10 ?_
  refine J.Z O (λh33=>?_) (λh33=>?_)
  ·
    refine J.f λ_ j11=>J.b O<|J.c j11 ?_
    exact J.A<|J.a6<|J.V<|J.E hw0 O () (congrArg I (qXa (by unfold Hd.out;omega) xB).symm) trivial [0] O xC
  refine J.b2<|J.a1<|J.u (J.D j3 ?_)
  refine J.p λ_ j12=>J.p λ_ j13=>?_
  have hno: ¬x.out:=by unfold Hd.out;omega
  have hcn: ¬x.nodes.length≠cnt x.dep:=xB
  refine J.H<|J.W 4 qDs qBt O O O O O<|J.a5 1 qCA O O O O O<|J.g (qAP qAj O O) O<|J.b O<|J.c j13 ?_
  refine J.T<|J.b6 (X:=Nat) (λk=> [(40,.slice A x.nodes.length c),(41,I x.nodes.length),(42,I k)]) (λ_=> [F,blk g1 [N64 x.ep,Str x.par,I x.dep,I x.aud,.slice A x.nodes.length c] 52]) (λk=>k≤x.nodes.length∧ ∀s∈x.nodes.take k,qEO s) (λk=>x.nodes.length-k) 0 (⟨jF _,λs hs=>by simp at hs⟩) ⟨O,O,O,trivial⟩ (λ_ h=>h) ?_
  intro k ⟨hk,hall⟩ I0 hI0
  refine J.f λ_ j14=>J.g (qAQ O O O) O<|J.c j14 ?_
  refine J.p λ_ j15=>J.Z O (λh43=>?_) (λh43=>?_)
  ·
    refine J.M j15 ?_
    refine J.p λ_ j16=>J.T<|J.f λ_ j17=>J.g (qAF O O O qAj z9_ hsl xB) O<|J.g (qAI O O b9_ (m:=F) xD (hsl.elem (qAb (qAh [] (show k<x.nodes.length by omega))))) O<|J.b O<|J.c j17 ?_
    refine J.f λ_ j18=>J.b O<|J.q (qAa O O (λF' hF=>qS5 F' (x.nodes.getD k []))) O λg47 _=>J.g (qFP O O) O<|J.c j18 ?_
    refine J.Z O (λh48=>?_) (λh48=>?_)
    ·
      refine J.f λ_ j19=>J.b O<|J.c j19 ?_
      exact J.A<|J.a6<|J.V<|J.V<|J.a6<|J.V<|J.E hw0 O () (congrArg I (err_4 hno hcn (qQZ (show k<x.nodes.length by omega)) h48).symm) trivial [0] O xC
    refine J.b2<|J.a1<|J.u (J.D j16 ?_)
    exact J.H<|J.g ((qAR O O O xB).nat (k+1) xB) O<|J.b O<|J.a4<|J.u<|J.a7 (k+1) (λx2 (hx:_∧x.nodes.length-x2<x.nodes.length-k)=>hI0 x2 hx.1 hx.2) ⟨⟨xB,qWX xB hall (Decidable.not_not.1 h48)⟩,xB⟩ ⟨O,O,O,trivial⟩ (λ_ h=>h)
  refine J.b4<|J.a0<|J.a0<|J.b5 ?_
  refine J.u (J.D j12 ?_)
  refine J.p λ_ j20=>?_
  rw [jY xB] at hall
  refine J.H<|J.b O<|J.c j20 ?_
  exact J.A<|J.E hw0 O () (congrArg I (qXb hno hcn hall).symm) trivial [0] O xC
def Hd.base(x:Hd):xA:=Sha.numB (UInt64.ofNat x.ep) 4++x.par++ [UInt8.ofNat x.dep.toNat]++ [UInt8.ofNat x.aud.toNat]
theorem qTx: ∀k,k<65→Sha.numB (UInt64.ofNat k) 1= [UInt8.ofNat k]:=by decide+kernel
theorem qSZ: ∀k,k<65→okN (UInt64.ofNat k) 1=true:=by decide+kernel
theorem qPe{x:Hd}(h: ¬x.out):x.ep≤4294967295∧x.par.length=16∧(0≤x.dep∧x.dep≤4)∧0≤x.aud∧x.aud≤64:=by
 have h1: ¬cnt x.dep=0:=λe=>h (.inr (.inr (.inl e)))
 rw [qF9] at h1
 unfold Hd.out at h
 omega
theorem qVf{l:List xA}{k:Nat}(h:k<l.length):((l.take (k+1)).map ndB).flatten=((l.take k).map ndB).flatten++ndB (l.getD k []):=by
 rw [jI h,jO,zK,jf,zQ,ji,zO,jU,jB,jC h];rfl
theorem nd_small{l:List xA}(h: ∀s∈l,qEO s):(l.map ndB).flatten.length≤19*l.length:=by
 induction l with
 |nil=>exact jF _
 |cons a l ih=>
  have h1:=ih (λs hs=>h s (.tail _ hs))
  have h2:=qMh (h a (.head _))
  rw [jf,ji,jA,jD]
  unfold ndB at h1⊢
  rw [jA,Sha.numB_length];omega
theorem qNE{x:Hd}(h: ¬x.out):x.base.length=22:=by
 have:=qPe h
 unfold Hd.base
 simp only [jA,Sha.numB_length,jL];omega
theorem qN9(F:Hp)(x:Hd)(A:Option Addr)(c:Nat)(hg:x.good)(hsl:Sl F 1 A x.nodes.length c (qAH x.nodes)):
    Cz prog 142 [.agg #[N64 x.ep,Str x.par,I x.dep,I x.aud,.slice A x.nodes.length c]] F (.tuple #[Str x.enc,I x.err]):=by
  refine Ct.walk func142 O ntmps142 O (λw0 hw0=>?_)
  refine J.f λ_ j1=>J.q (qAd O O O) O λg1 _=>J.j 2 O<|J.c j1 ?_
  refine J.p λ_ j2=>J.f λ_ j3=>J.c0 1 qFl qC6 O O O O O<|J.q (qAa O O (λF' hF=>qGw F' x A c hg (hsl.mono (Fa hF)))) O λg9 _=>J.b O<|J.c j3 ?_
  refine J.f λ_ j4=>J.b O<|J.g (qAY O O O) O<|J.c j4 ?_
  refine J.Z O (λh11=>?_) (λh11=>?_)
  ·
    refine J.f λ_ j5=>J.j 3 O<|J.c j5 ?_
    exact J.A<|J.V<|J.a9 hw0 (λ_ _ h=>h) (qBk O O O) (qAg () (by unfold Hd.enc;rw [if_neg xB]) trivial [0] O xC)
  refine J.M j2 ?_
  refine J.p λ_ j6=>?_
  have e0:x.err=0:=xB
  obtain ⟨e1,e2,e3⟩:=qQe e0
  obtain ⟨e4,e5,e6,e7,e8⟩:=qPe e1
  have hbl:=qNE e1
  have hc16:=qUE x.dep
  refine J.H<|J.q (qAJ O qKP O) O λg5 _=>J.c j6 ?_
  refine J.p λ_ j7=>J.b1 [blk g1 [N64 x.ep,Str x.par,I x.dep,I x.aud,.slice A x.nodes.length c] 52] [] (.y 0 (.y 1 (.y 3 (.y 4 (.y 6 (.y 7 (.y 8 (.y 10 (.y 11 (.y 12 (.e 2 (.e 5 (.e 9 (.e 13 .nil)))))))))))))) Tryz.wide xF xD ?_
  refine J.k O (qAA O O qDs O qD8 O) O O<|J.k O (qAC 0 O O O qFC O) O O<|J.k O (qAA O O qDs O z9_ O) O O<|J.k O (qAC 0 O O O b9_ O) O O<|J.k O (qAA O O qDs O z3_ O) O O<|J.k O (qAC 0 O O O b3_ O) O O<|J.k O ((qB2 O O u3_ qEF).as (v':=W64 (UInt64.ofNat x.dep.toNat)) (by rw [show(x.dep%18446744073709551616).toNat=x.dep.toNat by omega])) O O<|J.k O (qAA O O qDs O z3_ O) O O<|J.k O (qAC 0 O O O b3_ O) O O<|J.k O ((qB2 O O u3_ qEF).as (v':=W64 (UInt64.ofNat x.aud.toNat)) (by rw [show(x.aud%18446744073709551616).toNat=x.aud.toNat by omega])) O O<|J.a2 O (qAK O O ent (Ct.use1 2 O (λF' _=>qLP F' (blk g5 [.pointer none,.slice none 0 0,I 0] 148) g5 [] 0 (qGF g5) xC x.ep xB 4 xB xB))) O xD ?_
  rintro m15 hw15
  rw [qHM (size:=4) xB xB,qBv,qCV (qHM (size:=4) xB xB),jq] at hw15
  refine J.a2 O (qAK O O ent (Ct.use1 2 O (λF' _=>qDH F' m15 g5 (Sha.numB (UInt64.ofNat x.ep) 4) 0 hw15 (by rw [Sha.numB_length];omega) x.par xB 16))) O xD ?_
  rintro m18 hw18
  rw [qGL e5,qLO e5,qBv] at hw18
  refine J.a2 O (qAK O O ent (Ct.use1 2 O (λF' _=>qDe F' m18 g5 ((Sha.numB (UInt64.ofNat x.ep) 4)++x.par) 0 hw18 (by simp only [jA,Sha.numB_length];omega) (UInt64.ofNat x.dep.toNat) 1 xB xB))) O xD ?_
  rintro m22 hw22
  rw [qSZ _ xB,qBv,qCV (qSZ _ xB),qTx _ xB] at hw22
  refine J.a2 O (qAK O O ent (Ct.use1 2 O (λF' _=>qDe F' m22 g5 (((Sha.numB (UInt64.ofNat x.ep) 4)++x.par)++ [UInt8.ofNat x.dep.toNat]) 0 hw22 (by simp only [jA,Sha.numB_length,jL];omega) (UInt64.ofNat x.aud.toNat) 1 xB xB))) O xD ?_
  rintro m26 hw26
  rw [qSZ _ xB,qBv,qCV (qSZ _ xB),qTx _ xB] at hw26
  refine J.b0<|J.u (J.D j7 ?_)
  refine J.p λ_ j8=>J.f λ_ j9=>J.W 4 qDs qBt O O O O O<|J.a5 1 qCA O O O O O<|J.g (qAP qAj O O) O<|J.b O<|J.c j9 ?_
  refine J.T<|J.b6 (X:=Nat×Hp) (λx2=> [(5,Ptr g5),(28,.slice A x.nodes.length c),(29,I x.nodes.length),(30,I x2.1)]) (λx2=> [F,blk g1 [N64 x.ep,Str x.par,I x.dep,I x.aud,.slice A x.nodes.length c] 52,x2.2]) (λx2=>x2.1≤x.nodes.length∧Wtr x2.2 g5 (x.base++((x.nodes.take x2.1).map ndB).flatten) 0) (λx2=>x.nodes.length-x2.1) (0,m26) (⟨jF _,by rw [zk,zQ,zO,jU];exact hw26⟩) ⟨O,O,O,O,trivial⟩ (λ_ h=>h) ?_
  rintro⟨k,m⟩ ⟨hk,hw⟩ I0 hI0
  dsimp only at hk hw⊢
  refine J.f λ_ j10=>J.g (qAQ O O O) O<|J.c j10 ?_
  refine J.p λ_ j11=>J.Z O (λh31=>?_) (λh31=>?_)
  ·
    refine J.M j11 ?_
    refine J.p λ_ j12=>J.T<|J.f λ_ j13=>J.g (qAF O O O qAj z9_ hsl xB) O<|J.g (qAI O O b9_ (m:=F) xD (hsl.elem (qAb (qAh [] (show k<x.nodes.length by omega))))) O<|J.b O<|J.c j13 ?_
    have hnl:=qMh (e3 _ (qQZ (show k<x.nodes.length by omega)))
    refine J.H<|J.b O<|J.q (qAK O O ent (Ct.use1 2 O (λF' _=>qOw F' m g5 (x.base++((x.nodes.take k).map ndB).flatten) 0 hw (by have:=nd_small (λs hs=>e3 s (yD hs): ∀s∈x.nodes.take k,qEO s);rw [jE] at this;rw [jA,hbl];omega) (x.nodes.getD k []) xB))) O ?_
    rintro m35 hw35
    rw [(qLy xB).1,(qLy (s:=x.nodes.getD k []) (bs:= []) xB).2,jW,jW] at hw35
    change Wtr m35 g5 (x.base++(((x.nodes.take k).map ndB).flatten++ndB (x.nodes.getD k []))) 0 at hw35
    rw [←qVf xB] at hw35
    refine J.a4<|J.a1<|J.u (J.D j12 ?_)
    exact J.H<|J.g ((qAR O O O xB).nat (k+1) xB) O<|J.b O<|J.a4<|J.u<|J.a7 (k+1,m35) (λx2 (hx:_∧x.nodes.length-x2.1<x.nodes.length-k)=>hI0 x2 hx.1 hx.2) ⟨⟨by dsimp only;omega,hw35⟩,by dsimp only;omega⟩ ⟨O,O,O,O,trivial⟩ (λ_ h=>h)
  refine J.b4<|J.a0<|J.a0<|J.b5 ?_
  refine J.u (J.D j8 ?_)
  refine J.p λ_ j14=>?_
  rw [jY xB] at hw
  change Wtr m g5 x.bytes 0 at hw
  refine J.H<|J.q (qAK O O ent (Ct.use1 2 O (λF' _=>qDJ F' m g5 x.bytes 0 hw (by have:=nd_small e3;unfold Hd.bytes;unfold Hd.base at hbl;rw [jA,hbl];omega)))) O ?_
  rintro m37 _
  refine J.j 4 O<|J.c j14 ?_
  exact J.A<|J.a9 hw0 (λ_ _ h=>h) (qBk O O O) (qAg () (by unfold Hd.enc;rw [if_pos e0,e0]<;>rfl) trivial [0] O xC)
theorem qQx{x:Hd}(h:x.err=0):x.bytes.length≤326:=by
 obtain ⟨e1,e2,e3⟩:=qQe h
 have h1:=qNE e1
 have h2:=nd_small e3
 have h3:=qUE x.dep
 unfold Hd.bytes
 unfold Hd.base at h1
 rw [jA,h1];omega
theorem enc_0{x:Hd}(h:x.err=0):x.enc=x.bytes:=if_pos h
theorem qIz{x:Hd}(h:x.err=0):x.dig.length=16:=by unfold Hd.dig;rw [if_pos h,Sha.tagged_length]
theorem qQk(x:Hd):x.dig.length≤16:=by
 unfold Hd.dig
 split
 · rw [Sha.tagged_length];exact jK _
 · exact jF _
theorem qCS(F:Hp)(hK:qAG F ⟨3,0,none⟩ (Sha.K.map W32))(x:Hd)(A:Option Addr)(c:Nat)(hg:x.good)(hsl:Sl F 1 A x.nodes.length c (qAH x.nodes)):
    Cz prog 70 [.agg #[N64 x.ep,Str x.par,I x.dep,I x.aud,.slice A x.nodes.length c]] F (Str x.dig):=by
  refine Ct.walk func70 O ntmps70 O (λw0 hw0=>?_)
  refine J.f λ_ j1=>J.q (qAd O O O) O λg1 _=>J.b O<|J.c j1 ?_
  refine J.f λ_ j2=>J.c0 1 qFl qC6 O O O O O<|J.q (qAa O O (λF' hF=>qN9 F' x A c hg (hsl.mono (Fa hF)))) O λg7 _=>J.j 5 O<|J.c j2 ?_
  refine J.p λ_ j3=>J.f λ_ j4=>J.b O<|J.g (qAY O O O) O<|J.c j4 ?_
  refine J.Z O (λh11=>?_) (λh11=>?_)
  ·
    refine J.f λ_ j5=>J.b O<|J.c j5 ?_
    exact J.A<|J.V<|J.E hw0 O () (by unfold Hd.dig;rw [if_neg xB]) trivial [0] O xC
  refine J.M j3 ?_
  refine J.p λ_ j6=>?_
  have e0:x.err=0:=xB
  refine J.H<|J.g ((qAz O O).as (v':=Str x.bytes) (congrArg Str (enc_0 e0))) O<|J.q (qAE (l:= [.tmp 12]) (xs:= [[Str (x.bytes)]]) O O O O qAj el9 O xC xC xD) O λg13 _=>J.q (qAa O O (λF' hF=>qAy F' (hK.mono (Fa hF)) 14 (some ⟨g13,0,none⟩) 1 1 [x.bytes] ((slS [x.bytes] O).mono (hF (blk g13 (([x.bytes]:List xA).map λs=>Str s) 9) xD)) (by have:=qQx e0;simp;omega) xC)) O λg14 _=>J.b O<|J.c j6 ?_
  exact J.A<|J.E hw0 O () (by unfold Hd.dig;rw [if_pos e0]) trivial [0] O xC
def Hd.gen(x:Hd):Int:=if x.err≠0 then x.err else if x.ep≠0 then 14 else if x.par≠qAk then 15 else 0
def Hd.next(x y:Hd):Int:=if y.err≠0 then y.err else if y.ep=0∨y.ep-1≠x.ep then 14 else if x.dig= []∨y.par≠x.dig then 15 else if y.dep≠x.dep∨y.aud<x.aud then 22 else 0
def Hd.same(x y:Hd):Prop:=x.err=0∧y.err=0∧x.enc=y.enc
instance (x y:Hd):Decidable (x.same y):=by unfold Hd.same;infer_instance
theorem gen_1{x:Hd}(h:x.err≠0):x.gen=x.err:=if_pos h
theorem gen_2{x:Hd}(h: ¬x.err≠0)(h2:x.ep≠0):x.gen=14:=by unfold Hd.gen;rw [if_neg h,if_pos h2]
theorem gen_3{x:Hd}(h: ¬x.err≠0)(h2: ¬x.ep≠0)(h3:x.par≠qAk):x.gen=15:=by unfold Hd.gen;rw [if_neg h,if_neg h2,if_pos h3]
theorem qXV{x:Hd}(h: ¬x.err≠0)(h2: ¬x.ep≠0)(h3: ¬x.par≠qAk):x.gen=0:=by unfold Hd.gen;rw [if_neg h,if_neg h2,if_neg h3]
theorem qXD{x y:Hd}(h:y.err≠0):x.next y=y.err:=if_pos h
theorem qT2{x y:Hd}(h: ¬y.err≠0)(h2:y.ep=0∨y.ep-1≠x.ep):x.next y=14:=by unfold Hd.next;rw [if_neg h,if_pos h2]
theorem qT1{x y:Hd}(h: ¬y.err≠0)(h2: ¬(y.ep=0∨y.ep-1≠x.ep))(h3:x.dig= []∨y.par≠x.dig):x.next y=15:=by unfold Hd.next;rw [if_neg h,if_neg h2,if_pos h3]
theorem qT0{x y:Hd}(h: ¬y.err≠0)(h2: ¬(y.ep=0∨y.ep-1≠x.ep))(h3: ¬(x.dig= []∨y.par≠x.dig))(h4:y.dep≠x.dep∨y.aud<x.aud):x.next y=22:=by unfold Hd.next;rw [if_neg h,if_neg h2,if_neg h3,if_pos h4]
theorem qTz{x y:Hd}(h: ¬y.err≠0)(h2: ¬(y.ep=0∨y.ep-1≠x.ep))(h3: ¬(x.dig= []∨y.par≠x.dig))(h4: ¬(y.dep≠x.dep∨y.aud<x.aud)):x.next y=0:=by unfold Hd.next;rw [if_neg h,if_neg h2,if_neg h3,if_neg h4]
theorem qS6(F:Hp)(hK:qAG F ⟨3,0,none⟩ (Sha.K.map W32))(x:Hd)(A:Option Addr)(c:Nat)(hg:x.good)(hsl:Sl F 1 A x.nodes.length c (qAH x.nodes))(y:Hd)(B:Option Addr)(e:Nat)(hgy:y.good)(hsy:Sl F 1 B y.nodes.length e (qAH y.nodes)):
    Cz prog 15 [.agg #[N64 x.ep,Str x.par,I x.dep,I x.aud,.slice A x.nodes.length c],.agg #[N64 y.ep,Str y.par,I y.dep,I y.aud,.slice B y.nodes.length e]] F (I (x.next y)):=by
  obtain ⟨hgx1,hgx2,hgx3⟩:=id hg
  obtain ⟨hgy1,hgy2,hgy3⟩:=id hgy
  refine Ct.walk func15 O ntmps15 O (λw0 hw0=>?_)
  refine J.f λ_ j1=>J.q (qAd O O O) O λg2 _=>J.q (qAd O O O) O λg3 _=>?_
  change J _ _ _ [_,_,blk g3 [N64 y.ep,Str y.par,I y.dep,I y.aud,.slice B y.nodes.length e] 52] _
  refine J.b O<|J.c j1 ?_
  refine J.p λ_ j2=>J.b1 [F,blk g2 [N64 x.ep,Str x.par,I x.dep,I x.aud,.slice A x.nodes.length c] 52,blk g3 [N64 y.ep,Str y.par,I y.dep,I y.aud,.slice B y.nodes.length e] 52] [] (.y 0 (.y 2 (.e 1 (.e 3 (.y 4 (.y 5 .nil)))))) Tryz.wide xF xD ?_
  refine J.k O (qAe 2 O O O qFl qC6 O) O O<|J.k O (qAe 1 O O O qFl qC6 O) O O<|J.a2 O (qAa O O (λF' hF=>qGw F' y B e hgy (hsy.mono (Fa hF)))) O xD λg8 _=>J.a2 O (qAa O O (λF' hF=>qCS F' (hK.mo hF) x A c hg (hsl.mono (Fa hF)))) O xD λg10 _=>J.b7 ?_
  refine J.b7 ?_
  refine J.b0<|J.u (J.D j2 ?_)
  refine J.p λ_ j3=>J.T<|J.f λ_ j4=>J.b O<|J.g (qAY O O O) O<|J.b O<|J.c j4 ?_
  refine J.Z O (λh11=>?_) (λh11=>?_)
  ·
    refine J.f λ_ j5=>J.j 2 O<|J.c j5 ?_
    exact J.A<|J.a6<|J.V<|J.E hw0 O () (congrArg I (qXD xB).symm) trivial [0] O xC
  refine J.f λ_ j6=>J.W 0 qDs qD8 O O O O O<|J.a5 2 qFC O O O O O<|J.g (qAZ O O O) O<|J.b O<|J.b9 (d:=19) O (λh19=>?_) (λh19=>?_)
  ·
    refine J.j 8 O<|J.c j6 ?_
    refine J.c4 ?_
    refine J.f λ_ j7=>J.b O<|J.c j7 ?_
    exact J.A<|J.a6<|J.V<|J.E hw0 O () (congrArg I (qT2 xB xB).symm) trivial [0] O xC
  refine J.G (qAA (j:=0) O O qDs O qD8 O) O<|J.G (qAC 2 O O O qFC O) O<|J.G (qPg (b:=1) O O O xB) O<|J.G (qAA (j:=0) O O qDs O qD8 O) O<|J.G (qAC 1 O O O qFC O) O<|J.G (qAY O O O) O<|J.j 2 O<|J.c j6 ?_
  refine J.Z O (λh15=>?_) (λh15=>?_)
  ·
    refine J.f λ_ j8=>J.b O<|J.c j8 ?_
    exact J.A<|J.a6<|J.V<|J.E hw0 O () (congrArg I (qT2 xB xB).symm) trivial [0] O xC
  refine J.f λ_ j9=>J.b O<|J.g (qBF O O O) O<|J.b O<|J.b9 (d:=30) O (λh30=>?_) (λh30=>?_)
  ·
    refine J.j 6 O<|J.c j9 ?_
    refine J.c4 ?_
    refine J.f λ_ j10=>J.b O<|J.c j10 ?_
    exact J.A<|J.a6<|J.V<|J.E hw0 O () (congrArg I (qT1 xB xB (.inl h30)).symm) trivial [0] O xC
  refine J.G (qAA (j:=1) O O qDs O z9_ O) O<|J.G (qAC 2 O O O b9_ O) O<|J.b O<|J.G (qCy O O O) O<|J.j 2 O<|J.c j9 ?_
  refine J.Z O (λh27=>?_) (λh27=>?_)
  ·
    refine J.f λ_ j11=>J.b O<|J.c j11 ?_
    exact J.A<|J.a6<|J.V<|J.E hw0 O () (congrArg I (qT1 xB xB (.inr h27)).symm) trivial [0] O xC
  refine J.f λ_ j12=>J.W 2 qDs z3_ O O O O O<|J.a5 2 b3_ O O O O O<|J.W 2 qDs z3_ O O O O O<|J.a5 1 b3_ O O O O O<|J.g (qAY O O O) O<|J.b O<|J.b9 (d:=42) O (λh42=>?_) (λh42=>?_)
  ·
    refine J.j 7 O<|J.c j12 ?_
    refine J.c4 ?_
    refine J.f λ_ j13=>J.b O<|J.c j13 ?_
    exact J.A<|J.a6<|J.V<|J.E hw0 O () (congrArg I (qT0 xB xB (λh=>h.elim h30 h27) xB).symm) trivial [0] O xC
  refine J.G (qAA (j:=3) O O qDs O z3_ O) O<|J.G (qAC 2 O O O b3_ O) O<|J.G (qAA (j:=3) O O qDs O z3_ O) O<|J.G (qAC 1 O O O b3_ O) O<|J.G (qAQ O O O) O<|J.j 2 O<|J.c j12 ?_
  refine J.Z O (λh36=>?_) (λh36=>?_)
  ·
    refine J.f λ_ j14=>J.b O<|J.c j14 ?_
    exact J.A<|J.a6<|J.V<|J.E hw0 O () (congrArg I (qT0 xB xB (λh=>h.elim h30 h27) xB).symm) trivial [0] O xC
  refine J.b2<|J.a1<|J.u (J.D j3 ?_)
  refine J.f λ_ j15=>J.b O<|J.c j15 ?_
  exact J.A<|J.E hw0 O () (congrArg I (qTz xB xB (λh=>h.elim h30 h27) xB).symm) trivial [0] O xC
theorem qMz(F:Hp)(hK:qAG F ⟨3,0,none⟩ (Sha.K.map W32))(x:Hd)(A:Option Addr)(c:Nat)(hg:x.good)(hsl:Sl F 1 A x.nodes.length c (qAH x.nodes))(hsm: ∀s∈x.nodes,s.length≤1048576):
    Cz prog 40 [.agg #[N64 x.ep,Str x.par,I x.dep,I x.aud,.slice A x.nodes.length c]] F (Str (qCP x.nodes x.dep)):=by
  refine Ct.walk func40 O ntmps40 O (λw0 hw0=>?_)
  refine J.f λ_ j1=>J.q (qAd O O O) O λg1 _=>J.b O<|J.c j1 ?_
  refine J.f λ_ j2=>J.W 4 qDs qBt O O O O O<|J.a5 1 qCA O O O O O<|J.W 2 qDs z3_ O O O O O<|J.a5 1 b3_ O O O O O<|J.q (qAa O O (λF' hF=>qTP F' (hK.mo hF) x.dep x.nodes A c (hsl.mono (Fa hF)) hsm)) O λg10 _=>J.j 5 O<|J.c j2 ?_
  refine J.f λ_ j3=>J.j 2 O<|J.c j3 ?_
  exact J.A<|J.E hw0 O () O trivial [0] O xC
end Go.Proofs.YtmemgokiolfdoaaGreatDoor