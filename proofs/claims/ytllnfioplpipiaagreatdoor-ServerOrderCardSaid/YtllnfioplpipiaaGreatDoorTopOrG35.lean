/- A part of the proof. -/
import Derived.Test.YtllnfioplpipiaaGreatDoorTopOrG8
import Derived.Test.YtllnfioplpipiaaGreatDoorTopOrG34
import Derived.Test.YtllnfioplpipiaaGreatDoorTopOrG21
import Derived.Test.YtllnfioplpipiaaGreatDoorTopOrG32
set_option linter.unusedSimpArgs false
set_option linter.unusedVariables false
namespace Go.Proofs.YtllnfioplpipiaaGreatDoor
open Go Go.Fw Go.Proofs.Tryz
set_option maxRecDepth 100000
set_option maxHeartbeats 1000000
theorem ent37:qAD prog 37:=qAD.of func37 rfl (by kernel_rfl)
theorem ent161:qAD prog 161:=qAD.of func161 rfl (by kernel_rfl)
theorem ent162:qAD prog 162:=qAD.of func162 rfl (by kernel_rfl)
theorem ent164:qAD prog 164:=qAD.of func164 rfl (by kernel_rfl)
theorem ent165:qAD prog 165:=qAD.of func165 rfl (by kernel_rfl)
namespace Xm
def leaves(seed:List UInt8)(k:Nat):List (List UInt8):=(List.range k).map λi=>Wo.pub seed i
def root(seed:List UInt8)(h:Nat):List UInt8:=Mk.root (leaves seed (2^h)) h
def four(n:Nat):List UInt8:= [UInt8.ofNat (n/2^24),UInt8.ofNat (n/2^16),UInt8.ofNat (n/2^8),UInt8.ofNat n]
def digest(o:List UInt8)(i:Nat)(m:List UInt8):List UInt8:=Sha.tagged 6 [o,four i,m]
theorem leaves_succ(seed:List UInt8)(k:Nat):leaves seed (k+1)=leaves seed k++ [Wo.pub seed k]:=by simp [leaves,List.range_succ]
theorem leaves_length(seed:List UInt8)(k:Nat):(leaves seed k).length=k:=by simp [leaves]
theorem leaves_get(seed:List UInt8)(k i:Nat)(h:i<k):(leaves seed k).getD i []=Wo.pub seed i:=by
 unfold leaves
 rw [List.getD_eq_getElem?_getD,List.getElem?_map,List.getElem?_range h];rfl
theorem pub_length(seed:List UInt8)(i:Nat):(Wo.pub seed i).length=16:=Sha.tagged_length _ _
theorem leaves_small(seed:List UInt8)(k:Nat): ∀s∈leaves seed k,s.length≤1048576:=λs hs=>by
 simp only [leaves,List.mem_map] at hs
 obtain ⟨i,_,rfl⟩:=hs
 rw [pub_length];decide
theorem digest_length(o:List UInt8)(i:Nat)(m:List UInt8):(digest o i m).length=16:=Sha.tagged_length _ _
theorem four_length(n:Nat):(four n).length=4:=rfl
theorem pow_le(h:Nat)(h6:h≤6):2^h≤64:=Nat.le_trans (Nat.pow_le_pow_right (by decide) h6) (by decide)
end Xm
attribute [local irreducible] Sha.tagged Wo.pub Wo.publicOf Wo.signs Wo.ends Wo.digs Wo.walk Wo.opn Mk.root Mk.path Mk.climb
theorem Xm.leaves0(seed:List UInt8):Xm.leaves seed 0= []:=rfl
theorem Wo.recPub(seed:List UInt8)(leaf:Nat)(d:List UInt8)(hd:d.length≤16):Wo.publicOf (Wo.opn seed) leaf (Wo.ends (Wo.opn seed) leaf (Wo.digs d) (Wo.signs seed leaf (Wo.digs d) 35) 35)=Wo.pub seed leaf:=by
 rw [Wo.recovers seed leaf (Wo.digs d) (Wo.digs_le d hd) 35];unfold Wo.pub;rfl
def qA0(seed o r:List UInt8)(h:Int)(A:Option Addr)(n c:Nat):List Value:= [Str seed,Str o,Str r,I h,.slice A n c]
def qTp(mm:Hp)(g:Nat)(seed:List UInt8)(h:Nat):Prop:= ∃A c mr,mm=U [blk g (qA0 seed (Wo.opn seed) (Xm.root seed h) h A (2^h) c) 113,mr]∧Dj (blk g (qA0 seed (Wo.opn seed) (Xm.root seed h) h A (2^h) c) 113) mr∧Row mr 9 1 A (2^h) c (qAG (Xm.leaves seed (2^h)))
theorem qTp.see{mm:Hp}{g:Nat}{seed:List UInt8}{h:Nat}(hk:qTp mm g seed h): ∃A c,qAL mm ⟨g,0,none⟩ (qA0 seed (Wo.opn seed) (Xm.root seed h) h A (2^h) c)∧Sl mm 1 A (2^h) c (qAG (Xm.leaves seed (2^h))):=by
 obtain ⟨A,c,mr,rfl,hd,hr⟩:=hk
 exact⟨A,c,qAL.blk0.mono (qRW _ _),hr.sl.mono (qNv hd)⟩
theorem qRq(F:Hp)(hK:KF F)(seed:List UInt8)(h:Nat)(hs:seed.length≤1048576)(h6:h≤6):
    Ct prog 9 [Str seed,I h] [F] (λx:Nat×Hp=> .tuple #[Ptr x.1,I 0]) (λx=>qTp x.2 x.1 seed h) (λx=> [x.2,F]):=by
  have hp64:=Xm.pow_le h h6
  have hp0:=Nat.two_pow_pos h
  refine Ct.walk func9 rfl ntmps9 rfl (λw0 hw0=>?_)
  change J _ [(0,_),(1,_)] _ _ _
  refine J.g λK1 hK1=>J.p 2 O<|J.c hK1<|J.E 0 1 ?_
  refine J.j λK2 hK2=>J.g λK3 hK3=>J.b O<|J.f ((qAT O O O).no (by omega)) O<|J.p 2 O<|J.Z ((qAz O O O).no (by omega)) O<|J.b O<|J.c hK3<|J.G 0 1 15 ?_
  refine J.a5 ?_
  refine J.W hK2<|J.E 0 1 ?_
  refine J.g λK4 hK4=>J.b O<|J.f (qAM (l:= [(0,.tmp 16)]) (places:= [(0,1),(1,3),(4,1)]) (r:=qA0 seed [] [] 0 none 0 0) O O O qF2 zeroValue113 (λ_=>by kernel_rfl) O) O<|J.k (qAi O O (l:=qA0 seed [] [] 0 none 0 0) O) O λg18 _=>?_
  change J _ _ _ [F,blk g18 (qA0 seed [] [] 0 none 0 0) 113] _
  refine J.b O<|J.c hK4<|J.G 0 1 6 ?_
  refine J.j λK5 hK5=>J.j λK6 hK6=>J.d5 [0,1,2] [F,blk g18 (qA0 seed [] [] 0 none 0 0) 113,(λ_=>none)] O (by decide)<|J.L<|J.b O<|J.f ((qHJ (a:=1) (m:=h) O O O ⟨by omega,by have:=Int.pow_pos (n:=2) (m:=h) (by decide);omega,by rw [Int.one_mul];exact Int.ofNat_le.2 (show 2^h≤9223372036854775807 by omega)⟩).as (v':=I ((2^h:Nat):Int)) (congrArg I (by simp))) rfl<|J.b rfl<|J.c hK6<|J.a0 0 1 6 20 21 ?_
  refine J.V<|J.b6 (X:=Nat×Option Addr×Nat×Hp) (λx=> [(0,Str seed),(1,I h),(6,Ptr g18),(20,I ((2^h:Nat):Int)),(21,I x.1)]) (λx=> [F,blk g18 (qA0 seed [] [] 0 x.2.1 x.1 x.2.2.1) 113,x.2.2.2]) (λx=>x.1≤2^h∧Row x.2.2.2 9 1 x.2.1 x.1 x.2.2.1 (qAG (Xm.leaves seed x.1))) (λx=>2^h-x.1) (0,none,0,λ_=>none) (⟨Nat.zero_le _,by rw [Xm.leaves0];exact qBU.nil⟩) ⟨rfl,rfl,rfl,rfl,rfl,trivial⟩ (λ_ h=>h) ?_
  rintro⟨k,A6,c6,m⟩ ⟨hk,hrow⟩ I0 hI0
  dsimp only at hk hrow⊢
  refine J.g λK7 hK7=>J.f (qAT O O O) O<|J.c hK7<|J.b8 0 1 6 20 21 22 ?_
  refine J.j λK8 hK8=>J.a2 O (λh22=>?_) (λh22=>?_)
  ·
    refine J.W hK8<|J.a0 0 1 6 20 21 ?_
    refine J.j λK9 hK9=>J.V<|J.g λK10 hK10=>J.p 2 O<|J.c hK10<|J.b8 0 1 6 7 20 21 ?_
    refine J.c1 [blk g18 (qA0 seed [] [] 0 A6 k c6) 113] [12] (.y 0 (.y 1 (.y 2 (.y 3 (.y 4 (.y 5 (.y 6 (.e 7 (.e 8 (.e 9 (.y 10 (.y 11 (.e 12 .nil))))))))))))) Tryz.wide (by decide+kernel) (by simp) ?_
    refine J.T ?_
    refine J.T ?_
    refine J.q O (qAC O O) O O<|J.q O (qAB (j:=4) O O qF2 O qBf O) O O<|J.q O (qAE 0 O O O qBo O) O O<|J.T ?_
    refine J.T ?_
    refine J.a9 O (qAA O O ent37 (Ct.use0 (λF' hF=>qRr F' (hK.mono (hF _ (by simp))) seed k hs (by omega)))) rfl (by simp) λg31 _=>J.a9 rfl (qAF (l:= [.tmp 31]) (xs:= [[Str (Wo.pub seed k)]]) rfl rfl rfl rfl qAe el9 rfl (by decide) (by decide) (by simp)) rfl (by simp) λg32 _=>?_
    change J _ _ _ [F,blk g18 (qA0 seed [] [] 0 A6 k c6) 113,m,blk g32 [Str (Wo.pub seed k)] 9] _
    refine J.a9 O (qAW (i:=2) (m2:=blk g32 [Str (Wo.pub seed k)] 9) (ys:=qAG [(Wo.pub seed k)]) O O O qAe qAe el9 O hrow (by simp) (qAk (q:=True) (xs:=qAG [(Wo.pub seed k)]) rfl (by simp [qAG])).sl (qCL _) (by omega) (by omega)) rfl (by simp) ?_
    rintro⟨A33,c33,m33⟩ h33
    try dsimp only at h33
    change J _ ((33,.slice A33 (k+1) c33)::_) _ [_,_,m33,_] _
    rw [←qBm,←Xm.leaves_succ] at h33
    refine J.q O (qAC O O) O O<|J.q O (qAB (j:=4) O O qF2 O qBf O) O O<|J.d3 O (qAZ (i:=1) (vs:= [.slice A33 (k+1) c33]) O O O O O qBf O (by simp [qA0])) rfl rfl rfl λ_ _=>?_
    change J _ _ _ [_,blk g18 (qA0 seed [] [] 0 A33 (k+1) c33) 113,_,_] _
    refine J.b9<|J.a6<|J.A (J.H hK9 ?_)
    refine J.a0 0 1 6 20 21 ?_
    exact J.c8 [0,1,2] [F,blk g18 (qA0 seed [] [] 0 A33 (k+1) c33) 113,m33] O (by decide)<|J.L<|J.f ((qAO O O O (by omega)).nat (k+1) (by omega)) O<|J.b O<|J.a7<|J.A<|J.a8 (k+1,A33,c33,m33) (λx (hx:_∧2^h-x.1<2^h-k)=>hI0 x hx.1 hx.2) ⟨⟨by dsimp only;omega,h33⟩,by dsimp only;omega⟩ ⟨O,O,O,O,O,trivial⟩ (λ_ h=>h)
  refine J.b4<|J.a1<|J.a1<|J.b5 ?_
  refine J.A (J.H hK5 ?_)
  refine J.G 0 1 6 ?_
  refine J.j λK11 hK11=>?_
  have hkn:k=2^h:=by omega
  subst hkn
  refine J.L<|J.b O<|J.f (qAC O O) O<|J.a3 4 qF2 qBf O O O O O<|J.c7 1 qBo O O O O O<|J.k (qAA O O ent38 (Ct.use0 (λF' hF=>qSH F' (hK.mono (hF _ (by simp))) A6 (2^h) c6 (Xm.leaves seed (2^h)) (hrow.sl.mono (hF _ (by simp))) h h6 rfl (Xm.leaves_small _ _)))) rfl λg42 _=>J.p 2 rfl<|J.f (qAa rfl rfl rfl) rfl<|J.p 2 rfl<|J.c hK11<|J.O 0 1 6 8 ?_
  refine J.g λK12 hK12=>J.p 2 O<|J.k (qAA O O ent39 (Ct.use0 (λF' hF=>qGs F' (hK.mono (hF _ (by simp))) seed hs))) rfl λg47 _=>J.p 2 rfl<|J.f (qAM (l:= [(0,.tmp 47),(1,.tmp 48),(2,.tmp 49)]) (places:= [(0,1),(1,1),(2,1)]) (r:= [Str (Wo.opn seed),Str (Xm.root seed h),I h]) rfl rfl rfl qH3 qTR (λ_=>by kernel_rfl) rfl) rfl<|J.f (qAC rfl rfl) rfl<|J.a3 1 qF2 qD3 rfl rfl rfl rfl rfl<|J.b0 (qAZ (i:=1) (vs:= [Str (Wo.opn seed),Str (Xm.root seed h),I h]) rfl rfl rfl rfl rfl qD3 rfl (by simp [qA0])) rfl rfl λ_ _=>?_
  change J _ _ _ [F,blk g18 (qA0 seed (Wo.opn seed) (Xm.root seed h) h A6 (2^h) c6) 113,m] _
  refine J.c hK12<|J.u 6 ?_
  refine J.j λK13 hK13=>J.c8 [1,2,0] [blk g18 (qA0 seed (Wo.opn seed) (Xm.root seed h) h A6 (2^h) c6) 113,m,F] O (by decide)<|J.L<|J.p 3 O<|J.c hK13<|J.E 4 5 ?_
  exact J.D<|J.b2 hw0 (λ_ _ h=>h) (qB2 O O O) (qBr (g18,U [blk g18 (qA0 seed (Wo.opn seed) (Xm.root seed h) h A6 (2^h) c6) 113,m]) O (λhd=>⟨A6,c6,m,O,hd,hrow⟩) [0,1,2] O O (by decide))
theorem qMR(F:Hp)(g:Nat)(seed o r:List UInt8)(h:Int)(A:Option Addr)(n c:Nat)(hc:qAL F ⟨g,0,none⟩ (qA0 seed o r h A n c)):
    Ct prog 164 [Ptr g] [F] (λ_:Unit=>I n) (λ_=>True) (λ_=> [F]):=by
  refine Ct.walk func164 rfl ntmps164 rfl (λw0 hw0=>?_)
  change J _ [(0,_)] _ _ _
  refine J.g λK1 hK1=>J.b O<|J.c hK1<|J.u 0 ?_
  refine J.j λK2 hK2=>J.g λK3 hK3=>J.b O<|J.f ((qA6 underlying36 O O O).as (v':= .bool false) O) O<|J.c hK3<|J.E 0 4 ?_
  refine J.a5 ?_
  refine J.W hK2<|J.u 0 ?_
  refine J.g λK4 hK4=>J.b O<|J.f (qAC O O) O<|J.a3 4 qF2 qBf O O O O O<|J.f (qAJ O O qBo (m:=F) (by simp) (hc.at (i:=4) rfl)) rfl<|J.f (qAP qAe rfl rfl) rfl<|J.b rfl<|J.c hK4<|J.u 2 ?_
  exact J.D<|J.M hw0 O () O trivial [0] O (by decide)
theorem qLW(F:Hp)(g:Nat)(seed o r:List UInt8)(h:Int)(A:Option Addr)(n c:Nat)(hc:qAL F ⟨g,0,none⟩ (qA0 seed o r h A n c)):
    Ct prog 45 [Ptr g] [F] (λ_:Unit=> .agg #[Str o,Str r,I h]) (λ_=>True) (λ_=> [F]):=by
  refine Ct.walk func45 rfl ntmps45 rfl (λw0 hw0=>?_)
  change J _ [(0,_)] _ _ _
  refine J.g λK1 hK1=>J.k (qAN O qTR O) O λg2 _=>?_
  change J _ _ _ [F,blk g2 _ 32] _
  refine J.c hK1<|J.E 0 2 ?_
  refine J.j λK2 hK2=>J.g λK3 hK3=>J.b O<|J.f ((qA6 underlying36 O O O).as (v':= .bool false) O) O<|J.c hK3<|J.G 0 2 4 ?_
  refine J.a5 ?_
  refine J.W hK2<|J.E 0 2 ?_
  refine J.g λK4 hK4=>J.b O<|J.f (qAC O O) O<|J.a3 1 qF2 qD3 O O O O O<|J.f (qAd O O qMM qD3 (m:=F) (by simp) (vs:= [Str o,Str r,I h]) (hc.sub 1 3) rfl) rfl<|J.b0 (qAI (l:= [Str [],Str [],I 0]) (i:=1) (vs:= [Str o,Str r,I h]) rfl rfl rfl rfl rfl qD3 rfl rfl) rfl rfl λ_ _=>?_
  change J _ _ _ [_,blk g2 [Str o,Str r,I h] 32] _
  refine J.c hK4<|J.u 2 ?_
  exact J.D<|J.b2 hw0 (λ_ _ h=>h) (rv1 O (RV.blkA 1 O O qMM qD3)) (qAn () O trivial [0] O (by decide))
theorem qGA(F:Hp)(hK:KF F)(o:List UInt8)(i:Nat)(mg:List UInt8)(ho:o.length≤1048576)(hi:i<4611686018427387904)(hm:mg.length≤1048576):
    Ct prog 162 [Str o,I i,Str mg] [F] (λ_:Unit=>Str (Xm.digest o i mg)) (λ_=>True) (λ_=> [F]):=by
  refine Ct.walk func162 rfl ntmps162 rfl (λw0 hw0=>?_)
  change J _ [(0,_),(1,_),(2,_)] _ _ _
  refine J.g λK1 hK1=>J.b O<|J.c hK1<|J.G 0 1 2 ?_
  refine J.g λK2 hK2=>J.b O<|J.f ((qCP (m:=24) O O O ⟨by decide,by omega⟩).as (v':=I ((i/2^24:Nat):Int)) (congrArg I (by simp))) rfl<|J.f (qAj rfl rfl u3_ u5_) rfl<|J.b rfl<|J.f ((qCP (m:=16) rfl rfl rfl ⟨by decide,by omega⟩).as (v':=I ((i/2^16:Nat):Int)) (congrArg I (by simp))) rfl<|J.f (qAj rfl rfl u3_ u5_) rfl<|J.b rfl<|J.f ((qCP (m:=8) rfl rfl rfl ⟨by decide,by omega⟩).as (v':=I ((i/2^8:Nat):Int)) (congrArg I (by simp))) rfl<|J.f (qAj rfl rfl u3_ u5_) rfl<|J.b rfl<|J.f (qAj rfl rfl u3_ u5_) rfl<|J.k (qAF (l:= [.tmp 10,.tmp 13,.tmp 16,.tmp 18]) (xs:= [[B8 (UInt8.ofNat (i/2^24))],[B8 (UInt8.ofNat (i/2^16))],[B8 (UInt8.ofNat (i/2^8))],[B8 (UInt8.ofNat i)]]) rfl rfl rfl rfl qBV el5 rfl (by decide) (by decide) (by simp)) rfl λg19 _=>?_
  change J _ _ _ [F,blk g19 [B8 (UInt8.ofNat (i/2^24)),B8 (UInt8.ofNat (i/2^16)),B8 (UInt8.ofNat (i/2^8)),B8 (UInt8.ofNat i)] 5] _
  refine J.f (qBY (l:=Xm.four i) O O qBV u5_ u9_ (m:=blk g19 [B8 (UInt8.ofNat (i/2^24)),B8 (UInt8.ofNat (i/2^16)),B8 (UInt8.ofNat (i/2^8)),B8 (UInt8.ofNat i)] 5) (by simp) (slB (Xm.four i) rfl)) rfl<|J.b rfl<|J.c hK2<|J.G 0 2 7 ?_
  refine J.g λK3 hK3=>J.p 3 O<|J.k (qAF (l:= [.tmp 21,.tmp 22,.tmp 23]) (xs:= [[Str (o)],[Str (Xm.four i)],[Str (mg)]]) O O O O qAe el9 O (by decide) (by decide) (by simp)) rfl λg24 _=>?_
  change J _ _ _ [_,_,blk g24 [Str (o),Str (Xm.four i),Str (mg)] 9] _
  refine J.k (qAA O O ent75 (Ct.use0 (λF' hF=>qAv F' (hK.mono (hF _ (by simp))) 6 (some ⟨g24,0,none⟩) 3 3 [o,Xm.four i,mg] ((slS [o,Xm.four i,mg] rfl).mono (hF (blk g24 (([o,Xm.four i,mg]:List (List UInt8)).map λs=>Str s) 9) (by simp))) (by have:=qRK ho (show(Xm.four i).length≤1048576 by rw [Xm.four_length];decide) hm;omega) (by decide)))) rfl λg25 _=>J.b rfl<|J.c hK3<|J.u 6 ?_
  exact J.D<|J.M hw0 O () O trivial [0] O (by decide)
theorem qO6(F:Hp)(hK:KF F)(g:Nat)(seed:List UInt8)(h:Nat)(A:Option Addr)(c:Nat)(hc:qAL F ⟨g,0,none⟩ (qA0 seed (Wo.opn seed) (Xm.root seed h) h A (2^h) c))(hsl:Sl F 1 A (2^h) c (qAG (Xm.leaves seed (2^h))))(hs:seed.length≤1048576)(h6:h≤6)(mg:List UInt8)(hm:mg.length≤1048576)(i:Nat)(hi:i<2^h):
    Ct prog 107 [Ptr g,I i,Str mg] [F] (λx:(Option Addr×Nat×Hp)×(Option Addr×Nat×Hp)=> .tuple #[.agg #[I i,.slice x.1.1 35 x.1.2.1,.slice x.2.1 h x.2.2.1],I 0]) (λx=>Row x.1.2.2 9 1 x.1.1 35 x.1.2.1 (qAG (Wo.signs seed i (Wo.digs (Xm.digest (Wo.opn seed) i mg)) 35))∧Row x.2.2.2 9 1 x.2.1 h x.2.2.1 (qAG (Mk.path (Xm.leaves seed (2^h)) i h))) (λx=> [F,x.1.2.2,x.2.2.2]):=by
  have hp64:=Xm.pow_le h h6
  have hdl:=Xm.digest_length (Wo.opn seed) i mg
  refine Ct.walk func107 rfl ntmps107 rfl (λw0 hw0=>?_)
  change J _ [(0,_),(1,_),(2,_)] _ _ _
  refine J.g λK1 hK1=>J.k (qAN O zeroValue46 O) O λg6 _=>?_
  change J _ _ _ [F,blk g6 _ 46] _
  refine J.b O<|J.c hK1<|J.O 0 1 2 6 ?_
  refine J.j λK2 hK2=>J.V<|J.g λK3 hK3=>J.b O<|J.f ((qA6 underlying36 O O O).as (v':= .bool false) O) O<|J.b O<|J.c hK3<|J.a0 0 1 2 6 11 ?_
  refine J.a5 ?_
  refine J.g λK4 hK4=>J.p 2 O<|J.k (qAA O O ent164 (Ct.use0 (λF' hF=>qMR F' g seed (Wo.opn seed) (Xm.root seed h) h A (2^h) c (hc.mono (hF F (by simp)))))) rfl λg18 _=>J.f ((qBN rfl rfl rfl).no (by omega)) rfl<|J.b rfl<|J.c hK4<|J.a0 0 1 2 6 15 ?_
  refine J.a5 ?_
  refine J.g λK5 hK5=>J.b O<|J.f ((qAT O O O).no (by omega)) O<|J.b O<|J.c hK5<|J.a0 0 1 2 6 21 ?_
  refine J.a5 ?_
  refine J.b7<|J.a6<|J.A (J.H hK2 ?_)
  refine J.O 0 1 2 6 ?_
  refine J.j λK6 hK6=>J.c1 [F] [] (.y 0 (.y 1 (.y 2 (.y 3 (.y 4 (.y 5 (.y 6 (.y 7 (.y 8 (.y 9 (.y 10 (.y 11 (.e 12 (.e 13 (.y 14 (.y 15 (.y 16 (.y 17 (.y 18 .nil))))))))))))))))))) Tryz.wide (by decide+kernel) (by simp) ?_
  refine J.T ?_
  refine J.q O (qAC O O) O O<|J.q O (qAB (j:=0) O O qF2 O z9_ O) O O<|J.q O (qAJ O O b9_ (m:=F) (by simp) (hc.at (i:=0) rfl)) rfl rfl<|J.T ?_
  refine J.T ?_
  refine J.q O (qAC O O) O O<|J.q O (qAB (j:=1) O O qF2 O qD3 O) O O<|J.q O (qAB (j:=1) O O qH3 O z9_ O) O O<|J.q O (qAJ O O b9_ (m:=F) (by simp) (hc.at (i:=1) rfl)) rfl rfl<|J.T ?_
  refine J.T ?_
  refine J.a9 O (qAA O O ent162 (Ct.use0 (λF' hF=>qGA F' (hK.mono (hF _ (by simp))) (Wo.opn seed) i mg (by rw [Wo.opn_length];decide) (by omega) hm))) rfl (by simp) λg38 _=>J.a9 rfl (qAA rfl rfl ent165 (Ct.use (λF' hF=>qR9 F' (hK.mono (hF _ (by simp))) seed i (Xm.digest (Wo.opn seed) i mg) hs (by omega) hdl))) rfl (by simp) ?_
  rintro⟨A39,c39,m39⟩ h39
  try dsimp only at h39
  change J _ ((39,.tuple #[.slice A39 35 c39,I 0])::_) _ [_,_,m39] _
  refine J.T ?_
  refine J.d9 (.slice A39 35 c39) ?_
  refine J.d9 (I 0) ?_
  refine J.c6 ?_
  refine J.c6 ?_
  refine J.b9<|J.A (J.H hK6 ?_)
  refine J.a0 0 1 6 8 9 ?_
  refine J.j λK7 hK7=>J.g λK8 hK8=>J.b O<|J.f ((qAb O O O).no (by decide)) O<|J.c hK8<|J.b8 0 1 6 8 9 43 ?_
  refine J.a5 ?_
  refine J.W hK7<|J.O 0 1 6 8 ?_
  refine J.g λK9 hK9=>J.b O<|J.f (qAC O O) O<|J.a3 4 qF2 qBf O O O O O<|J.f (qAJ O O qBo (m:=F) (by simp) (hc.at (i:=4) rfl)) rfl<|J.b rfl<|J.k (qAA rfl rfl ent166 (Ct.use (λF' hF=>qSZ F' (hK.mono (hF _ (by simp))) A (2^h) c (Xm.leaves seed (2^h)) (hsl.mono (hF F (by simp))) h h6 rfl (Xm.leaves_small _ _) i hi))) rfl ?_
  rintro⟨A52,c52,m52⟩ h52
  try dsimp only at h52
  change J _ ((52,.tuple #[.slice A52 h c52,I 0])::_) _ [_,_,_,m52] _
  refine J.p 5 O<|J.c hK9<|J.a0 1 6 8 9 10 ?_
  refine J.g λK10 hK10=>J.p 3 O<|J.f (qAM (l:= [(0,.tmp 55),(1,.tmp 56),(2,.tmp 57)]) (places:= [(0,1),(1,1),(2,1)]) (r:= [I i,.slice A39 35 c39,.slice A52 h c52]) O O O qH2 zeroValue46 (λ_=>by kernel_rfl) O) O<|J.b O<|J.b0 (qAI (l:= [I 0,.slice none 0 0,.slice none 0 0]) (i:=1) (vs:= [I i,.slice A39 35 c39,.slice A52 h c52]) O O O O O qMG O O) O O λ_ _=>?_
  change J _ _ _ [_,blk g6 [I i,.slice A39 35 c39,.slice A52 h c52] 46,_,_] _
  refine J.b O<|J.c hK10<|J.E 6 7 ?_
  exact J.D<|J.b2 hw0 (λ_ _ h=>h) (rv2 O (RV.blkA 1 O O isAgg46 qMG) O) (qAn ((A39,c39,m39),(A52,c52,m52)) O ⟨h39,h52⟩ [0,2,3] O (by decide))
theorem Wo.publicOf_length(o:List UInt8)(leaf:Nat)(e:List (List UInt8)):(Wo.publicOf o leaf e).length=16:=by unfold Wo.publicOf;exact Sha.tagged_length _ _
theorem qLV(F:Hp)(hK:KF F)(o r:List UInt8)(h:Nat)(mg:List UInt8)(i:Nat)(A1:Option Addr)(c1:Nat)(ch:List (List UInt8))(hch:Sl F 1 A1 35 c1 (qAG ch))(hsg: ∀s∈ch,s.length=16)(A2:Option Addr)(c2:Nat)(pt:List (List UInt8))(hpt:Sl F 1 A2 h c2 (qAG pt))(hps: ∀s∈pt,s.length≤1048576)
    (ho:o.length≤1048576) (hm:mg.length≤1048576) (h6:h≤6) (hi:i<2^h):
    Ct prog 104 [.agg #[Str o,Str r,I h],Str mg,.agg #[I i,.slice A1 35 c1,.slice A2 h c2]] [F] (λ_:Unit=> .bool (decide (Mk.climb (Wo.publicOf o i (Wo.ends o i (Wo.digs (Xm.digest o i mg)) ch 35)) i pt=r))) (λ_=>True) (λ_=> [F]):=by
  have hp64:=Xm.pow_le h h6
  have hdl:=Xm.digest_length o i mg
  refine Ct.walk func104 rfl ntmps104 rfl (λw0 hw0=>?_)
  change J _ [(0,_),(1,_),(2,_)] _ _ _
  refine J.g λK1 hK1=>J.k (qAi O O (l:= [Str o,Str r,I h]) O) O λg3 _=>?_
  change J _ _ _ [F,blk g3 [Str o,Str r,I h] 32] _
  refine J.k (qAi O O (l:= [I i,.slice A1 35 c1,.slice A2 h c2]) O) O λg5 _=>?_
  change J _ _ _ [_,_,blk g5 [I i,.slice A1 35 c1,.slice A2 h c2] 46] _
  refine J.b O<|J.c hK1<|J.G 1 3 5 ?_
  refine J.j λK2 hK2=>J.j λK3 hK3=>J.c1 [F,blk g3 [Str o,Str r,I h] 32,blk g5 [I i,.slice A1 35 c1,.slice A2 h c2] 46] [] (.y 0 (.y 1 (.y 2 (.y 3 (.y 4 (.y 5 (.y 6 (.y 7 (.y 8 (.y 9 (.y 10 (.y 11 (.y 12 (.y 13 (.y 14 (.y 15 (.y 16 (.y 17 (.y 18 (.y 19 (.y 20 (.y 21 (.y 22 (.y 23 (.y 24 (.y 25 (.y 26 (.y 27 (.y 28 .nil))))))))))))))))))))))))))))) Tryz.wide (by decide+kernel) (by simp) ?_
  refine J.q O (qAB (j:=2) O O qH3 O z3_ O) O O<|J.q O (qAE 1 O O O b3_ O) O O<|J.q O ((qAT O O O).no (by omega)) O O<|J.T ?_
  refine J.c0 O (qAB (j:=2) O O qH3 O z3_ O) O O<|J.c0 O (qAE 1 O O O b3_ O) O O<|J.c0 O ((qAz O O O).no (by omega)) O O<|J.f0 ?_
  refine J.T ?_
  refine J.c0 O (qAB (j:=0) O O qH2 O z3_ O) O O<|J.c0 O (qAE 2 O O O b3_ O) O O<|J.c0 O ((qAT O O O).no (by omega)) O O<|J.f0 ?_
  refine J.T ?_
  refine J.c0 O (qAB (j:=0) O O qH2 O z3_ O) O O<|J.c0 O (qAE 2 O O O b3_ O) O O<|J.c0 O (qAB (j:=2) O O qH3 O z3_ O) O O<|J.c0 O (qAE 1 O O O b3_ O) O O<|J.c0 O ((qHJ (a:=1) (m:=h) O O O ⟨by omega,by have:=Int.pow_pos (n:=2) (m:=h) (by decide);omega,by rw [Int.one_mul];exact Int.ofNat_le.2 (show 2^h≤9223372036854775807 by omega)⟩).as (v':=I ((2^h:Nat):Int)) (congrArg I (by simp))) rfl rfl<|J.c0 rfl ((qBN rfl rfl rfl).no (by omega)) rfl rfl<|J.f0 ?_
  refine J.T ?_
  refine J.c0 O (qAB (j:=2) O O qH2 O qBf O) O O<|J.c0 O (qAE 2 O O O qBo O) O O<|J.c0 O (qAP qAe O O) O O<|J.c0 O (qAB (j:=2) O O qH3 O z3_ O) O O<|J.c0 O (qAE 1 O O O b3_ O) O O<|J.c0 O ((qAb O O O).no (λh=>h O)) O O<|J.f0 ?_
  refine J.b9<|J.A (J.H hK3 ?_)
  refine J.O 1 3 5 37 ?_
  refine J.a5 ?_
  refine J.W hK2<|J.G 1 3 5 ?_
  refine J.j λK4 hK4=>J.c1 [F,blk g3 [Str o,Str r,I h] 32,blk g5 [I i,.slice A1 35 c1,.slice A2 h c2] 46] [] (.y 0 (.y 1 (.y 2 (.y 3 (.y 4 (.y 5 (.y 6 (.y 7 (.y 8 (.y 10 (.y 11 (.e 9 (.e 12 (.y 13 (.y 14 (.y 15 (.y 16 (.y 17 .nil)))))))))))))))))) Tryz.wide (by decide+kernel) (by simp) ?_
  refine J.q O (qAB (j:=0) O O qH3 O z9_ O) O O<|J.q O (qAE 1 O O O b9_ O) O O<|J.q O (qAB (j:=0) O O qH2 O z3_ O) O O<|J.q O (qAE 2 O O O b3_ O) O O<|J.q O (qAB (j:=0) O O qH3 O z9_ O) O O<|J.q O (qAE 1 O O O b9_ O) O O<|J.q O (qAB (j:=0) O O qH2 O z3_ O) O O<|J.q O (qAE 2 O O O b3_ O) O O<|J.T ?_
  refine J.q O (qAB (j:=1) O O qH2 O qBf O) O O<|J.q O (qAE 2 O O O qBo O) O O<|J.a9 O (qAA O O ent162 (Ct.use0 (λF' hF=>qGA F' (hK.mono (hF _ (by simp))) o i mg ho (by omega) hm))) rfl (by simp) λg48 _=>J.a9 rfl (qAA rfl rfl ent161 (Ct.use0 (λF' hF=>qLi F' (hK.mono (hF _ (by simp))) o i (Xm.digest o i mg) A1 c1 ch (hch.mono (hF F (by simp))) ho (by omega) hdl hsg))) rfl (by simp) λg51 _=>J.T ?_
  refine J.d9 (Str (Wo.publicOf o i (Wo.ends o i (Wo.digs (Xm.digest o i mg)) ch 35))) ?_
  refine J.d9 (I 0) ?_
  refine J.c6 ?_
  refine J.c6 ?_
  refine J.b9<|J.A (J.H hK4 ?_)
  refine J.O 3 5 7 8 ?_
  refine J.j λK5 hK5=>J.c1 [F,blk g3 [Str o,Str r,I h] 32,blk g5 [I i,.slice A1 35 c1,.slice A2 h c2] 46] [] (.y 0 (.y 1 (.y 2 (.y 3 (.y 4 (.y 5 (.y 6 (.y 7 (.y 9 (.y 10 (.e 8 (.y 11 (.y 12 (.y 13 .nil)))))))))))))) Tryz.wide (by decide+kernel) (by simp) ?_
  refine J.T ?_
  refine J.q O ((qAY O O O).yes (by decide)) O O<|J.T ?_
  refine J.c0 O (qAx O O) O O<|J.c0 O (qAB (j:=0) O O qH2 O z3_ O) O O<|J.c0 O (qAE 2 O O O b3_ O) O O<|J.c0 O (qAB (j:=2) O O qH2 O qBf O) O O<|J.c0 O (qAE 2 O O O qBo O) O O<|J.c0 O (qAB (j:=1) O O qH3 O z9_ O) O O<|J.c0 O (qAE 1 O O O b9_ O) O O<|J.e6 O (qAA O O ent163 (Ct.use0 (λF' hF=>qQp F' (hK.mono (hF _ (by simp))) (Wo.publicOf o i (Wo.ends o i (Wo.digs (Xm.digest o i mg)) ch 35)) i A2 h c2 pt (hpt.mono (hF F (by simp))) (by rw [Wo.publicOf_length];decide) hps (by omega) (by omega)))) (Wan.is rfl rfl rfl rfl rfl) rfl rfl (by simp) ?_
  intro g62 _
  refine J.c0 O (qBQ O O O) O O<|J.d8 ?_
  refine J.c6 ?_
  refine J.b9<|J.A (J.H hK5 ?_)
  refine J.u 6 ?_
  exact J.D<|J.M hw0 O () O trivial [0] O (by decide)
end Go.Proofs.YtllnfioplpipiaaGreatDoor
namespace Go.Proofs.YtllnfioplpipiaaGreatDoor
open Go Go.Fw Go.Proofs.Tryz
set_option maxRecDepth 100000
set_option maxHeartbeats 1000000
def sgB(i:Nat)(ch pt:List (List UInt8)):List UInt8:= [UInt8.ofNat i]++ch.flatten++ [UInt8.ofNat pt.length]++pt.flatten
theorem qRT: ∀k,k<256→Sha.numB (UInt64.ofNat k) 1= [UInt8.ofNat k]:=by decide+kernel
theorem qQC: ∀k,k<256→okN (UInt64.ofNat k) 1=true:=by decide+kernel
theorem qIq{l:List (List UInt8)}{k:Nat}(h:k<l.length):(l.take (k+1)).flatten=(l.take k).flatten++l.getD k []:=by
 rw [List.take_succ_eq_append_getElem h,List.flatten_append,List.flatten_cons,List.flatten_nil,List.append_nil,List.getD_eq_getElem?_getD,List.getElem?_eq_getElem h];rfl
theorem qEZ{l:List (List UInt8)}(h: ∀s∈l,s.length=16):l.flatten.length=16*l.length:=by
 induction l with
 |nil=>rfl
 |cons a l ih=>
  rw [List.flatten_cons,List.length_append,ih (λs hs=>h s (.tail _ hs)),h a (.head _),List.length_cons];omega
theorem qGc{l:List (List UInt8)}(h: ∀s∈l,s.length=16){k:Nat}(hk:k<l.length):(l.getD k []).length=16:=by
 rw [List.getD_eq_getElem?_getD,List.getElem?_eq_getElem hk]
 exact h _ (List.getElem_mem hk)
theorem qKX{l:List (List UInt8)}(h: ∀s∈l,s.length=16)(k:Nat):(l.take k).flatten.length≤16*l.length:=by
 rw [qEZ (λs hs=>h s (List.mem_of_mem_take hs)),List.length_take];omega
theorem qLh(F:Hp)(i:Nat)(A1:Option Addr)(c1:Nat)(ch:List (List UInt8))(hch:Sl F 1 A1 35 c1 (qAG ch))(A2:Option Addr)(n2 c2:Nat)(pt:List (List UInt8))(hpt:Sl F 1 A2 n2 c2 (qAG pt))
    (hi:i≤63) (hn:n2≤6) (hc16: ∀s∈ch,s.length=16) (hp16: ∀s∈pt,s.length=16):
    Ct prog 106 [.agg #[I i,.slice A1 35 c1,.slice A2 n2 c2]] [F] (λ_:Unit=> .tuple #[Str (sgB i ch pt),I 0]) (λ_=>True) (λ_=> [F]):=by
  have hl1:ch.length=35:=by have:=hch.1;simpa [qAG] using this
  have hl2:pt.length=n2:=by have:=hpt.1;simpa [qAG] using this
  refine Ct.walk func106 rfl ntmps106 rfl (λw0 hw0=>?_)
  change J _ [(0,_)] _ _ _
  refine J.g λK1 hK1=>J.k (qAi O O (l:= [I i,.slice A1 35 c1,.slice A2 n2 c2]) O) O λg1 _=>?_
  change J _ _ _ [F,blk g1 [I i,.slice A1 35 c1,.slice A2 n2 c2] 46] _
  refine J.p 2 O<|J.c hK1<|J.u 1 ?_
  refine J.j λK2 hK2=>J.g λK3 hK3=>J.a3 0 qH2 z3_ O O O O O<|J.c7 1 b3_ O O O O O<|J.f ((qAT O O O).no (by omega)) O<|J.b O<|J.Z (qAB (j:=0) O O qH2 O z3_ O) O<|J.Z (qAE 1 O O O b3_ O) O<|J.Z ((qAz O O O).no (by omega)) O<|J.p 2 O<|J.Z (qAB (j:=1) O O qH2 O qBf O) O<|J.Z (qAE 1 O O O qBo O) O<|J.Z (qAP qAe O O) O<|J.Z ((qAb O O O).no (by omega)) O<|J.p 2 O<|J.Z (qAB (j:=2) O O qH2 O qBf O) O<|J.Z (qAE 1 O O O qBo O) O<|J.Z (qAP qAe O O) O<|J.Z ((qAz O O O).no (by omega)) O<|J.b O<|J.c hK3<|J.E 1 28 ?_
  refine J.a5 ?_
  refine J.W hK2<|J.u 1 ?_
  refine J.g λK4 hK4=>J.k (qAN O qJ8 O) O λg4 _=>?_
  change J _ _ _ [_,_,blk g4 _ 133] _
  refine J.c hK4<|J.E 1 4 ?_
  refine J.g λK5 hK5=>J.a3 0 qH2 z3_ O O O O O<|J.c7 1 b3_ O O O O O<|J.f ((qAs O O u3_ qEi (m:=i) (by omega))) O<|J.k (qAA O O ent108 (Ct.use1 2 (m':=λx:Hp=>x) (new:=λ_=> []) O (λF' _=>qDu F' (blk g4 [.pointer none,.slice none 0 0,I 0] 133) g4 [] 0 (qGq g4) (by decide) (UInt64.ofNat i) 1 (by omega) (by omega)))) O ?_
  rintro m32 hw32
  change J _ _ _ [_,_,m32] _
  rw [qQC i (by omega),qB8,qCx (qQC i (by omega)),qRT i (by omega),List.nil_append] at hw32
  refine J.c hK5<|J.E 1 4 ?_
  refine J.j λK6 hK6=>J.g λK7 hK7=>J.a3 1 qH2 qBf O O O O O<|J.c7 1 qBo O O O O O<|J.f (qAP qAe O O) O<|J.b O<|J.c hK7<|J.a0 1 4 34 35 36 ?_
  refine J.V<|J.b6 (X:=Nat×Hp) (λx=> [(1,Ptr g1),(4,Ptr g4),(34,.slice A1 35 c1),(35,I 35),(36,I x.1)]) (λx=> [F,blk g1 [I i,.slice A1 35 c1,.slice A2 n2 c2] 46,x.2]) (λx=>x.1≤35∧Wtr x.2 g4 ([UInt8.ofNat i]++(ch.take x.1).flatten) 0) (λx=>35-x.1) (0,m32) (⟨Nat.zero_le _,by rw [List.take_zero,List.flatten_nil,List.append_nil];exact hw32⟩) ⟨rfl,rfl,rfl,rfl,rfl,trivial⟩ (λ_ h=>h) ?_
  rintro⟨k,m⟩ ⟨hk,hw⟩ I0 hI0
  dsimp only at hk hw⊢
  refine J.g λK8 hK8=>J.f (qAT O O O) O<|J.c hK8<|J.b8 1 4 34 35 36 37 ?_
  refine J.j λK9 hK9=>J.a2 O (λh37=>?_) (λh37=>?_)
  ·
    refine J.W hK9<|J.a0 1 4 34 35 36 ?_
    refine J.j λK10 hK10=>J.V<|J.g λK11 hK11=>J.f (qAH (i:=k) O O O qAe z9_ hch (by omega)) O<|J.f (qAJ O O b9_ (m:=F) (by simp) (hch.elem (qAQ (qAc [] (show k<ch.length by omega))))) rfl<|J.b rfl<|J.c hK11<|J.b8 1 4 6 34 35 36 ?_
    have hg16:=qGc hc16 (show k<ch.length by omega)
    refine J.L<|J.b O<|J.k (qAA O O ent53 (Ct.use1 2 (m':=λx:Hp=>x) (new:=λ_=> []) O (λF' _=>qCk F' m g4 ([UInt8.ofNat i]++(ch.take k).flatten) 0 hw (by have:=qKX hc16 k;have:=qKX hp16 k;have h3:=qEZ hc16;simp only [List.length_append,List.length_singleton];omega) (ch.getD k []) (by omega) 16))) rfl ?_
    rintro m41 hw41
    change J _ _ _ [F,blk g1 [I i,.slice A1 35 c1,.slice A2 n2 c2] 46,m41] _
    rw [qFA (qGc hc16 (by omega)),qJo (qGc hc16 (by omega)),qB8,List.append_assoc,←qIq (by omega)] at hw41
    refine J.a7<|J.a6<|J.A (J.H hK10 ?_)
    refine J.a0 1 4 34 35 36 ?_
    exact J.L<|J.f ((qAO O O O (by omega)).nat (k+1) (by omega)) O<|J.b O<|J.a7<|J.A<|J.a8 (k+1,m41) (λx (hx:_∧35-x.1<35-k)=>hI0 x hx.1 hx.2) ⟨⟨by dsimp only;omega,hw41⟩,by dsimp only;omega⟩ ⟨O,O,O,O,O,trivial⟩ (λ_ h=>h)
  refine J.b4<|J.a1<|J.a1<|J.b5 ?_
  refine J.A (J.H hK6 ?_)
  refine J.E 1 4 ?_
  refine J.j λK12 hK12=>?_
  rw [List.take_of_length_le (by omega)] at hw
  refine J.L<|J.a3 2 qH2 qBf O O O O O<|J.c7 1 qBo O O O O O<|J.f (qAP qAe O O) O<|J.f ((qAs O O u3_ qEi (m:=n2) (by omega))) O<|J.k (qAA O O ent108 (Ct.use1 2 (m':=λx:Hp=>x) (new:=λ_=> []) O (λF' _=>qDu F' m g4 ([UInt8.ofNat i]++ch.flatten) 0 hw (by have h3:=qEZ hc16;simp only [List.length_append,List.length_singleton];omega) (UInt64.ofNat n2) 1 (by omega) (by omega)))) rfl ?_
  rintro m47 hw47
  change J _ _ _ [F,blk g1 [I i,.slice A1 35 c1,.slice A2 n2 c2] 46,m47] _
  rw [qQC n2 (by omega),qB8,qCx (qQC n2 (by omega)),qRT n2 (by omega)] at hw47
  refine J.c hK12<|J.E 1 4 ?_
  refine J.j λK13 hK13=>J.g λK14 hK14=>J.a3 2 qH2 qBf O O O O O<|J.c7 1 qBo O O O O O<|J.f (qAP qAe O O) O<|J.b O<|J.c hK14<|J.O 4 49 50 51 ?_
  refine J.V<|J.b6 (X:=Nat×Hp) (λx=> [(4,Ptr g4),(49,.slice A2 n2 c2),(50,I n2),(51,I x.1)]) (λx=> [F,blk g1 [I i,.slice A1 35 c1,.slice A2 n2 c2] 46,x.2]) (λx=>x.1≤n2∧Wtr x.2 g4 (([UInt8.ofNat i]++ch.flatten++ [UInt8.ofNat pt.length])++(pt.take x.1).flatten) 0) (λx=>n2-x.1) (0,m47) (⟨Nat.zero_le _,by rw [List.take_zero,List.flatten_nil,List.append_nil,hl2];exact hw47⟩) ⟨rfl,rfl,rfl,rfl,trivial⟩ (λ_ h=>h) ?_
  rintro⟨k,mp⟩ ⟨hk,hw2⟩ I2 hI2
  dsimp only at hk hw2⊢
  refine J.g λK15 hK15=>J.f (qAT O O O) O<|J.c hK15<|J.a0 4 49 50 51 52 ?_
  refine J.j λK16 hK16=>J.a2 O (λh52=>?_) (λh52=>?_)
  ·
    refine J.W hK16<|J.O 4 49 50 51 ?_
    refine J.j λK17 hK17=>J.V<|J.g λK18 hK18=>J.f (qAH (i:=k) O O O qAe z9_ hpt (by omega)) O<|J.f (qAJ O O b9_ (m:=F) (by simp) (hpt.elem (qAQ (qAc [] (show k<pt.length by omega))))) rfl<|J.b rfl<|J.c hK18<|J.a0 4 8 49 50 51 ?_
    have hg16:=qGc hp16 (show k<pt.length by omega)
    refine J.L<|J.b O<|J.k (qAA O O ent53 (Ct.use1 2 (m':=λx:Hp=>x) (new:=λ_=> []) O (λF' _=>qCk F' mp g4 (([UInt8.ofNat i]++ch.flatten++ [UInt8.ofNat pt.length])++(pt.take k).flatten) 0 hw2 (by have:=qKX hc16 k;have:=qKX hp16 k;have h3:=qEZ hc16;simp only [List.length_append,List.length_singleton];omega) (pt.getD k []) (by omega) 16))) rfl ?_
    rintro m56 hw56
    change J _ _ _ [F,blk g1 [I i,.slice A1 35 c1,.slice A2 n2 c2] 46,m56] _
    rw [qFA (qGc hp16 (by omega)),qJo (qGc hp16 (by omega)),qB8,List.append_assoc,←qIq (by omega)] at hw56
    refine J.a7<|J.a6<|J.A (J.H hK17 ?_)
    refine J.O 4 49 50 51 ?_
    exact J.L<|J.f ((qAO O O O (by omega)).nat (k+1) (by omega)) O<|J.b O<|J.a7<|J.A<|J.a8 (k+1,m56) (λx (hx:_∧n2-x.1<n2-k)=>hI2 x hx.1 hx.2) ⟨⟨by dsimp only;omega,hw56⟩,by dsimp only;omega⟩ ⟨O,O,O,O,trivial⟩ (λ_ h=>h)
  refine J.b4<|J.a1<|J.a1<|J.b5 ?_
  refine J.A (J.H hK13 ?_)
  refine J.u 4 ?_
  refine J.j λK19 hK19=>?_
  rw [List.take_of_length_le (by omega)] at hw2
  refine J.L<|J.k (qAA O O ent54 (Ct.use1 2 (m':=λx:Hp=>x) (new:=λ_=> []) O (λF' _=>qDK F' mp g4 (sgB i ch pt) 0 hw2 (by unfold sgB;have h3:=qEZ hc16;have h4:=qEZ hp16;simp only [List.length_append,List.length_singleton];omega)))) rfl ?_
  rintro m58 hw58
  change J _ _ _ [F,blk g1 [I i,.slice A1 35 c1,.slice A2 n2 c2] 46,m58] _
  refine J.p 4 O<|J.c hK19<|J.E 2 3 ?_
  exact J.D<|J.b2 hw0 (λ_ _ h=>h) (qB2 O O O) (qAn () O trivial [0] O (by decide))
def RS.tk(st:RS)(n:Nat):Nat→RS
 |0=>st
 |k+1=>(st.tk n k).take n
def RS.os(st:RS)(n:Nat):Nat→List (List UInt8)
 |0=> []
 |k+1=>st.os n k++ [(st.tk n k).out n]
def ck(s:List UInt8)(n k:Nat):List (List UInt8):=(List.range k).map λj=>(s.drop (n*j)).take n
def dA(s:List UInt8):RS:=((⟨s,0⟩:RS).take 1).tk 16 35
theorem ck_16{s:List UInt8}{k:Nat}(h:16*k≤s.length): ∀x∈ck s 16 k,x.length=16:=λx hx=>by
 simp only [ck,List.mem_map,List.mem_range] at hx
 obtain ⟨j,hj,rfl⟩:=hx
 rw [List.length_take,List.length_drop];omega
theorem qG8{i:Nat}{ch pt:List (List UInt8)}(hc: ∀s∈ch,s.length=16)(hp: ∀s∈pt,s.length=16)(h1:ch.length=35):(sgB i ch pt).length=562+16*pt.length:=by
 unfold sgB
 simp only [List.length_append,List.length_singleton,qEZ hc,qEZ hp,h1]
theorem Mk.lvl_16(l:List (List UInt8))(hs: ∀s∈l,s.length=16): ∀j,∀s∈Mk.lvl l j,s.length=16
 |0,s,h=>hs s h
 |j+1,s,h=>by
  simp only [Mk.lvl,Mk.above,List.mem_map] at h
  obtain ⟨k,_,rfl⟩:=h
  exact Mk.node_length _ _
theorem Mk.path_16(l:List (List UInt8))(i h:Nat)(hs: ∀s∈l,s.length=16)(hl:l.length=2^h)(hi:i<2^h): ∀s∈Mk.path l i h,s.length=16:=λs hp=>by
 unfold Mk.path at hp
 simp only [List.mem_map,List.mem_range] at hp
 obtain ⟨j,hj,rfl⟩:=hp
 refine Mk.lvl_16 l hs j _ (Mk.getS_mem ?_)
 rw [Mk.lvl_length l h hl j (by omega),show h-j=(h-1-j)+1 by omega,Nat.pow_succ,Nat.mul_comm]
 refine Mk.xor_one _ _ ?_
 rw [Nat.div_lt_iff_lt_mul (Nat.two_pow_pos j),Nat.mul_assoc,←Nat.pow_add,Nat.mul_comm,←Nat.pow_succ,show(h-1-j+j).succ=h by omega]
 exact hi
theorem Xm.leaves_16(seed:List UInt8)(k:Nat): ∀s∈Xm.leaves seed k,s.length=16:=λs hs=>by
 simp only [Xm.leaves,List.mem_map] at hs
 obtain ⟨i,_,rfl⟩:=hs
 exact Xm.pub_length _ _
theorem Mk.root_16(seed:List UInt8)(h:Nat):(Xm.root seed h).length=16:=by
 unfold Xm.root Mk.root
 exact Mk.lvl_16 _ (Xm.leaves_16 _ _) h _ (Mk.getS_mem (by rw [Mk.lvl_length _ h (Xm.leaves_length _ _) h (Nat.le_refl _),Nat.sub_self];decide))
theorem Wo.signs_len(seed:List UInt8)(i:Nat)(d:List Nat):(Wo.signs seed i d 35).length=35:=by simp [Wo.signs]
def qRm(m:Hp)(g:Nat)(seed:List UInt8)(h:Nat):Prop:= ∃A c,qAL m ⟨g,0,none⟩ (qA0 seed (Wo.opn seed) (Xm.root seed h) h A (2^h) c)∧Sl m 1 A (2^h) c (qAG (Xm.leaves seed (2^h)))
theorem qRm.mono{m m':Hp}{g:Nat}{seed:List UInt8}{h:Nat}(hk:qRm m g seed h)(hl:Le m m'):qRm m' g seed h:=by
 obtain ⟨A,c,h1,h2⟩:=hk
 exact⟨A,c,h1.mono hl,h2.mono hl⟩
def sgC(seed:List UInt8)(i:Nat)(mg:List UInt8):List (List UInt8):=Wo.signs seed i (Wo.digs (Xm.digest (Wo.opn seed) i mg)) 35
def sgP(seed:List UInt8)(h i:Nat):List (List UInt8):=Mk.path (Xm.leaves seed (2^h)) i h
theorem qG7(seed:List UInt8)(i:Nat)(mg:List UInt8):(sgC seed i mg).length=35:=Wo.signs_len _ _ _
theorem qMv(seed:List UInt8)(i:Nat)(mg:List UInt8): ∀s∈sgC seed i mg,s.length=16:=Wo.signs_16 _ _ _ _
theorem qFH(seed:List UInt8)(h i:Nat):(sgP seed h i).length=h:=Mk.path_length _ _ _
theorem qMt(seed:List UInt8){h i:Nat}(hi:i<2^h): ∀s∈sgP seed h i,s.length=16:=Mk.path_16 _ _ _ (Xm.leaves_16 _ _) (Xm.leaves_length _ _) hi
theorem qKL(F:Hp)(hK:KF F)(seed:List UInt8)(h:Nat)(hs:seed.length≤1048576)(h6:h≤6):
    Ct prog 9 [Str seed,I ((h:Nat):Int)] [F] (λx:Nat×Hp=> .tuple #[Ptr x.1,I 0]) (λx=>qRm x.2 x.1 seed h) (λx=> [F,x.2]):=λw0 w hw=>
  (qRq F hK seed h hs h6 w0 w hw).mono λe w' ⟨x,he,hx,hs'⟩=>⟨x,he,hx.see,hs'.pick [1,0] (by decide)⟩
theorem qMQ(F:Hp)(hK:KF F)(g:Nat)(seed:List UInt8)(h:Nat)(hk:qRm F g seed h)(hs:seed.length≤1048576)(h6:h≤6)(i:Nat)(hi:i<2^h)(mg:List UInt8)(hm:mg.length≤1048576):
    Ct prog 107 [Ptr g,I ((i:Nat):Int),Str mg] [F] (λx:(Option Addr×Nat×Hp)×(Option Addr×Nat×Hp)=> .tuple #[.agg #[I ((i:Nat):Int),.slice x.1.1 (sgC seed i mg).length x.1.2.1,.slice x.2.1 (sgP seed h i).length x.2.2.1],I 0])
      (λx=>Row x.1.2.2 9 1 x.1.1 (sgC seed i mg).length x.1.2.1 (qAG (sgC seed i mg))∧Row x.2.2.2 9 1 x.2.1 (sgP seed h i).length x.2.2.1 (qAG (sgP seed h i))) (λx=> [F,x.1.2.2,x.2.2.2]):=by
  obtain ⟨A,c,h1,h2⟩:=hk
  rw [qG7,qFH]
  exact qO6 F hK g seed h A c h1 h2 hs h6 mg hm i hi
theorem qO7(F:Hp)(g:Nat)(seed:List UInt8)(h:Nat)(hk:qRm F g seed h):Ct prog 45 [Ptr g] [F] (λ_:Unit=> .agg #[Str (Wo.opn seed),Str (Xm.root seed h),I ((h:Nat):Int)]) (λ_=>True) (λ_=> [F]):=by
 obtain ⟨A,c,h1,h2⟩:=hk
 exact qLW F g seed (Wo.opn seed) (Xm.root seed h) h A (2^h) c h1
theorem qJ9(seed:List UInt8)(h i:Nat)(hi:i<2^h):Mk.climb (Wo.pub seed i) i (sgP seed h i)=Xm.root seed h:=by
 have:=Mk.climb_root (Xm.leaves seed (2^h)) h i (Xm.leaves_length _ _) hi
 rw [Xm.leaves_get seed _ i hi] at this
 exact this
theorem qGp(F:Hp)(hK:KF F)(seed:List UInt8)(h i:Nat)(mg:List UInt8)(A1:Option Addr)(n1 c1:Nat)(hch:Sl F 1 A1 n1 c1 (qAG (sgC seed i mg)))(A2:Option Addr)(n2 c2:Nat)(hpt:Sl F 1 A2 n2 c2 (qAG (sgP seed h i)))(hm:mg.length≤1048576)(h6:h≤6)(hi:i<2^h):
    Ct prog 104 [.agg #[Str (Wo.opn seed),Str (Xm.root seed h),I ((h:Nat):Int)],Str mg,.agg #[I ((i:Nat):Int),.slice A1 n1 c1,.slice A2 n2 c2]] [F] (λ_:Unit=> .bool true) (λ_=>True) (λ_=> [F]):=by
  have e1:(sgC seed i mg).length=n1:=by have:=hch.1;simpa [qAG] using this
  have e2:(sgP seed h i).length=n2:=by have:=hpt.1;simpa [qAG] using this
  rw [qG7] at e1
  rw [qFH] at e2
  subst e1
  subst e2
  have:=qLV F hK (Wo.opn seed) (Xm.root seed h) h mg i A1 c1 (sgC seed i mg) hch (qMv _ _ _) A2 c2 (sgP seed h i) hpt (λs hs=>by rw [qMt seed hi s hs];decide) (by rw [Wo.opn_length];decide) hm h6 hi
  have e:Wo.publicOf (Wo.opn seed) i (Wo.ends (Wo.opn seed) i (Wo.digs (Xm.digest (Wo.opn seed) i mg)) (sgC seed i mg) 35)=Wo.pub seed i:=Wo.recPub seed i _ (by rw [Xm.digest_length];decide)
  rw [e,qJ9 seed h i hi,decide_eq_true rfl] at this
  exact this
theorem ent105:qAD prog 105:=qAD.of func105 rfl (by kernel_rfl)
theorem ent107:qAD prog 107:=qAD.of func107 rfl (by kernel_rfl)
attribute [local irreducible] Sha.tagged Wo.pub Wo.publicOf Wo.signs Wo.ends Wo.digs Wo.walk Wo.opn Mk.root Mk.path Mk.climb Xm.root sgC sgP qA3 qBS
theorem qEx(F:Hp)(v:Nat)(o r:List UInt8)(h:Int)(p:List UInt8)(hv:v<18446744073709551616)(ho:o.length≤1048576)(hr:r.length≤1048576)(hp:p.length≤1048576):Ct prog 76 [.agg #[N64 (v),Str (o),Str (r),I (h),Str (p)]] [F] (λ_:Unit=> .tuple #[Str (qA3 v o r h p),I (qBS v o r h p)]) (λ_=>True) (λ_=> [F]):=qGf F v o r h p hv ho hr hp
def qED(s:List UInt8)(v:Nat)(o r:List UInt8)(h:Int)(p:List UInt8):List UInt8:=Sha.tagged 13 [s,qA3 v o r h p]
theorem qKm(s:List UInt8)(v:Nat)(o r:List UInt8)(h:Int)(p:List UInt8):(qED s v o r h p).length=16:=Sha.tagged_length _ _
theorem qHE(F:Hp)(hK:KF F)(s:List UInt8)(hsl:s.length≤1000000)(v:Nat)(o r:List UInt8)(h:Int)(p:List UInt8)(hE:qBS v o r h p=0):Ct prog 105 [Str (s),.agg #[N64 (v),Str (o),Str (r),I (h),Str (p)]] [F] (λ_:Unit=>Str (qED (s) (v) (o) (r) (h) (p))) (λ_=>True) (λ_=> [F]):=by
 obtain ⟨e1,e2,⟨e3,e4⟩,e5,e6,e7⟩:=qIt hE
 have el:=qBn hE
 refine Ct.walk func105 rfl ntmps105 rfl (λw0 hw0=>?_)
 change J _ [(0,_),(1,_)] _ _ _
 refine J.g λK1 hK1=>J.k (qAi (l:= [N64 (v),Str (o),Str (r),I (h),Str (p)]) O O O) O λg3 _=>?_
 change J _ _ _ [F,blk g3 [N64 (v),Str (o),Str (r),I (h),Str (p)] 43] _
 refine J.b O<|J.c hK1<|J.E 0 3 ?_
 refine J.g λK2 hK2=>J.c9 1 qFy qCR O O O O O<|J.k (qAA O O ent76 (Ct.use0 (λF' hF=>qEx F' v o r h p (by first|assumption|omega) (by first|assumption|omega) (by first|assumption|omega) (by first|assumption|omega)))) O λg9 _=>J.p 5 O<|J.c hK2<|J.G 0 5 6 ?_
 refine J.j λK3 hK3=>J.g λK4 hK4=>J.b O<|J.f ((qAb O O O).no (by omega)) O<|J.c hK4<|J.G 0 5 13 ?_
 refine J.a5 ?_
 refine J.W hK3<|J.E 0 5 ?_
 refine J.g λK5 hK5=>J.p 2 O<|J.k (qAF (l:= [.tmp 14,.tmp 15]) (xs:= [[Str (s)],[Str (qA3 (v) (o) (r) (h) (p))]]) O O O O qAe el9 O (by decide) (by decide) (by simp)) rfl λg16 _=>?_
 change J _ _ _ [_,_,blk g16 [Str (s),Str (qA3 (v) (o) (r) (h) (p))] 9] _
 refine J.k (qAA O O ent75 (Ct.use0 (λF' hF=>qAv F' (hK.mo hF) 13 (some ⟨g16,0,none⟩) 2 2 ([s,qA3 (v) (o) (r) (h) (p)]) (((qA4 (q:=True) (qAG [s,qA3 (v) (o) (r) (h) (p)]) O (by simp [qAG]) rfl).sl).mono (hF (blk g16 [Str (s),Str (qA3 (v) (o) (r) (h) (p))] 9) (by simp))) (by first|(simp;omega)|(simp;done)|decide) (by omega)))) rfl λg17 _=>J.b rfl<|J.c hK5<|J.u 4 ?_
 exact J.D<|J.M hw0 O () (by unfold qED;rfl) trivial [0] O (by decide)
theorem qPu(F:Hp)(hK:KF F)(g:Nat)(seed:List UInt8)(kh:Nat)(hk:qRm F g seed kh)(hs6:seed.length≤1048576)(h6:kh≤6)(i:Nat)(hi:i<2^kh)(s:List UInt8)(hsl:s.length≤1000000)(v:Nat)(o r:List UInt8)(h:Int)(p:List UInt8)(hE:qBS v o r h p=0):Ct prog 44 [Ptr g,I ((i:Nat):Int),Str s,.agg #[N64 (v),Str (o),Str (r),I (h),Str (p)]] [F] (λx:(Option Addr×Nat×Hp)×(Option Addr×Nat×Hp)=> .tuple #[.agg #[Str s,N64 v,Str o,Str r,I h,Str p,I ((i:Nat):Int),.slice x.1.1 (sgC seed i (qED (s) (v) (o) (r) (h) (p))).length x.1.2.1,.slice x.2.1 (sgP seed kh i).length x.2.2.1],I ((0:Nat):Int)]) (λx=>Row x.1.2.2 9 1 x.1.1 (sgC seed i (qED (s) (v) (o) (r) (h) (p))).length x.1.2.1 (qAG (sgC seed i (qED (s) (v) (o) (r) (h) (p))))∧Row x.2.2.2 9 1 x.2.1 (sgP seed kh i).length x.2.2.1 (qAG (sgP seed kh i))) (λx=> [F,x.1.2.2,x.2.2.2]):=by
 obtain ⟨e1,e2,⟨e3,e4⟩,e5,e6,e7⟩:=qIt hE
 have el:=qBn hE
 have eml:=qKm s v o r h p
 refine Ct.walk func44 rfl ntmps44 rfl (λw0 hw0=>?_)
 change J _ [(0,_),(1,_),(2,_),(3,_)] _ _ _
 refine J.g λK1 hK1=>J.k (qAi (l:= [N64 (v),Str (o),Str (r),I (h),Str (p)]) O O O) O λg7 _=>?_
 change J _ _ _ [F,blk g7 [N64 (v),Str (o),Str (r),I (h),Str (p)] 43] _
 refine J.k (qAN (l:= [Str [],.int .u64 0,Str [],Str [],I 0,Str [],I 0,.slice none 0 0,.slice none 0 0]) O zeroValue48 O) O λg8 _=>?_
 change J _ _ _ [_,_,blk g8 [Str [],.int .u64 0,Str [],Str [],I 0,Str [],I 0,.slice none 0 0,.slice none 0 0] 48] _
 refine J.b O<|J.c hK1<|J.a0 0 1 2 7 8 ?_
 refine J.j λK2 hK2=>J.g λK3 hK3=>J.c9 1 qFy qCR O O O O O<|J.k (qAA O O ent76 (Ct.use0 (λF' hF=>qEx F' v o r h p (by first|assumption|omega) (by first|assumption|omega) (by first|assumption|omega) (by first|assumption|omega)))) O λg16 _=>J.p 5 O<|J.c hK3<|J.b8 0 1 2 7 8 11 ?_
 refine J.g λK4 hK4=>J.b O<|J.f ((qAb O O O).no (by omega)) O<|J.c hK4<|J.c2 0 1 2 7 8 11 20 ?_
 refine J.a5 ?_
 refine J.W hK2<|J.a0 0 1 2 7 8 ?_
 refine J.g λK5 hK5=>J.p 3 O<|J.c9 1 qFy qCR O O O O O<|J.k (qAA O O ent105 (Ct.use0 (λF' hF=>qHE F' (hK.mo hF) s (by first|assumption|omega) v o r h p (by first|assumption|omega)))) O λg28 _=>J.k (qAA O O ent107 (Ct.use (new:=λx:(Option Addr×Nat×Hp)×(Option Addr×Nat×Hp)=> [x.1.2.2,x.2.2.2]) (λF' hF=>qMQ F' (hK.mo hF) g seed kh (hk.mono (hF F (by simp))) (by first|assumption|decide) (by first|assumption|decide) i (by omega) (qED (s) (v) (o) (r) (h) (p)) (by omega)))) rfl ?_
 rintro⟨⟨A29,c29,m29⟩,⟨B29,d29,n29⟩⟩ ⟨h29,k29⟩
 change J _ ((29,.tuple #[.agg #[I ((i:Nat):Int),.slice A29 (sgC seed i (qED (s) (v) (o) (r) (h) (p))).length c29,.slice B29 (sgP seed kh i).length d29],I 0])::_) _ [_,_,_,m29,n29] _
 refine J.p 3 O<|J.k (qAN (l:= [I 0,.slice none 0 0,.slice none 0 0]) O zeroValue46 O) O λg12 _=>?_
 change J _ _ _ [_,_,_,_,_,blk g12 [I 0,.slice none 0 0,.slice none 0 0] 46] _
 refine J.b0 (qAI (i:=5) (l:= [I 0,.slice none 0 0,.slice none 0 0]) (vs:= [I ((i:Nat):Int),.slice A29 ((sgC seed i (qED (s) (v) (o) (r) (h) (p))).length) c29,.slice B29 ((sgP seed kh i).length) d29]) O O O O O qMG O O) O O λ_ _=>?_
 change J _ _ _ [_,_,_,_,_,blk g12 [I ((i:Nat):Int),.slice A29 ((sgC seed i (qED (s) (v) (o) (r) (h) (p))).length) c29,.slice B29 ((sgP seed kh i).length) d29] 46] _
 refine J.b O<|J.c hK5<|J.a0 2 7 8 12 13 ?_
 refine J.j λK6 hK6=>J.g λK7 hK7=>J.b O<|J.f ((qAb O O O).no (by decide)) O<|J.c hK7<|J.b8 2 7 8 12 13 33 ?_
 refine J.a5 ?_
 refine J.W hK6<|J.O 2 7 8 12 ?_
 refine J.g λK8 hK8=>J.b O<|J.c9 1 qFy qCR O O O O O<|J.c9 5 isAgg46 qMG O O O O O<|J.f (qAM (l:= [(0,.tmp 36),(1,.tmp 37),(2,.tmp 38)]) (vs:= [Str (s),.agg #[N64 (v),Str (o),Str (r),I (h),Str (p)],.agg #[I ((i:Nat):Int),.slice A29 ((sgC seed i (qED (s) (v) (o) (r) (h) (p))).length) c29,.slice B29 ((sgP seed kh i).length) d29]]) (places:= [(0,1),(1,5),(6,3)]) (r:= [Str (s),N64 (v),Str (o),Str (r),I (h),Str (p),I ((i:Nat):Int),.slice A29 ((sgC seed i (qED (s) (v) (o) (r) (h) (p))).length) c29,.slice B29 ((sgP seed kh i).length) d29]) O O O qD0 zeroValue48 (λ_=>by kernel_rfl) (by kernel_rfl)) O<|J.b0 (qAI (i:=2) (l:= [Str [],.int .u64 0,Str [],Str [],I 0,Str [],I 0,.slice none 0 0,.slice none 0 0]) (vs:= [Str (s),N64 (v),Str (o),Str (r),I (h),Str (p),I ((i:Nat):Int),.slice A29 ((sgC seed i (qED (s) (v) (o) (r) (h) (p))).length) c29,.slice B29 ((sgP seed kh i).length) d29]) O O O O O qOx O O) O O λ_ _=>?_
 change J _ _ _ [_,_,blk g8 [Str (s),N64 (v),Str (o),Str (r),I (h),Str (p),I ((i:Nat):Int),.slice A29 ((sgC seed i (qED (s) (v) (o) (r) (h) (p))).length) c29,.slice B29 ((sgP seed kh i).length) d29] 48,_,_,_] _
 refine J.b O<|J.c hK8<|J.E 8 9 ?_
 exact J.D<|J.b2 hw0 (λ_ _ h=>h) (rv2 O (RV.blkA 2 O O isAgg48 qOx) O) (qAn ((A29,c29,m29),(B29,d29,n29)) O ⟨h29,k29⟩ [0,3,4] O (by decide))
end Go.Proofs.YtllnfioplpipiaaGreatDoor
namespace Go.Proofs.YtllnfioplpipiaaGreatDoor
open Go Go.Fw Go.Proofs.Tryz
set_option maxRecDepth 100000
set_option maxHeartbeats 1000000
theorem ent106:qAD prog 106:=qAD.of func106 rfl (by kernel_rfl)
attribute [local irreducible] Sha.tagged Wo.pub Wo.publicOf Wo.signs Wo.ends Wo.digs Wo.walk Wo.opn Mk.root Mk.path Mk.climb Xm.root sgC sgP qA3 qBS sgB
theorem qPa(F:Hp)(i:Nat)(A1:Option Addr)(n1 c1:Nat)(ch:List (List UInt8))(hch:Sl F 1 A1 n1 c1 (qAG ch))(A2:Option Addr)(n2 c2:Nat)(pt:List (List UInt8))(hpt:Sl F 1 A2 n2 c2 (qAG pt))(hi:i≤63)(h35:ch.length=35)(hn6:pt.length≤6)(hc16: ∀s∈ch,s.length=16)(hp16: ∀s∈pt,s.length=16):Ct prog 106 [.agg #[I ((i:Nat):Int),.slice A1 n1 c1,.slice A2 n2 c2]] [F] (λ_:Unit=> .tuple #[Str (sgB i ch pt),I ((0:Nat):Int)]) (λ_=>True) (λ_=> [F]):=by
 have e1:ch.length=n1:=by have:=hch.1;simpa [qAG] using this
 have e2:pt.length=n2:=by have:=hpt.1;simpa [qAG] using this
 rw [h35] at e1
 subst e1
 exact qLh F i A1 c1 ch hch A2 n2 c2 pt hpt hi (by omega) hc16 hp16
def u1(s:List UInt8):RS:=(⟨s,0⟩:RS).textR
def u2(s:List UInt8):RS:=(u1 s).textR
def u3(s:List UInt8):RS:=(u2 s).textR
def upB(a b c:List UInt8):List UInt8:=tb a++tb b++tb c
theorem qGv(a b c:List UInt8):(upB a b c).length=6+a.length+b.length+c.length:=by unfold upB;simp only [List.length_append,qER];omega
theorem qIP(F:Hp)(s:List UInt8)(hs4:s.length≤4096)(v:Nat)(o r:List UInt8)(h:Int)(p:List UInt8)(hE:qBS v o r h p=0)(i:Nat)(A1:Option Addr)(n1 c1:Nat)(ch:List (List UInt8))(hch:Sl F 1 A1 n1 c1 (qAG ch))(A2:Option Addr)(n2 c2:Nat)(pt:List (List UInt8))(hpt:Sl F 1 A2 n2 c2 (qAG pt))(hi:i≤63)(h35:ch.length=35)(hn6:pt.length≤6)(hc16: ∀s∈ch,s.length=16)(hp16: ∀s∈pt,s.length=16):Ct prog 42 [.agg #[Str (s),N64 (v),Str (o),Str (r),I (h),Str (p),I ((i:Nat):Int),.slice A1 n1 c1,.slice A2 n2 c2]] [F] (λ_:Unit=> .tuple #[Str (upB (s) (qA3 (v) (o) (r) (h) (p)) (sgB (i) (ch) (pt))),I ((0:Nat):Int)]) (λ_=>True) (λ_=> [F]):=by
 obtain ⟨e1,e2,⟨e3,e4⟩,e5,e6,e7⟩:=qIt hE
 have el:=qBn hE
 have hsg:=qG8 (i:=i) hc16 hp16 h35
 have hul:=qGv s (qA3 v o r h p) (sgB i ch pt)
 refine Ct.walk func42 rfl ntmps42 rfl (λw0 hw0=>?_)
 change J _ [(0,_)] _ _ _
 refine J.g λK1 hK1=>J.k (qAi (l:= [Str (s),N64 (v),Str (o),Str (r),I (h),Str (p),I ((i:Nat):Int),.slice A1 n1 c1,.slice A2 n2 c2]) O O O) O λg1 _=>?_
 change J _ _ _ [F,blk g1 [Str (s),N64 (v),Str (o),Str (r),I (h),Str (p),I ((i:Nat):Int),.slice A1 n1 c1,.slice A2 n2 c2] 48] _
 refine J.p 2 O<|J.c hK1<|J.u 1 ?_
 refine J.g λK2 hK2=>J.a3 1 qD0 qCR O O O O O<|J.f (qAd (vs:= [N64 (v),Str (o),Str (r),I (h),Str (p)]) O O qFy qCR (m:=blk g1 [Str (s),N64 (v),Str (o),Str (r),I (h),Str (p),I ((i:Nat):Int),.slice A1 n1 c1,.slice A2 n2 c2] 48) (by simp) (qAL.blk0.sub 1 5) rfl) rfl<|J.k (qAA rfl rfl ent76 (Ct.use0 (λF' hF=>qEx F' v o r h p (by first|assumption|omega) (by first|assumption|omega) (by first|assumption|omega) (by first|assumption|omega)))) rfl λg11 _=>J.p 5 rfl<|J.c hK2<|J.G 1 4 5 ?_
 refine J.j λK3 hK3=>J.g λK4 hK4=>J.b O<|J.f ((qAb O O O).no (by omega)) O<|J.c hK4<|J.O 1 4 5 15 ?_
 refine J.a5 ?_
 refine J.W hK3<|J.E 1 4 ?_
 refine J.g λK5 hK5=>J.a3 6 qD0 qMG O O O O O<|J.f (qAd (vs:= [I ((i:Nat):Int),.slice A1 n1 c1,.slice A2 n2 c2]) O O isAgg46 qMG (m:=blk g1 [Str (s),N64 (v),Str (o),Str (r),I (h),Str (p),I ((i:Nat):Int),.slice A1 n1 c1,.slice A2 n2 c2] 48) (by simp) (qAL.blk0.sub 6 3) rfl) rfl<|J.k (qAA rfl rfl ent106 (Ct.use0 (λF' hF=>qPa F' i A1 n1 c1 ch (hch.mono (hF F (by simp))) A2 n2 c2 pt (hpt.mono (hF F (by simp))) (by first|assumption|omega) (by first|assumption|omega) (by first|assumption|omega) (by first|assumption|omega) (by first|assumption|omega)))) rfl λg20 _=>J.p 5 rfl<|J.c hK5<|J.O 1 4 5 6 ?_
 refine J.j λK6 hK6=>J.g λK7 hK7=>J.b O<|J.f ((qAb O O O).no (by decide)) O<|J.c hK7<|J.a0 1 4 5 6 24 ?_
 refine J.a5 ?_
 refine J.W hK6<|J.G 1 4 6 ?_
 refine J.g λK8 hK8=>J.k (qAN (l:= [.pointer none,.slice none 0 0,I 0]) O qJ8 O) O λg7 _=>?_
 change J _ _ _ [_,_,blk g7 [.pointer none,.slice none 0 0,I 0] 133] _
 refine J.c hK8<|J.O 1 4 6 7 ?_
 refine J.g λK9 hK9=>J.a3 0 qD0 z9_ O O O O O<|J.f (qAE 1 (v:=Str (s)) O O O b9_ O) O<|J.k (qAA O O ent52 (Ct.use1 2 (m':=λx:Hp=>x) (new:=λ_=> []) O (λF' hF=>qG0 F' (blk g7 [.pointer none,.slice none 0 0,I 0] 133) g7 ([]) (wtrN g7) (by first|decide|omega|(simp only [List.length_append,List.length_cons,List.length_nil,List.length_singleton,Sha.numB_length,qER]<;>omega)) s (by first|decide|omega|assumption)))) rfl ?_
 rintro m28 hw28
 change J _ ((28,Ptr g7)::_) _ [_,_,m28] _
 rw [List.nil_append] at hw28
 refine J.b O<|J.k (qAA O O ent52 (Ct.use1 2 (m':=λx:Hp=>x) (new:=λ_=> []) O (λF' hF=>qG0 F' m28 g7 (tb (s)) hw28 (by first|decide|omega|(simp only [List.length_append,List.length_cons,List.length_nil,List.length_singleton,Sha.numB_length,qER]<;>omega)) (qA3 (v) (o) (r) (h) (p)) (by first|decide|omega|assumption)))) rfl ?_
 rintro m30 hw30
 change J _ ((30,Ptr g7)::_) _ [_,_,m30] _
 refine J.b O<|J.k (qAA O O ent52 (Ct.use1 2 (m':=λx:Hp=>x) (new:=λ_=> []) O (λF' hF=>qG0 F' m30 g7 (tb (s)++tb (qA3 (v) (o) (r) (h) (p))) hw30 (by first|decide|omega|(simp only [List.length_append,List.length_cons,List.length_nil,List.length_singleton,Sha.numB_length,qER]<;>omega)) (sgB (i) (ch) (pt)) (by first|decide|omega|assumption)))) rfl ?_
 rintro m32 hw32
 change J _ ((32,Ptr g7)::_) _ [_,_,m32] _
 refine J.k (qAA O O ent54 (Ct.use1 2 (m':=λx:Hp=>x) (new:=λ_=> []) O (λF' hF=>qI4 F' m32 g7 (upB (s) (qA3 (v) (o) (r) (h) (p)) (sgB (i) (ch) (pt))) hw32 (by first|decide|omega|(simp only [List.length_append,List.length_cons,List.length_nil,List.length_singleton,Sha.numB_length,qER]<;>omega))))) rfl ?_
 rintro m33 hw33
 change J _ ((33,.tuple #[Str (upB (s) (qA3 (v) (o) (r) (h) (p)) (sgB (i) (ch) (pt))),I ((0:Nat):Int)])::_) _ [_,_,m33] _
 refine J.p 4 O<|J.c hK9<|J.E 2 3 ?_
 exact J.D<|J.b2 hw0 (λ_ _ h=>h) (qB2 O O O) (qAn () O trivial [0] O (by decide))
end Go.Proofs.YtllnfioplpipiaaGreatDoor
