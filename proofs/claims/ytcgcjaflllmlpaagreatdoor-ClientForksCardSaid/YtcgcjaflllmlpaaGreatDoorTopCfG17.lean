/- A part of the proof. -/
import Derived.Test.YtcgcjaflllmlpaaGreatDoorTopCfG8
import Derived.Test.YtcgcjaflllmlpaaGreatDoorTopCfG16
import Derived.Test.YtcgcjaflllmlpaaGreatDoorTopCfG11
import Derived.Test.YtcgcjaflllmlpaaGreatDoorTopCfG4
import Derived.Test.YtcgcjaflllmlpaaGreatDoorTopCfG5
set_option linter.unusedSimpArgs false
set_option linter.unusedVariables false
namespace Go.Proofs.YtcgcjaflllmlpaaGreatDoor
open Go Go.Fw Go.Proofs.Tryz
set_option maxRecDepth 100000
set_option maxHeartbeats 1000000
theorem ent47:qAD prog 47:=qAD.of func47 rfl (by kernel_rfl)
theorem ent79:qAD prog 79:=qAD.of func79 rfl (by kernel_rfl)
theorem ent80:qAD prog 80:=qAD.of func80 rfl (by kernel_rfl)
theorem ent81:qAD prog 81:=qAD.of func81 rfl (by kernel_rfl)
theorem ent181:qAD prog 181:=qAD.of func181 rfl (by kernel_rfl)
namespace Xm
def leaves(seed:List UInt8)(k:Nat):List (List UInt8):=(List.range k).map λi=>Wo.pub seed i
def root(seed:List UInt8)(h:Nat):List UInt8:=Mk.root (leaves seed (2^h)) h
def four(n:Nat):List UInt8:= [UInt8.ofNat (n/2^24),UInt8.ofNat (n/2^16),UInt8.ofNat (n/2^8),UInt8.ofNat n]
def digest(o:List UInt8)(i:Nat)(m:List UInt8):List UInt8:=Sha.tagged 6 [o,four i,m]
theorem leaves_succ(seed:List UInt8)(k:Nat):leaves seed (k+1)=leaves seed k++ [Wo.pub seed k]:=by simp [leaves,jw]
theorem leaves_length(seed:List UInt8)(k:Nat):(leaves seed k).length=k:=by simp [leaves]
theorem leaves_get(seed:List UInt8)(k i:Nat)(h:i<k):(leaves seed k).getD i []=Wo.pub seed i:=by
 unfold leaves
 rw [jB,jO,jv h];rfl
theorem pub_length(seed:List UInt8)(i:Nat):(Wo.pub seed i).length=16:=Sha.tagged_length _ _
theorem leaves_small(seed:List UInt8)(k:Nat): ∀s∈leaves seed k,s.length≤1048576:=λs hs=>by
 simp only [leaves,zc] at hs
 obtain ⟨i,_,rfl⟩:=hs
 rw [pub_length];decide
theorem digest_length(o:List UInt8)(i:Nat)(m:List UInt8):(digest o i m).length=16:=Sha.tagged_length _ _
theorem four_length(n:Nat):(four n).length=4:=rfl
theorem pow_le(h:Nat)(h6:h≤6):2^h≤64:=jb (jf (by decide) h6) (by decide)
end Xm
attribute [local irreducible] Sha.tagged Wo.pub Wo.publicOf Wo.signs Wo.ends Wo.digs Wo.walk Wo.opn Mk.root Mk.path Mk.climb
theorem Xm.leaves0(seed:List UInt8):Xm.leaves seed 0= []:=rfl
theorem Wo.recPub(seed:List UInt8)(leaf:Nat)(d:List UInt8)(hd:d.length≤16):Wo.publicOf (Wo.opn seed) leaf (Wo.ends (Wo.opn seed) leaf (Wo.digs d) (Wo.signs seed leaf (Wo.digs d) 35) 35)=Wo.pub seed leaf:=by
 rw [Wo.recovers seed leaf (Wo.digs d) (Wo.digs_le d hd) 35];unfold Wo.pub;rfl
def qBT(seed o r:List UInt8)(h:Int)(A:Option Addr)(n c:Nat):List Value:= [Str seed,Str o,Str r,I h,.slice A n c]
def qXp(mm:Hp)(g:Nat)(seed:List UInt8)(h:Nat):Prop:= ∃A c mr,mm=U [blk g (qBT seed (Wo.opn seed) (Xm.root seed h) h A (2^h) c) 129,mr]∧Dj (blk g (qBT seed (Wo.opn seed) (Xm.root seed h) h A (2^h) c) 129) mr∧Row mr 9 1 A (2^h) c (qAI (Xm.leaves seed (2^h)))
theorem qXp.see{mm:Hp}{g:Nat}{seed:List UInt8}{h:Nat}(hk:qXp mm g seed h): ∃A c,qAR mm ⟨g,0,none⟩ (qBT seed (Wo.opn seed) (Xm.root seed h) h A (2^h) c)∧Sl mm 1 A (2^h) c (qAI (Xm.leaves seed (2^h))):=by
 obtain ⟨A,c,mr,rfl,hd,hr⟩:=hk
 exact⟨A,c,qAR.blk0.mono (qVG _ _),hr.sl.mono (qQx hd)⟩
theorem qVa(F:Hp)(hK:KF F)(seed:List UInt8)(h:Nat)(hs:seed.length≤1048576)(h6:h≤6):
    Ct prog 18 [Str seed,I h] [F] (λx:Nat×Hp=> .tuple #[Ptr x.1,I 0]) (λx=>qXp x.2 x.1 seed h) (λx=> [x.2,F]):=by
  have hp64:=Xm.pow_le h h6
  have hp0:=jz h
  refine Ct.walk func18 rfl ntmps18 rfl (λw0 hw0=>?_)
  refine J.f λ_ j1=>J.q 2 O<|J.c j1 ?_
  refine J.k λ_ j2=>J.f λ_ j3=>J.b O<|J.g ((qAT O O O).no (by omega)) O<|J.q 2 O<|J.G ((qA5 O O O).no (by omega)) O<|J.b O<|J.c j3 ?_
  refine J.a1 ?_
  refine J.M j2 ?_
  refine J.f λ_ j4=>J.b O<|J.g (qAK (places:= [(0,1),(1,3),(4,1)]) (r:=qBT seed [] [] 0 none 0 0) O O O qHD zeroValue129 (λ_=>by kernel_rfl) O) O<|J.p (qAd O O O) O λg18 _=>J.b O<|J.c j4 ?_
  refine J.k λ_ j5=>J.k λ_ j6=>J.c7 [0,1,2] [F,blk g18 (qBT seed [] [] 0 none 0 0) 129,(λ_=>none)] O (by decide)<|J.H<|J.b O<|J.g ((qIi O O O ⟨by omega,by have:=Int.pow_pos (n:=2) (m:=h) (by decide);omega,by rw [Int.one_mul];exact Int.ofNat_le.2 (show 2^h≤9223372036854775807 by omega)⟩).as (v':=I ((2^h:Nat):Int)) (congrArg I (by simp))) rfl<|J.b rfl<|J.c j6 ?_
  refine J.O<|J.b4 (X:=Nat×Option Addr×Nat×Hp) (λx=> [(0,Str seed),(1,I h),(6,Ptr g18),(20,I ((2^h:Nat):Int)),(21,I x.1)]) (λx=> [F,blk g18 (qBT seed [] [] 0 x.2.1 x.1 x.2.2.1) 129,x.2.2.2]) (λx=>x.1≤2^h∧Row x.2.2.2 9 1 x.2.1 x.1 x.2.2.1 (qAI (Xm.leaves seed x.1))) (λx=>2^h-x.1) (0,none,0,λ_=>none) (⟨jG _,by rw [Xm.leaves0];exact qBb.nil⟩) ⟨rfl,rfl,rfl,rfl,rfl,trivial⟩ (λ_ h=>h) ?_
  rintro⟨k,A6,c6,m⟩ ⟨hk,hrow⟩ I0 hI0
  dsimp only at hk hrow⊢
  refine J.f λ_ j7=>J.g (qAT O O O) O<|J.c j7 ?_
  refine J.k λ_ j8=>J.W O (λh22=>?_) (λh22=>?_)
  ·
    refine J.M j8 ?_
    refine J.k λ_ j9=>J.O<|J.f λ_ j10=>J.q 2 O<|J.c j10 ?_
    refine J.b0 [blk g18 (qBT seed [] [] 0 A6 k c6) 129] [12] (.y 0 (.y 1 (.y 2 (.y 3 (.y 4 (.y 5 (.y 6 (.e 7 (.e 8 (.e 9 (.y 10 (.y 11 (.e 12 .nil))))))))))))) Tryz.wide (by decide+kernel) (by simp) ?_
    refine J.L ?_
    refine J.L ?_
    refine J.j O (qAC O O) O O<|J.j O (qAA O O qHD O qBs O) O O<|J.j O (qAE 0 O O O qB8 O) O O<|J.L ?_
    refine J.L ?_
    refine J.Z O (qAB O O ent47 (Ct.use0 (λF' hF=>qVb F' (hK.mono (Fa hF)) seed k hs (by omega)))) O (by simp) λg31 _=>J.Z rfl (qAG (l:= [.tmp 31]) (xs:= [[Str (Wo.pub seed k)]]) rfl rfl rfl rfl qAk el9 rfl (by decide) (by decide) (by simp)) rfl (by simp) λg32 _=>J.Z rfl (qAV (i:=2) (m2:=blk g32 [Str (Wo.pub seed k)] 9) rfl rfl rfl qAk qAk el9 rfl hrow (by simp) (qAl (q:=True) (xs:=qAI [(Wo.pub seed k)]) rfl (by simp [qAI])).sl (qCR _) (by omega) (by omega)) rfl (by simp) ?_
    rintro⟨A33,c33,m33⟩ h33
    try dsimp only at h33
    rw [←qCB,←Xm.leaves_succ] at h33
    refine J.j O (qAC O O) O O<|J.j O (qAA O O qHD O qBs O) O O<|J.c2 O (qAW (i:=1) O O O O O qBs O (by simp [qBT])) rfl rfl rfl λ_ _=>J.a8<|J.a2<|J.u (J.D j9 ?_)
    exact J.c1 [0,1,2] [F,blk g18 (qBT seed [] [] 0 A33 (k+1) c33) 129,m33] O (by decide)<|J.H<|J.g ((qAS O O O (by omega)).nat (k+1) (by omega)) O<|J.b O<|J.a3<|J.u<|J.a4 (k+1,A33,c33,m33) (λx (hx:_∧2^h-x.1<2^h-k)=>hI0 x hx.1 hx.2) ⟨⟨by dsimp only;omega,h33⟩,by dsimp only;omega⟩ ⟨O,O,O,O,O,trivial⟩ (λ_ h=>h)
  refine J.b2<|J.a0<|J.a0<|J.b3 ?_
  refine J.u (J.D j5 ?_)
  refine J.k λ_ j11=>?_
  have hkn:k=2^h:=by omega
  subst hkn
  refine J.H<|J.b O<|J.g (qAC O O) O<|J.T 4 qHD qBs O O O O O<|J.a5 1 qB8 O O O O O<|J.p (qAB O O ent48 (Ct.use0 (λF' hF=>qWA F' (hK.mono (Fa hF)) A6 (2^h) c6 (Xm.leaves seed (2^h)) (hrow.sl.mono (Fa hF)) h h6 O (Xm.leaves_small _ _)))) O λg42 _=>J.q 2 O<|J.g (qAh O O O) O<|J.q 2 O<|J.c j11 ?_
  refine J.f λ_ j12=>J.q 2 O<|J.p (qAB O O ent49 (Ct.use0 (λF' hF=>qIB F' (hK.mono (Fa hF)) seed hs))) O λg47 _=>J.q 2 O<|J.g (qAK (places:= [(0,1),(1,1),(2,1)]) (r:= [Str (Wo.opn seed),Str (Xm.root seed h),I h]) O O O qLG qYu (λ_=>by kernel_rfl) O) O<|J.g (qAC O O) O<|J.T 1 qHD qET O O O O O<|J.a6 (qAW (i:=1) O O O O O qET O (by simp [qBT])) rfl rfl λ_ _=>J.c j12 ?_
  refine J.k λ_ j13=>J.c1 [1,2,0] [blk g18 (qBT seed (Wo.opn seed) (Xm.root seed h) h A6 (2^h) c6) 129,m,F] O (by decide)<|J.H<|J.q 3 O<|J.c j13 ?_
  exact J.A<|J.a9 hw0 (λ_ _ h=>h) (qCG O O O) (qCL (g18,U [blk g18 (qBT seed (Wo.opn seed) (Xm.root seed h) h A6 (2^h) c6) 129,m]) O (λhd=>⟨A6,c6,m,O,hd,hrow⟩) [0,1,2] O O (by decide))
theorem qO5(F:Hp)(g:Nat)(seed o r:List UInt8)(h:Int)(A:Option Addr)(n c:Nat)(hc:qAR F ⟨g,0,none⟩ (qBT seed o r h A n c)):
    Cz prog 79 [Ptr g] F (I n):=by
  refine Ct.walk func79 rfl ntmps79 rfl (λw0 hw0=>?_)
  refine J.f λ_ j1=>J.b O<|J.c j1 ?_
  refine J.k λ_ j2=>J.f λ_ j3=>J.b O<|J.g ((qA6 underlying77 O O O).as (v':= .bool false) O) O<|J.c j3 ?_
  refine J.a1 ?_
  refine J.M j2 ?_
  refine J.f λ_ j4=>J.b O<|J.g (qAC O O) O<|J.T 4 qHD qBs O O O O O<|J.g (qAJ O O qB8 (m:=F) (by simp) (hc.at (i:=4) rfl)) rfl<|J.g (qAU qAk rfl rfl) rfl<|J.b rfl<|J.c j4 ?_
  exact J.A<|J.E hw0 O () O trivial [0] O (by decide)
theorem qNo(F:Hp)(g:Nat)(seed o r:List UInt8)(h:Int)(A:Option Addr)(n c:Nat)(hc:qAR F ⟨g,0,none⟩ (qBT seed o r h A n c)):
    Cz prog 19 [Ptr g] F (.agg #[Str o,Str r,I h]):=by
  refine Ct.walk func19 rfl ntmps19 rfl (λw0 hw0=>?_)
  refine J.f λ_ j1=>J.p (qAL O qYu O) O λg2 _=>J.c j1 ?_
  refine J.k λ_ j2=>J.f λ_ j3=>J.b O<|J.g ((qA6 underlying77 O O O).as (v':= .bool false) O) O<|J.c j3 ?_
  refine J.a1 ?_
  refine J.M j2 ?_
  refine J.f λ_ j4=>J.b O<|J.g (qAC O O) O<|J.T 1 qHD qET O O O O O<|J.g (qAX O O qNh qET (m:=F) (by simp) (hc.sub 1 3) rfl) rfl<|J.a6 (qAF (l:= [Str [],Str [],I 0]) (i:=1) (vs:= [Str o,Str r,I h]) rfl rfl rfl rfl rfl qET rfl rfl) rfl rfl λ_ _=>J.c j4 ?_
  exact J.A<|J.a9 hw0 (λ_ _ h=>h) (rv1 O (RV.blkA 1 O O qNh qET)) (qAq () O trivial [0] O (by decide))
theorem qHP(F:Hp)(hK:KF F)(o:List UInt8)(i:Nat)(mg:List UInt8)(ho:o.length≤1048576)(hi:i<4611686018427387904)(hm:mg.length≤1048576):
    Cz prog 81 [Str o,I i,Str mg] F (Str (Xm.digest o i mg)):=by
  refine Ct.walk func81 rfl ntmps81 rfl (λw0 hw0=>?_)
  refine J.f λ_ j1=>J.b O<|J.c j1 ?_
  refine J.f λ_ j2=>J.b O<|J.g ((qCp O O O ⟨by decide,by omega⟩).as (v':=I ((i/2^24:Nat):Int)) (congrArg I (by simp))) rfl<|J.g (qAv rfl rfl u3_ u5_) rfl<|J.b rfl<|J.g ((qCp rfl rfl rfl ⟨by decide,by omega⟩).as (v':=I ((i/2^16:Nat):Int)) (congrArg I (by simp))) rfl<|J.g (qAv rfl rfl u3_ u5_) rfl<|J.b rfl<|J.g ((qCp rfl rfl rfl ⟨by decide,by omega⟩).as (v':=I ((i/2^8:Nat):Int)) (congrArg I (by simp))) rfl<|J.g (qAv rfl rfl u3_ u5_) rfl<|J.b rfl<|J.g (qAv rfl rfl u3_ u5_) rfl<|J.p (qAG (l:= [.tmp 10,.tmp 13,.tmp 16,.tmp 18]) (xs:= [[B8 (UInt8.ofNat (i/2^24))],[B8 (UInt8.ofNat (i/2^16))],[B8 (UInt8.ofNat (i/2^8))],[B8 (UInt8.ofNat i)]]) rfl rfl rfl rfl qBl el5 rfl (by decide) (by decide) (by simp)) rfl λg19 _=>J.g (qBi rfl rfl qBl u5_ u9_ (m:=blk g19 [B8 (UInt8.ofNat (i/2^24)),B8 (UInt8.ofNat (i/2^16)),B8 (UInt8.ofNat (i/2^8)),B8 (UInt8.ofNat i)] 5) (by simp) (slB (Xm.four i) rfl)) rfl<|J.b rfl<|J.c j2 ?_
  refine J.f λ_ j3=>J.q 3 O<|J.p (qAG (l:= [.tmp 21,.tmp 22,.tmp 23]) (xs:= [[Str (o)],[Str (Xm.four i)],[Str (mg)]]) O O O O qAk el9 O (by decide) (by decide) (by simp)) rfl λg24 _=>J.p (qAB rfl rfl ent46 (Ct.use0 (λF' hF=>qA3 F' (hK.mono (Fa hF)) 6 (some ⟨g24,0,none⟩) 3 3 [o,Xm.four i,mg] ((slS [o,Xm.four i,mg] rfl).mono (hF (blk g24 (([o,Xm.four i,mg]:List (List UInt8)).map λs=>Str s) 9) (by simp))) (by have:=qU0 ho (show(Xm.four i).length≤1048576 by rw [Xm.four_length];decide) hm;omega) (by decide)))) rfl λg25 _=>J.b rfl<|J.c j3 ?_
  exact J.A<|J.E hw0 O () O trivial [0] O (by decide)
theorem qSS(F:Hp)(hK:KF F)(g:Nat)(seed:List UInt8)(h:Nat)(A:Option Addr)(c:Nat)(hc:qAR F ⟨g,0,none⟩ (qBT seed (Wo.opn seed) (Xm.root seed h) h A (2^h) c))(hsl:Sl F 1 A (2^h) c (qAI (Xm.leaves seed (2^h))))(hs:seed.length≤1048576)(h6:h≤6)(mg:List UInt8)(hm:mg.length≤1048576)(i:Nat)(hi:i<2^h):
    Ct prog 34 [Ptr g,I i,Str mg] [F] (λx:(Option Addr×Nat×Hp)×(Option Addr×Nat×Hp)=> .tuple #[.agg #[I i,.slice x.1.1 35 x.1.2.1,.slice x.2.1 h x.2.2.1],I 0]) (λx=>Row x.1.2.2 9 1 x.1.1 35 x.1.2.1 (qAI (Wo.signs seed i (Wo.digs (Xm.digest (Wo.opn seed) i mg)) 35))∧Row x.2.2.2 9 1 x.2.1 h x.2.2.1 (qAI (Mk.path (Xm.leaves seed (2^h)) i h))) (λx=> [F,x.1.2.2,x.2.2.2]):=by
  have hp64:=Xm.pow_le h h6
  have hdl:=Xm.digest_length (Wo.opn seed) i mg
  refine Ct.walk func34 rfl ntmps34 rfl (λw0 hw0=>?_)
  refine J.f λ_ j1=>J.p (qAL O zeroValue68 O) O λg6 _=>J.b O<|J.c j1 ?_
  refine J.k λ_ j2=>J.O<|J.f λ_ j3=>J.b O<|J.g ((qA6 underlying77 O O O).as (v':= .bool false) O) O<|J.b O<|J.c j3 ?_
  refine J.a1 ?_
  refine J.f λ_ j4=>J.q 2 O<|J.p (qAB O O ent79 (Ct.use0 (λF' hF=>qO5 F' g seed (Wo.opn seed) (Xm.root seed h) h A (2^h) c (hc.mono (Fa hF))))) O λg18 _=>J.g ((qBA O O O).no (by omega)) O<|J.b O<|J.c j4 ?_
  refine J.a1 ?_
  refine J.f λ_ j5=>J.b O<|J.g ((qAT O O O).no (by omega)) O<|J.b O<|J.c j5 ?_
  refine J.a1 ?_
  refine J.b5<|J.a2<|J.u (J.D j2 ?_)
  refine J.k λ_ j6=>J.b0 [F] [] (.y 0 (.y 1 (.y 2 (.y 3 (.y 4 (.y 5 (.y 6 (.y 7 (.y 8 (.y 9 (.y 10 (.y 11 (.e 12 (.e 13 (.y 14 (.y 15 (.y 16 (.y 17 (.y 18 .nil))))))))))))))))))) Tryz.wide (by decide+kernel) (by simp) ?_
  refine J.L ?_
  refine J.j O (qAC O O) O O<|J.j O (qAA O O qHD O z9_ O) O O<|J.j O (qAJ O O b9_ (m:=F) (by simp) (hc.at (i:=0) rfl)) rfl rfl<|J.L ?_
  refine J.L ?_
  refine J.j O (qAC O O) O O<|J.j O (qAA O O qHD O qET O) O O<|J.j O (qAA O O qLG O z9_ O) O O<|J.j O (qAJ O O b9_ (m:=F) (by simp) (hc.at (i:=1) rfl)) rfl rfl<|J.L ?_
  refine J.L ?_
  refine J.Z O (qAB O O ent81 (Ct.use0 (λF' hF=>qHP F' (hK.mono (Fa hF)) (Wo.opn seed) i mg (by rw [Wo.opn_length];decide) (by omega) hm))) rfl (by simp) λg38 _=>J.Z rfl (qAB rfl rfl ent80 (Ct.use (λF' hF=>qV0 F' (hK.mono (Fa hF)) seed i (Xm.digest (Wo.opn seed) i mg) hs (by omega) hdl))) rfl (by simp) ?_
  rintro⟨A39,c39,m39⟩ h39
  try dsimp only at h39
  refine J.L ?_
  refine J.c3 (.slice A39 35 c39) ?_
  refine J.c3 (I 0) ?_
  refine J.b6 ?_
  refine J.b6 ?_
  refine J.a8<|J.u (J.D j6 ?_)
  refine J.k λ_ j7=>J.f λ_ j8=>J.b O<|J.g ((qAe O O O).no (by decide)) O<|J.c j8 ?_
  refine J.a1 ?_
  refine J.M j7 ?_
  refine J.f λ_ j9=>J.b O<|J.g (qAC O O) O<|J.T 4 qHD qBs O O O O O<|J.g (qAJ O O qB8 (m:=F) (by simp) (hc.at (i:=4) rfl)) rfl<|J.b rfl<|J.p (qAB rfl rfl ent82 (Ct.use (λF' hF=>qWY F' (hK.mono (Fa hF)) A (2^h) c (Xm.leaves seed (2^h)) (hsl.mono (Fa hF)) h h6 rfl (Xm.leaves_small _ _) i hi))) rfl ?_
  rintro⟨A52,c52,m52⟩ h52
  try dsimp only at h52
  refine J.q 5 O<|J.c j9 ?_
  refine J.f λ_ j10=>J.q 3 O<|J.g (qAK (places:= [(0,1),(1,1),(2,1)]) (r:= [I i,.slice A39 35 c39,.slice A52 h c52]) O O O qJZ zeroValue68 (λ_=>by kernel_rfl) O) O<|J.b O<|J.a6 (qAF (l:= [I 0,.slice none 0 0,.slice none 0 0]) (i:=1) (vs:= [I i,.slice A39 35 c39,.slice A52 h c52]) O O O O O qK2 O O) O O λ_ _=>J.b O<|J.c j10 ?_
  exact J.A<|J.a9 hw0 (λ_ _ h=>h) (rv2 O (RV.blkA 1 O O isAgg68 qK2) O) (qAq ((A39,c39,m39),(A52,c52,m52)) O ⟨h39,h52⟩ [0,2,3] O (by decide))
theorem Wo.publicOf_length(o:List UInt8)(leaf:Nat)(e:List (List UInt8)):(Wo.publicOf o leaf e).length=16:=by unfold Wo.publicOf;exact Sha.tagged_length _ _
theorem qHO(F:Hp)(hK:KF F)(o r:List UInt8)(h:Nat)(mg:List UInt8)(i:Nat)(A1:Option Addr)(c1:Nat)(ch:List (List UInt8))(hch:Sl F 1 A1 35 c1 (qAI ch))(hsg: ∀s∈ch,s.length=16)(A2:Option Addr)(c2:Nat)(pt:List (List UInt8))(hpt:Sl F 1 A2 h c2 (qAI pt))(hps: ∀s∈pt,s.length≤1048576)
    (ho:o.length≤1048576) (hm:mg.length≤1048576) (h6:h≤6) (hi:i<2^h):
    Cz prog 132 [.agg #[Str o,Str r,I h],Str mg,.agg #[I i,.slice A1 35 c1,.slice A2 h c2]] F (.bool (decide (Mk.climb (Wo.publicOf o i (Wo.ends o i (Wo.digs (Xm.digest o i mg)) ch 35)) i pt=r))):=by
  have hp64:=Xm.pow_le h h6
  have hdl:=Xm.digest_length o i mg
  refine Ct.walk func132 rfl ntmps132 rfl (λw0 hw0=>?_)
  refine J.f λ_ j1=>J.p (qAd O O O) O λg3 _=>J.p (qAd O O O) O λg5 _=>J.b O<|J.c j1 ?_
  refine J.k λ_ j2=>J.k λ_ j3=>J.b0 [F,blk g3 [Str o,Str r,I h] 59,blk g5 [I i,.slice A1 35 c1,.slice A2 h c2] 68] [] (.y 0 (.y 1 (.y 2 (.y 3 (.y 4 (.y 5 (.y 6 (.y 7 (.y 8 (.y 9 (.y 10 (.y 11 (.y 12 (.y 13 (.y 14 (.y 15 (.y 16 (.y 17 (.y 18 (.y 19 (.y 20 (.y 21 (.y 22 (.y 23 (.y 24 (.y 25 (.y 26 (.y 27 (.y 28 .nil))))))))))))))))))))))))))))) Tryz.wide (by decide+kernel) (by simp) ?_
  refine J.j O (qAA O O qLG O z3_ O) O O<|J.j O (qAE 1 O O O b3_ O) O O<|J.j O ((qAT O O O).no (by omega)) O O<|J.L ?_
  refine J.b8 O (qAA O O qLG O z3_ O) O O<|J.b8 O (qAE 1 O O O b3_ O) O O<|J.b8 O ((qA5 O O O).no (by omega)) O O<|J.e1 ?_
  refine J.L ?_
  refine J.b8 O (qAA O O qJZ O z3_ O) O O<|J.b8 O (qAE 2 O O O b3_ O) O O<|J.b8 O ((qAT O O O).no (by omega)) O O<|J.e1 ?_
  refine J.L ?_
  refine J.b8 O (qAA O O qJZ O z3_ O) O O<|J.b8 O (qAE 2 O O O b3_ O) O O<|J.b8 O (qAA O O qLG O z3_ O) O O<|J.b8 O (qAE 1 O O O b3_ O) O O<|J.b8 O ((qIi O O O ⟨by omega,by have:=Int.pow_pos (n:=2) (m:=h) (by decide);omega,by rw [Int.one_mul];exact Int.ofNat_le.2 (show 2^h≤9223372036854775807 by omega)⟩).as (v':=I ((2^h:Nat):Int)) (congrArg I (by simp))) rfl rfl<|J.b8 rfl ((qBA rfl rfl rfl).no (by omega)) rfl rfl<|J.e1 ?_
  refine J.L ?_
  refine J.b8 O (qAA O O qJZ O qBs O) O O<|J.b8 O (qAE 2 O O O qB8 O) O O<|J.b8 O (qAU qAk O O) O O<|J.b8 O (qAA O O qLG O z3_ O) O O<|J.b8 O (qAE 1 O O O b3_ O) O O<|J.b8 O ((qAe O O O).no (λh=>h O)) O O<|J.e1 ?_
  refine J.a8<|J.u (J.D j3 ?_)
  refine J.a1 ?_
  refine J.M j2 ?_
  refine J.k λ_ j4=>J.b0 [F,blk g3 [Str o,Str r,I h] 59,blk g5 [I i,.slice A1 35 c1,.slice A2 h c2] 68] [] (.y 0 (.y 1 (.y 2 (.y 3 (.y 4 (.y 5 (.y 6 (.y 7 (.y 8 (.y 10 (.y 11 (.e 9 (.e 12 (.y 13 (.y 14 (.y 15 (.y 16 (.y 17 .nil)))))))))))))))))) Tryz.wide (by decide+kernel) (by simp) ?_
  refine J.j O (qAA O O qLG O z9_ O) O O<|J.j O (qAE 1 O O O b9_ O) O O<|J.j O (qAA O O qJZ O z3_ O) O O<|J.j O (qAE 2 O O O b3_ O) O O<|J.j O (qAA O O qLG O z9_ O) O O<|J.j O (qAE 1 O O O b9_ O) O O<|J.j O (qAA O O qJZ O z3_ O) O O<|J.j O (qAE 2 O O O b3_ O) O O<|J.L ?_
  refine J.j O (qAA O O qJZ O qBs O) O O<|J.j O (qAE 2 O O O qB8 O) O O<|J.Z O (qAB O O ent81 (Ct.use0 (λF' hF=>qHP F' (hK.mono (Fa hF)) o i mg ho (by omega) hm))) O (by simp) λg48 _=>J.Z rfl (qAB rfl rfl ent181 (Ct.use0 (λF' hF=>qOD F' (hK.mono (Fa hF)) o i (Xm.digest o i mg) A1 c1 ch (hch.mono (Fa hF)) ho (by omega) hdl hsg))) rfl (by simp) λg51 _=>J.L ?_
  refine J.c3 (Str (Wo.publicOf o i (Wo.ends o i (Wo.digs (Xm.digest o i mg)) ch 35))) ?_
  refine J.c3 (I 0) ?_
  refine J.b6 ?_
  refine J.b6 ?_
  refine J.a8<|J.u (J.D j4 ?_)
  refine J.k λ_ j5=>J.b0 [F,blk g3 [Str o,Str r,I h] 59,blk g5 [I i,.slice A1 35 c1,.slice A2 h c2] 68] [] (.y 0 (.y 1 (.y 2 (.y 3 (.y 4 (.y 5 (.y 6 (.y 7 (.y 9 (.y 10 (.e 8 (.y 11 (.y 12 (.y 13 .nil)))))))))))))) Tryz.wide (by decide+kernel) (by simp) ?_
  refine J.L ?_
  refine J.j O ((qAg O O O).yes (by decide)) O O<|J.L ?_
  refine J.b8 O (qA0 O O) O O<|J.b8 O (qAA O O qJZ O z3_ O) O O<|J.b8 O (qAE 2 O O O b3_ O) O O<|J.b8 O (qAA O O qJZ O qBs O) O O<|J.b8 O (qAE 2 O O O qB8 O) O O<|J.b8 O (qAA O O qLG O z9_ O) O O<|J.b8 O (qAE 1 O O O b9_ O) O O<|J.e4 O (qAB O O ent182 (Ct.use0 (λF' hF=>qUL F' (hK.mono (Fa hF)) (Wo.publicOf o i (Wo.ends o i (Wo.digs (Xm.digest o i mg)) ch 35)) i A2 h c2 pt (hpt.mono (Fa hF)) (by rw [Wo.publicOf_length];decide) hps (by omega) (by omega)))) (Wan.is rfl rfl rfl rfl rfl) rfl rfl (by simp) ?_
  intro g62 _
  refine J.b8 O (qBS O O O) O O<|J.d2 ?_
  refine J.b6 ?_
  refine J.a8<|J.u (J.D j5 ?_)
  exact J.A<|J.E hw0 O () O trivial [0] O (by decide)
end Go.Proofs.YtcgcjaflllmlpaaGreatDoor
namespace Go.Proofs.YtcgcjaflllmlpaaGreatDoor
set_option maxRecDepth 100000
set_option maxHeartbeats 1000000
attribute [local irreducible] SN.tagN Sha.tagged SM.topsN
namespace SM
open SN (qAx qAr forceL qA7)
noncomputable def forceLL{α:Type}(l:List (List Nat)):(List (List Nat)→α)→α:=List.rec (λg=>g []) (λa _ ih g=>forceL a λx=>ih λr=>g (x::r)) l
theorem qHx{α:Type}: ∀(l:List (List Nat)) (g:List (List Nat)→α),forceLL l g=g l
 | [],_=>rfl
 |a::l,g=>by
  show forceL a (λx=>forceLL l λr=>g (x::r))=g (a::l)
  rw [qA7,qHx l]
noncomputable def aboveN(l:List (List Nat)):List (List Nat):=(List.range (l.length/2)).map λk=>SN.tagN 5 [l.getD (2*k) [],l.getD (2*k+1) []]
noncomputable def lvlN(l:List (List Nat)):Nat→List (List Nat)
 |0=>l
 |j+1=>aboveN (lvlN l j)
def natL(l:List (List UInt8)):List (List Nat):=l.map (List.map UInt8.toNat)
theorem qIw(l:List (List UInt8))(i:Nat):(natL l).getD i []=(l.getD i []).map UInt8.toNat:=by
 unfold natL
 rw [List.getD_eq_getElem?_getD,List.getD_eq_getElem?_getD,List.getElem?_map]
 cases l[i]?<;>rfl
theorem qKP{l:List (List UInt8)}(h: ∀x∈l,x.length=16)(i:Nat):(l.getD i []).length≤16:=by
 rw [List.getD_eq_getElem?_getD]
 by_cases hi:i<l.length
 · rw [List.getElem?_eq_getElem hi];exact Nat.le_of_eq (h _ (List.getElem_mem hi))
 · rw [List.getElem?_eq_none (by omega)];exact Nat.zero_le _
theorem qSB(l:List (List UInt8))(h: ∀x∈l,x.length=16):aboveN (natL l)=natL (Mk.above l):=by
 unfold aboveN Mk.above
 rw [show(natL l).length=l.length from List.length_map _]
 show _=List.map _ (List.map _ _)
 rw [List.map_map]
 refine List.map_congr_left λk _=>?_
 rw [qIw,qIw]
 have h1:=qKP h (2*k)
 have h2:=qKP h (2*k+1)
 exact SN.tagN_eq 5 [l.getD (2*k) [],l.getD (2*k+1) []] (by simp only [List.flatten_cons,List.flatten_nil,List.append_nil,List.length_append,List.length_cons,List.length_nil];omega)
theorem qUl(l:List (List UInt8)): ∀x∈Mk.above l,x.length=16:=λx hx=>by
 obtain ⟨k,_,rfl⟩:=List.mem_map.1 hx
 exact Sha.tagged_length _ _
theorem qQr(l:List (List UInt8))(h: ∀x∈l,x.length=16): ∀j,lvlN (natL l) j=natL (Mk.lvl l j)∧ ∀x∈Mk.lvl l j,x.length=16
 |0=>⟨rfl,h⟩
 |j+1=>by
  obtain ⟨h1,h2⟩:=qQr l h j
  exact⟨by rw [lvlN,h1,qSB _ h2,Mk.lvl],qUl _⟩
noncomputable def leavesN(L:Nat)(seed:List Nat):List (List Nat):=forceL (SN.tagN 3 [seed]) λo=>forceLL (topsN L seed o) λtops=>
 (List.range L).map λleaf=>SN.tagN 4 (o:: [0,0,0,leaf,0,0]::(tops.drop (35*leaf)).take 35)
noncomputable def rootN(h:Nat)(seed:List Nat):List Nat:=(lvlN (leavesN (2^h) seed) h).getD 0 []
theorem qP0{β:Type}(f:Nat→β)(L leaf:Nat)(h:leaf<L):(((List.range (35*L)).map f).drop (35*leaf)).take 35=(List.range 35).map λi=>f (35*leaf+i):=by
 apply List.ext_getElem?
 intro i
 rw [List.getElem?_take,List.getElem?_map]
 by_cases hi:i<35
 · rw [if_pos hi,List.getElem?_drop,List.getElem?_map,List.getElem?_range (by omega),List.getElem?_range hi];rfl
 · rw [if_neg hi,List.getElem?_eq_none (by rw [List.length_range];omega)];rfl
theorem leavesN_eq(L:Nat)(hp:L≤64)(seed:List UInt8)(hs:seed.length≤40):leavesN L (seed.map UInt8.toNat)=natL (Xm.leaves seed L):=by
 have ho:SN.tagN 3 [seed.map UInt8.toNat]=(Wo.opn seed).map UInt8.toNat:=SN.tagN_eq 3 [seed] (by simp only [List.flatten_cons,List.flatten_nil,List.append_nil,List.length_cons,List.length_nil];omega)
 unfold leavesN
 rw [qA7,qHx,ho,qSg (by omega) seed hs]
 have e:((List.range (L)).map λleaf=>SN.tagN 4 ((Wo.opn seed).map UInt8.toNat:: [0,0,0,leaf,0,0]::(((List.range (35*L)).map λz=>(Wo.walk (Wo.opn seed) (z/35) (z%35) 0 (Wo.secret seed (z/35) (z%35)) 15).map UInt8.toNat).drop (35*leaf)).take 35))=natL (Xm.leaves seed (L)):=by
  unfold natL Xm.leaves
  rw [List.map_map]
  refine List.map_congr_left λleaf hl=>?_
  have hl2:=List.mem_range.1 hl
  rw [qP0 _ _ _ hl2]
  have e1:((List.range 35).map λi=>(Wo.walk (Wo.opn seed) ((35*leaf+i)/35) ((35*leaf+i)%35) 0 (Wo.secret seed ((35*leaf+i)/35) ((35*leaf+i)%35)) 15).map UInt8.toNat)=natL (Wo.tops seed leaf 35):=by
   unfold natL Wo.tops
   rw [List.map_map]
   refine List.map_congr_left λi hi=>?_
   have hi2:=List.mem_range.1 hi
   rw [show(35*leaf+i)/35=leaf by omega,show(35*leaf+i)%35=i by omega];rfl
  rw [e1]
  have e2:(Wo.place leaf 0 0).map UInt8.toNat= [0,0,0,leaf,0,0]:=by
   rw [qGV (by omega)]
   unfold plc
   simp only [List.map_cons,List.map_nil]
   rw [UInt8.toNat_ofNat',Nat.mod_eq_of_lt (show leaf<2^8 by omega)];rfl
  have h16: ∀x∈Wo.tops seed leaf 35,x.length=16:=λx hx=>by
   obtain ⟨i,_,rfl⟩:=List.mem_map.1 hx
   exact Wo.walk_16 _ _ _ _ _ (Wo.secret_length _ _ _) 15
  have hfl:(Wo.tops seed leaf 35).flatten.length≤100000:=by
   have: ∀l:List (List UInt8),(∀x∈l,x.length=16)→l.flatten.length=16*l.length:=λl hl=>by
    induction l with
    |nil=>rfl
    |cons a l ih=>rw [List.flatten_cons,List.length_append,ih (λx hx=>hl x (.tail _ hx)),hl a (.head _),List.length_cons];omega
   rw [this _ h16]
   unfold Wo.tops
   rw [List.length_map,List.length_range];decide
  have ht:=SN.tagN_eq 4 ([Wo.opn seed,Wo.place leaf 0 0]++Wo.tops seed leaf 35) (by
   have h35:(Wo.tops seed leaf 35).length=35:=by unfold Wo.tops;rw [List.length_map,List.length_range]
   rw [List.flatten_append,List.length_append,List.length_append,h35]
   simp only [List.flatten_cons,List.flatten_nil,List.append_nil,List.length_append,List.length_cons,List.length_nil,Wo.opn_length]
   unfold Wo.place
   simp only [List.length_cons,List.length_nil]
   omega)
  rw [Function.comp_apply]
  show _=(Wo.pub seed leaf).map UInt8.toNat
  unfold Wo.pub Wo.publicOf
  rw [←ht,List.map_append,List.map_cons,List.map_cons,List.map_nil,e2]
  rfl
 exact e
theorem rootN_eq(h:Nat)(h6:h≤6)(seed:List UInt8)(hs:seed.length≤40):rootN h (seed.map UInt8.toNat)=(Xm.root seed h).map UInt8.toNat:=by
 unfold rootN
 rw [leavesN_eq (2^h) (Xm.pow_le h h6) seed hs,(qQr _ (λx hx=>by
  obtain ⟨k,_,rfl⟩:=List.mem_map.1 hx
  exact Sha.tagged_length _ _) h).1,qIw]
 rfl
end SM
end Go.Proofs.YtcgcjaflllmlpaaGreatDoor
namespace Go.Proofs.YtcgcjaflllmlpaaGreatDoor
set_option maxRecDepth 100000
set_option maxHeartbeats 1000000
attribute [local irreducible] SN.tagN Sha.tagged
theorem qOb:SM.natL (Xm.leaves [97,117,100,105,116,111,114,97] 4)= [[231,8,164,122,234,57,121,228,189,73,3,251,107,179,0,61],[203,62,250,140,57,218,216,163,107,203,193,53,104,74,112,135],[64,243,149,4,237,171,250,26,169,213,237,102,127,193,221,63],[112,121,42,219,189,106,24,216,174,48,72,122,28,150,237,133]]:=by
 rw [←SM.leavesN_eq 4 (by decide) [97,117,100,105,116,111,114,97] (by decide)]
 decide+kernel
theorem qIW:(Xm.root [97,117,100,105,116,111,114,97] 2).map UInt8.toNat= [22,164,247,0,48,253,180,71,220,85,164,252,188,160,204,90]:=by
 rw [←SM.rootN_eq 2 (by decide) [97,117,100,105,116,111,114,97] (by decide)]
 unfold SM.rootN
 rw [SM.leavesN_eq 4 (by decide) [97,117,100,105,116,111,114,97] (by decide),show Xm.leaves [97,117,100,105,116,111,114,97] (2^2)=Xm.leaves [97,117,100,105,116,111,114,97] 4 from rfl,qOb]
 decide+kernel
end Go.Proofs.YtcgcjaflllmlpaaGreatDoor
namespace Go.Proofs.YtcgcjaflllmlpaaGreatDoor
set_option maxRecDepth 100000
set_option maxHeartbeats 1000000
attribute [local irreducible] SN.tagN Sha.tagged
theorem qOa:SM.natL (Xm.leaves [97,117,100,105,116,111,114,98] 4)= [[4,48,214,253,150,8,107,224,242,74,125,178,104,78,45,89],[181,103,124,109,204,137,245,219,91,20,4,13,32,168,103,207],[235,233,220,176,229,253,9,44,130,126,235,213,232,222,94,9],[125,204,114,40,58,53,49,141,222,80,123,192,3,168,24,249]]:=by
 rw [←SM.leavesN_eq 4 (by decide) [97,117,100,105,116,111,114,98] (by decide)]
 decide+kernel
theorem qIV:(Xm.root [97,117,100,105,116,111,114,98] 2).map UInt8.toNat= [101,12,161,181,223,198,74,60,112,220,105,68,168,64,74,68]:=by
 rw [←SM.rootN_eq 2 (by decide) [97,117,100,105,116,111,114,98] (by decide)]
 unfold SM.rootN
 rw [SM.leavesN_eq 4 (by decide) [97,117,100,105,116,111,114,98] (by decide),show Xm.leaves [97,117,100,105,116,111,114,98] (2^2)=Xm.leaves [97,117,100,105,116,111,114,98] 4 from rfl,qOa]
 decide+kernel
end Go.Proofs.YtcgcjaflllmlpaaGreatDoor
namespace Go.Proofs.YtcgcjaflllmlpaaGreatDoor
set_option maxRecDepth 100000
set_option maxHeartbeats 1000000
attribute [local irreducible] SN.tagN Sha.tagged
theorem qOZ:SM.natL (Xm.leaves [97,117,100,105,116,111,114,99] 4)= [[2,45,57,30,201,111,61,146,173,198,83,130,3,77,41,86],[83,5,230,27,232,63,134,247,227,242,193,29,117,61,159,141],[52,28,142,41,175,164,164,183,55,52,143,43,168,202,32,241],[221,7,194,248,148,204,187,159,23,180,89,107,186,193,136,235]]:=by
 rw [←SM.leavesN_eq 4 (by decide) [97,117,100,105,116,111,114,99] (by decide)]
 decide+kernel
theorem qIU:(Xm.root [97,117,100,105,116,111,114,99] 2).map UInt8.toNat= [146,83,211,224,30,128,154,79,165,236,208,225,73,13,246,50]:=by
 rw [←SM.rootN_eq 2 (by decide) [97,117,100,105,116,111,114,99] (by decide)]
 unfold SM.rootN
 rw [SM.leavesN_eq 4 (by decide) [97,117,100,105,116,111,114,99] (by decide),show Xm.leaves [97,117,100,105,116,111,114,99] (2^2)=Xm.leaves [97,117,100,105,116,111,114,99] 4 from rfl,qOZ]
 decide+kernel
end Go.Proofs.YtcgcjaflllmlpaaGreatDoor
namespace Go.Proofs.YtcgcjaflllmlpaaGreatDoor
open Go Go.Fw Go.Proofs.Tryz
set_option maxRecDepth 100000
set_option maxHeartbeats 1000000
def qCH(ok:Bool)(e bad:Int):Int:=if ok=false∧bad=0 then e else bad
def qG9(ok:Bool)(e bad:Int)(l:List Value):List Value:=if ok=false∧bad=0 then qBC l 2 [I e] else l
theorem qI8{ok:Bool}{e bad:Int}{l:List Value}(hl:l.length=3):(qG9 ok e bad l).length=3:=by
 unfold qG9
 split
 · rw [qCv (by omega)];exact hl
 · exact hl
theorem qJA{ok:Bool}{e bad:Int}{l:List Value}(hl:l.length=3)(hb:l[2]?=some (I bad)):(qG9 ok e bad l)[2]?=some (I (qCH ok e bad)):=by
 unfold qG9 qCH
 split
 · exact qCw (by omega)
 · exact hb
theorem qI9{ok:Bool}{e bad:Int}{g:Nat}{l:List Value}{mr:Hp}{bs:List UInt8}{A:Option Addr}{c:Nat}{p:Option Addr}(hl:l.length=3)(hb:Bld g 0 l mr bs A c p):Bld g 0 (qG9 ok e bad l) mr bs A c p:=by
 unfold qG9
 split
 · exact⟨(qBu (by omega) (by decide)).trans hb.a0,hb.self,(qBu (by omega) (by decide)).trans hb.a1,hb.row,hb.cap⟩
 · exact hb
theorem qRP(F:Hp)(g:Nat)(l:List Value)(hl:l.length=3)(bad:Int)(hb:l[2]?=some (I bad))(e:Int):
    Ct prog 135 [Ptr g,.bool true,I e] [blk g l 158,F] (λ_:Unit=> .bool (decide (qCH true e bad=0))) (λ_=>True) (λ_=> [blk g (qG9 true e bad l) 158,F]):=by
  refine Ct.walk func135 rfl ntmps135 rfl (λw0 hw0=>?_)
  refine J.f λ_ j1=>J.b O<|J.c j1<|J.k λ_ j2=>J.f λ_ j3=>J.b O<|J.g (qAy O O) O<|J.q 7 O<|J.c j3<|J.a1 ?_
  exact J.M j2<|J.f λ_ j4=>J.b O<|J.g (qAC O O) O<|J.T 2 qGH qMI O O O O O<|J.g (qAE 0 O O O qSN (by first|exact hb|exact qCw (by omega))) O<|J.g (qAg O O O) O<|J.b O<|J.c j4<|J.A<|J.E hw0 O () (congrArg Value.bool (decide_eq_decide.2 (by unfold qCH;rw [if_neg (show¬(true=false∧bad=0) from λh=>by cases h.1)]))) trivial [0,1] (by show [blk g _ _,F]= [blk g (qG9 true e bad l) _,F];unfold qG9;rw [if_neg (show¬(true=false∧bad=0) from λh=>by cases h.1)]) (by decide)
theorem qOl(F:Hp)(g:Nat)(l:List Value)(hl:l.length=3)(bad:Int)(hb:l[2]?=some (I bad))(e:Int):
    Ct prog 135 [Ptr g,.bool false,I e] [blk g l 158,F] (λ_:Unit=> .bool (decide (qCH false e bad=0))) (λ_=>True) (λ_=> [blk g (qG9 false e bad l) 158,F]):=by
  refine Ct.walk func135 rfl ntmps135 rfl (λw0 hw0=>?_)
  refine J.f λ_ j1=>J.b O<|J.c j1<|J.k λ_ j2=>J.f λ_ j3=>J.b O<|J.g (qAy O O) O<|J.q 2 O<|J.G (qAC O O) O<|J.G (qAA O O qGH O qMI O) O<|J.G (qAE 0 O O O qSN hb) O<|J.G (qAg O O O) O<|J.b O<|J.c j3<|J.W O (λh15=>?_) (λh15=>?_)
  ·
    exact J.H<|J.q 2 O<|J.g (qAC O O) O<|J.T 2 qGH qMI O O O O O<|J.a6 (qAW (i:=0) O O O O O qMI O (by rw [hl];exact jK 3)) rfl rfl λ_ _=>J.c j2<|J.f λ_ j4=>J.b rfl<|J.g (qAC rfl rfl) rfl<|J.T 2 qGH qMI rfl rfl rfl rfl rfl<|J.g (qAE 0 rfl rfl rfl qSN (by first|exact hb|exact qCw (by omega))) rfl<|J.g (qAg rfl rfl rfl) rfl<|J.b rfl<|J.c j4<|J.A<|J.E hw0 rfl () (congrArg Value.bool (decide_eq_decide.2 (by unfold qCH;rw [if_pos (show false=false∧bad=0 from⟨rfl,by omega⟩)]))) trivial [0,1] (by show [blk g _ _,F]= [blk g (qG9 false e bad l) _,F];unfold qG9;rw [if_pos (show false=false∧bad=0 from⟨rfl,by omega⟩)]) (by decide)
  exact J.M j2<|J.f λ_ j5=>J.b O<|J.g (qAC O O) O<|J.T 2 qGH qMI O O O O O<|J.g (qAE 0 O O O qSN (by first|exact hb|exact qCw (by omega))) O<|J.g (qAg O O O) O<|J.b O<|J.c j5<|J.A<|J.E hw0 O () (congrArg Value.bool (decide_eq_decide.2 (by unfold qCH;rw [if_neg (show¬(false=false∧bad=0) from λh=>h15 h.2)]))) trivial [0,1] (by show [blk g _ _,F]= [blk g (qG9 false e bad l) _,F];unfold qG9;rw [if_neg (show¬(false=false∧bad=0) from λh=>h15 h.2)]) (by decide)
theorem qL1(F:Hp)(g:Nat)(l:List Value)(hl:l.length=3)(bad:Int)(hb:l[2]?=some (I bad))(ok:Bool)(e:Int):
    Ct prog 135 [Ptr g,.bool ok,I e] [blk g l 158,F] (λ_:Unit=> .bool (decide (qCH ok e bad=0))) (λ_=>True) (λ_=> [blk g (qG9 ok e bad l) 158,F]):=by
  cases ok
  · exact qOl F g l hl bad hb e
  · exact qRP F g l hl bad hb e
def Wtr(m:Hp)(g:Nat)(bs:List UInt8)(bad:Int):Prop:= ∃l mr A c p,m=U [blk g l 158,mr]∧Dj (blk g l 158) mr∧l.length=3∧Bld g 0 l mr bs A c p∧l[2]?=some (I bad)
theorem lies(l:List Value)(hl:l.length=3):liesAt prog prog.depth 158 (l.length/prog.cellsOf 158) 0 156 1=true:=by rw [hl];kernel_rfl
def okN(n:UInt64)(size:Nat):Bool:=decide (n.toNat<2^(8*size))
def qK9(n:UInt64)(size:Nat)(bs:List UInt8)(bad:Int):List UInt8:=if qCH (okN n size) 10 bad=0 then bs++Sha.numB n size else bs
def okF(s:List UInt8)(size:Nat):Bool:=decide (s.length=size)
def qLB(s:List UInt8)(size:Nat)(bs:List UInt8)(bad:Int):List UInt8:=if qCH (okF s size) 10 bad=0 then bs++s else bs
theorem qQh(n:UInt64)(size t:Nat)(h:t<size):(Sha.numB n size).take (t+1)=(Sha.numB n size).take t++ [(UInt64.ofNat (n.toNat/2^min (8*(size-1-t)) 64)).toUInt8]:=by
 rw [jP (by rw [Sha.numB_length];exact h)]
 congr 2
 simp [Sha.numB]
theorem qS0(n:UInt64)(size:Nat)(h:size<8):(((UInt64.ofNat (n.toNat/2^min (8*size) 64)).toNat:Int)=0)↔n.toNat<2^(8*size):=by
  have hn:=n.toNat_lt
  rw [zB,jd (zQ (zo _ _) hn),jn (by omega)]
  have hp:=jz (8*size)
  constructor
  · intro h0
    have h1:n.toNat/2^(8*size)=0:=by omega
    rcases Nat.div_eq_zero_iff.1 h1 with h2|h2
    · omega
    · exact h2
  · intro h0
    rw [zL h0];rfl
theorem qDg(F m:Hp)(g:Nat)(bs:List UInt8)(bad:Int)(hw:Wtr m g bs bad)(hlen:bs.length≤1099511627776)(n:UInt64)(size:Nat)(h1:1≤size)(h8:size<8):
    Ct prog 67 [Ptr g,W64 n,I size] [m,F] (λ_:Hp=>Ptr g) (λm'=>Wtr m' g (qK9 n size bs bad) (qCH (okN n size) 10 bad)) (λm'=> [m',F]):=by
  obtain ⟨l,mr,A,c,p,rfl,hd,hl,hb,hbad⟩:=hw
  have hfl:=qI8 (ok:=(okN n size)) (e:=10) (bad:=bad) hl
  have hfb:=qI9 (ok:=(okN n size)) (e:=10) (bad:=bad) hl hb
  have hf2:=qJA (ok:=(okN n size)) (e:=10) hl hbad
  refine Ct.walk func67 rfl ntmps67 rfl (λw0 hw0=>?_)
  refine J.e6 hd ?_
  refine J.f λ_ j1=>J.b O<|J.c j1<|J.k λ_ j2=>J.f λ_ j3=>J.b O<|J.g ((qA6 underlying159 O O O).as (v':= .bool false) O) O<|J.q 3 O<|J.G ((qBA O O O).yes (by omega)) O<|J.q 2 O<|J.G ((qCM O O O).yes (by omega)) O<|J.q 3 O<|J.G ((qAg O O O).no (by omega)) O<|J.q 3 O<|J.G ((qDO O O O (by omega)).nat (8*size) (by omega)) O<|J.G (qFm O O O) O<|J.G ((qAg O O O).as (v':= .bool (okN n size)) (congrArg Value.bool (by unfold okN;exact decide_eq_decide.2 (qS0 n size h8)))) O<|J.q 2 O<|J.c9 (qAB O O ent135 (Ct.use1 0 O (λF' _=>qL1 F' g l hl bad hbad (okN n size) 10))) O λg29 _=>J.G (qGe O O) O<|J.b O<|J.c j3<|J.W O (λh31=>?_) (λh31=>?_)
  ·
    exact J.f λ_ j4=>J.q 2 O<|J.c j4<|J.A<|J.V<|J.a9 hw0 (λ_ _ h=>h) (qJv O O) (qCL (U [blk g (qG9 (okN n size) 10 bad l) 158,mr]) O (λhd=>⟨_,mr,A,c,p,O,hd,hfl,by unfold qK9;rw [if_neg (by omega)];exact hfb,hf2⟩) [0,1,2] rfl rfl (by decide))
  refine J.M j2<|J.k λ_ j5=>J.k λ_ j6=>?_
  have hok:qCH (okN n size) 10 bad=0:=by omega
  refine J.H<|J.b O<|J.g ((qA4 O O O (by omega)).as (v':=I ((size:Int)-1-((0:Nat):Int))) (congrArg I (by omega))) O<|J.b O<|J.c j6<|J.O<|J.b4 (X:=Nat×List Value×Hp) (λx=> [(0,Ptr g),(1,W64 n),(7,I ((size:Int)-1-(x.1:Int)))]) (λx=> [blk g x.2.1 158,x.2.2,F]) (λx=>x.1≤size∧x.2.1.length=3∧x.2.1[2]?=some (I (qCH (okN n size) 10 bad))∧ ∃A c p,Bld g 0 x.2.1 x.2.2 (bs++(Sha.numB n size).take x.1) A c p) (λx=>size-x.1) (0,(qG9 (okN n size) 10 bad l),mr) (⟨jG _,hfl,hf2,A,c,p,by rw [zg,jQ];exact hfb⟩) ⟨rfl,rfl,rfl,trivial⟩ (λ_ h=>h) ?_
  rintro⟨t,l2,mr2⟩ ⟨ht,hl2,hbad2,A2,c2,p2,hb2⟩ I0 hI0
  dsimp only at ht hl2 hbad2 hb2⊢
  refine J.k λ_ j7=>J.f λ_ j8=>J.b O<|J.g (qBA O O O) O<|J.c j8<|J.W O (λh36=>?_) (λh36=>?_)
  ·
    refine J.M j7<|J.k λ_ j9=>J.O<|J.b0 [] [] (.y 0 (.y 1 (.y 2 (.y 3 (.y 4 (.y 5 (.y 6 (.y 7 (.e 8 .nil))))))))) Tryz.wide (by decide+kernel) (by simp) ?_
    refine J.L ?_
    refine J.j O (qAC O O) O O<|J.j O (qAA O O qGH O sizeOf156 O) O O<|J.L ?_
    refine J.j O ((qA0 O O).nat (size-1-t) (by omega)) O O<|J.j O ((qDO O O O (by omega)).nat (8*(size-1-t)) (by omega)) O O<|J.j O (qFm O O O) O O<|J.j O (qFV O O qEU u5_) O O<|J.Z O (qAB O O ent136 (Ct.useA [blk g l2 158,mr2] [F] (A':=λx:List Value×Hp=> [blk g x.1 158,x.2]) (new:=λ_=> []) (λF' _=>qJW F' mr2 g 158 0 l2 (bs++(Sha.numB n size).take t) A2 c2 p2 hb2 (lies l2 hl2) ((UInt64.ofNat (n.toNat/2^min (8*(size-1-t)) 64)).toUInt8) (by rw [jA,jF,Sha.numB_length];omega)))) rfl (by simp) ?_
    rintro⟨l3,mr3⟩ ⟨A3,c3,hb3,hu3⟩
    dsimp only at hb3 hu3
    rw [jV,←qQh n size t (by omega)] at hb3
    refine J.a8<|J.a2<|J.u (J.D j9 ?_)
    exact J.H<|J.b O<|J.g ((qA4 O O O (by omega)).as (v':=I ((size:Int)-1-((t+1:Nat):Int))) (congrArg I (by omega))) O<|J.b O<|J.a3<|J.u<|J.a4 (t+1,l3,mr3) (λx (hx:_∧size-x.1<size-t)=>hI0 x hx.1 hx.2) ⟨⟨by dsimp only;omega,hu3.1.trans hl2,(hu3.2 2 (by decide) (by decide)).trans hbad2,A3,c3,_,hb3⟩,by dsimp only;omega⟩ ⟨O,O,O,trivial⟩ (λ_ h=>h)
  refine J.b2<|J.a0<|J.a0<|J.b3 ?_
  refine J.u (J.D j5 ?_)
  refine J.k λ_ j10=>?_
  have hts:t=size:=by omega
  subst hts
  rw [jc (by rw [Sha.numB_length];exact jK _)] at hb2
  exact J.H<|J.q 2 O<|J.c j10<|J.A<|J.a9 hw0 (λ_ _ h=>h) (qJv O O) (qCL (U [blk g l2 158,mr2]) O (λhd=>⟨l2,mr2,A2,c2,p2,O,hd,hl2,by unfold qK9;rw [if_pos hok];exact hb2,hbad2⟩) [0,1,2] rfl rfl (by decide))
theorem qDH(F m:Hp)(g:Nat)(bs:List UInt8)(bad:Int)(hw:Wtr m g bs bad)(hlen:bs.length≤1099511627776)(s:List UInt8)(hs:s.length≤1099511627776)(size:Nat):
    Ct prog 101 [Ptr g,Str s,I size] [m,F] (λ_:Hp=>Ptr g) (λm'=>Wtr m' g (qLB s size bs bad) (qCH (okF s size) 10 bad)) (λm'=> [m',F]):=by
  obtain ⟨l,mr,A,c,p,rfl,hd,hl,hb,hbad⟩:=hw
  have hfl:=qI8 (ok:=(okF s size)) (e:=10) (bad:=bad) hl
  have hfb:=qI9 (ok:=(okF s size)) (e:=10) (bad:=bad) hl hb
  have hf2:=qJA (ok:=(okF s size)) (e:=10) hl hbad
  refine Ct.walk func101 rfl ntmps101 rfl (λw0 hw0=>?_)
  refine J.e6 hd ?_
  refine J.f λ_ j1=>J.b O<|J.c j1<|J.k λ_ j2=>J.f λ_ j3=>J.b O<|J.g ((qYM underlying159 O O O).as (v':= .bool true) O) O<|J.q 3 O<|J.G (qAt u9_ O O) O<|J.b O<|J.G ((qAg O O O).as (v':= .bool (okF s size)) (congrArg Value.bool (by unfold okF;exact decide_eq_decide.2 (by omega)))) O<|J.c9 (qAB O O ent135 (Ct.use1 0 O (λF' _=>qL1 F' g l hl bad hbad (okF s size) 10))) O λg15 _=>J.b O<|J.c j3<|J.W O (λh16=>?_) (λh16=>?_)
  ·
    refine J.H<|J.b O<|J.g (qAC O O) O<|J.T 0 qGH sizeOf156 O O O O O<|J.b O<|J.p (qAB O O ent112 (Ct.useA [blk g (qG9 (okF s size) 10 bad l) 158,mr] [F] (A':=λx:List Value×Hp=> [blk g x.1 158,x.2]) (new:=λ_=> []) (λF' _=>qBO F' mr g 158 0 (qG9 (okF s size) 10 bad l) bs A c p hfb (lies _ hfl) s (by omega)))) O ?_
    rintro⟨l3,mr3⟩ ⟨A3,c3,hb3,hu3⟩
    dsimp only at hb3 hu3
    exact J.c j2<|J.f λ_ j4=>J.q 2 O<|J.c j4<|J.A<|J.a9 hw0 (λ_ _ h=>h) (qJv O O) (qCL (U [blk g l3 158,mr3]) O (λhd=>⟨l3,mr3,A3,c3,_,O,hd,hu3.1.trans hfl,by unfold qLB;rw [if_pos (by assumption)];exact hb3,(hu3.2 2 (by decide) (by decide)).trans hf2⟩) [0,1,2] rfl rfl (by decide))
  exact J.M j2<|J.f λ_ j5=>J.q 2 O<|J.c j5<|J.A<|J.a9 hw0 (λ_ _ h=>h) (qJv O O) (qCL (U [blk g (qG9 (okF s size) 10 bad l) 158,mr]) O (λhd=>⟨_,mr,A,c,p,O,hd,hfl,by unfold qLB;rw [if_neg (by assumption)];exact hfb,hf2⟩) [0,1,2] rfl rfl (by decide))
theorem qNY{P:Program}{X:Type}{f:FuncId}{vs:List Value}{a b:Hp}{r:List Hp}{val:X→Value}{φ:X→Prop}{A B:X→Hp}{ψ:Hp→Prop}{v:Value}(hd:Dj a b)(hv: ∀x,φ x→val x=v)(hp: ∀x,φ x→Dj (A x) (B x)→ψ (U [A x,B x]))(h:Ct P f vs (a::b::r) val φ (λx=>A x::B x::r)):Ct P f vs (U [a,b]::r) (λ_:Hp=>v) ψ (λm=>m::r):=
 λw0 w hs=>(h w0 w (hs.splitU hd)).mono λe w' ⟨x,he,hx,hs'⟩=>⟨U [A x,B x],by rw [he,hv x hx],hp x hx hs'.dj2,hs'.joinU⟩
theorem failW(F m:Hp)(g:Nat)(bs:List UInt8)(bad:Int)(hw:Wtr m g bs bad)(hlen:bs.length≤1099511627776)(ok:Bool)(e:Int):
    Ct prog 135 [Ptr g,.bool ok,I e] [m,F] (λ_:Hp=> .bool (decide (qCH ok e bad=0))) (λm'=>Wtr m' g bs (qCH ok e bad)) (λm'=> [m',F]):=by
  obtain ⟨l,mr,A,c,p,rfl,hd,hl,hb,hbad⟩:=hw
  exact qNY (A:=λ_:Unit=>blk g (qG9 ok e bad l) 158) (B:=λ_=>mr) hd (λ_ _=>rfl) (λ_ _ hd'=>⟨_,mr,A,c,p,rfl,hd',qI8 hl,qI9 hl hb,qJA hl hbad⟩) (Ct.use1 0 (m':=λ_:Unit=>blk g (qG9 ok e bad l) 158) (new:=λ_=> []) rfl (λF' _=>qL1 F' g l hl bad hbad ok e))
theorem qJV(F m:Hp)(g:Nat)(bs:List UInt8)(bad:Int)(hw:Wtr m g bs bad)(hlen:bs.length≤2199023255552)(s:List UInt8)(hs:s.length≤1099511627776):
    Ct prog 112 [.pointer (some ⟨g,0,none⟩),Str s] [m,F] (λ_:Hp=> .tuple #[I s.length,.nilIface]) (λm'=>Wtr m' g (bs++s) bad) (λm'=> [m',F]):=by
  obtain ⟨l,mr,A,c,p,rfl,hd,hl,hb,hbad⟩:=hw
  exact qNY (A:=λx:List Value×Hp=>blk g x.1 158) (B:=λx=>x.2) hd (λ_ _=>rfl) (λx hx hd'=>by obtain ⟨A3,c3,hb3,hu3⟩:=hx;exact⟨x.1,x.2,A3,c3,_,rfl,hd',hu3.1.trans hl,hb3,(hu3.2 2 (by decide) (by decide)).trans hbad⟩) (qBO F mr g 158 0 l bs A c p hb (lies l hl) s (by omega))
def okT(s:List UInt8):Bool:=decide (s.length≤4096)
def qK6(s:List UInt8)(bs:List UInt8)(bad:Int):List UInt8:=if qCH (okT s) 2 bad=0 then bs++Sha.numB (UInt64.ofNat s.length) 2++s else bs
theorem qVl{s:List UInt8}{bad:Int}(h:qCH (okT s) 2 bad=0):s.length≤4096∧bad=0:=by
  unfold qCH okT at h
  split at h
  · omega
  · rename_i h1
    refine⟨?_,h⟩
    simp only [decide_eq_false_iff_not] at h1
    omega
theorem qQe{n:Nat}(h:n≤4096):okN (UInt64.ofNat n) 2=true:=by
 unfold okN
 rw [decide_eq_true_iff,zB,jd (by omega)]
 omega
theorem qCX{n:UInt64}{size:Nat}{bs:List UInt8}(h:okN n size=true):qK9 n size bs 0=bs++Sha.numB n size:=by
 unfold qK9 qCH
 rw [h];rfl
theorem qPW(F m:Hp)(g:Nat)(bs:List UInt8)(bad:Int)(hw:Wtr m g bs bad)(hlen:bs.length≤1099511627776)(s:List UInt8)(hs:s.length≤1099511627776):
    Ct prog 134 [Ptr g,Str s] [m,F] (λ_:Hp=>Ptr g) (λm'=>Wtr m' g (qK6 s bs bad) (qCH (okT s) 2 bad)) (λm'=> [m',F]):=by
  refine Ct.walk func134 rfl ntmps134 rfl (λw0 hw0=>?_)
  refine J.f λ_ j1=>J.b O<|J.c j1<|J.k λ_ j2=>J.f λ_ j3=>J.b O<|J.g ((qA6 underlying159 O O O).as (v':= .bool false) O) O<|J.q 3 O<|J.G (qAt u9_ O O) O<|J.G ((qCM O O O).as (v':= .bool (okT s)) (congrArg Value.bool (by unfold okT;exact decide_eq_decide.2 (by omega)))) O<|J.c9 (qAB O O ent135 (failW F m g bs bad hw hlen (okT s) 2)) O ?_
  rintro m1 hw1
  refine J.G (qGe O O) O<|J.b O<|J.c j3<|J.W O (λh14=>?_) (λh14=>?_)
  ·
    exact J.f λ_ j4=>J.q 2 O<|J.c j4<|J.A<|J.V<|J.E hw0 O m1 O (by unfold qK6;rw [if_neg (by omega)];exact hw1) [0,1] rfl (by decide)
  refine J.M j2<|J.k λ_ j5=>?_
  have hok:qCH (okT s) 2 bad=0:=by omega
  have hs4:=(qVl hok).1
  rw [hok] at hw1
  refine J.H<|J.q 2 O<|J.g (qAt u9_ O O) O<|J.g (qAw O O u3_ qEU (by omega)) O<|J.p (qAB O O ent67 ((qDg F m1 g bs 0 hw1 hlen (UInt64.ofNat s.length) 2 (by omega) (by omega)))) O ?_
  rintro m2 hw2
  rw [qCX (qQe hs4),qQe hs4] at hw2
  refine J.c j5<|J.f λ_ j6=>J.b O<|J.g (qAC O O) O<|J.T 0 qGH sizeOf156 O O O O O<|J.b O<|J.p (qAB O O ent112 (qJV F m2 g (bs++Sha.numB (UInt64.ofNat s.length) 2) 0 hw2 (by rw [jA,Sha.numB_length];omega) s hs)) rfl ?_
  rintro m3 hw3
  exact J.c j6<|J.f λ_ j7=>J.q 2 O<|J.c j7<|J.A<|J.E hw0 O m3 O (by unfold qK6;rw [if_pos hok,hok];exact hw3) [0,1] rfl (by decide)
theorem qDJ(F m:Hp)(g:Nat)(bs:List UInt8)(bad:Int)(hw:Wtr m g bs bad)(hlen:bs.length≤2199023255552):
    Ct prog 68 [Ptr g] [m,F] (λ_:Hp=> .tuple #[Str (if bad=0 then bs else []),I bad]) (λm'=>Wtr m' g bs bad) (λm'=> [m',F]):=by
  obtain ⟨l,mr,A,c,p,rfl,hd,hl,hb,hbad⟩:=hw
  refine Ct.walk func68 rfl ntmps68 rfl (λw0 hw0=>?_)
  refine J.e6 hd ?_
  refine J.f λ_ j1=>J.q 2 O<|J.c j1<|J.k λ_ j2=>J.O<|J.f λ_ j3=>J.b O<|J.g ((qA6 underlying159 O O O).as (v':= .bool false) O) O<|J.b O<|J.c j3<|J.a1 ?_
  refine J.f λ_ j4=>J.b O<|J.g (qAC O O) O<|J.T 2 qGH qMI O O O O O<|J.g (qAE 0 O O O qSN hbad) O<|J.g (qAe O O O) O<|J.b O<|J.c j4<|J.W O (λh7=>?_) (λh7=>?_)
  ·
    refine J.k λ_ j5=>J.b0 [blk g l 158,mr,F] [] (.y 0 (.y 1 (.y 2 (.y 3 (.y 4 (.y 5 .nil)))))) Tryz.wide (by decide+kernel) (by simp) ?_
    refine J.L ?_
    refine J.j O (qAC O O) O O<|J.j O (qAA O O qGH O qMI O) O O<|J.j O (qAE 0 O O O qSN hbad) O O<|J.b6 ?_
    refine J.b6 ?_
    refine J.a8<|J.u (J.D j5 ?_)
    exact J.A<|J.a7<|J.V<|J.a9 hw0 (λ_ _ h=>h) (qCG O O O) (qCL (U [blk g l 158,mr]) (by rw [if_neg (by omega)]) (λhd=>⟨l,mr,A,c,p,rfl,hd,hl,hb,hbad⟩) [0,1,2] rfl rfl (by decide))
  refine J.b5<|J.a2<|J.u (J.D j2 ?_)
  refine J.k λ_ j6=>?_
  have hz:bad=0:=by omega
  subst hz
  refine J.H<|J.b O<|J.g (qAC O O) O<|J.T 0 qGH sizeOf156 O O O O O<|J.p (qAB O O ent114 (Ct.useA [blk g l 158,mr] [F] (A':=λx:Hp=> [blk g l 158,x]) (new:=λ_=> []) (λF' _=>qD6 F' mr g 158 0 l bs A c p hb (by omega)))) O ?_
  rintro mr2 hb2
  exact J.q 2 O<|J.c j6<|J.A<|J.a9 hw0 (λ_ _ h=>h) (qCG O O O) (qCL (U [blk g l 158,mr2]) (O) (λhd=>⟨l,mr2,A,c,p,O,hd,hl,hb2,hbad⟩) [0,1,2] O O (by decide))
structure RS where
 s:List UInt8
 bad:Int
def RS.can(st:RS)(size:Nat):Bool:=decide (st.bad=0∧size≤st.s.length)
def RS.out(st:RS)(size:Nat):List UInt8:=if st.bad=0∧size≤st.s.length then st.s.take size else []
def RS.take(st:RS)(size:Nat):RS:=if st.bad=0 then(if size≤st.s.length then⟨st.s.drop size,0⟩ else⟨st.s,3⟩) else st
def RS.form(st:RS):RS:=if st.bad=0 then⟨st.s,4⟩ else st
def qFC(l:List UInt8):Nat:=l.foldl (λn c=>n*256+c.toNat) 0
theorem qQn(l:List UInt8)(t:Nat)(ht:t<l.length):qFC (l.take (t+1))=qFC (l.take t)*256+(l[t]'ht).toNat:=by
 rw [jP ht,qFC,List.foldl_append];rfl
theorem qQo(l:List UInt8)(c:UInt8):qFC (l++ [c])=qFC l*256+c.toNat:=by
 rw [qFC,List.foldl_append];rfl
theorem qTj(l:List UInt8):qFC l.reverse<256^l.length:=by
 induction l with
 |nil=>decide
 |cons c l ih=>
  rw [List.reverse_cons,qQo,jD,jr]
  have:=c.toNat_lt
  omega
theorem qLn(l:List UInt8):qFC l<256^l.length:=by
 have:=qTj l.reverse
 rwa [List.reverse_reverse,List.length_reverse] at this
theorem RS.out_len(st:RS)(size:Nat):(st.out size).length≤size:=by
 unfold RS.out
 split
 · rw [jF];omega
 · exact jG _
theorem qW1(l:List UInt8)(n t:Nat)(h:l.length≤n)(hn:n≤8)(ht:t<l.length):qFC (l.take t)<72057594037927936:=
 zK (qLn _) (jb (jf (by omega) (show(l.take t).length≤7 by rw [jF];omega)) (by decide))
def RSb(g:Nat)(st:RS):Hp:=blk g [Str st.s,I st.bad] 271
theorem qWe{P:Program}{env:Env}{rs:List Hp}{o:Oper}{t t':TypeId}{x y:Operand}{a m:Nat}{yk:IntKind}(ho:o.op= .binOp .shl t x y t')(hx:ev env x=some (N64 a))(hy:ev env y=some (.int yk (m:Nat)))(hm:m≤64)(hr:a<18446744073709551616∧a*2^m<18446744073709551616):YOp P env rs o (N64 (a*2^m)):=by
 rw [N_W hr.1] at hx
 exact(qMy ho hx hy).as (by show Value.int .u64 _=Value.int .u64 _;rw [qBE hr.1,jn hm,qBE hr.2])
theorem qYN{P:Program}{env:Env}{rs:List Hp}{o:Oper}{t t':TypeId}{x y:Operand}{a b:Nat}(ho:o.op= .binOp .or t x y t')(hx:ev env x=some (N64 a))(hy:ev env y=some (N64 b))(hr:a<18446744073709551616∧b<18446744073709551616):YOp P env rs o (N64 (a|||b)):=by
 rw [N_W hr.1] at hx
 rw [N_W hr.2] at hy
 exact(qQY ho hx hy).as (by show Value.int .u64 _=Value.int .u64 _;rw [UInt64.toNat_or,qBE hr.1,qBE hr.2])
theorem qYK(a b:Nat)(h:b<256):a*2^8|||b=a*256+b:=by
 rw [zp,←Nat.two_pow_add_eq_or_of_lt (i:=8) h]
theorem qWL(F:Hp)(s:List UInt8):
    Ct prog 125 [Str s] [F] Ptr (λ_=>True) (λg=> [RSb g ⟨s,0⟩,F]):=by
  refine Ct.walk func125 rfl ntmps125 rfl (λw0 hw0=>?_)
  refine J.f λ_ j1=>J.b O<|J.c j1<|J.f λ_ j2=>J.b O<|J.g (qAK (places:= [(0,1),(1,1)]) (r:= [Str s,I 0]) O O O qLH zeroValue271 (λ_=>by kernel_rfl) O) O<|J.p (qAd O O O) O ?_
  rintro g5 _
  exact J.b O<|J.c j2<|J.A<|J.E hw0 O g5 O trivial [1,0] O (by decide)
theorem qPX(F:Hp)(g:Nat)(st:RS)(size:Nat):
    Ct prog 175 [Ptr g,I size] [RSb g st,F] (λ_:Unit=> .tuple #[Str (st.out size),.bool (st.can size)]) (λ_=>True) (λ_=> [RSb g (st.take size),F]):=by
  obtain ⟨s,bad⟩:=st
  change Ct _ _ _ [blk g [Str s,I bad] 271,F] _ _ _
  refine Ct.walk func175 rfl ntmps175 rfl (λw0 hw0=>?_)
  refine J.f λ_ j1=>J.q 2 O<|J.c j1<|J.k λ_ j2=>J.f λ_ j3=>J.b O<|J.g ((qA6 underlying221 O O O).as (v':= .bool false) O) O<|J.q 2 O<|J.G (qAC O O) O<|J.G (qAA O O qLH O qMI O) O<|J.G (qAE 0 O O O qSN O) O<|J.G (qAe O O O) O<|J.b O<|J.c j3<|J.W O (λh15=>?_) (λh15=>?_)
  ·
    exact J.f λ_ j4=>J.q 2 O<|J.c j4<|J.A<|J.V<|J.a9 hw0 (λ_ _ h=>h) (qCG O O O) (qAq () (by unfold RS.out RS.can;simp only [h15,false_and,if_false,decide_false]) trivial [0,1] (by unfold RS.take RSb;simp only [if_neg h15];rfl) (by decide))
  refine J.M j2<|J.k λ_ j5=>J.f λ_ j6=>J.q 2 O<|J.g (qAC O O) O<|J.T 0 qLH z9_ O O O O O<|J.a5 0 b9_ O O O O O<|J.g (qAt u9_ O O) O<|J.g (qA5 O O O) O<|J.c j6<|J.W O (λh22=>?_) (λh22=>?_)
  ·
    exact J.f λ_ j7=>J.b O<|J.g (qAC O O) O<|J.T 1 qLH qMI O O O O O<|J.a6 (qAW (i:=0) O O O O O qMI O (by simp)) rfl rfl λ_ _=>J.c j7<|J.f λ_ j8=>J.q 2 rfl<|J.c j8<|J.A<|J.V<|J.a9 hw0 (λ_ _ h=>h) (qCG rfl rfl rfl) (qAq () (by unfold RS.out RS.can;simp only [show¬size≤s.length by omega,and_false,if_false,decide_false]) trivial [0,1] (by unfold RS.take RSb;simp only [show bad=0 by omega,if_true,if_neg (show¬size≤s.length by omega)];rfl) (by decide))
  exact J.M j5<|J.f λ_ j9=>J.b O<|J.g (qAC O O) O<|J.T 0 qLH z9_ O O O O O<|J.a5 0 b9_ O O O O O<|J.b O<|J.g ((qA9 u9_ O O O O ⟨by omega,by omega⟩).as (v':=Str (s.take size)) (congrArg Str zm)) O<|J.b O<|J.c j9<|J.f λ_ j10=>J.q 2 O<|J.g (qAC O O) O<|J.T 0 qLH z9_ O O O O O<|J.a5 0 b9_ O O O O O<|J.b O<|J.g ((qA9 u9_ O O O O ⟨by omega,by omega⟩).as (v':=Str (s.drop size)) (by rw [jo])) rfl<|J.g (qAC rfl rfl) rfl<|J.T 0 qLH z9_ rfl rfl rfl rfl rfl<|J.a6 (qAW (i:=0) rfl rfl rfl rfl rfl z9_ rfl (by simp)) rfl rfl λ_ _=>J.c j10<|J.f λ_ j11=>J.q 3 rfl<|J.c j11<|J.A<|J.a9 hw0 (λ_ _ h=>h) (qCG rfl rfl rfl) (qAq () (by unfold RS.out RS.can;simp only [show bad=0 by omega,show size≤s.length by omega,and_self,if_true,decide_true]) trivial [0,1] (by unfold RS.take RSb;simp only [show bad=0 by omega,if_true,if_pos (show size≤s.length by omega)];rfl) (by decide))
theorem qGQ(F:Hp)(g:Nat)(st:RS)(size:Nat)(h1:1≤size)(h8:size≤8):
    Ct prog 126 [Ptr g,I size] [RSb g st,F] (λ_:Unit=>N64 (qFC (st.out size))) (λ_=>True) (λ_=> [RSb g (st.take size),F]):=by
  have hol:=st.out_len size
  have hlt:=qLn (st.out size)
  refine Ct.walk func126 rfl ntmps126 rfl (λw0 hw0=>?_)
  refine J.f λ_ j1=>J.b O<|J.c j1<|J.k λ_ j2=>J.f λ_ j3=>J.b O<|J.g ((qAT O O O).no (by omega)) O<|J.q 2 O<|J.G ((qA5 O O O).no (by omega)) O<|J.b O<|J.c j3<|J.a1 ?_
  refine J.M j2<|J.f λ_ j4=>J.q 2 O<|J.p (qAB O O ent175 (Ct.use1 0 O (λF' _=>qPX F' g st size))) O λg20 _=>J.b O<|J.g (qAh O O O) O<|J.g (qAh O O O) O<|J.q 2 O<|J.c j4<|J.f λ_ j5=>J.b O<|J.c j5<|J.k λ_ j6=>J.f λ_ j7=>J.b O<|J.g (qAt u9_ O O) O<|J.b O<|J.c j7<|J.O<|J.b4 (X:=Nat) (λt=> [(5,Str (st.out size)),(7,N64 (qFC ((st.out size).take t))),(24,I (st.out size).length),(25,I t)]) (λ_=> [RSb g (st.take size),F]) (λt=>t≤(st.out size).length) (λt=>(st.out size).length-t) 0 (jG _) ⟨O,O,O,O,trivial⟩ (λ_ h=>h) ?_
  intro t ht I0 hI0
  refine J.f λ_ j8=>J.g (qAT O O O) O<|J.c j8<|J.k λ_ j9=>J.W O (λh26=>?_) (λh26=>?_)
  ·
    refine J.M j9<|J.k λ_ j10=>J.O<|J.k λ_ j11=>?_
    have ht1:t<(st.out size).length:=by omega
    have hnt:=qW1 (st.out size) size t hol h8 ht1
    refine J.H<|J.q 2 O<|J.c j11<|J.H<|J.b O<|J.g (qWe (m:=8) O O O (by omega) (by omega)) O<|J.q 2 O<|J.g (qBf u9_ O O O (jC ht1)) O ?_
    refine J.g (qQZ O O u5_ qEU) O<|J.g ((qYN O O O (by have:=(UInt8.toNat_lt ((st.out size)[t]'ht1));omega)).as (v':=N64 (qFC ((st.out size).take (t+1)))) (congrArg N64 ((qYK _ _ (UInt8.toNat_lt ((st.out size)[t]'ht1))).trans (qQn _ t ht1).symm))) O<|J.b O<|J.a3<|J.a2<|J.u (J.D j10 ?_)
    exact J.H<|J.g (qAS O O O (by omega)) O<|J.b O<|J.a3<|J.u<|J.a4 (t+1) (λx (hx:_∧(st.out size).length-x<(st.out size).length-t)=>hI0 x hx.1 hx.2) ⟨by omega,by omega⟩ ⟨O,O,O,O,trivial⟩ (λ_ h=>h)
  refine J.b2<|J.a0<|J.a0<|J.b3 ?_
  refine J.u (J.D j6 ?_)
  refine J.k λ_ j12=>?_
  have hte:t=(st.out size).length:=by omega
  subst hte
  exact J.H<|J.q 2 O<|J.c j12<|J.A<|J.E hw0 O () (by rw [jo]) trivial [0,1] rfl (by decide)
theorem qJu(F:Hp)(g:Nat)(st:RS)(size:Nat):
    Ct prog 178 [Ptr g,I size] [RSb g st,F] (λ_:Unit=>Str (st.out size)) (λ_=>True) (λ_=> [RSb g (st.take size),F]):=by
  refine Ct.walk func178 rfl ntmps178 rfl (λw0 hw0=>?_)
  refine J.f λ_ j1=>J.b O<|J.c j1<|J.k λ_ j2=>J.f λ_ j3=>J.b O<|J.g ((qAT O O O).no (by omega)) O<|J.c j3<|J.a1 ?_
  exact J.M j2<|J.f λ_ j4=>J.q 2 O<|J.p (qAB O O ent175 (Ct.use1 0 O (λF' _=>qPX F' g st size))) O λg14 _=>J.b O<|J.g (qAh O O O) O<|J.g (qAh O O O) O<|J.q 2 O<|J.c j4<|J.f λ_ j5=>J.q 2 O<|J.c j5<|J.A<|J.E hw0 O () O trivial [0,1] O (by decide)
def RS.textR(st:RS):RS:=if 4096<qFC (st.out 2) then(st.take 2).form else(st.take 2).take (qFC (st.out 2))
def RS.last(st:RS):Int:=if st.bad=0 then(if st.s= [] then 0 else 2) else st.bad
theorem qF5(g:Nat):Wtr (blk g [.pointer none,.slice none 0 0,I 0] 158) g [] 0:=
 ⟨[.pointer none,.slice none 0 0,I 0],λ_=>none,none,0,none,by funext k;simp only [U];cases blk g [.pointer none,.slice none 0 0,I 0] 158 k<;>rfl,λ_=> .inr rfl,rfl,⟨rfl,.inl rfl,rfl,qBb.nil,.inl rfl⟩,rfl⟩
theorem qDr(s:List UInt8)(n:Nat)(bs:List UInt8)(bad:Int):(qLB s n bs bad).length≤bs.length+n:=by
 unfold qLB qCH okF
 by_cases h1:s.length=n<;>by_cases h2:bad=0<;>simp [h1,h2]
theorem qSW(n:UInt64)(size:Nat)(bs:List UInt8)(bad:Int):(qK9 n size bs bad).length≤bs.length+size:=by
 unfold qK9
 split
 · rw [jA,Sha.numB_length];omega
 · omega
theorem qLh{s:List UInt8}{n:Nat}(h:s.length=n):okF s n=true:=decide_eq_true h
theorem okF_f{s:List UInt8}{n:Nat}(h: ¬s.length=n):okF s n=false:=decide_eq_false h
theorem qB2(e bad:Int):qCH true e bad=bad:=by simp [qCH]
theorem qGB{s:List UInt8}{n:Nat}(h:s.length=n)(bs:List UInt8):qLB s n bs 0=bs++s:=by
 unfold qLB;rw [qLh h,qB2];simp
def qGS(o r:List UInt8)(h:Int):Prop:=0≤h∧h≤6∧o.length=16∧r.length=16
instance (o r:List UInt8) (h:Int):Decidable (qGS o r h):=by unfold qGS;infer_instance
def qBL(o r:List UInt8)(h:Int):List UInt8:=if qGS o r h then o++r++ [UInt8.ofNat h.toNat] else []
def qBH(o r:List UInt8)(h:Int):Int:=if qGS o r h then 0 else 10
theorem numB1: ∀k,k<7→Sha.numB (UInt64.ofNat k) 1= [UInt8.ofNat k]:=by decide
theorem okN1: ∀k,k<7→okN (UInt64.ofNat k) 1=true:=by decide
def qOH(o r:List UInt8):Int:=qCH (okF r 16) 10 (qCH (okF o 16) 10 0)
def pbs(o r:List UInt8):List UInt8:=qLB r 16 (qLB o 16 [] 0) (qCH (okF o 16) 10 0)
theorem qP4(o r:List UInt8)(k:Nat)(hk:k≤6):qCH (okN (UInt64.ofNat k) 1) 10 (qOH o r)=qBH o r k:=by
 rw [okN1 k (by omega),qB2]
 unfold qOH qBH qGS okF qCH
 by_cases h1:o.length=16<;>by_cases h2:r.length=16<;>simp [h1,h2]<;>omega
theorem qYF(o r:List UInt8)(k:Nat)(hk:k≤6)(h:qBH o r k=0):qK9 (UInt64.ofNat k) 1 (pbs o r) (qOH o r)=qBL o r k:=by
  have hb:=qP4 o r k hk
  unfold qK9 qBL
  rw [hb,h,if_pos rfl,numB1 k (by omega)]
  unfold qBH at h
  split at h
  · rename_i h1
    rw [if_pos h1]
    have h2:=h1
    unfold qGS at h2
    unfold pbs
    rw [qGB h2.2.2.1,qLh h2.2.2.1,qB2,qGB h2.2.2.2];simp
  · omega
theorem qWT{o r:List UInt8}{h:Int}(hn: ¬qBH o r h=0):qBL o r h= []:=by
 unfold qBH at hn;unfold qBL
 split at hn
 · omega
 · rename_i h1;rw [if_neg h1]
theorem qU2{o r:List UInt8}{h:Int}(hn:h<0∨6<h):Value.tuple #[Str [],I 10]= .tuple #[Str (qBL o r h),I (qBH o r h)]:=by
 have h1: ¬qGS o r h:=by unfold qGS;omega
 unfold qBL qBH
 rw [if_neg h1,if_neg h1]
theorem qWR(o r:List UInt8)(k:Nat)(hk:k≤6):Value.tuple #[Str (if qCH (okN (UInt64.ofNat k) 1) 10 (qOH o r)=0 then qK9 (UInt64.ofNat k) 1 (pbs o r) (qOH o r) else []),I (qCH (okN (UInt64.ofNat k) 1) 10 (qOH o r))]= .tuple #[Str (qBL o r k),I (qBH o r k)]:=by
 rw [qP4 o r k hk]
 by_cases h:qBH o r k=0
 · rw [if_pos h,qYF o r k hk h]
 · rw [if_neg h,qWT h]
theorem qDy(F:Hp)(o r:List UInt8)(h:Int)(ho:o.length≤1048576)(hr:r.length≤1048576):
    Cz prog 100 [.agg #[Str o,Str r,I h]] F (.tuple #[Str (qBL o r h),I (qBH o r h)]):=by
  refine Ct.walk func100 rfl ntmps100 rfl (λw0 hw0=>?_)
  refine J.f λ_ j1=>J.p (qAd O O O) O λg1 _=>J.q 2 O<|J.c j1<|J.k λ_ j2=>J.f λ_ j3=>J.T 2 qLG z3_ O O O O O<|J.a5 1 b3_ O O O O O<|J.g (qAT O O O) O<|J.b O<|J.b9 (d:=8) O (λh8=>?_) (λh8=>?_)
  ·
    refine J.q 4 O<|J.c j3<|J.c4 ?_
    exact J.f λ_ j4=>J.q 2 O<|J.c j4<|J.A<|J.V<|J.a9 hw0 (λ_ _ h=>h) (qCG O O O) (qAq () (qU2 (by omega)) trivial [0] O (by decide))
  refine J.G (qAA O O qLG O z3_ O) O<|J.G (qAE 1 O O O b3_ O) O<|J.G (qA5 O O O) O<|J.b O<|J.c j3<|J.W O (λh12=>?_) (λh12=>?_)
  ·
    exact J.f λ_ j5=>J.q 2 O<|J.c j5<|J.A<|J.V<|J.a9 hw0 (λ_ _ h=>h) (qCG O O O) (qAq () (qU2 (by omega)) trivial [0] O (by decide))
  refine J.M j2<|J.k λ_ j6=>?_
  obtain ⟨k,hk⟩:=zh (show 0≤h by omega)
  have hk6:k≤6:=by omega
  refine J.H<|J.p (qAL O qKb O) O λg4 _=>J.c j6<|J.k λ_ j7=>J.b0 [blk g1 [Str o,Str r,I h] 59] [] (.y 0 (.y 1 (.y 3 (.y 4 (.y 6 (.y 7 (.y 8 (.e 2 (.e 5 (.e 9 (.e 10 (.y 11 (.y 12 (.y 13 (.y 14 .nil))))))))))))))) Tryz.wide (by decide+kernel) (by simp) ?_
  refine J.j O (qAA O O qLG O z9_ O) O O<|J.j O (qAE 0 O O O b9_ O) O O<|J.j O (qAA O O qLG O z9_ O) O O<|J.j O (qAE 0 O O O b9_ O) O O<|J.j O (qAA O O qLG O z3_ O) O O<|J.j O (qAE 0 O O O b3_ O) O O<|J.j O ((qB7 O O u3_ qEU).as (v':=W64 (UInt64.ofNat k)) (by rw [show(h%18446744073709551616).toNat=k by omega])) rfl rfl<|J.Z rfl (qAB rfl rfl ent101 (Ct.use1 2 rfl (λF' _=>qDH F' (blk g4 [.pointer none,.slice none 0 0,I 0] 158) g4 [] 0 (qF5 g4) (by decide) o (by omega) 16))) rfl (by simp) ?_
  rintro m15 hw15
  refine J.Z O (qAB O O ent101 (Ct.use1 2 O (λF' _=>qDH F' m15 g4 (qLB o 16 [] 0) (qCH (okF o 16) 10 0) hw15 (by have:=qDr o 16 [] 0;simp only [jE] at this;omega) r (by omega) 16))) rfl (by simp) ?_
  rintro m18 hw18
  refine J.Z O (qAB O O ent67 (Ct.use1 2 O (λF' _=>qDg F' m18 g4 (pbs o r) (qOH o r) hw18 (by have:=qDr o 16 [] 0;have h2:=qDr r 16 (qLB o 16 [] 0) (qCH (okF o 16) 10 0);simp only [jE] at this;unfold pbs;omega) (UInt64.ofNat k) 1 (by omega) (by omega)))) rfl (by simp) ?_
  rintro m22 hw22
  refine J.Z O (qAB O O ent68 (Ct.use1 2 O (λF' _=>qDJ F' m22 g4 (qK9 (UInt64.ofNat k) 1 (pbs o r) (qOH o r)) (qCH (okN (UInt64.ofNat k) 1) 10 (qOH o r)) hw22 (by have:=qDr o 16 [] 0;have h2:=qDr r 16 (qLB o 16 [] 0) (qCH (okF o 16) 10 0);have h3:=qSW (UInt64.ofNat k) 1 (pbs o r) (qOH o r);simp only [jE] at this;unfold pbs at h3⊢;omega)))) rfl (by simp) ?_
  rintro m23 hw23
  refine J.c3 (Str (if qCH (okN (UInt64.ofNat k) 1) 10 (qOH o r)=0 then qK9 (UInt64.ofNat k) 1 (pbs o r) (qOH o r) else [])) ?_
  refine J.c3 (I (qCH (okN (UInt64.ofNat k) 1) 10 (qOH o r))) ?_
  refine J.b6 ?_
  refine J.b6 ?_
  refine J.a8<|J.u (J.D j7 ?_)
  exact J.A<|J.a9 hw0 (λ_ _ h=>h) (qCG O O O) (qAq () (by subst hk;exact qWR o r k hk6) trivial [0] O (by decide))
theorem eqPub(d:Nat)(o r o' r':List UInt8)(h h':Int)(w:World):(Op.equalIn (d+2) 59 (.agg #[Str o,Str r,I h]) (.agg #[Str o',Str r',I h'])).run prog w= .ok (decide (o=o'∧r=r'∧h=h')) w:=by
 have u3:=u3_
 have a3:=b3_
 have us:=u9_
 have ag:=b9_
 have hS:prog.underlying 59=some (.struct (prog.fieldsOf 59)):=by kernel_rfl
 have hp:prog.stoodInHeld 59=false:=by kernel_rfl
 rw [show d+2=(d+1)+1 from rfl,run_equalIn_struct w (d+1) 59 _ _ hS hp]
 simp only [Program.fieldsOf,qLG]
 have hi: ∀(a b:Int) (w:World),(Op.equalIn (d+1) 3 (.int .i64 a) (.int .i64 b)).run prog w= .ok (a==b) w:=λa b w=>run_equalIn_int w d 3 .i64 .i64 a b u3
 have hs: ∀(a b:List UInt8) (w:World),(Op.equalIn (d+1) 9 (Str a) (Str b)).run prog w= .ok (decide (a=b)) w:=λa b w=>by rw [run_equalIn_string w d 9 _ _ us,qG3]
 simp only [Op.eqFields]
 simp [part,a3,ag,hi,hs]
 by_cases h1:o=o'<;>by_cases h2:r=r'<;>by_cases h3:h=h'<;>simp [h1,h2,h3]
theorem qE6{o r:List UInt8}{h:Int}(he:qBH o r h=0):(qBL o r h).length=33:=by
  unfold qBH at he;unfold qBL
  split at he
  · rename_i h1
    rw [if_pos h1]
    have h2:=h1
    unfold qGS at h2
    simp only [jA,jH]
    omega
  · omega
theorem qLi(F m:Hp)(g:Nat)(bs:List UInt8)(bad:Int)(hw:Wtr m g bs bad)(hlen:bs.length≤1099511627776)(n:Nat)(hn:n<18446744073709551616)(size:Nat)(h1:1≤size)(h8:size<8):
    Ct prog 67 [Ptr g,N64 n,I size] [m,F] (λ_:Hp=>Ptr g) (λm'=>Wtr m' g (qK9 (UInt64.ofNat n) size bs bad) (qCH (okN (UInt64.ofNat n) size) 10 bad)) (λm'=> [m',F]):=by
  rw [N_W hn]
  exact qDg F m g bs bad hw hlen (UInt64.ofNat n) size h1 h8
theorem qHH{n size:Nat}(hn:n<18446744073709551616)(h:n<2^(8*size)):okN (UInt64.ofNat n) size=true:=by
 unfold okN
 rw [qBE hn]
 exact decide_eq_true h
def qAm:List UInt8:=List.replicate 16 0
def tb(s:List UInt8):List UInt8:=Sha.numB (UInt64.ofNat s.length) 2++s
def RS.after:RS→Nat→RS
 |st,0=>st
 |st,k+1=>(st.after k).textR
theorem qFQ(s:List UInt8):(tb s).length=2+s.length:=by unfold tb;rw [jA,Sha.numB_length]
theorem wtrN(g:Nat):Wtr (blk g [.pointer none,.slice none 0 0,I 0] 158) g [] 0:=
 ⟨[.pointer none,.slice none 0 0,I 0],λ_=>none,none,0,none,by funext k;simp only [U];cases blk g [.pointer none,.slice none 0 0,I 0] 158 k<;>rfl,λ_=> .inr rfl,rfl,⟨rfl,.inl rfl,rfl,qBb.nil,.inl rfl⟩,rfl⟩
theorem qL0(e:Int):qCH true e 0=0:=by unfold qCH;rw [if_neg (by simp)]
theorem qQg(F m:Hp)(g:Nat)(bs:List UInt8)(hw:Wtr m g bs 0)(hlen:bs.length≤1099511627776)(k size:Nat)(h1:1≤size)(h8:size<8)(hk:k<2^(8*size)):
    Ct prog 67 [Ptr g,N64 k,I size] [m,F] (λ_:Hp=>Ptr g) (λm'=>Wtr m' g (bs++Sha.numB (UInt64.ofNat k) size) 0) (λm'=> [m',F]):=by
  have hlt:k<18446744073709551616:=zK hk (jb (jf (by decide) (show 8*size≤64 by omega)) (by decide))
  have hn:(UInt64.ofNat k).toNat=k:=qBE hlt
  have e:okN (UInt64.ofNat k) size=true:=by unfold okN;rw [hn];exact decide_eq_true hk
  have h:=qDg F m g bs 0 hw hlen (UInt64.ofNat k) size h1 h8
  rw [qCX e,e,qL0] at h
  rw [N_W hlt];exact h
theorem qIK(F m:Hp)(g:Nat)(bs:List UInt8)(hw:Wtr m g bs 0)(hlen:bs.length≤1099511627776)(s:List UInt8)(hs:s.length≤4096):
    Ct prog 134 [Ptr g,Str s] [m,F] (λ_:Hp=>Ptr g) (λm'=>Wtr m' g (bs++tb s) 0) (λm'=> [m',F]):=by
  have h:=qPW F m g bs 0 hw hlen s (by omega)
  have e:okT s=true:=decide_eq_true hs
  have e2:qK6 s bs 0=bs++tb s:=by unfold qK6 tb;rw [e,qL0,if_pos rfl,jV]
  rw [e2,e,qL0] at h;exact h
theorem qKl(F m:Hp)(g:Nat)(bs:List UInt8)(hw:Wtr m g bs 0)(hlen:bs.length≤1099511627776):
    Ct prog 68 [Ptr g] [m,F] (λ_:Hp=> .tuple #[Str bs,I ((0:Nat):Int)]) (λm'=>Wtr m' g bs 0) (λm'=> [m',F]):=by
  have h:=qDJ F m g bs 0 hw (by omega)
  rw [if_pos rfl] at h;exact h
end Go.Proofs.YtcgcjaflllmlpaaGreatDoor
