/- A part of the proof. -/
import Derived.Test.YtcgcjaflllmlpaaGreatDoorTopCfG14
import Derived.Test.YtcgcjaflllmlpaaGreatDoorTopCfG13
import Derived.Shelf.Sort.Plain
import Derived.Shelf.Slices.In.SortNone
import Derived.Test.YtcgcjaflllmlpaaGreatDoorTopCfG8
import Derived.Test.YtcgcjaflllmlpaaGreatDoorTopCfG4
import Derived.Test.YtcgcjaflllmlpaaGreatDoorTopCfG5
set_option linter.unusedSimpArgs false
set_option linter.unusedVariables false
namespace Go.Proofs.YtcgcjaflllmlpaaGreatDoor
open Go Go.Fw Go.Proofs.Tryz
set_option maxRecDepth 100000
set_option maxHeartbeats 1000000
open Go.Shelf Go.RowKit
def Tryz.lays190_ren:Go.Shelf.Ren:=⟨λ|190=>191|125=>219|258=>218|128=>245|129=>246|302=>236|303=>237|304=>238|305=>239|306=>240|307=>241|308=>242|309=>243|310=>244|333=>252|329=>253|330=>254|334=>255|335=>256|336=>257|344=>260|n=>n,λ|31=>32|9=>9|3=>3|46=>198|0=>0|51=>253|53=>31|4=>4|183=>339|182=>338|131=>283|5=>5|218=>353|222=>356|228=>358|229=>359|n=>n,λ|n=>n⟩
theorem Tryz.lays190:Go.Proofs.Lays.n190 prog Tryz.lays190_ren:={
 mixed:=by kernel_rfl
 f125:=func219.trans (congrArg some (by kernel_rfl))
 f128:=func245.trans (congrArg some (by kernel_rfl))
 f129:=func246.trans (congrArg some (by kernel_rfl))
 f190:=func191.trans (congrArg some (by kernel_rfl))
 f258:=func218.trans (congrArg some (by kernel_rfl))
 f302:=func236.trans (congrArg some (by kernel_rfl))
 f303:=func237.trans (congrArg some (by kernel_rfl))
 f304:=func238.trans (congrArg some (by kernel_rfl))
 f305:=func239.trans (congrArg some (by kernel_rfl))
 f306:=func240.trans (congrArg some (by kernel_rfl))
 f307:=func241.trans (congrArg some (by kernel_rfl))
 f308:=func242.trans (congrArg some (by kernel_rfl))
 f309:=func243.trans (congrArg some (by kernel_rfl))
 f310:=func244.trans (congrArg some (by kernel_rfl))
 f329:=func253.trans (congrArg some (by kernel_rfl))
 f330:=func254.trans (congrArg some (by kernel_rfl))
 f333:=func252.trans (congrArg some (by kernel_rfl))
 f334:=func255.trans (congrArg some (by kernel_rfl))
 f335:=func256.trans (congrArg some (by kernel_rfl))
 f336:=func257.trans (congrArg some (by kernel_rfl))
 f344:=func260.trans (congrArg some (by kernel_rfl))
 t0:=u0_
 a0:=isAgg0
 z0:=sizeOf0
 v0:=e0_
 t3:=u3_
 a3:=b3_
 z3:=z3_
 v3:=e3_
 t4:=u4_
 a4:=b4_
 z4:=z4_
 v4:=e4_
 t5:=u5_
 a5:=b5_
 z5:=z5_
 v5:=e5_
 t9:=u9_
 a9:=b9_
 z9:=z9_
 v9:=e9_
 t31:=qAk
 a31:=qB8
 z31:=qBs
 v31:=zeroValue32
 t46:=qIH
 a46:=isAgg198
 z46:=sizeOf198
 v46:=zeroValue198
 t51:=qJc
 a51:=qC3
 z51:=qB9
 v51:=zeroValue253
 t53:=qEU
 a53:=qEz
 z53:=qD9
 v53:=zeroValue31
 t131:=underlying283
 a131:=isAgg283
 z131:=sizeOf283
 v131:=zeroValue283
 t182:=underlying338
 a182:=isAgg338
 z182:=sizeOf338
 v182:=zeroValue338
 t183:=underlying339
 a183:=isAgg339
 z183:=sizeOf339
 v183:=zeroValue339
 t218:=underlying353
 a218:=isAgg353
 z218:=sizeOf353
 v218:=zeroValue353
 t222:=underlying356
 a222:=isAgg356
 z222:=sizeOf356
 v222:=zeroValue356
 t228:=underlying358
 a228:=isAgg358
 z228:=sizeOf358
 v228:=zeroValue358
 t229:=underlying359
 a229:=isAgg359
 z229:=sizeOf359
 v229:=zeroValue359}
theorem qVv(F m:Hp)(A:Option Addr)(n c:Nat)(l:List (List UInt8))(hr:Row m 9 1 A n c (qAI l))(hn:n≤1073741824):
    Ct prog 191 [.slice A n c] [m,F] (λ_:Hp=> .tuple #[]) (λm'=>Row m' 9 1 A n c (qAI (Sm.srt l))) (λm'=> [m',F]):=
  Ct.ofSort Sm.srt_len (λblk off cap ss w h1 h2 h3=>Any.slices_Sort_string Tryz.lays190 blk off cap ss w h1 h2 h3) (λp cap w=>Any.slices_Sort_string_none Tryz.lays190 p cap w) hr hn
end Go.Proofs.YtcgcjaflllmlpaaGreatDoor
namespace Go.Proofs.YtcgcjaflllmlpaaGreatDoor
open Go Go.Fw Go.Proofs.Tryz
set_option maxRecDepth 100000
set_option maxHeartbeats 1000000
theorem ent148:qAD prog 148:=qAD.of func148 rfl (by kernel_rfl)
theorem ent149:qAD prog 149:=qAD.of func149 rfl (by kernel_rfl)
theorem ent190:qAD prog 190:=qAD.of func190 rfl (by kernel_rfl)
theorem ent191:qAD prog 191:=qAD.of func191 rfl (by kernel_rfl)
theorem ent192:qAD prog 192:=qAD.of func192 rfl (by kernel_rfl)
theorem ent217:qAD prog 217:=qAD.of func217 rfl (by kernel_rfl)
theorem qTl(F:Hp)(gm:Nat):Ct prog 149 [.map (some gm)] [F] (λg:Nat=> .func (.func 192) #[] #[Ptr g]) (λ_=>True) (λg=> [F,blk g [.map (some gm)] 210]):=by
 refine Ct.walk func149 rfl ntmps149 rfl (λw0 hw0=>?_)
 exact J.f λ_ j1=>J.p (qAd O O O) O λg1 _=>J.b O<|J.c j1<|J.f λ_ j2=>J.g (qBg O O) O<|J.b O<|J.c j2<|J.A<|J.E hw0 O g1 O trivial [0,1] O (by decide)
theorem qTy(Fr:Hp)(gb gm:Nat)(lv:List Sm.PR)(hb:qAR Fr ⟨gb,0,none⟩ [.map (some gm)])(hm:MapAt Fr gm (ssM lv)):
    qKy prog 192 [Ptr gb] Fr (Y:=MP) (λy vs y'=> ∃p a b,y=a++p::b∧vs= [Str p.1]∧y'=a++b) (λy=>y= []) (ssM lv):=by
  obtain ⟨es,ck,hg,hst,hkv⟩:=hm
  refine qKy.walk func192 rfl ntmps192 rfl (λ{X} M IY S l x0 w0 hw0 h0 hY=>?_)
  refine J.f λ_ j1=>J.g (qAJ O O isAgg210 (m:=Fr) (by simp) (hb)) rfl<|J.p (qJ6 rfl rfl qPS (by simp) hg hkv) rfl ?_
  rintro⟨g5,mi⟩ hit
  try dsimp only at hit
  refine J.c j1<|J.O<|J.b4 (X:=MP×X×Hp) (λζ=> [(0,.func (.yield l) #[] #[]),(5,Ptr g5)]) (λζ=> [Fr,M ζ.2.1,ζ.2.2]) (λζ=>IY ζ.1 ζ.2.1∧ItM ζ.2.2 g5 gm es ck ζ.1) (λζ=>ζ.1.length) (ssM lv,x0,mi) (⟨h0,hit⟩) ⟨O,O,trivial⟩ (λ_ h=>h) ?_
  rintro⟨y,x,mi⟩ ⟨hI,hit⟩ I0 hI0
  dsimp only at hI hit⊢
  refine J.f λ_ j2=>J.p (qM1 (i:=2) O O (m:=Fr) (by simp) hg hst rfl hit) rfl ?_
  rintro⟨on,mj⟩ hnx
  try dsimp only at hnx
  refine J.g ((qAh O (congrArg some (qQf on)) (qU7 on))) O<|J.c j2<|J.k λ_ j3=>J.c6 O (λh7=>?_) (λh7=>?_)
  ·
    obtain ⟨p,a,b,rfl,hy,hl⟩: ∃p a b,on=some p∧y=a++p::b∧ItL mj g5 gm es ck (a++b) p:=by
      rcases hnx with ⟨h1,_,_⟩|h1
      · rw [h1] at h7;cases h7
      · exact h1
    refine J.M j3<|J.O<|J.f λ_ j4=>J.g ((qJ8 (mi:=mj) (p:=p) O O (by simp) hg hst (by simp) hl)) rfl<|J.g ((qAh rfl rfl rfl)) rfl<|J.b rfl<|J.c j4<|J.k λ_ j5=>J.f5 ?_
    refine J.c5 (qA0 O O) O O O ?_
    refine J.c5 (qA0 O O) O O O ?_
    refine J.f6 (ex:= [mj]) O O O O O O (hY y [Str p.1] (a++b) ⟨p,a,b,hy,O,O⟩ x hI) ?_
    rintro x' b hb1 hb2
    cases b
    ·
      have hyb:=hb2 rfl
      refine J.c5 (qAy O O) O O O ?_
      refine J.e2 ?_
      refine J.u (J.D j5 ?_)
      refine J.c4 ?_
      exact J.A<|J.a7<|J.V<|J.a7<|J.a9 hw0 (λ_ _ h=>h) (qJP O) (λw hs=>⟨x',⟨_,O⟩,.inr hyb,hs.pick [0,1] (by decide)⟩)
    have hyb:=hb1 rfl
    refine J.c5 (qAy O O) O O O ?_
    refine J.e2 ?_
    refine J.u (J.D j5 ?_)
    refine J.a1 ?_
    exact J.b5<|J.a2<|J.u<|J.a4 (a++b,x',mj) (λη (hη:_∧η.1.length<y.length)=>hI0 η hη.1 hη.2) ⟨⟨hyb,hl.it⟩,by rw [hy];simp⟩ ⟨rfl,rfl,trivial⟩ (λ_ h=>h)
  have hy0:y= []:=by
    rcases hnx with ⟨_,h1,_⟩|⟨p,a,b,h1,_⟩
    · exact h1
    · rw [h1] at h7;cases h7
  refine J.b2<|J.a0<|J.a0<|J.b3 ?_
  exact J.d7 hw0 (λ_ _ h=>h) (qJP O) (λw hs=>⟨x,⟨_,O⟩,.inl ⟨[],O,hy0▸hI⟩,hs.pick [0,1] (by decide)⟩)
theorem qXi(F:Hp)(gb gm:Nat)(lv:List Sm.PR)(hb:qAR F ⟨gb,0,none⟩ [.map (some gm)])(hm:MapAt F gm (ssM lv))(hln:lv.length≤1000000):Ct prog 217 [.slice none 0 0,.func (.func 192) #[] #[Ptr gb]] [F] (λx:List (List UInt8)×Option Addr×Nat×Hp=> .slice x.2.1 x.1.length x.2.2.1) (λx=>Row x.2.2.2 9 1 x.2.1 x.1.length x.2.2.1 (qAI x.1)∧x.1.Perm (lv.map (·.1))) (λx=> [F,x.2.2.2]):=by
 refine Ct.walk func217 rfl ntmps217 rfl (λw0 hw0=>?_)
 refine J.f λ_ j1=>J.p (qAd O O O) O λg2 _=>J.b O<|J.c j1<|J.k λ_ j2=>J.f λ_ j3=>J.b O<|J.c j3<|J.O<|J.c7 [1,2,0] [blk g2 [.slice none 0 0] 32,(λ_=>none),F] O (by decide)<|J.h6 (λx:List (List UInt8)×Option Addr×Nat×Hp=> [blk g2 [.slice x.2.1 x.1.length x.2.2.1] 32,x.2.2.2]) [F] (λ(y:MP) x=>Row x.2.2.2 9 1 x.2.1 x.1.length x.2.2.1 (qAI x.1)∧(x.1++y.map (·.1)).Perm (lv.map (·.1))) (λ_ _=>False) ([],none,0,λ_=>none) O ent192 (λFr hF=>qTy Fr gb gm lv (hb.mono (Fa hF)) (hm.mono (Fa hF))) (by rintro y vs y' ⟨p,a,b,rfl,rfl,rfl⟩;rfl) rfl (⟨qBb.nil,by show(([]:List (List UInt8))++(ssM lv).map (·.1)).Perm _;rw [jq,List.map_map];exact List.Perm.refl _⟩) ?_ ?_ ?_
 ·
  intro y vs y' x l wa wb hi hI K4 Post4 j4 hN4 hR4 hE4
  obtain ⟨p,a,b,rfl,rfl,rfl⟩:=hi
  obtain ⟨ks,Ax,cx,mx⟩:=x
  obtain ⟨hr,hp⟩:=hI
  dsimp only at hr hp
  have hkl:=hp.length_eq
  rw [jA,jN,jN,jA,jD] at hkl
  change J _ ((7,Str p.1)::_) _ [blk g2 [.slice Ax ks.length cx] 32,mx,F] _
  refine J.d9 ?_
  refine J.b O<|J.e0 ?_
  refine J.u (j4 _ _ ?_)
  refine J.f4 ?_
  refine J.d9 ?_
  refine J.a5 0 qB8 O O O O O<|J.b O<|J.p (qAG (l:= [.tmp 9]) (xs:= [[Str p.1]]) O O O O qAk el9 O (by decide) (by decide) (by simp)) rfl λg10 _=>?_
  change J _ _ _ [_,_,_,blk g10 [Str p.1] 9] _
  refine J.p (qAV (i:=1) (m2:=blk g10 [Str p.1] 9) (ys:=qAI [p.1]) O O O qAk qAk el9 O hr (by simp) (slS [p.1] rfl) (qCR _) (by omega) (by omega)) rfl ?_
  rintro⟨A11,c11,m11⟩ h11
  try dsimp only at h11
  replace h11:Row m11 9 1 A11 (ks.length+1) c11 (qAI (ks++ [p.1])):=by rw [qB4];exact h11
  rw [show ks.length+1=(ks++ [p.1]).length by simp] at h11⊢
  refine J.a6 (qAW (i:=0) O O O O O qBs O (by simp)) rfl rfl λ_ _=>J.c1 [0,1,2] [blk g2 [.slice A11 (ks++ [p.1]).length c11] 32,m11,F] rfl (by decide)<|J.e0 ?_
  refine J.a2 ?_
  exact hN4 _ (ks++ [p.1],A11,c11,m11) ⟨h11,by dsimp only;rw [jV,jM];refine List.Perm.trans ?_ hp;rw [jM,jZ];exact List.Perm.append_left _ (by simpa using List.perm_middle.symm)⟩
 ·
  intro w4 x y hx4 hf hI
  obtain ⟨ks,Ax,cx,mx⟩:=x
  obtain ⟨hr,hp⟩:=hI
  obtain rfl:y= []:=hf
  dsimp only at hr hp
  rw [zT,jQ] at hp
  refine J.a2<|J.u (J.D j2 ?_)
  exact J.f λ_ j5=>J.a5 0 qB8 O O O O O<|J.b O<|J.c j5<|J.A<|J.e7 hw0 hx4 (λ_ _ h=>h) (qJv O O) (qAq (ks,Ax,cx,mx) O ⟨hr,hp⟩ [2,1] O (by decide))
 intro w4 x c hx4 hS
 exact hS.elim
theorem qXT(F:Hp)(gb gm:Nat)(lv:List Sm.PR)(hb:qAR F ⟨gb,0,none⟩ [.map (some gm)])(hm:MapAt F gm (ssM lv))(hln:lv.length≤1000000):Ct prog 190 [.func (.func 192) #[] #[Ptr gb]] [F] (λx:List (List UInt8)×Option Addr×Nat×Hp=> .slice x.2.1 x.1.length x.2.2.1) (λx=>Row x.2.2.2 9 1 x.2.1 x.1.length x.2.2.1 (qAI x.1)∧x.1.Perm (lv.map (·.1))) (λx=> [F,x.2.2.2]):=by
 refine Ct.walk func190 rfl ntmps190 rfl (λw0 hw0=>?_)
 refine J.f λ_ j1=>J.b O<|J.c j1<|J.f λ_ j2=>J.b O<|J.p (qAB O O ent217 (Ct.use (λF' hF=>qXi F' gb gm lv (hb.mono (Fa hF)) (hm.mono (Fa hF)) hln))) O ?_
 rintro⟨ks,A4,c4,m4⟩ h4
 try dsimp only at h4
 exact J.b O<|J.c j2<|J.A<|J.E hw0 O (ks,A4,c4,m4) O h4 [0,1] O (by decide)
theorem qPg(F:Hp)(gb gm:Nat)(lv:List Sm.PR)(hb:qAR F ⟨gb,0,none⟩ [.map (some gm)])(hm:MapAt F gm (ssM lv))(hln:lv.length≤1000000):Ct prog 148 [.func (.func 192) #[] #[Ptr gb]] [F] (λx:Option Addr×Nat×Hp=> .slice x.1 (Sm.keysS lv).length x.2.1) (λx=>Row x.2.2 9 1 x.1 (Sm.keysS lv).length x.2.1 (qAI (Sm.keysS lv))) (λx=> [F,x.2.2]):=by
 refine Ct.walk func148 rfl ntmps148 rfl (λw0 hw0=>?_)
 refine J.f λ_ j1=>J.b O<|J.c j1<|J.f λ_ j2=>J.b O<|J.p (qAB O O ent190 (Ct.use (λF' hF=>qXT F' gb gm lv (hb.mono (Fa hF)) (hm.mono (Fa hF)) hln))) O ?_
 rintro⟨ks,A5,c5,m5⟩ h5
 try dsimp only at h5
 refine J.b O<|J.c j2<|J.f λ_ j3=>J.b O<|J.p (qAB O O ent191 (Ct.use1 1 O (λF' hF=>qVv F' m5 A5 ks.length c5 ks h5.1 (by have:=h5.2.length_eq;rw [jN] at this;omega)))) rfl ?_
 rintro m7 h7
 refine J.c j3<|J.f λ_ j4=>J.q 2 O<|J.c j4<|J.A ?_
 have hks:Sm.srt ks=Sm.keysS lv:=Sm.srt_eq h5.2
 have hkn:ks.length=(Sm.keysS lv).length:=by rw [←hks,Sm.srt_len]
 rw [hks,hkn] at h7
 exact J.E hw0 O (A5,c5,m7) (by rw [hkn]) h7 [0,1] rfl (by decide)
theorem qMS(F:Hp)(g:Nat)(l:List Sm.PR)(hT:qCU F g l)(hln:l.length≤1000000):Ct prog 88 [Ptr g] [F] (λx:Option Addr×Nat×Hp=> .slice x.1 (Sm.keysS l).length x.2.1) (λx=>Row x.2.2 9 1 x.1 (Sm.keysS l).length x.2.1 (qAI (Sm.keysS l))) (λx=> [F,x.2.2]):=by
 have hT0:=hT
 obtain ⟨gm,hc,hm⟩:=hT0
 refine Ct.walk func88 rfl ntmps88 rfl (λw0 hw0=>?_)
 refine J.f λ_ j1=>J.b O<|J.c j1<|J.k λ_ j2=>J.f λ_ j3=>J.b O<|J.g ((qA6 qLK O O O).as (v':= .bool false) O) O<|J.c j3<|J.a1 ?_
 refine J.M j2<|J.f λ_ j4=>J.b O<|J.g (qAC O O) O<|J.T 0 qLI sizeOf210 O O O O O<|J.g (qAJ O O isAgg210 (m:=F) (by simp) (hc)) rfl<|J.p (qAB rfl rfl ent149 (Ct.use (λF' _=>qTl F' gm))) rfl ?_
 rintro g9 _
 refine J.p (qAB O O ent148 (Ct.use (λF' hF=>qPg F' g9 gm l (qAR.blk0.mono (hF (blk g9 [.map (some gm)] 210) (by simp))) (hm.mono (Fa hF)) hln))) rfl ?_
 rintro⟨A10,c10,m10⟩ h10
 try dsimp only at h10
 exact J.b O<|J.c j4<|J.A<|J.E hw0 O (A10,c10,m10) O h10 [0,2] O (by decide)
theorem ent92:qAD prog 92:=qAD.of func92 rfl (by kernel_rfl)
theorem ent150:qAD prog 150:=qAD.of func150 rfl (by kernel_rfl)
theorem ent152:qAD prog 152:=qAD.of func152 rfl (by kernel_rfl)
def nbl(b:List UInt8)(d:Int)(k:List UInt8):Bool:=!Sm.belowB k b (min d.toNat 128)
theorem qNB(F:Hp)(k:List UInt8)(hk:k.length≤1000000)(pb pd:Nat)(b:List UInt8)(d:Int)(hpb:qAR F ⟨pb,0,none⟩ [Str b])(hpd:qAR F ⟨pd,0,none⟩ [I d])(hb:b.length≤1000000):Cz prog 152 [Str (k),Ptr pb,Ptr pd] F (.bool (nbl b d k)):=by
 refine Ct.walk func152 rfl ntmps152 rfl (λw0 hw0=>?_)
 exact J.f λ_ j1=>J.b O<|J.c j1<|J.f λ_ j2=>J.b O<|J.g (qAJ O O b9_ (m:=F) (by simp) (hpb)) rfl<|J.g (qAJ rfl rfl b3_ (m:=F) (by simp) (hpd)) rfl<|J.p (qAB rfl rfl ent92 (Ct.use0 (λF' hF=>qEw F' k (by omega) b (by omega) d))) rfl λg8 _=>J.g (qAy rfl rfl) rfl<|J.b rfl<|J.c j2<|J.A<|J.E hw0 rfl () (by unfold nbl;rfl) trivial [0] rfl (by decide)
theorem qV1(F:Hp)(A:Option Addr)(n c:Nat)(ks:List (List UInt8))(hs:Sl F 1 A n c (qAI ks))(hn:n≤1000000)(hsm: ∀k:Nat,(ks.getD k []).length≤1000000)(pb pd:Nat)(b:List UInt8)(d:Int)(hpb:qAR F ⟨pb,0,none⟩ [Str b])(hpd:qAR F ⟨pd,0,none⟩ [I d])(hb:b.length≤1000000):Cz prog 150 [.slice A n c,.func (.func 152) #[] #[Ptr pb,Ptr pd]] F (I (ixS (nbl b d) ks)):=by
 have hkn:ks.length=n:=by have:=hs.1;simpa [qAI] using this
 refine Ct.walk func150 rfl ntmps150 rfl (λw0 hw0=>?_)
 refine J.f λ_ j1=>J.b O<|J.c j1<|J.k λ_ j2=>J.f λ_ j3=>J.b O<|J.g (qAU qAk O O) O<|J.b O<|J.c j3<|J.O<|J.b4 (X:=Nat) (λζ=> [(0,.slice A n c),(1,.func (.func 152) #[] #[Ptr pb,Ptr pd]),(7,I ((n:Nat):Int)),(8,I ((ζ:Nat):Int))]) (λζ=> [F]) (λζ=>ζ≤n∧ ∀j<ζ,nbl b d (ks.getD j [])=false) (λζ=>n-ζ) 0 (⟨jG _,λj h=>absurd h (zA j)⟩) ⟨O,O,O,O,trivial⟩ (λ_ h=>h) ?_
 rintro k ⟨hk,hno⟩ I0 hI0
 refine J.f λ_ j4=>J.g (qAT O O O) O<|J.c j4<|J.k λ_ j5=>J.W O (λh9=>?_) (λh9=>?_)
 ·
  refine J.M j5<|J.k λ_ j6=>J.O<|J.f λ_ j7=>J.q 2 O<|J.c j7<|J.f λ_ j8=>J.q 3 O<|J.g (qAH O O O qAk z9_ hs (by omega)) O<|J.g (qAJ O O b9_ (m:=F) (by simp) (hs.elem (qAa (qAj [] (by omega))))) rfl<|J.p (qDF rfl rfl rfl ent152 (Ct.use0 (λF' hF=>qNB F' (ks.getD k []) (by first|omega|(exact hsm _)) pb pd b d (hpb.mono (Fa hF)) (hpd.mono (Fa hF)) (by omega)))) rfl λg16 _=>J.c j8<|J.c6 rfl (λh16=>?_) (λh16=>?_)
  ·
   exact J.f λ_ j9=>J.q 2 O<|J.c j9<|J.A<|J.a7<|J.V<|J.V<|J.a7<|J.V<|J.E hw0 O () (by rw [qVN (k:=k) (by omega) (by simpa using h16) hno]) trivial [0] rfl (by decide)
  refine J.b5<|J.a2<|J.u (J.D j6 ?_)
  exact J.H<|J.g ((qAS O O O (by omega)).nat (k+1) (by omega)) O<|J.b O<|J.a3<|J.u<|J.a4 (k+1) (λη (hη:_∧n-η<n-k)=>hI0 η hη.1 hη.2) ⟨⟨by omega,λj hj=>by rcases Nat.lt_succ_iff_lt_or_eq.1 hj with h|rfl;exact hno j h;simpa using h16⟩,by first|omega|(dsimp only;omega)⟩ ⟨rfl,rfl,rfl,rfl,trivial⟩ (λ_ h=>h)
 refine J.b2<|J.a0<|J.a0<|J.b3 ?_
 refine J.u (J.D j2 ?_)
 exact J.f λ_ j10=>J.b O<|J.c j10<|J.A<|J.E hw0 O () (by rw [qVL (λj hj=>hno j (by omega))]) trivial [0] rfl (by decide)
theorem qV4(F m:Hp)(A:Option Addr)(n c:Nat)(ks:List (List UInt8))(hr:Row m 9 1 A n c (qAI ks))(hn:n≤1000000)(hsm: ∀k:Nat,(ks.getD k []).length≤1000000)(pb pd:Nat)(b:List UInt8)(d:Int)(hpb:qAR F ⟨pb,0,none⟩ [Str b])(hpd:qAR F ⟨pd,0,none⟩ [I d])(hb:b.length≤1000000):
    Ct prog 90 [.slice A n c,.func (.func 152) #[] #[Ptr pb,Ptr pd]] [m,F] (λ_:Hp=> .slice A (ks.filter λk=>!nbl b d k).length c) (λm'=>Row m' 9 1 A (ks.filter λk=>!nbl b d k).length c (qAI (ks.filter λk=>!nbl b d k))) (λm'=> [m',F]):=by
  have hkn:ks.length=n:=by have:=hr.len;simpa [qAI] using this
  have hnc:=hr.2.2.1
  refine Ct.walk func90 rfl ntmps90 rfl (λw0 hw0=>?_)
  change J _ [(0,_),(1,_)] _ _ _
  refine J.f λ_ j1=>J.b O<|J.c j1<|J.f λ_ j2=>J.q 2 O<|J.p (qAB O O ent150 (Ct.use0 (λF' hF=>qV1 F' A n c ks (hr.sl.mono (Fa hF)) (by omega) (hsm) pb pd b d (hpb.mono (Fa hF)) (hpd.mono (Fa hF)) (by omega)))) O λg10 _=>J.b O<|J.c j2<|J.k λ_ j3=>J.f λ_ j4=>J.b O<|J.g (qAg O O O) O<|J.c j4<|J.W O (λh12=>?_) (λh12=>?_)
  ·
    refine J.f λ_ j5=>J.q 2 O<|J.c j5<|J.A<|J.V ?_
    have hf:(ks.filter λk=>!nbl b d k)=ks:=qNQ h12
    exact J.E hw0 O m (by rw [hf,hkn]) (by rw [hf,hkn];exact hr) [0,1] rfl (by decide)
  refine J.M j3<|J.k λ_ j6=>J.k λ_ j7=>?_
  obtain ⟨i0,h5,hi0,hf0⟩:=qVM h12
  obtain ⟨ga,rfl⟩:=hr.at (by omega)
  rw [h5]
  refine J.H<|J.b O<|J.g ((qAS O O O (by omega)).nat (i0+1) (by omega)) O<|J.b O<|J.c j7<|J.O<|J.b4 (X:=Nat×Nat×List (List UInt8)×Hp) (λζ=> [(0,.slice (some ⟨ga,0,none⟩) n c),(1,.func (.func 152) #[] #[Ptr pb,Ptr pd]),(5,I ((ζ.1:Nat):Int)),(6,I ((ζ.2.1:Nat):Int))]) (λζ=> [ζ.2.2.2,F]) (λζ=>ζ.1<ζ.2.1∧ζ.2.1≤n∧ζ.2.2.1.length=n∧ζ.2.2.1.take ζ.1=(ks.take ζ.2.1).filter (λk=>!nbl b d k)∧ζ.2.2.1.drop ζ.2.1=ks.drop ζ.2.1∧Row ζ.2.2.2 9 1 (some ⟨ga,0,none⟩) n c (qAI ζ.2.2.1)) (λζ=>n-ζ.2.1) (i0,i0+1,ks,m) (⟨by dsimp only;omega,by dsimp only;omega,hkn,hf0,O,hr⟩) ⟨O,O,O,O,trivial⟩ (λ_ h=>h) ?_
  rintro⟨w,j,L,m⟩ ⟨hw,hj,hL,hA,hB,hr⟩ I0 hI0
  dsimp only at hw hj hL hA hB hr⊢
  refine J.k λ_ j8=>J.f λ_ j9=>J.q 2 O<|J.g (qAU qAk O O) O<|J.g (qAT O O O) O<|J.c j9<|J.W O (λh19=>?_) (λh19=>?_)
  ·
    refine J.M j8<|J.k λ_ j10=>J.O<|J.f λ_ j11=>J.q 2 O<|J.g (qAi (i:=j) (j:=0+j*1) O O O qAk z9_ (by omega) (by omega)) O ?_
    have hnw:w<j:=hw
    refine J.g (qAJ O O b9_ (m:=m) (by simp) (hr.sl.cells (qAa (qAj [] (by omega))))) rfl<|J.b rfl<|J.c j11<|J.k λ_ j12=>?_
    have hgj:(L.getD j []).length≤1000000:=by
      have e0:=congrArg (λz=>z.getD 0 []) hB
      have e1:L.getD j []=ks.getD j []:=by simpa [jB,jt] using e0
      rw [e1];exact hsm j
    refine J.H<|J.q 2 O<|J.p (qDF O O O ent152 (Ct.use0 (λF' hF=>qNB F' (L.getD j []) (by first|omega|(exact hsm _)) pb pd b d (hpb.mono (Fa hF)) (hpd.mono (Fa hF)) (by omega)))) O λg28 _=>J.g (qAy O O) O<|J.c j12<|J.c6 O (λh29=>?_) (λh29=>?_)
    ·
      refine J.f λ_ j13=>J.q 3 O<|J.g (qAi (i:=w) (j:=0+w*1) O O O qAk z9_ (by omega) (by omega)) O<|J.a6 (qBR (i:=0) (k:=w) (off:=0) (b:= [Str (L.getD j [])]) O O O O hr (vs:= [Str (L.getD j [])]) O z9_ O (by omega) (qAa (qAj [] (by omega))) O (jK _)) O O ?_
      rintro m9_1 hm9_1
      rw [qDb] at hm9_1
      refine J.c j13<|J.H<|J.b O<|J.g ((qAS O O O (by omega)).nat (w+1) (by omega)) O<|J.b O<|J.a3<|J.a2<|J.u (J.D j10 ?_)
      exact J.H<|J.b O<|J.g ((qAS O O O (by omega)).nat (j+1) (by omega)) O<|J.b O<|J.a3<|J.u<|J.a4 (w+1,j+1,L.set w (L.getD j []),m9_1) (λη (hη:_∧n-η.2.1<n-j)=>hI0 η hη.1 hη.2) ⟨⟨by dsimp only;omega,by dsimp only;omega,by dsimp only;rw [jm];exact hL,(qFv hw (by omega) (by omega) hA hB (by simpa using h29)).1,(qFv hw (by omega) (by omega) hA hB (by simpa using h29)).2,by assumption⟩,by first|omega|(dsimp only;omega)⟩ ⟨rfl,rfl,rfl,rfl,trivial⟩ (λ_ h=>h)
    refine J.b5<|J.a2<|J.u (J.D j10 ?_)
    exact J.H<|J.b O<|J.g ((qAS O O O (by omega)).nat (j+1) (by omega)) O<|J.b O<|J.a3<|J.u<|J.a4 (w,j+1,L,m) (λη (hη:_∧n-η.2.1<n-j)=>hI0 η hη.1 hη.2) ⟨⟨by dsimp only;omega,by dsimp only;omega,hL,(qFw (by omega) hA hB (by simpa using h29)).1,(qFw (by omega) hA hB (by simpa using h29)).2,hr⟩,by first|omega|(dsimp only;omega)⟩ ⟨O,O,O,O,trivial⟩ (λ_ h=>h)
  refine J.b2<|J.a0<|J.a0<|J.b3 ?_
  refine J.u (J.D j6 ?_)
  refine J.f λ_ j14=>J.q 2 O<|J.g (qDE O O qAk z9_ O O (by omega)) O<|J.a6 (qEn (i:=0) (l:=w) (h:=n) O O (by split<;>simp [Addr.add_lit]) qAk el9 rfl rfl rfl (hr.shrink (by omega)) rfl (by omega) (by omega)) rfl rfl ?_
  rintro mc hmc
  refine J.c j14<|J.f λ_ j15=>J.q 2 O<|J.g (qDz O O qAk z9_ O (by omega)) O<|J.b O<|J.c j15<|J.A ?_
  have hfl:(ks.filter λk=>!nbl b d k)=L.take w:=by rw [hA,jc (by omega)]
  have hfw:(ks.filter λk=>!nbl b d k).length=w:=by rw [hfl,jF];omega
  rw [qDu,←hfl] at hmc
  exact J.E hw0 O mc (by rw [hfw]) (by rw [hfw];exact hmc) [0,1] rfl (by decide)
theorem ent88:qAD prog 88:=qAD.of func88 rfl (by kernel_rfl)
theorem ent90:qAD prog 90:=qAD.of func90 rfl (by kernel_rfl)
theorem ent153:qAD prog 153:=qAD.of func153 rfl (by kernel_rfl)
theorem ent157:qAD prog 157:=qAD.of func157 rfl (by kernel_rfl)
def qVV(f:Nat):Prop:= ∀(F:Hp) (hK:KF F) (g:Nat) (l:List Sm.PR) (hT:qCU F g l) (hv: ∀p∈l,p.2.length≤1000000) (A:Option Addr) (n c:Nat) (ks:List (List UInt8)) (hs:Sl F 1 A n c (qAI ks)) (hn:n≤1000000) (hw:Sm.WF f (Sm.prs l ks)) (hu:Sm.Up (Sm.prs l ks)) (d:Nat) (hd:d+f=128),Cz prog 153 [Ptr g,.slice A n c,I ((d:Nat):Int)] F (Str (Sm.nd f (Sm.prs l ks)))
theorem qHu{l:List Sm.PR}(hv: ∀p∈l,p.2.length≤1000000)(k:List UInt8):((Sm.getP l k).getD []).length≤1000000:=by
 cases h:Sm.getP l k with
 |none=>exact jG _
 |some v=>exact hv _ (Sm.getP_some h)
theorem qQD{f:Nat}{l:List Sm.PR}{ks:List (List UInt8)}(hw:Sm.WF f (Sm.prs l ks)){j:Nat}(hj:j<ks.length):(ks.getD j []).length=16:=by
 have h:j<(Sm.prs l ks).length:=by rw [Sm.prs_len];exact hj
 have h1:=hw.2.1 _ (jX h)
 rw [Sm.prs_get l ks h hj] at h1
 rw [jB,jC hj];exact h1
theorem qQC{f:Nat}{l:List Sm.PR}{ks:List (List UInt8)}(hw:Sm.WF f (Sm.prs l ks))(j:Nat):(ks.getD j []).length≤1000000:=by
 by_cases hj:j<ks.length
 · rw [qQD hw hj];decide
 · rw [jB,jg (by omega)];decide
theorem qQE{f d:Nat}{l:List Sm.PR}{ks:List (List UInt8)}(hw:Sm.WF (f+1) (Sm.prs l ks))(hd:d+(f+1)=128){j:Nat}(h:j<(Sm.prs l ks).length):Sm.bit (ks.getD j []) d=Sm.kv (Sm.prs l ks)[j].1/2^f%2:=by
 have hj:j<ks.length:=by rw [Sm.prs_len] at h;exact h
 rw [Sm.bit_kv (qQD hw hj) (by omega),Sm.prs_get l ks h hj,jB,jC hj,show 127-d=f by omega];rfl
theorem qHV(f:Nat)(ih: ∀f',f=f'+1→qVV f')(F:Hp)(hK:KF F)(g:Nat)(l:List Sm.PR)(hT:qCU F g l)(hv: ∀p∈l,p.2.length≤1000000)(A:Option Addr)(n c:Nat)(ks:List (List UInt8))(hs:Sl F 1 A n c (qAI ks))(hn:n≤1000000)(hw:Sm.WF f (Sm.prs l ks))(hu:Sm.Up (Sm.prs l ks))(d:Nat)(hd:d+f=128):
    Cz prog 153 [Ptr g,.slice A n c,I ((d:Nat):Int)] F (Str (Sm.nd f (Sm.prs l ks))):=by
  have hkn:ks.length=n:=by have:=hs.1;simpa [qAI] using this
  have hT0:=hT
  obtain ⟨gm,hc,hm⟩:=hT0
  have hsm:=qQC hw
  have hnc:=hs.2.1
  refine Ct.walk func153 rfl ntmps153 rfl (λw0 hw0=>?_)
  change J _ [(0,_),(1,_),(2,_)] _ _ _
  refine J.f λ_ j1=>J.b O<|J.c j1<|J.k λ_ j2=>J.f λ_ j3=>J.b O<|J.g (qAU qAk O O) O<|J.c j3<|J.O<|J.f λ_ j4=>J.g (qAg O O O) O<|J.b O<|J.c j4<|J.W O (λh10=>?_) (λh10=>?_)
  ·
    exact J.f λ_ j5=>J.b O<|J.c j5<|J.A<|J.a7<|J.V<|J.E hw0 O () (by rw [jU (show ks.length=0 by omega)];show _=Str (Sm.nd f []);rw [Sm.nd_nil]) trivial [0] rfl (by decide)
  refine J.f λ_ j6=>J.g (qAg O O O) O<|J.b O<|J.c j6<|J.W O (λh12=>?_) (λh12=>?_)
  ·
    refine J.k λ_ j7=>?_
    have hk0:=hsm 0
    have hv0:=qHu hv (ks.getD 0 [])
    refine J.b0 [F] [] (.y 0 (.y 1 (.y 2 (.y 3 (.y 4 (.y 5 (.y 6 (.y 7 (.y 8 (.y 9 (.y 10 (.e 11 (.y 12 .nil))))))))))))) Tryz.wide (by decide+kernel) (by simp) ?_
    refine J.L ?_
    refine J.j O (qAH (i:=0) O O O qAk z9_ hs (by omega)) O O<|J.j O (qAJ O O b9_ (m:=F) (by simp) (hs.elem (qAa (qAj [] (by omega))))) rfl rfl<|J.L ?_
    refine J.j O (qAC O O) O O<|J.j O (qAA O O qLI O sizeOf210 O) O O<|J.j O (qAJ (v:= .map (some gm)) O O isAgg210 (m:=F) (by simp) (hc)) rfl rfl<|J.L ?_
    refine J.j O (qAH (i:=0) O O O qAk z9_ hs (by omega)) O O<|J.j O (qAJ O O b9_ (m:=F) (by simp) (hs.elem (qAa (qAj [] (by omega))))) rfl rfl<|J.j rfl ((qCx rfl rfl rfl qPS u9_ e9_ (m:=F) (by simp) hm).as (v':=Str ((Sm.getP l (ks.getD 0 [])).getD [])) (by rw [qLy,qRH])) rfl rfl<|J.Z rfl (qAB rfl rfl ent157 (Ct.use0 (λF' hF=>qMf F' (hK.mo hF) (ks.getD 0 []) ((Sm.getP l (ks.getD 0 [])).getD []) (by first|omega|exact jk rfl) (by first|omega|exact jk rfl)))) rfl (by simp) λg25 _=>J.b6 ?_
    refine J.a8<|J.u (J.D j7 ?_)
    exact J.A<|J.a7<|J.V<|J.E hw0 O () (by obtain ⟨k,rfl⟩:=List.length_eq_one_iff.1 (show ks.length=1 by omega);exact(congrArg Str (Sm.nd_one f (k,(Sm.getP l k).getD []))).symm) trivial [0] rfl (by decide)
  obtain ⟨f',rfl⟩: ∃f',f=f'+1:=Nat.exists_eq_succ_of_ne_zero (λe=>by subst e;have:=hw.short;rw [Sm.prs_len] at this;omega)
  refine J.b5<|J.a2<|J.u (J.D j2 ?_)
  refine J.f λ_ j8=>J.b O<|J.c j8<|J.d4 (X:=Nat) (λζ=> [(0,Ptr g),(1,.slice A n c),(2,I ((d:Nat):Int)),(7,I ((ζ:Nat):Int))]) (λζ=> [F]) (λζ=>ζ≤n∧(∀j<ζ,Sm.bit (ks.getD j []) d=0)∧(ζ<n→Sm.bit (ks.getD ζ []) d≠0)) (λ_ j9=>?_) ?_
  ·
    refine J.O<|J.b4 (X:=Nat) (λζ=> [(0,Ptr g),(1,.slice A n c),(2,I ((d:Nat):Int)),(7,I ((ζ:Nat):Int))]) (λζ=> [F]) (λζ=>ζ≤n∧ ∀j<ζ,Sm.bit (ks.getD j []) d=0) (λζ=>n-ζ) 0 (⟨jG _,λj h=>absurd h (zA j)⟩) ⟨O,O,O,O,trivial⟩ (λ_ h=>h) ?_
    rintro k ⟨hk,hno⟩ I1 hI1
    have hsk:=hsm k
    refine J.k λ_ j10=>J.f λ_ j11=>J.q 2 O<|J.g (qAU qAk O O) O<|J.g (qAT O O O) O<|J.b O<|J.b9 (d:=30) O (λh30=>?_) (λh30=>?_)
    ·
      refine J.q 2 O<|J.G (qAH O O O qAk z9_ hs (by omega)) O<|J.G (qAJ O O b9_ (m:=F) (by simp) (hs.elem (qAa (qAj [] (by omega))))) rfl<|J.b rfl<|J.c9 (qAB rfl rfl ent151 (Ct.use0 (λF' hF=>qKp F' (ks.getD k []) (by first|omega|exact hsm _) d (by omega)))) rfl λg36 _=>J.G (qAg rfl rfl rfl) rfl<|J.b rfl<|J.c j11<|J.W rfl (λh38=>?_) (λh38=>?_)
      ·
        exact J.M j10<|J.O<|J.H<|J.b O<|J.g ((qAS O O O (by omega)).nat (k+1) (by omega)) O<|J.b O<|J.a3<|J.a2<|J.u<|J.a4 (k+1) (λη (hη:_∧n-η<n-k)=>hI1 η hη.1 hη.2) ⟨⟨by omega,λj hj=>by rcases Nat.lt_succ_iff_lt_or_eq.1 hj with h|rfl;exact hno j h;omega⟩,by first|omega|(dsimp only;omega)⟩ ⟨rfl,rfl,rfl,rfl,trivial⟩ (λ_ h=>h)
      refine J.b2<|J.a0<|J.a0<|J.b3 ?_
      exact J.u<|J.a4 (k) j9 (⟨by omega,hno,λh=>by omega⟩) ⟨O,O,O,O,trivial⟩ (λ_ h=>h)
    refine J.q 8 O<|J.c j11<|J.a1 ?_
    refine J.b2<|J.a0<|J.a0<|J.b3 ?_
    exact J.u<|J.a4 (k) j9 (⟨by omega,hno,λh=>by omega⟩) ⟨O,O,O,O,trivial⟩ (λ_ h=>h)
  rintro k ⟨hk,hk0,hk1⟩
  refine J.k λ_ j12=>?_
  have hup:=Sm.up_bits hw hu (k:=k) (λj hj hjk=>by rw [←qQE hw hd hj];exact hk0 j hjk) (λhj=>by rw [←qQE hw hd hj];exact hk1 (by rw [Sm.prs_len] at hj;omega))
  have hW1:Sm.WF f' (Sm.prs l (ks.take k)):=by rw [Sm.prs_take,hup.1];exact hw.side true
  have hW2:Sm.WF f' (Sm.prs l (ks.drop k)):=by rw [Sm.prs_drop,hup.2];exact hw.side false
  have hU1:Sm.Up (Sm.prs l (ks.take k)):=by rw [Sm.prs_take];exact hu.sub (List.take_sublist _ _)
  have hU2:Sm.Up (Sm.prs l (ks.drop k)):=by rw [Sm.prs_drop];exact hu.sub (List.drop_sublist _ _)
  have hz1:=Sm.nd_small f' (Sm.prs l (ks.take k))
  have hz2:=Sm.nd_small f' (Sm.prs l (ks.drop k))
  refine J.b0 [F] [] (.y 0 (.y 1 (.y 2 (.y 3 (.y 4 (.y 5 (.y 7 (.y 8 (.y 9 (.y 10 (.y 11 (.y 12 (.e 6 (.e 13 (.e 14 (.y 15 .nil)))))))))))))))) Tryz.wide (by decide+kernel) (by simp) ?_
  iterate 3 refine J.L ?_
  refine J.j O (qDz O O qAk z9_ O (by omega)) O O<|J.L ?_
  refine J.j O ((qAS O O O (by omega)).nat (d+1) (by omega)) O O<|J.L ?_
  refine J.L ?_
  refine J.L ?_
  refine J.j O (qDE O O qAk z9_ O O (by omega)) O O<|J.L ?_
  refine J.j O ((qAS O O O (by omega)).nat (d+1) (by omega)) O O<|J.Z O (qAB O O ent153 (Ct.use0 (λF' hF=>ih f' O F' (hK.mo hF) g l (hT.mono (Fa hF)) hv A k c (ks.take k) ((hs.strsTo (by omega)).mono (Fa hF)) (by omega) hW1 hU1 (d+1) (by omega)))) O (by simp) λg47 _=>J.Z rfl (qAB rfl rfl ent153 (Ct.use0 (λF' hF=>ih f' rfl F' (hK.mo hF) g l (hT.mono (Fa hF)) hv (if c=k then A else A.map (·.add (k*1))) (n-k) (c-k) (ks.drop k) ((hs.strsFrom (by omega)).mono (Fa hF)) (by omega) hW2 hU2 (d+1) (by omega)))) rfl (by simp) λg54 _=>J.Z rfl (qAB rfl rfl ent155 (Ct.use0 (λF' hF=>qFl F' (hK.mo hF) (Sm.nd f' (Sm.prs l (ks.take k))) (Sm.nd f' (Sm.prs l (ks.drop k))) (by omega) (by omega)))) rfl (by simp) λg55 _=>J.b6 ?_
  refine J.a8<|J.u (J.D j12 ?_)
  exact J.A<|J.E hw0 O () (by rw [Sm.nd_two f' (by rw [Sm.prs_len];omega),←hup.1,←hup.2,Sm.prs_take,Sm.prs_drop]) trivial [0] rfl (by decide)
theorem qMR: ∀f,qVV f
 |0=>λF hK g l hT hv A n c ks hs hn hw hu d hd=>qHV 0 (λf' h=>absurd h (Nat.succ_ne_zero f').symm) F hK g l hT hv A n c ks hs hn hw hu d hd
 |f+1=>λF hK g l hT hv A n c ks hs hn hw hu d hd=>qHV (f+1) (λf' h=>by injection h with h;subst h;exact qMR f) F hK g l hT hv A n c ks hs hn hw hu d hd
theorem qGo{l:List Sm.PR}(hk: ∀p∈l,p.1.length=16)(j:Nat):((Sm.keysS l).getD j []).length≤1000000:=by
  by_cases hj:j<(Sm.keysS l).length
  · rw [jB,jC hj]
    obtain ⟨v,hv⟩:=Sm.keysS_mem.1 (jX hj)
    show((Sm.keysS l)[j]).length≤1000000
    rw [show(Sm.keysS l)[j].length=16 from hk _ hv];decide
  · rw [jB,jg (by omega)];decide
theorem qRN(l:List Sm.PR)(b:List UInt8)(d:Int):Sm.prs l ((Sm.keysS l).filter λk=>!nbl b d k)=Sm.bel (Sm.prs l (Sm.keysS l)) b (min d.toNat 128):=by
 rw [Sm.prs_filter]
 unfold Sm.bel nbl
 congr 1
 funext p
 rw [Bool.not_not]
theorem qNe{l:List Sm.PR}(ho:Sm.Once l)(b:List UInt8)(D:Nat):(Sm.bel l b D).Perm (Sm.bel (Sm.prs l (Sm.keysS l)) b D):=(Sm.prs_perm ho).symm.filter _
structure qCJ (l:List Sm.PR):Prop where
 once:Sm.Once l
 k16: ∀p∈l,p.1.length=16
 small: ∀p∈l,p.2.length≤1000000
 few:l.length≤1000000
theorem qFk(F:Hp)(hK:KF F)(g:Nat)(l:List Sm.PR)(hT:qCU F g l)(hf:qCJ l)(b:List UInt8)(hb:b.length≤1000000)(d:Int)(hw:Sm.WF (128-min d.toNat 128) (Sm.bel l b (min d.toNat 128))):Cz prog 93 [Ptr g,Str (b),I (d)] F (Str (Sm.ndB l b (min d.toNat 128))):=by
 have hln:=hf.few
 have hkl:=Sm.keysS_len l
 have hfl:((Sm.keysS l).filter λk=>!nbl b d k).length≤(Sm.keysS l).length:=z8 _ _
 have hW:Sm.WF (128-min d.toNat 128) (Sm.prs l ((Sm.keysS l).filter λk=>!nbl b d k)):=by rw [qRN];exact hw.perm (qNe hf.once _ _)
 have hU:Sm.Up (Sm.prs l ((Sm.keysS l).filter λk=>!nbl b d k)):=by rw [Sm.prs_filter];exact(Sm.prs_up hf.once hf.k16).sub List.filter_sublist
 have hR:Sm.nd (128-min d.toNat 128) (Sm.prs l ((Sm.keysS l).filter λk=>!nbl b d k))=Sm.ndB l b (min d.toNat 128):=by rw [qRN];exact(Sm.nd_perm _ hw (qNe hf.once _ _)).symm
 refine Ct.walk func93 rfl ntmps93 rfl (λw0 hw0=>?_)
 refine J.f λ_ j1=>J.p (qAd O O O) O λg4 _=>J.p (qAd O O O) O λg5 _=>J.b O<|J.c j1<|J.k λ_ j2=>J.f λ_ j3=>J.b O<|J.g ((qA6 qLK O O O).as (v':= .bool false) O) O<|J.c j3<|J.a1 ?_
 refine J.M j2<|J.f λ_ j4=>J.b O<|J.p (qAB O O ent88 (Ct.use (λF' hF=>qMS F' g l (hT.mono (Fa hF)) (by omega)))) O ?_
 rintro⟨A11,c11,m11⟩ h11
 try dsimp only at h11
 refine J.g (qBg O O) O<|J.p (qAB O O ent90 (Ct.use1 3 O (λF' hF=>qV4 F' m11 A11 (Sm.keysS l).length c11 (Sm.keysS l) h11 (by omega) (qGo hf.k16) g4 g5 b d (qAR.blk0.mono (hF (blk g4 [Str (b)] 9) (by simp))) (qAR.blk0.mono (hF (blk g5 [I (d)] 3) (by simp))) hb))) rfl ?_
 rintro m13 h13
 exact J.b O<|J.c j4<|J.f λ_ j5=>J.q 2 O<|J.a5 2 b3_ O O O O O<|J.g ((qHi O O O).nat (d.toNat) (by omega)) O<|J.g ((qFT O O O).nat (min d.toNat 128) (by omega)) O<|J.p (qAB O O ent153 (Ct.use0 (λF' hF=>qMR (128-min d.toNat 128) F' (hK.mo hF) g l (hT.mono (Fa hF)) hf.small A11 _ c11 _ (h13.sl.mono (Fa hF)) (by omega) hW hU (min d.toNat 128) (by omega)))) O λg19 _=>J.b O<|J.c j5<|J.A<|J.E hw0 O () (by rw [hR]) trivial [0] rfl (by decide)
theorem qIE{l:List Sm.PR}{b:List UInt8}(hf:qCJ l):Sm.WF (128-min (0:Int).toNat 128) (Sm.bel l b (min (0:Int).toNat 128)):=by
 show Sm.WF 128 (Sm.bel l b 0)
 rw [Sm.bel_zero];exact Sm.WF.top hf.once hf.k16
theorem qMN{l:List Sm.PR}{b:List UInt8}{d:Int}(hf:qCJ l)(hb:b.length=16):Sm.WF (128-min d.toNat 128) (Sm.bel l b (min d.toNat 128)):=Sm.bel_wf hf.once hf.k16 hb (Nat.min_le_right _ _)
def qYm(k:List UInt8)(m:List Pr):List Pr:=m.filter λp=>decide (p.k≠k)
def setR(m:List Pr)(x:Pr):List Pr:=qYm x.k m++ [x]
theorem qS1(m:List Pr)(x:Pr):(setR m x).map toP=Sm.setP (m.map toP) x.k x.v:=by
 unfold setR qYm Sm.setP
 rw [jM,List.filter_map];rfl
structure qDq (m:List Pr) (kv:List Sm.PR):Prop where
 fine:qCJ kv
 perm:(m.map toP).Perm kv
theorem qDq.len{m:List Pr}{kv:List Sm.PR}(h:qDq m kv):kv.length=m.length:=by rw [←h.perm.length_eq,jN]
theorem qDq.set{m:List Pr}{kv:List Sm.PR}(h:qDq m kv){k v:List UInt8}(hk:k.length=16)(hv:v.length≤1000000)(hl:m.length≤100000):qDq (setR m ⟨k,v⟩) (Sm.putP kv k v):=by
  have hp:((setR m ⟨k,v⟩).map toP).Perm (Sm.putP kv k v):=by
    rw [qS1]
    exact(Sm.setP_perm k v h.perm).trans (Sm.putP_perm k v h.fine.once).symm
  have ho:Sm.Once (Sm.putP kv k v):=(Sm.setP_once k v h.fine.once).perm (Sm.putP_perm k v h.fine.once).symm
  have hm: ∀p∈Sm.putP kv k v,p∈kv∨p=(k,v):=λp q=>Sm.setP_mem ((Sm.putP_perm k v h.fine.once).mem_iff.1 q)
  refine⟨⟨ho,λp q=>?_,λp q=>?_,jb (Sm.putP_len kv k v) (by rw [h.len];omega)⟩,hp⟩
  · rcases hm p q with q|rfl
    · exact h.fine.k16 p q
    · exact hk
  · rcases hm p q with q|rfl
    · exact h.fine.small p q
    · exact hv
theorem qDq.once{m:List Pr}{kv:List Sm.PR}(h:qDq m kv):Sm.Once (m.map toP):=h.fine.once.perm h.perm.symm
theorem qDq.k16{m:List Pr}{kv:List Sm.PR}(h:qDq m kv): ∀p∈m.map toP,p.1.length=16:=λp q=>h.fine.k16 p (h.perm.mem_iff.1 q)
theorem qDq.small{m:List Pr}{kv:List Sm.PR}(h:qDq m kv): ∀p∈m,p.v.length≤1000000:=λp q=>h.fine.small (toP p) (h.perm.mem_iff.1 (List.mem_map.2 ⟨p,q,rfl⟩))
theorem qDq.wf{m:List Pr}{kv:List Sm.PR}(h:qDq m kv):Sm.WF 128 (m.map toP):=Sm.WF.top h.once h.k16
theorem qDq.root{m:List Pr}{kv:List Sm.PR}(h:qDq m kv):Sm.nd 128 kv=Sm.nd 128 (m.map toP):=(Sm.nd_perm 128 h.wf h.perm).symm
structure Pu where
 a:UInt8
 b:UInt8
 v:List UInt8
 deriving DecidableEq
def Pu.cells(x:Pu):List Value:= [B8 (x.a),B8 (x.b),Str (x.v)]
end Go.Proofs.YtcgcjaflllmlpaaGreatDoor
