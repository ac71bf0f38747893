/- A part of the proof. -/
import Derived.Test.YtfldiegfenndjaaGreatDoorTopAoG14
import Derived.Test.YtfldiegfenndjaaGreatDoorTopAoG13
import Derived.Shelf.Sort.Plain
import Derived.Shelf.Slices.In.SortNone
import Derived.Test.YtfldiegfenndjaaGreatDoorTopAoG8
import Derived.Test.YtfldiegfenndjaaGreatDoorTopAoG4
import Derived.Test.YtfldiegfenndjaaGreatDoorTopAoG5
set_option linter.unusedSimpArgs false
set_option linter.unusedVariables false
namespace Go.Proofs.YtfldiegfenndjaaGreatDoor
open Go Go.Fw Go.Proofs.Tryz
set_option maxRecDepth 100000
set_option maxHeartbeats 1000000
open Go.Shelf Go.RowKit
def Tryz.lays190_ren:Go.Shelf.Ren:=⟨λ|190=>182|125=>218|258=>217|128=>240|129=>241|302=>231|303=>232|304=>233|305=>234|306=>235|307=>236|308=>237|309=>238|310=>239|333=>246|329=>247|330=>248|334=>249|335=>250|336=>251|344=>257|n=>n,λ|31=>37|9=>9|3=>3|46=>94|0=>0|51=>246|53=>36|4=>4|183=>341|182=>340|131=>258|5=>5|218=>350|222=>353|228=>355|229=>356|n=>n,λ|n=>n⟩
theorem Tryz.lays190:Go.Proofs.Lays.n190 prog Tryz.lays190_ren:={
 mixed:=by kernel_rfl
 f125:=func218.trans (congrArg some (by kernel_rfl))
 f128:=func240.trans (congrArg some (by kernel_rfl))
 f129:=func241.trans (congrArg some (by kernel_rfl))
 f190:=func182.trans (congrArg some (by kernel_rfl))
 f258:=func217.trans (congrArg some (by kernel_rfl))
 f302:=func231.trans (congrArg some (by kernel_rfl))
 f303:=func232.trans (congrArg some (by kernel_rfl))
 f304:=func233.trans (congrArg some (by kernel_rfl))
 f305:=func234.trans (congrArg some (by kernel_rfl))
 f306:=func235.trans (congrArg some (by kernel_rfl))
 f307:=func236.trans (congrArg some (by kernel_rfl))
 f308:=func237.trans (congrArg some (by kernel_rfl))
 f309:=func238.trans (congrArg some (by kernel_rfl))
 f310:=func239.trans (congrArg some (by kernel_rfl))
 f329:=func247.trans (congrArg some (by kernel_rfl))
 f330:=func248.trans (congrArg some (by kernel_rfl))
 f333:=func246.trans (congrArg some (by kernel_rfl))
 f334:=func249.trans (congrArg some (by kernel_rfl))
 f335:=func250.trans (congrArg some (by kernel_rfl))
 f336:=func251.trans (congrArg some (by kernel_rfl))
 f344:=func257.trans (congrArg some (by kernel_rfl))
 t0:=underlying0
 a0:=isAgg0
 z0:=sizeOf0
 v0:=zeroValue0
 t3:=u3_
 a3:=b3_
 z3:=z3_
 v3:=zeroValue3
 t4:=underlying4
 a4:=b4_
 z4:=z4_
 v4:=zeroValue4
 t5:=u5_
 a5:=b5_
 z5:=z5_
 v5:=zeroValue5
 t9:=u9_
 a9:=b9_
 z9:=z9_
 v9:=e9_
 t31:=qAh
 a31:=qCR
 z31:=qCA
 v31:=zeroValue37
 t46:=qTP
 a46:=isAgg94
 z46:=sizeOf94
 v46:=zeroValue94
 t51:=qLf
 a51:=qDF
 z51:=qCB
 v51:=zeroValue246
 t53:=qED
 a53:=qCZ
 z53:=qCG
 v53:=zeroValue36
 t131:=underlying258
 a131:=isAgg258
 z131:=sizeOf258
 v131:=zeroValue258
 t182:=underlying340
 a182:=isAgg340
 z182:=sizeOf340
 v182:=zeroValue340
 t183:=underlying341
 a183:=isAgg341
 z183:=sizeOf341
 v183:=zeroValue341
 t218:=underlying350
 a218:=isAgg350
 z218:=sizeOf350
 v218:=zeroValue350
 t222:=underlying353
 a222:=isAgg353
 z222:=sizeOf353
 v222:=zeroValue353
 t228:=underlying355
 a228:=isAgg355
 z228:=sizeOf355
 v228:=zeroValue355
 t229:=underlying356
 a229:=isAgg356
 z229:=sizeOf356
 v229:=zeroValue356}
theorem qRe(F m:Hp)(A:Option Addr)(n c:Nat)(l:List (List UInt8))(hr:Row m 9 1 A n c (qAH l))(hn:n≤1073741824):
    Ct prog 182 [.slice A n c] [m,F] (λ_:Hp=> .tuple #[]) (λm'=>Row m' 9 1 A n c (qAH (Sm.srt l))) (λm'=> [m',F]):=
  Ct.ofSort Sm.srt_len (λblk off cap ss w h1 h2 h3=>Any.slices_Sort_string Tryz.lays190 blk off cap ss w h1 h2 h3) (λp cap w=>Any.slices_Sort_string_none Tryz.lays190 p cap w) hr hn
end Go.Proofs.YtfldiegfenndjaaGreatDoor
namespace Go.Proofs.YtfldiegfenndjaaGreatDoor
open Go Go.Fw Go.Proofs.Tryz
set_option maxRecDepth 100000
set_option maxHeartbeats 1000000
theorem ent144:qAE prog 144:=qAE.of func144 rfl (by kernel_rfl)
theorem ent145:qAE prog 145:=qAE.of func145 rfl (by kernel_rfl)
theorem ent181:qAE prog 181:=qAE.of func181 rfl (by kernel_rfl)
theorem ent182:qAE prog 182:=qAE.of func182 rfl (by kernel_rfl)
theorem ent183:qAE prog 183:=qAE.of func183 rfl (by kernel_rfl)
theorem ent216:qAE prog 216:=qAE.of func216 rfl (by kernel_rfl)
theorem qPn(F:Hp)(gm:Nat):Ct prog 145 [.map (some gm)] [F] (λg:Nat=> .func (.func 183) #[] #[Ptr g]) (λ_=>True) (λg=> [F,blk g [.map (some gm)] 164]):=by
 refine Ct.walk func145 rfl ntmps145 rfl (λw0 hw0=>?_)
 refine J.g λK1 hK1=>J.q (qAi V V V) V λg1 _=>J.b V<|J.c hK1<|J.A 1 ?_
 refine J.g λK2 hK2=>J.f (qBy V V) V<|J.b V<|J.c hK2<|J.A 2 ?_
 exact J.D<|J.Z hw0 V g1 V trivial [0,1] V (by decide)
theorem qPz(Fr:Hp)(gb gm:Nat)(lv:List Sm.PR)(hb:qAP Fr ⟨gb,0,none⟩ [.map (some gm)])(hm:qFM Fr gm (ssM lv)):
    qJS prog 183 [Ptr gb] Fr (Y:=MP) (λy vs y'=> ∃p a b,y=a++p::b∧vs= [Str p.1]∧y'=a++b) (λy=>y= []) (ssM lv):=by
  obtain ⟨es,ck,hg,hst,hkv⟩:=hm
  refine qJS.walk func183 rfl ntmps183 rfl (λ{X} M IY S l x0 w0 hw0 h0 hY=>?_)
  refine J.g λK1 hK1=>J.f (qAL V V isAgg164 (m:=Fr) (by simp) (hb)) rfl<|J.q (qNf rfl rfl qMq (by simp) hg hkv) rfl ?_
  rintro⟨g5,mi⟩ hit
  try dsimp only at hit
  refine J.c hK1<|J.E 0 5 ?_
  refine J.a1<|J.c1 (X:=MP×X×Hp) (λζ=> [(0,.func (.yield l) #[] #[]),(5,Ptr g5)]) (λζ=> [Fr,M ζ.2.1,ζ.2.2]) (λζ=>IY ζ.1 ζ.2.1∧ItM ζ.2.2 g5 gm es ck ζ.1) (λζ=>ζ.1.length) (ssM lv,x0,mi) (⟨h0,hit⟩) ⟨V,V,trivial⟩ (λ_ h=>h) ?_
  rintro⟨y,x,mi⟩ ⟨hI,hit⟩ I0 hI0
  dsimp only at hI hit⊢
  refine J.g λK2 hK2=>J.q (qPc (i:=2) V V (m:=Fr) (by simp) hg hst rfl hit) rfl ?_
  rintro⟨on,mj⟩ hnx
  try dsimp only at hnx
  refine J.f ((qAk V (congrArg some (qSO on)) (qTs on))) V<|J.c hK2<|J.G 0 5 7 ?_
  refine J.k λK3 hK3=>J.e3 V (λh7=>?_) (λh7=>?_)
  ·
    obtain ⟨p,a,b,rfl,hy,hl⟩: ∃p a b,on=some p∧y=a++p::b∧ItL mj g5 gm es ck (a++b) p:=by
      rcases hnx with ⟨h1,_,_⟩|h1
      · rw [h1] at h7;cases h7
      · exact h1
    refine J.W hK3<|J.E 0 5 ?_
    refine J.a1<|J.g λK4 hK4=>J.f ((qNh (mi:=mj) (p:=p) V V (by simp) hg hst (by simp) hl)) rfl<|J.f ((qAk rfl rfl rfl)) rfl<|J.b rfl<|J.c hK4<|J.G 0 3 5 ?_
    refine J.k λK5 hK5=>J.h1 ?_
    refine J.d8 (qAb V V) V V V ?_
    refine J.d8 (qAb V V) V V V ?_
    refine J.h2 (ex:= [mj]) V V V V V V (hY y [Str p.1] (a++b) ⟨p,a,b,hy,V,V⟩ x hI) ?_
    rintro x' b hb1 hb2
    cases b
    ·
      have hyb:=hb2 rfl
      refine J.d8 (qAw V V) V V V ?_
      refine J.f9 ?_
      refine J.u (J.M hK5 ?_)
      refine J.G 0 5 13 ?_
      refine J.c7 ?_
      exact J.D<|J.b6<|J.a7<|J.b6<|J.b4 hw0 (λ_ _ h=>h) (qJX V) (λw hs=>⟨x',⟨_,V⟩,.inr hyb,hs.pick [0,1] (by decide)⟩)
    have hyb:=hb1 rfl
    refine J.d8 (qAw V V) V V V ?_
    refine J.f9 ?_
    refine J.u (J.M hK5 ?_)
    refine J.G 0 5 13 ?_
    refine J.a5 ?_
    exact J.c0<|J.b0<|J.u<|J.a9 (a++b,x',mj) (λη (hη:_∧η.1.length<y.length)=>hI0 η hη.1 hη.2) ⟨⟨hyb,hl.it⟩,by rw [hy];simp⟩ ⟨rfl,rfl,trivial⟩ (λ_ h=>h)
  have hy0:y= []:=by
    rcases hnx with ⟨_,h1,_⟩|⟨p,a,b,h1,_⟩
    · exact h1
    · rw [h1] at h7;cases h7
  refine J.b8<|J.a6<|J.a6<|J.b9 ?_
  exact J.e7 hw0 (λ_ _ h=>h) (qJX V) (λw hs=>⟨x,⟨_,V⟩,.inl ⟨[],V,hy0▸hI⟩,hs.pick [0,1] (by decide)⟩)
theorem qS9(F:Hp)(gb gm:Nat)(lv:List Sm.PR)(hb:qAP F ⟨gb,0,none⟩ [.map (some gm)])(hm:qFM F gm (ssM lv))(hln:lv.length≤1000000):Ct prog 216 [.slice none 0 0,.func (.func 183) #[] #[Ptr gb]] [F] (λx:List (List UInt8)×Option Addr×Nat×Hp=> .slice x.2.1 x.1.length x.2.2.1) (λx=>Row x.2.2.2 9 1 x.2.1 x.1.length x.2.2.1 (qAH x.1)∧x.1.Perm (lv.map (·.1))) (λx=> [F,x.2.2.2]):=by
 refine Ct.walk func216 rfl ntmps216 rfl (λw0 hw0=>?_)
 refine J.g λK1 hK1=>J.q (qAi V V V) V λg2 _=>J.b V<|J.c hK1<|J.E 1 2 ?_
 refine J.k λK2 hK2=>J.g λK3 hK3=>J.b V<|J.c hK3<|J.E 2 6 ?_
 refine J.a1<|J.d4 [1,2,0] [blk g2 [.slice none 0 0] 37,(λ_=>none),F] V (by decide)<|J.j2 (λx:List (List UInt8)×Option Addr×Nat×Hp=> [blk g2 [.slice x.2.1 x.1.length x.2.2.1] 37,x.2.2.2]) [F] (λ(y:MP) x=>Row x.2.2.2 9 1 x.2.1 x.1.length x.2.2.1 (qAH x.1)∧(x.1++y.map (·.1)).Perm (lv.map (·.1))) (λ_ _=>False) ([],none,0,λ_=>none) V ent183 (λFr hF=>qPz Fr gb gm lv (hb.mono (hF F (by simp))) (hm.mono (hF F (by simp)))) (by rintro y vs y' ⟨p,a,b,rfl,rfl,rfl⟩;rfl) rfl (⟨qBc.nil,by show(([]:List (List UInt8))++(ssM lv).map (·.1)).Perm _;rw [jp,zy];exact List.Perm.refl _⟩) ?_ ?_ ?_
 ·
  intro y vs y' x l wa wb hi hI K4 Post4 hK4 hN4 hR4 hE4
  obtain ⟨p,a,b,rfl,rfl,rfl⟩:=hi
  obtain ⟨ks,Ax,cx,mx⟩:=x
  obtain ⟨hr,hp⟩:=hI
  dsimp only at hr hp
  have hkl:=hp.length_eq
  rw [jA,jK,jK,jA,jD] at hkl
  change J _ ((7,Str p.1)::_) _ [blk g2 [.slice Ax ks.length cx] 37,mx,F] _
  refine J.f2 ?_
  refine J.b V<|J.f3 ?_
  refine J.u (hK4 _ _ ?_)
  refine J.E 2 5 ?_
  refine J.h0 ?_
  refine J.f2 ?_
  refine J.c2 0 qCR V V V V V<|J.b V<|J.q (qAJ (l:= [.tmp 9]) (xs:= [[Str p.1]]) V V V V qAh el9 V (by decide) (by decide) (by simp)) rfl λg10 _=>?_
  change J _ _ _ [_,_,_,blk g10 [Str p.1] 9] _
  refine J.q (qAa (i:=1) (m2:=blk g10 [Str p.1] 9) (ys:=qAH [p.1]) V V V qAh qAh el9 V hr (by simp) (slS [p.1] rfl) (qC5 _) (by omega) (by omega)) rfl ?_
  rintro⟨A11,c11,m11⟩ h11
  try dsimp only at h11
  replace h11:Row m11 9 1 A11 (ks.length+1) c11 (qAH (ks++ [p.1])):=by rw [qBx];exact h11
  rw [show ks.length+1=(ks++ [p.1]).length by simp] at h11⊢
  refine J.b1 (qAV (i:=0) V V V V V qCA V (by simp)) rfl rfl λ_ _=>J.c9 [0,1,2] [blk g2 [.slice A11 (ks++ [p.1]).length c11] 37,m11,F] rfl (by decide)<|J.f3 ?_
  refine J.b0 ?_
  exact hN4 _ (ks++ [p.1],A11,c11,m11) ⟨h11,by dsimp only;rw [jT,jM];refine List.Perm.trans ?_ hp;rw [jM,jR];exact List.Perm.append_left _ (by simpa using List.perm_middle.symm)⟩
 ·
  intro w4 x y hx4 hf hI
  obtain ⟨ks,Ax,cx,mx⟩:=x
  obtain ⟨hr,hp⟩:=hI
  obtain rfl:y= []:=hf
  dsimp only at hr hp
  rw [zT,jS] at hp
  refine J.b0<|J.u (J.M hK2 ?_)
  refine J.A 2 ?_
  refine J.g λK5 hK5=>J.c2 0 qCR V V V V V<|J.b V<|J.c hK5<|J.A 4 ?_
  exact J.D<|J.g7 hw0 hx4 (λ_ _ h=>h) (qJW V V) (qAj (ks,Ax,cx,mx) V ⟨hr,hp⟩ [2,1] V (by decide))
 intro w4 x c hx4 hS
 exact hS.elim
theorem qS0(F:Hp)(gb gm:Nat)(lv:List Sm.PR)(hb:qAP F ⟨gb,0,none⟩ [.map (some gm)])(hm:qFM F gm (ssM lv))(hln:lv.length≤1000000):Ct prog 181 [.func (.func 183) #[] #[Ptr gb]] [F] (λx:List (List UInt8)×Option Addr×Nat×Hp=> .slice x.2.1 x.1.length x.2.2.1) (λx=>Row x.2.2.2 9 1 x.2.1 x.1.length x.2.2.1 (qAH x.1)∧x.1.Perm (lv.map (·.1))) (λx=> [F,x.2.2.2]):=by
 refine Ct.walk func181 rfl ntmps181 rfl (λw0 hw0=>?_)
 refine J.g λK1 hK1=>J.b V<|J.c hK1<|J.A 0 ?_
 refine J.g λK2 hK2=>J.b V<|J.q (qAB V V ent216 (Ct.use (λF' hF=>qS9 F' gb gm lv (hb.mono (hF F (by simp))) (hm.mono (hF F (by simp))) hln))) rfl ?_
 rintro⟨ks,A4,c4,m4⟩ h4
 try dsimp only at h4
 refine J.b V<|J.c hK2<|J.A 2 ?_
 exact J.D<|J.Z hw0 V (ks,A4,c4,m4) V h4 [0,1] V (by decide)
theorem qM7(F:Hp)(gb gm:Nat)(lv:List Sm.PR)(hb:qAP F ⟨gb,0,none⟩ [.map (some gm)])(hm:qFM F gm (ssM lv))(hln:lv.length≤1000000):Ct prog 144 [.func (.func 183) #[] #[Ptr gb]] [F] (λx:Option Addr×Nat×Hp=> .slice x.1 (Sm.keysS lv).length x.2.1) (λx=>Row x.2.2 9 1 x.1 (Sm.keysS lv).length x.2.1 (qAH (Sm.keysS lv))) (λx=> [F,x.2.2]):=by
 refine Ct.walk func144 rfl ntmps144 rfl (λw0 hw0=>?_)
 refine J.g λK1 hK1=>J.b V<|J.c hK1<|J.A 0 ?_
 refine J.g λK2 hK2=>J.b V<|J.q (qAB V V ent181 (Ct.use (λF' hF=>qS0 F' gb gm lv (hb.mono (hF F (by simp))) (hm.mono (hF F (by simp))) hln))) rfl ?_
 rintro⟨ks,A5,c5,m5⟩ h5
 try dsimp only at h5
 refine J.b V<|J.c hK2<|J.A 3 ?_
 refine J.g λK3 hK3=>J.b V<|J.q (qAB V V ent182 (Ct.use1 1 V (λF' hF=>qRe F' m5 A5 ks.length c5 ks h5.1 (by have:=h5.2.length_eq;rw [jK] at this;omega)))) rfl ?_
 rintro m7 h7
 refine J.c hK3<|J.A 3 ?_
 refine J.g λK4 hK4=>J.j 2 V<|J.c hK4<|J.A 2 ?_
 refine J.D ?_
 have hks:Sm.srt ks=Sm.keysS lv:=Sm.srt_eq h5.2
 have hkn:ks.length=(Sm.keysS lv).length:=by rw [←hks,Sm.srt_len]
 rw [hks,hkn] at h7
 exact J.Z hw0 V (A5,c5,m7) (by rw [hkn]) h7 [0,1] rfl (by decide)
theorem qKY(F:Hp)(g:Nat)(l:List Sm.PR)(hT:qDm F g l)(hln:l.length≤1000000):Ct prog 95 [Ptr g] [F] (λx:Option Addr×Nat×Hp=> .slice x.1 (Sm.keysS l).length x.2.1) (λx=>Row x.2.2 9 1 x.1 (Sm.keysS l).length x.2.1 (qAH (Sm.keysS l))) (λx=> [F,x.2.2]):=by
 have hT0:=hT
 obtain ⟨gm,hc,hm⟩:=hT0
 refine Ct.walk func95 rfl ntmps95 rfl (λw0 hw0=>?_)
 refine J.g λK1 hK1=>J.b V<|J.c hK1<|J.A 0 ?_
 refine J.k λK2 hK2=>J.g λK3 hK3=>J.b V<|J.f ((qA1 qTK V V V).as (v':= .bool false) V) V<|J.c hK3<|J.E 0 4 ?_
 refine J.a5 ?_
 refine J.W hK2<|J.A 0 ?_
 refine J.g λK4 hK4=>J.b V<|J.f (qAC V V) V<|J.a2 0 qJd sizeOf164 V V V V V<|J.f (qAL V V isAgg164 (m:=F) (by simp) (hc)) rfl<|J.q (qAB rfl rfl ent145 (Ct.use (λF' _=>qPn F' gm))) rfl ?_
 rintro g9 _
 refine J.q (qAB V V ent144 (Ct.use (λF' hF=>qM7 F' g9 gm l (qAP.blk0.mono (hF (blk g9 [.map (some gm)] 164) (by simp))) (hm.mono (hF F (by simp))) hln))) rfl ?_
 rintro⟨A10,c10,m10⟩ h10
 try dsimp only at h10
 refine J.b V<|J.c hK4<|J.A 2 ?_
 exact J.D<|J.Z hw0 V (A10,c10,m10) V h10 [0,2] V (by decide)
theorem ent100:qAE prog 100:=qAE.of func100 rfl (by kernel_rfl)
theorem ent133:qAE prog 133:=qAE.of func133 rfl (by kernel_rfl)
theorem ent146:qAE prog 146:=qAE.of func146 rfl (by kernel_rfl)
def nbl(b:List UInt8)(d:Int)(k:List UInt8):Bool:=!Sm.belowB k b (min d.toNat 128)
theorem qKy(F:Hp)(k:List UInt8)(hk:k.length≤1000000)(pb pd:Nat)(b:List UInt8)(d:Int)(hpb:qAP F ⟨pb,0,none⟩ [Str b])(hpd:qAP F ⟨pd,0,none⟩ [I d])(hb:b.length≤1000000):Ct prog 133 [Str (k),Ptr pb,Ptr pd] [F] (λ_:Unit=> .bool (nbl b d k)) (λ_=>True) (λ_=> [F]):=by
 refine Ct.walk func133 rfl ntmps133 rfl (λw0 hw0=>?_)
 refine J.g λK1 hK1=>J.b V<|J.c hK1<|J.G 0 1 2 ?_
 refine J.g λK2 hK2=>J.b V<|J.f (qAL V V b9_ (m:=F) (by simp) (hpb)) rfl<|J.f (qAL rfl rfl b3_ (m:=F) (by simp) (hpd)) rfl<|J.q (qAB rfl rfl ent100 (Ct.use0 (λF' hF=>qEb F' k (by omega) b (by omega) d))) rfl λg8 _=>J.f (qAw rfl rfl) rfl<|J.b rfl<|J.c hK2<|J.A 4 ?_
 exact J.D<|J.Z hw0 V () (by unfold nbl;rfl) trivial [0] V (by decide)
theorem qRk(F:Hp)(A:Option Addr)(n c:Nat)(ks:List (List UInt8))(hs:Sl F 1 A n c (qAH ks))(hn:n≤1000000)(hsm: ∀k:Nat,(ks.getD k []).length≤1000000)(pb pd:Nat)(b:List UInt8)(d:Int)(hpb:qAP F ⟨pb,0,none⟩ [Str b])(hpd:qAP F ⟨pd,0,none⟩ [I d])(hb:b.length≤1000000):Ct prog 146 [.slice A n c,.func (.func 133) #[] #[Ptr pb,Ptr pd]] [F] (λ_:Unit=>I (ixS (nbl b d) ks)) (λ_=>True) (λ_=> [F]):=by
 have hkn:ks.length=n:=by have:=hs.1;simpa [qAH] using this
 refine Ct.walk func146 rfl ntmps146 rfl (λw0 hw0=>?_)
 refine J.g λK1 hK1=>J.b V<|J.c hK1<|J.E 0 1 ?_
 refine J.k λK2 hK2=>J.g λK3 hK3=>J.b V<|J.f (qAY qAh V V) V<|J.b V<|J.c hK3<|J.O 0 1 7 8 ?_
 refine J.a1<|J.c1 (X:=Nat) (λζ=> [(0,.slice A n c),(1,.func (.func 133) #[] #[Ptr pb,Ptr pd]),(7,I ((n:Nat):Int)),(8,I ((ζ:Nat):Int))]) (λζ=> [F]) (λζ=>ζ≤n∧ ∀j<ζ,nbl b d (ks.getD j [])=false) (λζ=>n-ζ) 0 (⟨jF _,λj h=>absurd h (jz j)⟩) ⟨V,V,V,V,trivial⟩ (λ_ h=>h) ?_
 rintro k ⟨hk,hno⟩ I0 hI0
 refine J.g λK4 hK4=>J.f (qAT V V V) V<|J.c hK4<|J.a0 0 1 7 8 9 ?_
 refine J.k λK5 hK5=>J.a4 V (λh9=>?_) (λh9=>?_)
 ·
  refine J.W hK5<|J.O 0 1 7 8 ?_
  refine J.k λK6 hK6=>J.a1<|J.g λK7 hK7=>J.j 2 V<|J.c hK7<|J.a0 0 1 5 7 8 ?_
  refine J.g λK8 hK8=>J.j 3 V<|J.f (qAF V V V qAh z9_ hs (by omega)) V<|J.f (qAL V V b9_ (m:=F) (by simp) (hs.elem (qAZ (qAd [] (by omega))))) rfl<|J.q (qDh rfl rfl rfl ent133 (Ct.use0 (λF' hF=>qKy F' (ks.getD k []) (by first|omega|(exact hsm _)) pb pd b d (hpb.mono (hF F (by simp))) (hpd.mono (hF F (by simp))) (by omega)))) rfl λg16 _=>J.c hK8<|J.b5 0 1 5 7 8 16 ?_
  refine J.e3 V (λh16=>?_) (λh16=>?_)
  ·
   refine J.g λK9 hK9=>J.j 2 V<|J.c hK9<|J.A 4 ?_
   exact J.D<|J.b6<|J.a7<|J.a7<|J.b6<|J.a7<|J.Z hw0 V () (by rw [qQ8 (k:=k) (by omega) (by simpa using h16) hno]) trivial [0] rfl (by decide)
  refine J.c0<|J.b0<|J.u (J.M hK6 ?_)
  refine J.O 0 1 7 8 ?_
  exact J.H<|J.f ((qAQ V V V (by omega)).nat (k+1) (by omega)) V<|J.b V<|J.a8<|J.u<|J.a9 (k+1) (λη (hη:_∧n-η<n-k)=>hI0 η hη.1 hη.2) ⟨⟨by omega,λj hj=>by rcases Nat.lt_succ_iff_lt_or_eq.1 hj with h|rfl;exact hno j h;simpa using h16⟩,by first|omega|(dsimp only;omega)⟩ ⟨rfl,rfl,rfl,rfl,trivial⟩ (λ_ h=>h)
 refine J.b8<|J.a6<|J.a6<|J.b9 ?_
 refine J.u (J.M hK2 ?_)
 refine J.d0 [] trivial<|J.g λK10 hK10=>J.b V<|J.c hK10<|J.A 4 ?_
 exact J.D<|J.Z hw0 V () (by rw [qQ6 (λj hj=>hno j (by omega))]) trivial [0] rfl (by decide)
theorem qRo(F m:Hp)(A:Option Addr)(n c:Nat)(ks:List (List UInt8))(hr:Row m 9 1 A n c (qAH ks))(hn:n≤1000000)(hsm: ∀k:Nat,(ks.getD k []).length≤1000000)(pb pd:Nat)(b:List UInt8)(d:Int)(hpb:qAP F ⟨pb,0,none⟩ [Str b])(hpd:qAP F ⟨pd,0,none⟩ [I d])(hb:b.length≤1000000):
    Ct prog 97 [.slice A n c,.func (.func 133) #[] #[Ptr pb,Ptr pd]] [m,F] (λ_:Hp=> .slice A (ks.filter λk=>!nbl b d k).length c) (λm'=>Row m' 9 1 A (ks.filter λk=>!nbl b d k).length c (qAH (ks.filter λk=>!nbl b d k))) (λm'=> [m',F]):=by
  have hkn:ks.length=n:=by have:=hr.len;simpa [qAH] using this
  have hnc:=hr.2.2.1
  refine Ct.walk func97 rfl ntmps97 rfl (λw0 hw0=>?_)
  change J _ [(0,_),(1,_)] _ _ _
  refine J.g λK1 hK1=>J.b V<|J.c hK1<|J.E 0 1 ?_
  refine J.g λK2 hK2=>J.j 2 V<|J.q (qAB V V ent146 (Ct.use0 (λF' hF=>qRk F' A n c ks (hr.sl.mono (hF m (by simp))) (by omega) (hsm) pb pd b d (hpb.mono (hF F (by simp))) (hpd.mono (hF F (by simp))) (by omega)))) rfl λg10 _=>J.b rfl<|J.c hK2<|J.G 0 1 5 ?_
  refine J.k λK3 hK3=>J.g λK4 hK4=>J.b V<|J.f (qAS V V V) V<|J.c hK4<|J.O 0 1 5 12 ?_
  refine J.a4 V (λh12=>?_) (λh12=>?_)
  ·
    refine J.g λK5 hK5=>J.j 2 V<|J.c hK5<|J.A 4 ?_
    refine J.D<|J.a7 ?_
    have hf:(ks.filter λk=>!nbl b d k)=ks:=qLB h12
    exact J.Z hw0 V m (by rw [hf,hkn]) (by rw [hf,hkn];exact hr) [0,1] rfl (by decide)
  refine J.W hK3<|J.G 0 1 5 ?_
  refine J.k λK6 hK6=>J.k λK7 hK7=>?_
  obtain ⟨i0,h5,hi0,hf0⟩:=qQ7 h12
  obtain ⟨ga,rfl⟩:=hr.at (by omega)
  rw [h5]
  refine J.H<|J.b V<|J.f ((qAQ V V V (by omega)).nat (i0+1) (by omega)) V<|J.b V<|J.c hK7<|J.O 0 1 5 6 ?_
  refine J.a1<|J.c1 (X:=Nat×Nat×List (List UInt8)×Hp) (λζ=> [(0,.slice (some ⟨ga,0,none⟩) n c),(1,.func (.func 133) #[] #[Ptr pb,Ptr pd]),(5,I ((ζ.1:Nat):Int)),(6,I ((ζ.2.1:Nat):Int))]) (λζ=> [ζ.2.2.2,F]) (λζ=>ζ.1<ζ.2.1∧ζ.2.1≤n∧ζ.2.2.1.length=n∧ζ.2.2.1.take ζ.1=(ks.take ζ.2.1).filter (λk=>!nbl b d k)∧ζ.2.2.1.drop ζ.2.1=ks.drop ζ.2.1∧Row ζ.2.2.2 9 1 (some ⟨ga,0,none⟩) n c (qAH ζ.2.2.1)) (λζ=>n-ζ.2.1) (i0,i0+1,ks,m) (⟨by dsimp only;omega,by dsimp only;omega,hkn,hf0,V,hr⟩) ⟨V,V,V,V,trivial⟩ (λ_ h=>h) ?_
  rintro⟨w,j,L,m⟩ ⟨hw,hj,hL,hA,hB,hr⟩ I0 hI0
  dsimp only at hw hj hL hA hB hr⊢
  refine J.k λK8 hK8=>J.g λK9 hK9=>J.j 2 V<|J.f (qAY qAh V V) V<|J.f (qAT V V V) V<|J.c hK9<|J.a0 0 1 5 6 19 ?_
  refine J.a4 V (λh19=>?_) (λh19=>?_)
  ·
    refine J.W hK8<|J.O 0 1 5 6 ?_
    refine J.k λK10 hK10=>J.a1<|J.g λK11 hK11=>J.j 2 V<|J.f (qA4 (i:=j) (j:=0+j*1) V V V qAh z9_ (by omega) (by omega)) V ?_
    have hnw:w<j:=hw
    refine J.f (qAL V V b9_ (m:=m) (by simp) (hr.sl.cells (qAZ (qAd [] (by omega))))) rfl<|J.b rfl<|J.c hK11<|J.a0 0 1 5 6 7 ?_
    refine J.k λK12 hK12=>?_
    have hgj:(L.getD j []).length≤1000000:=by
      have e0:=congrArg (λz=>z.getD 0 []) hB
      have e1:L.getD j []=ks.getD j []:=by simpa [jB,jt] using e0
      rw [e1];exact hsm j
    refine J.H<|J.j 2 V<|J.q (qDh V V V ent133 (Ct.use0 (λF' hF=>qKy F' (L.getD j []) (by first|omega|(exact hsm _)) pb pd b d (hpb.mono (hF F (by simp))) (hpd.mono (hF F (by simp))) (by omega)))) rfl λg28 _=>J.f (qAw rfl rfl) rfl<|J.c hK12<|J.b5 0 1 5 6 7 29 ?_
    refine J.e3 V (λh29=>?_) (λh29=>?_)
    ·
      refine J.g λK13 hK13=>J.j 3 V<|J.f (qA4 (i:=w) (j:=0+w*1) V V V qAh z9_ (by omega) (by omega)) V<|J.b1 (qBj (i:=0) (k:=w) (off:=0) (b:= [Str (L.getD j [])]) V V V V hr (vs:= [Str (L.getD j [])]) V z9_ V (by omega) (qAZ (qAd [] (by omega))) V (jJ _)) V V ?_
      rintro m9_1 hm9_1
      rw [qEH] at hm9_1
      refine J.c hK13<|J.O 0 1 5 6 ?_
      refine J.H<|J.b V<|J.f ((qAQ V V V (by omega)).nat (w+1) (by omega)) V<|J.b V<|J.a8<|J.b0<|J.u (J.M hK10 ?_)
      refine J.O 0 1 5 6 ?_
      exact J.H<|J.b V<|J.f ((qAQ V V V (by omega)).nat (j+1) (by omega)) V<|J.b V<|J.a8<|J.u<|J.a9 (w+1,j+1,L.set w (L.getD j []),m9_1) (λη (hη:_∧n-η.2.1<n-j)=>hI0 η hη.1 hη.2) ⟨⟨by dsimp only;omega,by dsimp only;omega,by dsimp only;rw [jm];exact hL,(qFY hw (by omega) (by omega) hA hB (by simpa using h29)).1,(qFY hw (by omega) (by omega) hA hB (by simpa using h29)).2,by assumption⟩,by first|omega|(dsimp only;omega)⟩ ⟨rfl,rfl,rfl,rfl,trivial⟩ (λ_ h=>h)
    refine J.c0<|J.b0<|J.u (J.M hK10 ?_)
    refine J.O 0 1 5 6 ?_
    exact J.H<|J.b V<|J.f ((qAQ V V V (by omega)).nat (j+1) (by omega)) V<|J.b V<|J.a8<|J.u<|J.a9 (w,j+1,L,m) (λη (hη:_∧n-η.2.1<n-j)=>hI0 η hη.1 hη.2) ⟨⟨by dsimp only;omega,by dsimp only;omega,hL,(qFZ (by omega) hA hB (by simpa using h29)).1,(qFZ (by omega) hA hB (by simpa using h29)).2,hr⟩,by first|omega|(dsimp only;omega)⟩ ⟨V,V,V,V,trivial⟩ (λ_ h=>h)
  refine J.b8<|J.a6<|J.a6<|J.b9 ?_
  refine J.u (J.M hK6 ?_)
  refine J.E 0 5 ?_
  refine J.g λK14 hK14=>J.j 2 V<|J.f (qC4 V V qAh z9_ V V (by omega)) V<|J.b1 (qEP (i:=0) (l:=w) (h:=n) V V (by split<;>simp [Addr.add_lit]) qAh el9 rfl rfl rfl (hr.shrink (by omega)) rfl (by omega) (by omega)) rfl rfl ?_
  rintro mc hmc
  refine J.c hK14<|J.E 0 5 ?_
  refine J.g λK15 hK15=>J.j 2 V<|J.f (qDg V V qAh z9_ V (by omega)) V<|J.b V<|J.c hK15<|J.A 4 ?_
  refine J.D ?_
  have hfl:(ks.filter λk=>!nbl b d k)=L.take w:=by rw [hA,jV (by omega)]
  have hfw:(ks.filter λk=>!nbl b d k).length=w:=by rw [hfl,jE];omega
  rw [qEj,←hfl] at hmc
  exact J.Z hw0 V mc (by rw [hfw]) (by rw [hfw];exact hmc) [0,1] rfl (by decide)
theorem ent95:qAE prog 95:=qAE.of func95 rfl (by kernel_rfl)
theorem ent97:qAE prog 97:=qAE.of func97 rfl (by kernel_rfl)
theorem ent134:qAE prog 134:=qAE.of func134 rfl (by kernel_rfl)
theorem ent176:qAE prog 176:=qAE.of func176 rfl (by kernel_rfl)
def qRL(f:Nat):Prop:= ∀(F:Hp) (hK:KF F) (g:Nat) (l:List Sm.PR) (hT:qDm F g l) (hv: ∀p∈l,p.2.length≤1000000) (A:Option Addr) (n c:Nat) (ks:List (List UInt8)) (hs:Sl F 1 A n c (qAH ks)) (hn:n≤1000000) (hw:Sm.WF f (Sm.prs l ks)) (hu:Sm.Up (Sm.prs l ks)) (d:Nat) (hd:d+f=128),Ct prog 134 [Ptr g,.slice A n c,I ((d:Nat):Int)] [F] (λ_:Unit=>Str (Sm.nd f (Sm.prs l ks))) (λ_=>True) (λ_=> [F])
theorem qG9{l:List Sm.PR}(hv: ∀p∈l,p.2.length≤1000000)(k:List UInt8):((Sm.getP l k).getD []).length≤1000000:=by
 cases h:Sm.getP l k with
 |none=>exact jF _
 |some v=>exact hv _ (Sm.getP_some h)
theorem qNV{f:Nat}{l:List Sm.PR}{ks:List (List UInt8)}(hw:Sm.WF f (Sm.prs l ks)){j:Nat}(hj:j<ks.length):(ks.getD j []).length=16:=by
 have h:j<(Sm.prs l ks).length:=by rw [Sm.prs_len];exact hj
 have h1:=hw.2.1 _ (jc h)
 rw [Sm.prs_get l ks h hj] at h1
 rw [jB,jC hj];exact h1
theorem qNU{f:Nat}{l:List Sm.PR}{ks:List (List UInt8)}(hw:Sm.WF f (Sm.prs l ks))(j:Nat):(ks.getD j []).length≤1000000:=by
 by_cases hj:j<ks.length
 · rw [qNV hw hj];decide
 · rw [jB,ji (by omega)];decide
theorem qNW{f d:Nat}{l:List Sm.PR}{ks:List (List UInt8)}(hw:Sm.WF (f+1) (Sm.prs l ks))(hd:d+(f+1)=128){j:Nat}(h:j<(Sm.prs l ks).length):Sm.bit (ks.getD j []) d=Sm.kv (Sm.prs l ks)[j].1/2^f%2:=by
 have hj:j<ks.length:=by rw [Sm.prs_len] at h;exact h
 rw [Sm.bit_kv (qNV hw hj) (by omega),Sm.prs_get l ks h hj,jB,jC hj,show 127-d=f by omega];rfl
theorem qGn(f:Nat)(ih: ∀f',f=f'+1→qRL f')(F:Hp)(hK:KF F)(g:Nat)(l:List Sm.PR)(hT:qDm F g l)(hv: ∀p∈l,p.2.length≤1000000)(A:Option Addr)(n c:Nat)(ks:List (List UInt8))(hs:Sl F 1 A n c (qAH ks))(hn:n≤1000000)(hw:Sm.WF f (Sm.prs l ks))(hu:Sm.Up (Sm.prs l ks))(d:Nat)(hd:d+f=128):
    Ct prog 134 [Ptr g,.slice A n c,I ((d:Nat):Int)] [F] (λ_:Unit=>Str (Sm.nd f (Sm.prs l ks))) (λ_=>True) (λ_=> [F]):=by
  have hkn:ks.length=n:=by have:=hs.1;simpa [qAH] using this
  have hT0:=hT
  obtain ⟨gm,hc,hm⟩:=hT0
  have hsm:=qNU hw
  have hnc:=hs.2.1
  refine Ct.walk func134 rfl ntmps134 rfl (λw0 hw0=>?_)
  change J _ [(0,_),(1,_),(2,_)] _ _ _
  refine J.g λK1 hK1=>J.b V<|J.c hK1<|J.G 0 1 2 ?_
  refine J.k λK2 hK2=>J.g λK3 hK3=>J.b V<|J.f (qAY qAh V V) V<|J.c hK3<|J.O 0 1 2 9 ?_
  refine J.a1<|J.g λK4 hK4=>J.f (qAS V V V) V<|J.b V<|J.c hK4<|J.a0 0 1 2 9 10 ?_
  refine J.a4 V (λh10=>?_) (λh10=>?_)
  ·
    refine J.g λK5 hK5=>J.b V<|J.c hK5<|J.A 6 ?_
    exact J.D<|J.b6<|J.a7<|J.Z hw0 V () (by rw [je (show ks.length=0 by omega)];show _=Str (Sm.nd f []);rw [Sm.nd_nil]) trivial [0] rfl (by decide)
  refine J.g λK6 hK6=>J.f (qAS V V V) V<|J.b V<|J.c hK6<|J.O 0 1 2 12 ?_
  refine J.a4 V (λh12=>?_) (λh12=>?_)
  ·
    refine J.k λK7 hK7=>?_
    have hk0:=hsm 0
    have hv0:=qG9 hv (ks.getD 0 [])
    refine J.b7 [F] [] (.y 0 (.y 1 (.y 2 (.y 3 (.y 4 (.y 5 (.y 6 (.y 7 (.y 8 (.y 9 (.y 10 (.e 11 (.y 12 .nil))))))))))))) Tryz.wide (by decide+kernel) (by simp) ?_
    refine J.L ?_
    refine J.p V (qAF (i:=0) V V V qAh z9_ hs (by omega)) V V<|J.p V (qAL V V b9_ (m:=F) (by simp) (hs.elem (qAZ (qAd [] (by omega))))) rfl rfl<|J.L ?_
    refine J.p V (qAC V V) V V<|J.p V (qAA V V qJd V sizeOf164 V) V V<|J.p V (qAL (v:= .map (some gm)) V V isAgg164 (m:=F) (by simp) (hc)) rfl rfl<|J.L ?_
    refine J.p V (qAF (i:=0) V V V qAh z9_ hs (by omega)) V V<|J.p V (qAL V V b9_ (m:=F) (by simp) (hs.elem (qAZ (qAd [] (by omega))))) rfl rfl<|J.p rfl ((qL7 rfl rfl rfl qMq u9_ e9_ (m:=F) (by simp) hm).as (v':=Str ((Sm.getP l (ks.getD 0 [])).getD [])) (by rw [qJ4,qOH])) rfl rfl<|J.b2 rfl (qAB rfl rfl ent176 (Ct.use0 (λF' hF=>qFQ F' (hK.mo hF) (ks.getD 0 []) ((Sm.getP l (ks.getD 0 [])).getD []) (by first|omega|exact jk rfl) (by first|omega|exact jk rfl)))) rfl (by simp) λg25 _=>J.c3 ?_
    refine J.b3<|J.u (J.M hK7 ?_)
    refine J.A 6 ?_
    exact J.D<|J.b6<|J.a7<|J.Z hw0 V () (by obtain ⟨k,rfl⟩:=List.length_eq_one_iff.1 (show ks.length=1 by omega);exact(congrArg Str (Sm.nd_one f (k,(Sm.getP l k).getD []))).symm) trivial [0] rfl (by decide)
  obtain ⟨f',rfl⟩: ∃f',f=f'+1:=Nat.exists_eq_succ_of_ne_zero (λe=>by subst e;have:=hw.short;rw [Sm.prs_len] at this;omega)
  refine J.c0<|J.b0<|J.u (J.M hK2 ?_)
  refine J.G 0 1 2 ?_
  refine J.g λK8 hK8=>J.b V<|J.c hK8<|J.O 0 1 2 7 ?_
  refine J.d9 (X:=Nat) (λζ=> [(0,Ptr g),(1,.slice A n c),(2,I ((d:Nat):Int)),(7,I ((ζ:Nat):Int))]) (λζ=> [F]) (λζ=>ζ≤n∧(∀j<ζ,Sm.bit (ks.getD j []) d=0)∧(ζ<n→Sm.bit (ks.getD ζ []) d≠0)) (λK9 hK9=>?_) ?_
  ·
    refine J.a1<|J.c1 (X:=Nat) (λζ=> [(0,Ptr g),(1,.slice A n c),(2,I ((d:Nat):Int)),(7,I ((ζ:Nat):Int))]) (λζ=> [F]) (λζ=>ζ≤n∧ ∀j<ζ,Sm.bit (ks.getD j []) d=0) (λζ=>n-ζ) 0 (⟨jF _,λj h=>absurd h (jz j)⟩) ⟨V,V,V,V,trivial⟩ (λ_ h=>h) ?_
    rintro k ⟨hk,hno⟩ I1 hI1
    have hsk:=hsm k
    refine J.k λK10 hK10=>J.g λK11 hK11=>J.j 2 V<|J.f (qAY qAh V V) V<|J.f (qAT V V V) V<|J.b V<|J.c6 (d:=30) V (λh30=>?_) (λh30=>?_)
    ·
      refine J.j 2 V<|J.T (qAF V V V qAh z9_ hs (by omega)) V<|J.T (qAL V V b9_ (m:=F) (by simp) (hs.elem (qAZ (qAd [] (by omega))))) rfl<|J.b rfl<|J.e0 (qAB rfl rfl ent147 (Ct.use0 (λF' hF=>qFC F' (ks.getD k []) (by first|omega|exact hsm _) d (by omega)))) rfl λg36 _=>J.T (qAS rfl rfl rfl) rfl<|J.b rfl<|J.c hK11<|J.a0 0 1 2 7 38 ?_
      refine J.a4 V (λh38=>?_) (λh38=>?_)
      ·
        refine J.W hK10<|J.O 0 1 2 7 ?_
        exact J.a1<|J.H<|J.b V<|J.f ((qAQ V V V (by omega)).nat (k+1) (by omega)) V<|J.b V<|J.a8<|J.b0<|J.u<|J.a9 (k+1) (λη (hη:_∧n-η<n-k)=>hI1 η hη.1 hη.2) ⟨⟨by omega,λj hj=>by rcases Nat.lt_succ_iff_lt_or_eq.1 hj with h|rfl;exact hno j h;omega⟩,by first|omega|(dsimp only;omega)⟩ ⟨rfl,rfl,rfl,rfl,trivial⟩ (λ_ h=>h)
      refine J.b8<|J.a6<|J.a6<|J.b9 ?_
      exact J.u<|J.a9 (k) hK9 (⟨by omega,hno,λh=>by omega⟩) ⟨V,V,V,V,trivial⟩ (λ_ h=>h)
    refine J.j 8 V<|J.c hK11<|J.a0 0 1 2 7 38 ?_
    refine J.a5 ?_
    refine J.b8<|J.a6<|J.a6<|J.b9 ?_
    exact J.u<|J.a9 (k) hK9 (⟨by omega,hno,λh=>by omega⟩) ⟨V,V,V,V,trivial⟩ (λ_ h=>h)
  rintro k ⟨hk,hk0,hk1⟩
  refine J.k λK12 hK12=>?_
  have hup:=Sm.up_bits hw hu (k:=k) (λj hj hjk=>by rw [←qNW hw hd hj];exact hk0 j hjk) (λhj=>by rw [←qNW hw hd hj];exact hk1 (by rw [Sm.prs_len] at hj;omega))
  have hW1:Sm.WF f' (Sm.prs l (ks.take k)):=by rw [Sm.prs_take,hup.1];exact hw.side true
  have hW2:Sm.WF f' (Sm.prs l (ks.drop k)):=by rw [Sm.prs_drop,hup.2];exact hw.side false
  have hU1:Sm.Up (Sm.prs l (ks.take k)):=by rw [Sm.prs_take];exact hu.sub (List.take_sublist _ _)
  have hU2:Sm.Up (Sm.prs l (ks.drop k)):=by rw [Sm.prs_drop];exact hu.sub (List.drop_sublist _ _)
  have hz1:=Sm.nd_small f' (Sm.prs l (ks.take k))
  have hz2:=Sm.nd_small f' (Sm.prs l (ks.drop k))
  refine J.b7 [F] [] (.y 0 (.y 1 (.y 2 (.y 3 (.y 4 (.y 5 (.y 7 (.y 8 (.y 9 (.y 10 (.y 11 (.y 12 (.e 6 (.e 13 (.e 14 (.y 15 .nil)))))))))))))))) Tryz.wide (by decide+kernel) (by simp) ?_
  iterate 3 refine J.L ?_
  refine J.p V (qDg V V qAh z9_ V (by omega)) V V<|J.L ?_
  refine J.p V ((qAQ V V V (by omega)).nat (d+1) (by omega)) V V<|J.L ?_
  refine J.L ?_
  refine J.L ?_
  refine J.p V (qC4 V V qAh z9_ V V (by omega)) V V<|J.L ?_
  refine J.p V ((qAQ V V V (by omega)).nat (d+1) (by omega)) V V<|J.b2 V (qAB V V ent134 (Ct.use0 (λF' hF=>ih f' V F' (hK.mo hF) g l (hT.mono (hF F (by simp))) hv A k c (ks.take k) ((hs.strsTo (by omega)).mono (hF F (by simp))) (by omega) hW1 hU1 (d+1) (by omega)))) rfl (by simp) λg47 _=>J.b2 rfl (qAB rfl rfl ent134 (Ct.use0 (λF' hF=>ih f' rfl F' (hK.mo hF) g l (hT.mono (hF F (by simp))) hv (if c=k then A else A.map (·.add (k*1))) (n-k) (c-k) (ks.drop k) ((hs.strsFrom (by omega)).mono (hF F (by simp))) (by omega) hW2 hU2 (d+1) (by omega)))) rfl (by simp) λg54 _=>J.b2 rfl (qAB rfl rfl ent177 (Ct.use0 (λF' hF=>qCD F' (hK.mo hF) (Sm.nd f' (Sm.prs l (ks.take k))) (Sm.nd f' (Sm.prs l (ks.drop k))) (by omega) (by omega)))) rfl (by simp) λg55 _=>J.c3 ?_
  refine J.b3<|J.u (J.M hK12 ?_)
  refine J.A 6 ?_
  exact J.D<|J.Z hw0 V () (by rw [Sm.nd_two f' (by rw [Sm.prs_len];omega),←hup.1,←hup.2,Sm.prs_take,Sm.prs_drop]) trivial [0] rfl (by decide)
theorem qKX: ∀f,qRL f
 |0=>λF hK g l hT hv A n c ks hs hn hw hu d hd=>qGn 0 (λf' h=>absurd h (Nat.succ_ne_zero f').symm) F hK g l hT hv A n c ks hs hn hw hu d hd
 |f+1=>λF hK g l hT hv A n c ks hs hn hw hu d hd=>qGn (f+1) (λf' h=>by injection h with h;subst h;exact qKX f) F hK g l hT hv A n c ks hs hn hw hu d hd
theorem qGA{l:List Sm.PR}(hk: ∀p∈l,p.1.length=16)(j:Nat):((Sm.keysS l).getD j []).length≤1000000:=by
  by_cases hj:j<(Sm.keysS l).length
  · rw [jB,jC hj]
    obtain ⟨v,hv⟩:=Sm.keysS_mem.1 (jc hj)
    show((Sm.keysS l)[j]).length≤1000000
    rw [show(Sm.keysS l)[j].length=16 from hk _ hv];decide
  · rw [jB,ji (by omega)];decide
theorem qOJ(l:List Sm.PR)(b:List UInt8)(d:Int):Sm.prs l ((Sm.keysS l).filter λk=>!nbl b d k)=Sm.bel (Sm.prs l (Sm.keysS l)) b (min d.toNat 128):=by
 rw [Sm.prs_filter]
 unfold Sm.bel nbl
 congr 1
 funext p
 rw [Bool.not_not]
theorem qLR{l:List Sm.PR}(ho:Sm.Once l)(b:List UInt8)(D:Nat):(Sm.bel l b D).Perm (Sm.bel (Sm.prs l (Sm.keysS l)) b D):=(Sm.prs_perm ho).symm.filter _
structure qC9 (l:List Sm.PR):Prop where
 once:Sm.Once l
 k16: ∀p∈l,p.1.length=16
 small: ∀p∈l,p.2.length≤1000000
 few:l.length≤1000000
theorem qFP(F:Hp)(hK:KF F)(g:Nat)(l:List Sm.PR)(hT:qDm F g l)(hf:qC9 l)(b:List UInt8)(hb:b.length≤1000000)(d:Int)(hw:Sm.WF (128-min d.toNat 128) (Sm.bel l b (min d.toNat 128))):Ct prog 75 [Ptr g,Str (b),I (d)] [F] (λ_:Unit=>Str (Sm.ndB l b (min d.toNat 128))) (λ_=>True) (λ_=> [F]):=by
 have hln:=hf.few
 have hkl:=Sm.keysS_len l
 have hfl:((Sm.keysS l).filter λk=>!nbl b d k).length≤(Sm.keysS l).length:=List.length_filter_le _ _
 have hW:Sm.WF (128-min d.toNat 128) (Sm.prs l ((Sm.keysS l).filter λk=>!nbl b d k)):=by rw [qOJ];exact hw.perm (qLR hf.once _ _)
 have hU:Sm.Up (Sm.prs l ((Sm.keysS l).filter λk=>!nbl b d k)):=by rw [Sm.prs_filter];exact(Sm.prs_up hf.once hf.k16).sub List.filter_sublist
 have hR:Sm.nd (128-min d.toNat 128) (Sm.prs l ((Sm.keysS l).filter λk=>!nbl b d k))=Sm.ndB l b (min d.toNat 128):=by rw [qOJ];exact(Sm.nd_perm _ hw (qLR hf.once _ _)).symm
 refine Ct.walk func75 rfl ntmps75 rfl (λw0 hw0=>?_)
 refine J.g λK1 hK1=>J.q (qAi V V V) V λg4 _=>J.q (qAi V V V) V λg5 _=>J.b V<|J.c hK1<|J.G 0 4 5 ?_
 refine J.k λK2 hK2=>J.g λK3 hK3=>J.b V<|J.f ((qA1 qTK V V V).as (v':= .bool false) V) V<|J.c hK3<|J.O 0 4 5 9 ?_
 refine J.a5 ?_
 refine J.W hK2<|J.G 0 4 5 ?_
 refine J.g λK4 hK4=>J.b V<|J.q (qAB V V ent95 (Ct.use (λF' hF=>qKY F' g l (hT.mono (hF F (by simp))) (by omega)))) rfl ?_
 rintro⟨A11,c11,m11⟩ h11
 try dsimp only at h11
 refine J.f (qBy V V) V<|J.q (qAB V V ent97 (Ct.use1 3 V (λF' hF=>qRo F' m11 A11 (Sm.keysS l).length c11 (Sm.keysS l) h11 (by omega) (qGA hf.k16) g4 g5 b d (qAP.blk0.mono (hF (blk g4 [Str (b)] 9) (by simp))) (qAP.blk0.mono (hF (blk g5 [I (d)] 3) (by simp))) hb))) rfl ?_
 rintro m13 h13
 refine J.b V<|J.c hK4<|J.G 0 5 7 ?_
 refine J.g λK5 hK5=>J.j 2 V<|J.c2 2 b3_ V V V V V<|J.f ((qGw V V V).nat (d.toNat) (by omega)) V<|J.f ((qDq V V V).nat (min d.toNat 128) (by omega)) V<|J.q (qAB V V ent134 (Ct.use0 (λF' hF=>qKX (128-min d.toNat 128) F' (hK.mo hF) g l (hT.mono (hF F (by simp))) hf.small A11 _ c11 _ (h13.sl.mono (hF m13 (by simp))) (by omega) hW hU (min d.toNat 128) (by omega)))) rfl λg19 _=>J.b rfl<|J.c hK5<|J.A 6 ?_
 exact J.D<|J.Z hw0 V () (by rw [hR]) trivial [0] rfl (by decide)
theorem qHJ{l:List Sm.PR}{b:List UInt8}(hf:qC9 l):Sm.WF (128-min (0:Int).toNat 128) (Sm.bel l b (min (0:Int).toNat 128)):=by
 show Sm.WF 128 (Sm.bel l b 0)
 rw [Sm.bel_zero];exact Sm.WF.top hf.once hf.k16
theorem qKT{l:List Sm.PR}{b:List UInt8}{d:Int}(hf:qC9 l)(hb:b.length=16):Sm.WF (128-min d.toNat 128) (Sm.bel l b (min d.toNat 128)):=Sm.bel_wf hf.once hf.k16 hb (Nat.min_le_right _ _)
def qUC(k:List UInt8)(m:List Pr):List Pr:=m.filter λp=>decide (p.k≠k)
def setR(m:List Pr)(x:Pr):List Pr:=qUC x.k m++ [x]
theorem qPF(m:List Pr)(x:Pr):(setR m x).map toP=Sm.setP (m.map toP) x.k x.v:=by
 unfold setR qUC Sm.setP
 rw [jM,List.filter_map];rfl
structure qD9 (m:List Pr) (kv:List Sm.PR):Prop where
 fine:qC9 kv
 perm:(m.map toP).Perm kv
theorem qD9.len{m:List Pr}{kv:List Sm.PR}(h:qD9 m kv):kv.length=m.length:=by rw [←h.perm.length_eq,jK]
theorem qD9.nil:qD9 [] []:=⟨⟨List.Pairwise.nil,by simp,by simp,jF _⟩,List.Perm.refl _⟩
theorem qD9.set{m:List Pr}{kv:List Sm.PR}(h:qD9 m kv){k v:List UInt8}(hk:k.length=16)(hv:v.length≤1000000)(hl:m.length≤100000):qD9 (setR m ⟨k,v⟩) (Sm.putP kv k v):=by
  have hp:((setR m ⟨k,v⟩).map toP).Perm (Sm.putP kv k v):=by
    rw [qPF]
    exact(Sm.setP_perm k v h.perm).trans (Sm.putP_perm k v h.fine.once).symm
  have ho:Sm.Once (Sm.putP kv k v):=(Sm.setP_once k v h.fine.once).perm (Sm.putP_perm k v h.fine.once).symm
  have hm: ∀p∈Sm.putP kv k v,p∈kv∨p=(k,v):=λp q=>Sm.setP_mem ((Sm.putP_perm k v h.fine.once).mem_iff.1 q)
  refine⟨⟨ho,λp q=>?_,λp q=>?_,jd (Sm.putP_len kv k v) (by rw [h.len];omega)⟩,hp⟩
  · rcases hm p q with q|rfl
    · exact h.fine.k16 p q
    · exact hk
  · rcases hm p q with q|rfl
    · exact h.fine.small p q
    · exact hv
theorem qD9.once{m:List Pr}{kv:List Sm.PR}(h:qD9 m kv):Sm.Once (m.map toP):=h.fine.once.perm h.perm.symm
theorem qD9.k16{m:List Pr}{kv:List Sm.PR}(h:qD9 m kv): ∀p∈m.map toP,p.1.length=16:=λp q=>h.fine.k16 p (h.perm.mem_iff.1 q)
theorem qD9.small{m:List Pr}{kv:List Sm.PR}(h:qD9 m kv): ∀p∈m,p.v.length≤1000000:=λp q=>h.fine.small (toP p) (h.perm.mem_iff.1 (List.mem_map.2 ⟨p,q,rfl⟩))
theorem qD9.wf{m:List Pr}{kv:List Sm.PR}(h:qD9 m kv):Sm.WF 128 (m.map toP):=Sm.WF.top h.once h.k16
theorem qQD(k v:List UInt8)(hk:k.length=16)(hv:v.length≤1000000):qC9 [(k,v)]:=⟨by unfold Sm.Once;simp,by simpa using hk,by simpa using hv,by simp⟩
end Go.Proofs.YtfldiegfenndjaaGreatDoor
