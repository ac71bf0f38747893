/- A part of the proof. -/
import Derived.Test.YtmemgokiolfdoaaGreatDoorTopMsG13
import Derived.Shelf.Sort.Plain
import Derived.Shelf.Slices.In.SortNone
set_option maxRecDepth 100000
set_option maxHeartbeats 1000000
set_option linter.unusedSimpArgs false
set_option linter.unusedVariables false
namespace Go.Proofs.YtmemgokiolfdoaaGreatDoor
open Go Go.Fw Go.Proofs.Tryz
open Go.Shelf Go.RowKit
def Tryz.lays190_ren:Go.Shelf.Ren:=⟨λ|190=>280|125=>300|258=>299|128=>318|129=>319|302=>309|303=>310|304=>311|305=>312|306=>313|307=>314|308=>315|309=>316|310=>317|333=>323|329=>324|330=>325|334=>326|335=>327|336=>328|344=>329|n=>n,λ|31=>50|9=>9|3=>3|46=>222|0=>0|51=>302|53=>49|4=>4|183=>425|182=>424|131=>178|5=>5|218=>434|222=>437|228=>439|229=>388|n=>n,λ|n=>n⟩
theorem Tryz.lays190:Go.Proofs.Lays.n190 prog Tryz.lays190_ren:={
 mixed:=by kernel_rfl
 f125:=func300.trans (congrArg some xI)
 f128:=func318.trans (congrArg some xI)
 f129:=func319.trans (congrArg some xI)
 f190:=func280.trans (congrArg some xI)
 f258:=func299.trans (congrArg some xI)
 f302:=func309.trans (congrArg some xI)
 f303:=func310.trans (congrArg some xI)
 f304:=func311.trans (congrArg some xI)
 f305:=func312.trans (congrArg some xI)
 f306:=func313.trans (congrArg some xI)
 f307:=func314.trans (congrArg some xI)
 f308:=func315.trans (congrArg some xI)
 f309:=func316.trans (congrArg some xI)
 f310:=func317.trans (congrArg some xI)
 f329:=func324.trans (congrArg some xI)
 f330:=func325.trans (congrArg some xI)
 f333:=func323.trans (congrArg some xI)
 f334:=func326.trans (congrArg some xI)
 f335:=func327.trans (congrArg some xI)
 f336:=func328.trans (congrArg some xI)
 f344:=func329.trans (congrArg some xI)
 t0:=u0_
 a0:=isAgg0
 z0:=sizeOf0
 v0:=e0_
 t3:=u3_
 a3:=b3_
 z3:=z3_
 v3:=e3_
 t4:=u4_
 a4:=b4_
 z4:=z4_
 v4:=e4_
 t5:=u5_
 a5:=b5_
 z5:=z5_
 v5:=e5_
 t9:=u9_
 a9:=b9_
 z9:=z9_
 v9:=e9_
 t31:=qAn
 a31:=qCQ
 z31:=qB9
 v31:=zeroValue50
 t46:=qIt
 a46:=isAgg222
 z46:=sizeOf222
 v46:=zeroValue222
 t51:=qJ6
 a51:=qDO
 z51:=qCI
 v51:=zeroValue302
 t53:=qEV
 a53:=qEv
 z53:=qDs
 v53:=zeroValue49
 t131:=underlying178
 a131:=isAgg178
 z131:=sizeOf178
 v131:=zeroValue178
 t182:=underlying424
 a182:=isAgg424
 z182:=sizeOf424
 v182:=zeroValue424
 t183:=underlying425
 a183:=isAgg425
 z183:=sizeOf425
 v183:=zeroValue425
 t218:=underlying434
 a218:=isAgg434
 z218:=sizeOf434
 v218:=zeroValue434
 t222:=underlying437
 a222:=isAgg437
 z222:=sizeOf437
 v222:=zeroValue437
 t228:=underlying439
 a228:=isAgg439
 z228:=sizeOf439
 v228:=zeroValue439
 t229:=underlying388
 a229:=isAgg388
 z229:=sizeOf388
 v229:=zeroValue388}
theorem qWe(F m:Hp)(A:Option Addr)(n c:Nat)(l:List xA)(hr:Row m 9 1 A n c (qAH l))(hn:n≤1073741824):
    Ct prog 280 [.slice A n c] [m,F] (λ_:Hp=> .tuple #[]) (λm'=>Row m' 9 1 A n c (qAH (Sm.srt l))) (λm'=> [m',F]):=
  Ct.ofSort Sm.srt_len (λblk off cap ss w h1 h2 h3=>Any.slices_Sort_string Tryz.lays190 blk off cap ss w h1 h2 h3) (λp cap w=>Any.slices_Sort_string_none Tryz.lays190 p cap w) hr hn
end Go.Proofs.YtmemgokiolfdoaaGreatDoor
namespace Go.Proofs.YtmemgokiolfdoaaGreatDoor
open Go Go.Fw Go.Proofs.Tryz
theorem qUU(F:Hp)(gm:Nat):Ct prog 239 [.map (some gm)] [F] (λg:Nat=> .func (.func 281) #[] #[Ptr g]) (λ_=>True) (λg=> [F,blk g [.map (some gm)] 235]):=by
 refine Ct.walk func239 O ntmps239 O (λw0 hw0=>?_)
 exact J.f λ_ j1=>J.q (qAb O O O) O λg1 _=>J.b O<|J.c j1<|J.f λ_ j2=>J.g (qBM O O) O<|J.b O<|J.c j2<|J.A<|J.E hw0 O g1 O trivial [0,1] O xC
theorem qUo(Fr:Hp)(gb gm:Nat)(lv:List Sm.PR)(hb:qAG Fr ⟨gb,0,none⟩ [.map (some gm)])(hm:MapAt Fr gm (ssM lv)):
    qLf prog 281 [Ptr gb] Fr (Y:=MP) (λy vs y'=> ∃p a b,y=a++p::b∧vs= [Str p.1]∧y'=a++b) (λy=>y= []) (ssM lv):=by
  obtain ⟨es,ck,hg,hst,hkv⟩:=hm
  refine qLf.walk func281 O ntmps281 O (λ{X} M IY S l x0 w0 hw0 h0 hY=>?_)
  refine J.f λ_ j1=>J.g (qAI O O isAgg235 (m:=Fr) xD (hb)) O<|J.q (qKl O O qPv xD hg hkv) O ?_
  rintro⟨g5,mi⟩ hit
  try dsimp only at hit
  refine J.c j1<|J.T<|J.b5 (X:=MP×X×Hp) (λζ=> [(0,.func (.yield l) #[] #[]),(5,Ptr g5)]) (λζ=> [Fr,M ζ.2.1,ζ.2.2]) (λζ=>IY ζ.1 ζ.2.1∧ItM ζ.2.2 g5 gm es ck ζ.1) (λζ=>ζ.1.length) (ssM lv,x0,mi) (⟨h0,hit⟩) ⟨O,O,trivial⟩ (λ_ h=>h) ?_
  rintro⟨y,x,mi⟩ ⟨hI,hit⟩ I0 hI0
  dsimp only at hI hit⊢
  refine J.f λ_ j2=>J.q (qNX (i:=2) O O (m:=Fr) xD hg hst O hit) O ?_
  rintro⟨on,mj⟩ hnx
  try dsimp only at hnx
  refine J.g ((qAT O (congrArg some (qRC on)) (qVt on))) O<|J.c j2<|J.k λ_ j3=>J.c5 O (λh7=>?_) (λh7=>?_)
  ·
    obtain ⟨p,a,b,rfl,hy,hl⟩: ∃p a b,on=some p∧y=a++p::b∧ItL mj g5 gm es ck (a++b) p:=by
      rcases hnx with ⟨h1,_,_⟩|h1
      · rw [h1] at h7;cases h7
      · exact h1
    refine J.M j3<|J.T<|J.f λ_ j4=>J.g ((qKo (mi:=mj) (p:=p) O O xD hg hst xD hl)) O<|J.g ((qAT O O O)) O<|J.b O<|J.c j4<|J.k λ_ j5=>J.f6 ?_
    refine J.c8 (qA2 O O) O O O ?_
    refine J.c8 (qA2 O O) O O O ?_
    refine J.f7 (ex:= [mj]) O O O O O O (hY y [Str p.1] (a++b) ⟨p,a,b,hy,O,O⟩ x hI) ?_
    rintro x' b hb1 hb2
    cases b
    ·
      have hyb:=hb2 O
      refine J.c8 (qAs O O) O O O ?_
      refine J.e2 ?_
      refine J.u (J.D j5 ?_)
      refine J.c3 ?_
      exact J.A<|J.a5<|J.V<|J.a5<|J.a9 hw0 (λ_ _ h=>h) (qI7 O) (λw hs=>⟨x',⟨_,O⟩,.inr hyb,hs.pick [0,1] xC⟩)
    have hyb:=hb1 O
    refine J.c8 (qAs O O) O O O ?_
    refine J.e2 ?_
    refine J.u (J.D j5 ?_)
    refine J.a3 ?_
    exact J.b2<|J.a2<|J.u<|J.a8 (a++b,x',mj) (λη (hη:_∧η.1.length<y.length)=>hI0 η hη.1 hη.2) ⟨⟨hyb,hl.it⟩,by rw [hy];simp⟩ ⟨O,O,trivial⟩ (λ_ h=>h)
  have hy0:y= []:=by
    rcases hnx with ⟨_,h1,_⟩|⟨p,a,b,h1,_⟩
    · exact h1
    · rw [h1] at h7;cases h7
  refine J.b3<|J.a0<|J.a0<|J.b4 ?_
  exact J.d3 hw0 (λ_ _ h=>h) (qI7 O) (λw hs=>⟨x,⟨_,O⟩,.inl ⟨[],O,hy0▸hI⟩,hs.pick [0,1] xC⟩)
theorem qYS(F:Hp)(gb gm:Nat)(lv:List Sm.PR)(hb:qAG F ⟨gb,0,none⟩ [.map (some gm)])(hm:MapAt F gm (ssM lv))(hln:lv.length≤1000000):Ct prog 298 [.slice none 0 0,.func (.func 281) #[] #[Ptr gb]] [F] (λx:List xA×Option Addr×Nat×Hp=> .slice x.2.1 x.1.length x.2.2.1) (λx=>Row x.2.2.2 9 1 x.2.1 x.1.length x.2.2.1 (qAH x.1)∧x.1.Perm (lv.map (·.1))) (λx=> [F,x.2.2.2]):=by
 refine Ct.walk func298 O ntmps298 O (λw0 hw0=>?_)
 refine J.f λ_ j1=>J.q (qAb O O O) O λg2 _=>J.b O<|J.c j1<|J.k λ_ j2=>J.f λ_ j3=>J.b O<|J.c j3<|J.T<|J.c6 [1,2,0] [blk g2 [.slice none 0 0] 50,(λ_=>none),F] O xC<|J.i2 (λx:List xA×Option Addr×Nat×Hp=> [blk g2 [.slice x.2.1 x.1.length x.2.2.1] 50,x.2.2.2]) [F] (λ(y:MP) x=>Row x.2.2.2 9 1 x.2.1 x.1.length x.2.2.1 (qAH x.1)∧(x.1++y.map (·.1)).Perm (lv.map (·.1))) (λ_ _=>False) ([],none,0,λ_=>none) O ent (λFr hF=>qUo Fr gb gm lv (hb.mono (Fa hF)) (hm.mono (Fa hF))) (by rintro y vs y' ⟨p,a,b,rfl,rfl,rfl⟩;rfl) O (⟨qBZ.nil,by show(([]:List xA)++(ssM lv).map (·.1)).Perm _;rw [jr,List.map_map];exact List.Perm.refl _⟩) ?_ ?_ ?_
 ·
  intro y vs y' x l wa wb hi hI K4 Post4 j4 hN4 hR4 hE4
  obtain ⟨p,a,b,rfl,rfl,rfl⟩:=hi
  obtain ⟨ks,Ax,cx,mx⟩:=x
  obtain ⟨hr,hp⟩:=hI
  dsimp only at hr hp
  have hkl:=hp.length_eq
  rw [jA,jP,jP,jA,jD] at hkl
  change J _ ((7,Str p.1)::_) _ [blk g2 [.slice Ax ks.length cx] 50,mx,F] _
  refine J.d7 ?_
  refine J.b O<|J.d8 ?_
  refine J.u (j4 _ _ ?_)
  refine J.f5 ?_
  refine J.d7 ?_
  refine J.a6 0 qCQ O O O O O<|J.b O<|J.q (qAE (l:= [.tmp 9]) (xs:= [[Str p.1]]) O O O O qAn el9 O xC xC xD) O λg10 _=>?_
  change J _ _ _ [_,_,_,blk g10 [Str p.1] 9] _
  refine J.q (qAX (i:=1) (m2:=blk g10 [Str p.1] 9) (ys:=qAH [p.1]) O O O qAn qAn el9 O hr xD (slS [p.1] O) (qC4 _) xB xB) O ?_
  rintro⟨A11,c11,m11⟩ h11
  try dsimp only at h11
  replace h11:Row m11 9 1 A11 (ks.length+1) c11 (qAH (ks++ [p.1])):=by rw [qCD];exact h11
  rw [show ks.length+1=(ks++ [p.1]).length by simp] at h11⊢
  refine J.a7 (qAW (i:=0) O O O O O qB9 O xD) O O λ_ _=>J.c2 [0,1,2] [blk g2 [.slice A11 (ks++ [p.1]).length c11] 50,m11,F] O xC<|J.d8 ?_
  refine J.a2 ?_
  exact hN4 _ (ks++ [p.1],A11,c11,m11) ⟨h11,by dsimp only;rw [jX,jO];refine List.Perm.trans ?_ hp;rw [jO,jb];exact List.Perm.append_left _ (by simpa using List.perm_middle.symm)⟩
 ·
  intro w4 x y hx4 hf hI
  obtain ⟨ks,Ax,cx,mx⟩:=x
  obtain ⟨hr,hp⟩:=hI
  obtain rfl:y= []:=hf
  dsimp only at hr hp
  rw [zT,jR] at hp
  refine J.a2<|J.u (J.D j2 ?_)
  exact J.f λ_ j5=>J.a6 0 qCQ O O O O O<|J.b O<|J.c j5<|J.A<|J.e8 hw0 hx4 (λ_ _ h=>h) (qKV O O) (qAg (ks,Ax,cx,mx) O ⟨hr,hp⟩ [2,1] O xC)
 intro w4 x c hx4 hS
 exact hS.elim
theorem qYH(F:Hp)(gb gm:Nat)(lv:List Sm.PR)(hb:qAG F ⟨gb,0,none⟩ [.map (some gm)])(hm:MapAt F gm (ssM lv))(hln:lv.length≤1000000):Ct prog 279 [.func (.func 281) #[] #[Ptr gb]] [F] (λx:List xA×Option Addr×Nat×Hp=> .slice x.2.1 x.1.length x.2.2.1) (λx=>Row x.2.2.2 9 1 x.2.1 x.1.length x.2.2.1 (qAH x.1)∧x.1.Perm (lv.map (·.1))) (λx=> [F,x.2.2.2]):=by
 refine Ct.walk func279 O ntmps279 O (λw0 hw0=>?_)
 refine J.f λ_ j1=>J.b O<|J.c j1<|J.f λ_ j2=>J.b O<|J.q (qBb O O (λF' hF=>qYS F' gb gm lv (hb.mono (Fa hF)) (hm.mono (Fa hF)) hln)) O ?_
 rintro⟨ks,A4,c4,m4⟩ h4
 try dsimp only at h4
 exact J.b O<|J.c j2<|J.A<|J.E hw0 O (ks,A4,c4,m4) O h4 [0,1] O xC
theorem qQD(F:Hp)(gb gm:Nat)(lv:List Sm.PR)(hb:qAG F ⟨gb,0,none⟩ [.map (some gm)])(hm:MapAt F gm (ssM lv))(hln:lv.length≤1000000):Ct prog 238 [.func (.func 281) #[] #[Ptr gb]] [F] (λx:Option Addr×Nat×Hp=> .slice x.1 (Sm.keysS lv).length x.2.1) (λx=>Row x.2.2 9 1 x.1 (Sm.keysS lv).length x.2.1 (qAH (Sm.keysS lv))) (λx=> [F,x.2.2]):=by
 refine Ct.walk func238 O ntmps238 O (λw0 hw0=>?_)
 refine J.f λ_ j1=>J.b O<|J.c j1<|J.f λ_ j2=>J.b O<|J.q (qBb O O (λF' hF=>qYH F' gb gm lv (hb.mono (Fa hF)) (hm.mono (Fa hF)) hln)) O ?_
 rintro⟨ks,A5,c5,m5⟩ h5
 try dsimp only at h5
 refine J.b O<|J.c j2<|J.f λ_ j3=>J.b O<|J.q (qAK O O ent (Ct.use1 1 O (λF' hF=>qWe F' m5 A5 ks.length c5 ks h5.1 (by have:=h5.2.length_eq;rw [jP] at this;omega)))) O ?_
 rintro m7 h7
 refine J.c j3<|J.f λ_ j4=>J.p 2 O<|J.c j4<|J.A ?_
 have hks:Sm.srt ks=Sm.keysS lv:=Sm.srt_eq h5.2
 have hkn:ks.length=(Sm.keysS lv).length:=by rw [←hks,Sm.srt_len]
 rw [hks,hkn] at h7
 exact J.E hw0 O (A5,c5,m7) (by rw [hkn]) h7 [0,1] O xC
theorem qM3(F:Hp)(g:Nat)(l:List Sm.PR)(hT:qCl F g l)(hln:l.length≤1000000):Ct prog 174 [Ptr g] [F] (λx:Option Addr×Nat×Hp=> .slice x.1 (Sm.keysS l).length x.2.1) (λx=>Row x.2.2 9 1 x.1 (Sm.keysS l).length x.2.1 (qAH (Sm.keysS l))) (λx=> [F,x.2.2]):=by
 have hT0:=hT
 obtain ⟨gm,hc,hm⟩:=hT0
 refine Ct.walk func174 O ntmps174 O (λw0 hw0=>?_)
 refine J.f λ_ j1=>J.b O<|J.c j1<|J.k λ_ j2=>J.f λ_ j3=>J.b O<|J.g ((qA6 qL2 O O O).as (v':= .bool false) O) O<|J.c j3<|J.a3 ?_
 refine J.M j2<|J.f λ_ j4=>J.b O<|J.g (qAB O O) O<|J.W 0 qL0 sizeOf235 O O O O O<|J.g (qAI O O isAgg235 (m:=F) xD (hc)) O<|J.q (qBb O O (λF' _=>qUU F' gm)) O ?_
 rintro g9 _
 refine J.q (qBb O O (λF' hF=>qQD F' g9 gm l (qAG.blk0.mono (hF (blk g9 [.map (some gm)] 235) xD)) (hm.mono (Fa hF)) hln)) O ?_
 rintro⟨A10,c10,m10⟩ h10
 try dsimp only at h10
 exact J.b O<|J.c j4<|J.A<|J.E hw0 O (A10,c10,m10) O h10 [0,2] O xC
def nbl(b:xA)(d:Int)(k:xA):Bool:=!Sm.belowB k b (min d.toNat 128)
theorem qNg(F:Hp)(k:xA)(hk:k.length≤1000000)(pb pd:Nat)(b:xA)(d:Int)(hpb:qAG F ⟨pb,0,none⟩ [Str b])(hpd:qAG F ⟨pd,0,none⟩ [I d])(hb:b.length≤1000000):Cz prog 241 [Str (k),Ptr pb,Ptr pd] F (.bool (nbl b d k)):=by
 refine Ct.walk func241 O ntmps241 O (λw0 hw0=>?_)
 exact J.f λ_ j1=>J.b O<|J.c j1<|J.f λ_ j2=>J.b O<|J.g (qAI O O b9_ (m:=F) xD (hpb)) O<|J.g (qAI O O b3_ (m:=F) xD (hpd)) O<|J.q (qAZ O O (λF' hF=>qFS F' k xB b xB d)) O λg8 _=>J.g (qAs O O) O<|J.b O<|J.c j2<|J.A<|J.E hw0 O () (by unfold nbl;rfl) trivial [0] O xC
theorem qWl(F:Hp)(A:Option Addr)(n c:Nat)(ks:List xA)(hs:Sl F 1 A n c (qAH ks))(hn:n≤1000000)(hsm: ∀k:Nat,(ks.getD k []).length≤1000000)(pb pd:Nat)(b:xA)(d:Int)(hpb:qAG F ⟨pb,0,none⟩ [Str b])(hpd:qAG F ⟨pd,0,none⟩ [I d])(hb:b.length≤1000000):Cz prog 240 [.slice A n c,.func (.func 241) #[] #[Ptr pb,Ptr pd]] F (I (ixS (nbl b d) ks)):=by
 have hkn:ks.length=n:=by have:=hs.1;simpa [qAH] using this
 refine Ct.walk func240 O ntmps240 O (λw0 hw0=>?_)
 refine J.f λ_ j1=>J.b O<|J.c j1<|J.k λ_ j2=>J.f λ_ j3=>J.b O<|J.g (qAO qAn O O) O<|J.b O<|J.c j3<|J.T<|J.b5 (X:=Nat) (λζ=> [(0,.slice A n c),(1,.func (.func 241) #[] #[Ptr pb,Ptr pd]),(7,I (n:Nat)),(8,I (ζ:Nat))]) (λζ=> [F]) (λζ=>ζ≤n∧ ∀j<ζ,nbl b d (ks.getD j [])=false) (λζ=>n-ζ) 0 (⟨jE _,λj h=>absurd h (jy j)⟩) ⟨O,O,O,O,trivial⟩ (λ_ h=>h) ?_
 rintro k ⟨hk,hno⟩ I0 hI0
 refine J.f λ_ j4=>J.g (qAS O O O) O<|J.c j4<|J.k λ_ j5=>J.Z O (λh9=>?_) (λh9=>?_)
 ·
  refine J.M j5<|J.k λ_ j6=>J.T<|J.f λ_ j7=>J.p 2 O<|J.c j7<|J.f λ_ j8=>J.p 3 O<|J.g (qAF O O O qAn z9_ hs xB) O<|J.g (qAI O O b9_ (m:=F) xD (hs.elem (qAc (qAi [] xB)))) O<|J.q (qCg O O O ent (Ct.use0 (λF' hF=>qNg F' (ks.getD k []) (by first|omega|(exact hsm _)) pb pd b d (hpb.mono (Fa hF)) (hpd.mono (Fa hF)) xB))) O λg16 _=>J.c j8<|J.c5 O (λh16=>?_) (λh16=>?_)
  ·
   exact J.f λ_ j9=>J.p 2 O<|J.c j9<|J.A<|J.a5<|J.V<|J.V<|J.a5<|J.V<|J.E hw0 O () (by rw [qV6 (k:=k) xB (by simpa using h16) hno]) trivial [0] O xC
  refine J.b2<|J.a2<|J.u (J.D j6 ?_)
  exact J.H<|J.g ((qAR O O O xB).nat (k+1) xB) O<|J.b O<|J.a4<|J.u<|J.a8 (k+1) (λη (hη:_∧n-η<n-k)=>hI0 η hη.1 hη.2) ⟨⟨xB,λj hj=>by rcases Nat.lt_succ_iff_lt_or_eq.1 hj with h|rfl;exact hno j h;simpa using h16⟩,by first|omega|(dsimp only;omega)⟩ ⟨O,O,O,O,trivial⟩ (λ_ h=>h)
 refine J.b3<|J.a0<|J.a0<|J.b4 ?_
 refine J.u (J.D j2 ?_)
 exact J.f λ_ j10=>J.b O<|J.c j10<|J.A<|J.E hw0 O () (by rw [qV4 (λj hj=>hno j xB)]) trivial [0] O xC
theorem qWn(F m:Hp)(A:Option Addr)(n c:Nat)(ks:List xA)(hr:Row m 9 1 A n c (qAH ks))(hn:n≤1000000)(hsm: ∀k:Nat,(ks.getD k []).length≤1000000)(pb pd:Nat)(b:xA)(d:Int)(hpb:qAG F ⟨pb,0,none⟩ [Str b])(hpd:qAG F ⟨pd,0,none⟩ [I d])(hb:b.length≤1000000):
    Ct prog 176 [.slice A n c,.func (.func 241) #[] #[Ptr pb,Ptr pd]] [m,F] (λ_:Hp=> .slice A (ks.filter λk=>!nbl b d k).length c) (λm'=>Row m' 9 1 A (ks.filter λk=>!nbl b d k).length c (qAH (ks.filter λk=>!nbl b d k))) (λm'=> [m',F]):=by
  have hkn:ks.length=n:=by have:=hr.len;simpa [qAH] using this
  have hnc:=hr.2.2.1
  refine Ct.walk func176 O ntmps176 O (λw0 hw0=>?_)
  change J _ [(0,_),(1,_)] _ _ _
  refine J.f λ_ j1=>J.b O<|J.c j1<|J.f λ_ j2=>J.p 2 O<|J.q (qAZ O O (λF' hF=>qWl F' A n c ks (hr.sl.mono (Fa hF)) xB (hsm) pb pd b d (hpb.mono (Fa hF)) (hpd.mono (Fa hF)) xB)) O λg10 _=>J.b O<|J.c j2<|J.k λ_ j3=>J.f λ_ j4=>J.b O<|J.g (qAe O O O) O<|J.c j4<|J.Z O (λh12=>?_) (λh12=>?_)
  ·
    refine J.f λ_ j5=>J.p 2 O<|J.c j5<|J.A<|J.V ?_
    have hf:(ks.filter λk=>!nbl b d k)=ks:=qNt h12
    exact J.E hw0 O m (by rw [hf,hkn]) (by rw [hf,hkn];exact hr) [0,1] O xC
  refine J.M j3<|J.k λ_ j6=>J.k λ_ j7=>?_
  obtain ⟨i0,h5,hi0,hf0⟩:=qV5 h12
  obtain ⟨ga,rfl⟩:=hr.at xB
  rw [h5]
  refine J.H<|J.b O<|J.g ((qAR O O O xB).nat (i0+1) xB) O<|J.b O<|J.c j7<|J.T<|J.b5 (X:=Nat×Nat×List xA×Hp) (λζ=> [(0,.slice (some ⟨ga,0,none⟩) n c),(1,.func (.func 241) #[] #[Ptr pb,Ptr pd]),(5,I (ζ.1:Nat)),(6,I (ζ.2.1:Nat))]) (λζ=> [ζ.2.2.2,F]) (λζ=>ζ.1<ζ.2.1∧ζ.2.1≤n∧ζ.2.2.1.length=n∧ζ.2.2.1.take ζ.1=(ks.take ζ.2.1).filter (λk=>!nbl b d k)∧ζ.2.2.1.drop ζ.2.1=ks.drop ζ.2.1∧Row ζ.2.2.2 9 1 (some ⟨ga,0,none⟩) n c (qAH ζ.2.2.1)) (λζ=>n-ζ.2.1) (i0,i0+1,ks,m) (⟨by dsimp only;omega,by dsimp only;omega,hkn,hf0,O,hr⟩) ⟨O,O,O,O,trivial⟩ (λ_ h=>h) ?_
  rintro⟨w,j,L,m⟩ ⟨hw,hj,hL,hA,hB,hr⟩ I0 hI0
  dsimp only at hw hj hL hA hB hr⊢
  refine J.k λ_ j8=>J.f λ_ j9=>J.p 2 O<|J.g (qAO qAn O O) O<|J.g (qAS O O O) O<|J.c j9<|J.Z O (λh19=>?_) (λh19=>?_)
  ·
    refine J.M j8<|J.k λ_ j10=>J.T<|J.f λ_ j11=>J.p 2 O<|J.g (qAh (i:=j) (j:=0+j*1) O O O qAn z9_ xB xB) O ?_
    have hnw:w<j:=hw
    refine J.g (qAI O O b9_ (m:=m) xD (hr.sl.cells (qAc (qAi [] xB)))) O<|J.b O<|J.c j11<|J.k λ_ j12=>?_
    have hgj:(L.getD j []).length≤1000000:=by
      have e0:=congrArg (λz=>z.getD 0 []) hB
      have e1:L.getD j []=ks.getD j []:=by simpa [jB,jq] using e0
      rw [e1];exact hsm j
    refine J.H<|J.p 2 O<|J.q (qCg O O O ent (Ct.use0 (λF' hF=>qNg F' (L.getD j []) (by first|omega|(exact hsm _)) pb pd b d (hpb.mono (Fa hF)) (hpd.mono (Fa hF)) xB))) O λg28 _=>J.g (qAs O O) O<|J.c j12<|J.c5 O (λh29=>?_) (λh29=>?_)
    ·
      refine J.f λ_ j13=>J.p 3 O<|J.g (qAh (i:=w) (j:=0+w*1) O O O qAn z9_ xB xB) O<|J.a7 (qBL (i:=0) (k:=w) (off:=0) (b:= [Str (L.getD j [])]) O O O O hr (vs:= [Str (L.getD j [])]) O z9_ O xB (qAc (qAi [] xB)) O (jJ _)) O O ?_
      rintro m9_1 hm9_1
      rw [qDx] at hm9_1
      refine J.c j13<|J.H<|J.b O<|J.g ((qAR O O O xB).nat (w+1) xB) O<|J.b O<|J.a4<|J.a2<|J.u (J.D j10 ?_)
      exact J.H<|J.b O<|J.g ((qAR O O O xB).nat (j+1) xB) O<|J.b O<|J.a4<|J.u<|J.a8 (w+1,j+1,L.set w (L.getD j []),m9_1) (λη (hη:_∧n-η.2.1<n-j)=>hI0 η hη.1 hη.2) ⟨⟨by dsimp only;omega,by dsimp only;omega,by dsimp only;rw [jk];exact hL,(qGU hw xB xB hA hB (by simpa using h29)).1,(qGU hw xB xB hA hB (by simpa using h29)).2,by assumption⟩,by first|omega|(dsimp only;omega)⟩ ⟨O,O,O,O,trivial⟩ (λ_ h=>h)
    refine J.b2<|J.a2<|J.u (J.D j10 ?_)
    exact J.H<|J.b O<|J.g ((qAR O O O xB).nat (j+1) xB) O<|J.b O<|J.a4<|J.u<|J.a8 (w,j+1,L,m) (λη (hη:_∧n-η.2.1<n-j)=>hI0 η hη.1 hη.2) ⟨⟨by dsimp only;omega,by dsimp only;omega,hL,(qGV xB hA hB (by simpa using h29)).1,(qGV xB hA hB (by simpa using h29)).2,hr⟩,by first|omega|(dsimp only;omega)⟩ ⟨O,O,O,O,trivial⟩ (λ_ h=>h)
  refine J.b3<|J.a0<|J.a0<|J.b4 ?_
  refine J.u (J.D j6 ?_)
  refine J.f λ_ j14=>J.p 2 O<|J.g (qC0 O O qAn z9_ O O xB) O<|J.a7 (qDZ (i:=0) (l:=w) (h:=n) O O (by split<;>simp [Addr.add_lit]) qAn el9 O O O (hr.shrink xB) O xB xB) O O ?_
  rintro mc hmc
  refine J.c j14<|J.f λ_ j15=>J.p 2 O<|J.g (qCm O O qAn z9_ O xB) O<|J.b O<|J.c j15<|J.A ?_
  have hfl:(ks.filter λk=>!nbl b d k)=L.take w:=by rw [hA,jV xB]
  have hfw:(ks.filter λk=>!nbl b d k).length=w:=by rw [hfl,jF];omega
  rw [qEL,←hfl] at hmc
  exact J.E hw0 O mc (by rw [hfw]) (by rw [hfw];exact hmc) [0,1] O xC
def qWG(f:Nat):Prop:= ∀(F:Hp) (hK:qAG F ⟨3,0,none⟩ (Sha.K.map W32)) (g:Nat) (l:List Sm.PR) (hT:qCl F g l) (hv: ∀p∈l,p.2.length≤1000000) (A:Option Addr) (n c:Nat) (ks:List xA) (hs:Sl F 1 A n c (qAH ks)) (hn:n≤1000000) (hw:Sm.WF f (Sm.prs l ks)) (hu:Sm.Up (Sm.prs l ks)) (d:Nat) (hd:d+f=128),Cz prog 242 [Ptr g,.slice A n c,I (d:Nat)] F (Str (Sm.nd f (Sm.prs l ks)))
theorem qIb{l:List Sm.PR}(hv: ∀p∈l,p.2.length≤1000000)(k:xA):((Sm.getP l k).getD []).length≤1000000:=by
 cases h:Sm.getP l k with
 |none=>exact jE _
 |some v=>exact hv _ (Sm.getP_some h)
theorem qQq{f:Nat}{l:List Sm.PR}{ks:List xA}(hw:Sm.WF f (Sm.prs l ks)){j:Nat}(hj:j<ks.length):(ks.getD j []).length=16:=by
 have h:j<(Sm.prs l ks).length:=by rw [Sm.prs_len];exact hj
 have h1:=hw.2.1 _ (jQ h)
 rw [Sm.prs_get l ks h hj] at h1
 rw [jB,jC hj];exact h1
theorem qQp{f:Nat}{l:List Sm.PR}{ks:List xA}(hw:Sm.WF f (Sm.prs l ks))(j:Nat):(ks.getD j []).length≤1000000:=by
 by_cases hj:j<ks.length
 · rw [qQq hw hj];decide
 · rw [jB,jd xB];decide
theorem qQr{f d:Nat}{l:List Sm.PR}{ks:List xA}(hw:Sm.WF (f+1) (Sm.prs l ks))(hd:d+(f+1)=128){j:Nat}(h:j<(Sm.prs l ks).length):Sm.bit (ks.getD j []) d=Sm.kv (Sm.prs l ks)[j].1/2^f%2:=by
 have hj:j<ks.length:=by rw [Sm.prs_len] at h;exact h
 rw [Sm.bit_kv (qQq hw hj) xB,Sm.prs_get l ks h hj,jB,jC hj,show 127-d=f by omega];rfl
theorem qH8(f:Nat)(ih: ∀f',f=f'+1→qWG f')(F:Hp)(hK:qAG F ⟨3,0,none⟩ (Sha.K.map W32))(g:Nat)(l:List Sm.PR)(hT:qCl F g l)(hv: ∀p∈l,p.2.length≤1000000)(A:Option Addr)(n c:Nat)(ks:List xA)(hs:Sl F 1 A n c (qAH ks))(hn:n≤1000000)(hw:Sm.WF f (Sm.prs l ks))(hu:Sm.Up (Sm.prs l ks))(d:Nat)(hd:d+f=128):
    Cz prog 242 [Ptr g,.slice A n c,I (d:Nat)] F (Str (Sm.nd f (Sm.prs l ks))):=by
  have hkn:ks.length=n:=by have:=hs.1;simpa [qAH] using this
  have hT0:=hT
  obtain ⟨gm,hc,hm⟩:=hT0
  have hsm:=qQp hw
  have hnc:=hs.2.1
  refine Ct.walk func242 O ntmps242 O (λw0 hw0=>?_)
  change J _ [(0,_),(1,_),(2,_)] _ _ _
  refine J.f λ_ j1=>J.b O<|J.c j1<|J.k λ_ j2=>J.f λ_ j3=>J.b O<|J.g (qAO qAn O O) O<|J.c j3<|J.T<|J.f λ_ j4=>J.g (qAe O O O) O<|J.b O<|J.c j4<|J.Z O (λh10=>?_) (λh10=>?_)
  ·
    exact J.f λ_ j5=>J.b O<|J.c j5<|J.A<|J.a5<|J.V<|J.E hw0 O () (by rw [jT (show ks.length=0 by omega)];show _=Str (Sm.nd f []);rw [Sm.nd_nil]) trivial [0] O xC
  refine J.f λ_ j6=>J.g (qAe O O O) O<|J.b O<|J.c j6<|J.Z O (λh12=>?_) (λh12=>?_)
  ·
    refine J.k λ_ j7=>?_
    have hk0:=hsm 0
    have hv0:=qIb hv (ks.getD 0 [])
    refine J.b1 [F] [] (.y 0 (.y 1 (.y 2 (.y 3 (.y 4 (.y 5 (.y 6 (.y 7 (.y 8 (.y 9 (.y 10 (.e 11 (.y 12 .nil))))))))))))) Tryz.wide xF xD ?_
    refine J.L ?_
    refine J.j O (qAF (i:=0) O O O qAn z9_ hs xB) O O<|J.j O (qAI O O b9_ (m:=F) xD (hs.elem (qAc (qAi [] xB)))) O O<|J.L ?_
    refine J.j O (qAB O O) O O<|J.j O (qAA O O qL0 O sizeOf235 O) O O<|J.j O (qAI (v:= .map (some gm)) O O isAgg235 (m:=F) xD (hc)) O O<|J.L ?_
    refine J.j O (qAF (i:=0) O O O qAn z9_ hs xB) O O<|J.j O (qAI O O b9_ (m:=F) xD (hs.elem (qAc (qAi [] xB)))) O O<|J.j O ((qCn O O O qPv u9_ e9_ (m:=F) xD hm).as (v':=Str ((Sm.getP l (ks.getD 0 [])).getD [])) (by rw [qMc,qR1])) O O<|J.a1 O (qAZ O O (λF' hF=>qNC F' (hK.mo hF) (ks.getD 0 []) ((Sm.getP l (ks.getD 0 [])).getD []) (by first|omega|exact jf O) (by first|omega|exact jf O))) O xD λg25 _=>J.b7 ?_
    refine J.b0<|J.u (J.D j7 ?_)
    exact J.A<|J.a5<|J.V<|J.E hw0 O () (by obtain ⟨k,rfl⟩:=List.length_eq_one_iff.1 (show ks.length=1 by omega);exact(congrArg Str (Sm.nd_one f (k,(Sm.getP l k).getD []))).symm) trivial [0] O xC
  obtain ⟨f',rfl⟩: ∃f',f=f'+1:=Nat.exists_eq_succ_of_ne_zero (λe=>by subst e;have:=hw.short;rw [Sm.prs_len] at this;omega)
  refine J.b2<|J.a2<|J.u (J.D j2 ?_)
  refine J.f λ_ j8=>J.b O<|J.c j8<|J.d9 (X:=Nat) (λζ=> [(0,Ptr g),(1,.slice A n c),(2,I (d:Nat)),(7,I (ζ:Nat))]) (λζ=> [F]) (λζ=>ζ≤n∧(∀j<ζ,Sm.bit (ks.getD j []) d=0)∧(ζ<n→Sm.bit (ks.getD ζ []) d≠0)) (λ_ j9=>?_) ?_
  ·
    refine J.T<|J.b5 (X:=Nat) (λζ=> [(0,Ptr g),(1,.slice A n c),(2,I (d:Nat)),(7,I (ζ:Nat))]) (λζ=> [F]) (λζ=>ζ≤n∧ ∀j<ζ,Sm.bit (ks.getD j []) d=0) (λζ=>n-ζ) 0 (⟨jE _,λj h=>absurd h (jy j)⟩) ⟨O,O,O,O,trivial⟩ (λ_ h=>h) ?_
    rintro k ⟨hk,hno⟩ I1 hI1
    have hsk:=hsm k
    refine J.k λ_ j10=>J.f λ_ j11=>J.p 2 O<|J.g (qAO qAn O O) O<|J.g (qAS O O O) O<|J.b O<|J.b9 (d:=30) O (λh30=>?_) (λh30=>?_)
    ·
      refine J.p 2 O<|J.G (qAF O O O qAn z9_ hs xB) O<|J.G (qAI O O b9_ (m:=F) xD (hs.elem (qAc (qAi [] xB)))) O<|J.b O<|J.d0 (qAZ O O (λF' hF=>qLX F' (ks.getD k []) (by first|omega|exact hsm _) d xB)) O λg36 _=>J.G (qAe O O O) O<|J.b O<|J.c j11<|J.Z O (λh38=>?_) (λh38=>?_)
      ·
        exact J.M j10<|J.T<|J.H<|J.b O<|J.g ((qAR O O O xB).nat (k+1) xB) O<|J.b O<|J.a4<|J.a2<|J.u<|J.a8 (k+1) (λη (hη:_∧n-η<n-k)=>hI1 η hη.1 hη.2) ⟨⟨xB,λj hj=>by rcases Nat.lt_succ_iff_lt_or_eq.1 hj with h|rfl;exact hno j h;omega⟩,by first|omega|(dsimp only;omega)⟩ ⟨O,O,O,O,trivial⟩ (λ_ h=>h)
      refine J.b3<|J.a0<|J.a0<|J.b4 ?_
      exact J.u<|J.a8 (k) j9 (⟨xB,hno,λh=>xB⟩) ⟨O,O,O,O,trivial⟩ (λ_ h=>h)
    refine J.p 8 O<|J.c j11<|J.a3 ?_
    refine J.b3<|J.a0<|J.a0<|J.b4 ?_
    exact J.u<|J.a8 (k) j9 (⟨xB,hno,λh=>xB⟩) ⟨O,O,O,O,trivial⟩ (λ_ h=>h)
  rintro k ⟨hk,hk0,hk1⟩
  refine J.k λ_ j12=>?_
  have hup:=Sm.up_bits hw hu (k:=k) (λj hj hjk=>by rw [←qQr hw hd hj];exact hk0 j hjk) (λhj=>by rw [←qQr hw hd hj];exact hk1 (by rw [Sm.prs_len] at hj;omega))
  have hW1:Sm.WF f' (Sm.prs l (ks.take k)):=by rw [Sm.prs_take,hup.1];exact hw.side true
  have hW2:Sm.WF f' (Sm.prs l (ks.drop k)):=by rw [Sm.prs_drop,hup.2];exact hw.side false
  have hU1:Sm.Up (Sm.prs l (ks.take k)):=by rw [Sm.prs_take];exact hu.sub (List.take_sublist _ _)
  have hU2:Sm.Up (Sm.prs l (ks.drop k)):=by rw [Sm.prs_drop];exact hu.sub (List.drop_sublist _ _)
  have hz1:=Sm.nd_small f' (Sm.prs l (ks.take k))
  have hz2:=Sm.nd_small f' (Sm.prs l (ks.drop k))
  refine J.b1 [F] [] (.y 0 (.y 1 (.y 2 (.y 3 (.y 4 (.y 5 (.y 7 (.y 8 (.y 9 (.y 10 (.y 11 (.y 12 (.e 6 (.e 13 (.e 14 (.y 15 .nil)))))))))))))))) Tryz.wide xF xD ?_
  iterate 3 refine J.L ?_
  refine J.j O (qCm O O qAn z9_ O xB) O O<|J.L ?_
  refine J.j O ((qAR O O O xB).nat (d+1) xB) O O<|J.L ?_
  refine J.L ?_
  refine J.L ?_
  refine J.j O (qC0 O O qAn z9_ O O xB) O O<|J.L ?_
  refine J.j O ((qAR O O O xB).nat (d+1) xB) O O<|J.a1 O (qAZ O O (λF' hF=>ih f' O F' (hK.mo hF) g l (hT.mono (Fa hF)) hv A k c (ks.take k) ((hs.strsTo xB).mono (Fa hF)) xB hW1 hU1 (d+1) xB)) O xD λg47 _=>J.a1 O (qAZ O O (λF' hF=>ih f' O F' (hK.mo hF) g l (hT.mono (Fa hF)) hv (if c=k then A else A.map (·.add (k*1))) (n-k) (c-k) (ks.drop k) ((hs.strsFrom xB).mono (Fa hF)) xB hW2 hU2 (d+1) xB)) O xD λg54 _=>J.a1 O (qAZ O O (λF' hF=>qGK F' (hK.mo hF) (Sm.nd f' (Sm.prs l (ks.take k))) (Sm.nd f' (Sm.prs l (ks.drop k))) xB xB)) O xD λg55 _=>J.b7 ?_
  refine J.b0<|J.u (J.D j12 ?_)
  exact J.A<|J.E hw0 O () (by rw [Sm.nd_two f' (by rw [Sm.prs_len];omega),←hup.1,←hup.2,Sm.prs_take,Sm.prs_drop]) trivial [0] O xC
theorem qM2: ∀f,qWG f
 |0=>λF hK g l hT hv A n c ks hs hn hw hu d hd=>qH8 0 (λf' h=>absurd h (Nat.succ_ne_zero f').symm) F hK g l hT hv A n c ks hs hn hw hu d hd
 |f+1=>λF hK g l hT hv A n c ks hs hn hw hu d hd=>qH8 (f+1) (λf' h=>by injection h with h;subst h;exact qM2 f) F hK g l hT hv A n c ks hs hn hw hu d hd
theorem qHN{l:List Sm.PR}(hk: ∀p∈l,p.1.length=16)(j:Nat):((Sm.keysS l).getD j []).length≤1000000:=by
  by_cases hj:j<(Sm.keysS l).length
  · rw [jB,jC hj]
    obtain ⟨v,hv⟩:=Sm.keysS_mem.1 (jQ hj)
    show((Sm.keysS l)[j]).length≤1000000
    rw [show(Sm.keysS l)[j].length=16 from hk _ hv];decide
  · rw [jB,jd xB];decide
theorem qR4(l:List Sm.PR)(b:xA)(d:Int):Sm.prs l ((Sm.keysS l).filter λk=>!nbl b d k)=Sm.bel (Sm.prs l (Sm.keysS l)) b (min d.toNat 128):=by
 rw [Sm.prs_filter]
 unfold Sm.bel nbl
 congr 1
 funext p
 rw [Bool.not_not]
theorem qOA{l:List Sm.PR}(ho:Sm.Once l)(b:xA)(D:Nat):(Sm.bel l b D).Perm (Sm.bel (Sm.prs l (Sm.keysS l)) b D):=(Sm.prs_perm ho).symm.filter _
structure qCS (l:List Sm.PR):Prop where
 once:Sm.Once l
 k16: ∀p∈l,p.1.length=16
 small: ∀p∈l,p.2.length≤1000000
 few:l.length≤1000000
theorem qGI(F:Hp)(hK:qAG F ⟨3,0,none⟩ (Sha.K.map W32))(g:Nat)(l:List Sm.PR)(hT:qCl F g l)(hf:qCS l)(b:xA)(hb:b.length≤1000000)(d:Int)(hw:Sm.WF (128-min d.toNat 128) (Sm.bel l b (min d.toNat 128))):Cz prog 178 [Ptr g,Str (b),I (d)] F (Str (Sm.ndB l b (min d.toNat 128))):=by
 have hln:=hf.few
 have hkl:=Sm.keysS_len l
 have hfl:((Sm.keysS l).filter λk=>!nbl b d k).length≤(Sm.keysS l).length:=zZ _ _
 have hW:Sm.WF (128-min d.toNat 128) (Sm.prs l ((Sm.keysS l).filter λk=>!nbl b d k)):=by rw [qR4];exact hw.perm (qOA hf.once _ _)
 have hU:Sm.Up (Sm.prs l ((Sm.keysS l).filter λk=>!nbl b d k)):=by rw [Sm.prs_filter];exact(Sm.prs_up hf.once hf.k16).sub List.filter_sublist
 have hR:Sm.nd (128-min d.toNat 128) (Sm.prs l ((Sm.keysS l).filter λk=>!nbl b d k))=Sm.ndB l b (min d.toNat 128):=by rw [qR4];exact(Sm.nd_perm _ hw (qOA hf.once _ _)).symm
 refine Ct.walk func178 O ntmps178 O (λw0 hw0=>?_)
 refine J.f λ_ j1=>J.q (qAb O O O) O λg4 _=>J.q (qAb O O O) O λg5 _=>J.b O<|J.c j1<|J.k λ_ j2=>J.f λ_ j3=>J.b O<|J.g ((qA6 qL2 O O O).as (v':= .bool false) O) O<|J.c j3<|J.a3 ?_
 refine J.M j2<|J.f λ_ j4=>J.b O<|J.q (qBb O O (λF' hF=>qM3 F' g l (hT.mono (Fa hF)) xB)) O ?_
 rintro⟨A11,c11,m11⟩ h11
 try dsimp only at h11
 refine J.g (qBM O O) O<|J.q (qAK O O ent (Ct.use1 3 O (λF' hF=>qWn F' m11 A11 (Sm.keysS l).length c11 (Sm.keysS l) h11 xB (qHN hf.k16) g4 g5 b d (qAG.blk0.mono (hF (blk g4 [Str (b)] 9) xD)) (qAG.blk0.mono (hF (blk g5 [I (d)] 3) xD)) hb))) O ?_
 rintro m13 h13
 exact J.b O<|J.c j4<|J.f λ_ j5=>J.p 2 O<|J.a6 2 b3_ O O O O O<|J.g ((qIL O O O).nat (d.toNat) xB) O<|J.g ((qF4 O O O).nat (min d.toNat 128) xB) O<|J.q (qAZ O O (λF' hF=>qM2 (128-min d.toNat 128) F' (hK.mo hF) g l (hT.mono (Fa hF)) hf.small A11 _ c11 _ (h13.sl.mono (Fa hF)) xB hW hU (min d.toNat 128) xB)) O λg19 _=>J.b O<|J.c j5<|J.A<|J.E hw0 O () (by rw [hR]) trivial [0] O xC
theorem qIr{l:List Sm.PR}{b:xA}(hf:qCS l):Sm.WF (128-min (0:Int).toNat 128) (Sm.bel l b (min (0:Int).toNat 128)):=by
 show Sm.WF 128 (Sm.bel l b 0)
 rw [Sm.bel_zero];exact Sm.WF.top hf.once hf.k16
theorem qMz{l:List Sm.PR}{b:xA}{d:Int}(hf:qCS l)(hb:b.length=16):Sm.WF (128-min d.toNat 128) (Sm.bel l b (min d.toNat 128)):=Sm.bel_wf hf.once hf.k16 hb (Nat.min_le_right _ _)
def qZk(k:xA)(m:List Pr):List Pr:=m.filter λp=>decide (p.k≠k)
def setR(m:List Pr)(x:Pr):List Pr:=qZk x.k m++ [x]
theorem qTi(m:List Pr)(x:Pr):(setR m x).map toP=Sm.setP (m.map toP) x.k x.v:=by
 unfold setR qZk Sm.setP
 rw [jO,List.filter_map];rfl
structure qEG (m:List Pr) (kv:List Sm.PR):Prop where
 fine:qCS kv
 perm:(m.map toP).Perm kv
theorem qEG.len{m:List Pr}{kv:List Sm.PR}(h:qEG m kv):kv.length=m.length:=by rw [←h.perm.length_eq,jP]
theorem qEG.set{m:List Pr}{kv:List Sm.PR}(h:qEG m kv){k v:xA}(hk:k.length=16)(hv:v.length≤1000000)(hl:m.length≤100000):qEG (setR m ⟨k,v⟩) (Sm.putP kv k v):=by
  have hp:((setR m ⟨k,v⟩).map toP).Perm (Sm.putP kv k v):=by
    rw [qTi]
    exact(Sm.setP_perm k v h.perm).trans (Sm.putP_perm k v h.fine.once).symm
  have ho:Sm.Once (Sm.putP kv k v):=(Sm.setP_once k v h.fine.once).perm (Sm.putP_perm k v h.fine.once).symm
  have hm: ∀p∈Sm.putP kv k v,p∈kv∨p=(k,v):=λp q=>Sm.setP_mem ((Sm.putP_perm k v h.fine.once).mem_iff.1 q)
  refine⟨⟨ho,λp q=>?_,λp q=>?_,jg (Sm.putP_len kv k v) (by rw [h.len];omega)⟩,hp⟩
  · rcases hm p q with q|rfl
    · exact h.fine.k16 p q
    · exact hk
  · rcases hm p q with q|rfl
    · exact h.fine.small p q
    · exact hv
theorem qEG.once{m:List Pr}{kv:List Sm.PR}(h:qEG m kv):Sm.Once (m.map toP):=h.fine.once.perm h.perm.symm
theorem qEG.k16{m:List Pr}{kv:List Sm.PR}(h:qEG m kv): ∀p∈m.map toP,p.1.length=16:=λp q=>h.fine.k16 p (h.perm.mem_iff.1 q)
theorem qEG.small{m:List Pr}{kv:List Sm.PR}(h:qEG m kv): ∀p∈m,p.v.length≤1000000:=λp q=>h.fine.small (toP p) (h.perm.mem_iff.1 (List.mem_map.2 ⟨p,q,O⟩))
theorem qEG.wf{m:List Pr}{kv:List Sm.PR}(h:qEG m kv):Sm.WF 128 (m.map toP):=Sm.WF.top h.once h.k16
theorem qEG.root{m:List Pr}{kv:List Sm.PR}(h:qEG m kv):Sm.nd 128 kv=Sm.nd 128 (m.map toP):=(Sm.nd_perm 128 h.wf h.perm).symm
structure Pu where
 a:UInt8
 b:UInt8
 v:xA
 deriving DecidableEq
def Pu.cells(x:Pu):List Value:= [B8 (x.a),B8 (x.b),Str (x.v)]
end Go.Proofs.YtmemgokiolfdoaaGreatDoor