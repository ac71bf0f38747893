/- A part of the proof. -/
import Derived.Test.YtmemgokiolfdoaaGreatDoorTopSpG13
import Derived.Shelf.Sort.Plain
import Derived.Shelf.Slices.In.SortNone
set_option maxRecDepth 100000
set_option maxHeartbeats 1000000
set_option linter.unusedSimpArgs false
set_option linter.unusedVariables false
namespace Go.Proofs.YtmemgokiolfdoaaGreatDoor
open Go Go.Fw Go.Proofs.Tryz
open Go.Shelf Go.RowKit
def Tryz.lays190_ren:Go.Shelf.Ren:=⟨λ|190=>280|125=>300|258=>299|128=>318|129=>319|302=>309|303=>310|304=>311|305=>312|306=>313|307=>314|308=>315|309=>316|310=>317|333=>323|329=>324|330=>325|334=>326|335=>327|336=>328|344=>329|n=>n,λ|31=>50|9=>9|3=>3|46=>222|0=>0|51=>302|53=>49|4=>4|183=>425|182=>424|131=>178|5=>5|218=>434|222=>437|228=>439|229=>388|n=>n,λ|n=>n⟩
theorem Tryz.lays190:Go.Proofs.Lays.n190 prog Tryz.lays190_ren:={
 mixed:=by kernel_rfl
 f125:=func300.trans (yY some xH)
 f128:=func318.trans (yY some xH)
 f129:=func319.trans (yY some xH)
 f190:=func280.trans (yY some xH)
 f258:=func299.trans (yY some xH)
 f302:=func309.trans (yY some xH)
 f303:=func310.trans (yY some xH)
 f304:=func311.trans (yY some xH)
 f305:=func312.trans (yY some xH)
 f306:=func313.trans (yY some xH)
 f307:=func314.trans (yY some xH)
 f308:=func315.trans (yY some xH)
 f309:=func316.trans (yY some xH)
 f310:=func317.trans (yY some xH)
 f329:=func324.trans (yY some xH)
 f330:=func325.trans (yY some xH)
 f333:=func323.trans (yY some xH)
 f334:=func326.trans (yY some xH)
 f335:=func327.trans (yY some xH)
 f336:=func328.trans (yY some xH)
 f344:=func329.trans (yY some xH)
 t0:=u0_
 a0:=isAgg0
 z0:=sizeOf0
 v0:=e0_
 t3:=u3_
 a3:=b3_
 z3:=z3_
 v3:=e3_
 t4:=u4_
 a4:=b4_
 z4:=z4_
 v4:=e4_
 t5:=u5_
 a5:=b5_
 z5:=z5_
 v5:=e5_
 t9:=u9_
 a9:=b9_
 z9:=z9_
 v9:=e9_
 t31:=qAg
 a31:=qB7
 z31:=qBs
 v31:=zeroValue50
 t46:=qJU
 a46:=isAgg222
 z46:=sizeOf222
 v46:=zeroValue222
 t51:=qKe
 a51:=qDg
 z51:=qCU
 v51:=zeroValue302
 t53:=qDJ
 a53:=qBe
 z53:=qBV
 v53:=zeroValue49
 t131:=underlying178
 a131:=isAgg178
 z131:=sizeOf178
 v131:=zeroValue178
 t182:=underlying424
 a182:=isAgg424
 z182:=sizeOf424
 v182:=zeroValue424
 t183:=underlying425
 a183:=isAgg425
 z183:=sizeOf425
 v183:=zeroValue425
 t218:=underlying434
 a218:=isAgg434
 z218:=sizeOf434
 v218:=zeroValue434
 t222:=underlying437
 a222:=isAgg437
 z222:=sizeOf437
 v222:=zeroValue437
 t228:=underlying439
 a228:=isAgg439
 z228:=sizeOf439
 v228:=zeroValue439
 t229:=underlying388
 a229:=isAgg388
 z229:=sizeOf388
 v229:=zeroValue388}
theorem qXX(F m:Hp)(A:yS)(n c:Nat)(l:List xA)(hr:Row m 9 1 A n c (qAG l))(hn:n<=1073741824):
    Ct prog 280 [.slice A n c] [m,F] (λ_:Hp=> .tuple #[]) (λm'=>Row m' 9 1 A n c (qAG (Sm.srt l))) (λm'=> [m',F]):=
  Ct.ofSort Sm.srt_len (λblk off cap ss w h1 h2 h3=>Any.slices_Sort_string Tryz.lays190 blk off cap ss w h1 h2 h3) (λp cap w=>Any.slices_Sort_string_none Tryz.lays190 p cap w) hr hn
end Go.Proofs.YtmemgokiolfdoaaGreatDoor
namespace Go.Proofs.YtmemgokiolfdoaaGreatDoor
open Go Go.Fw Go.Proofs.Tryz
theorem qU5(F:Hp)(gm:Nat):Ct prog 239 [.map (some gm)] [F] (λg:Nat=> .func (.func 281) #[] #[Ptr g]) (λ_=>True) (λg=> [F,blk g [.map (some gm)] 235]):=by
 refine y7 func239 O ntmps239 O (λw0 hw0=>?_)
 exact yl λ_ C1=>yp (qAi O O O) O λg1 _=>yh O<|yi C1<|yl λ_ C2=>yj (qBt O O) O<|yh O<|yi C2<|yr<|yw hw0 O g1 O yd [0,1] O xC
theorem qVK(Fr:Hp)(gb gm:Nat)(lv:List Sm.PR)(hb:qAI Fr ⟨gb,0,none⟩ [.map (some gm)])(hm:MapAt Fr gm (ssM lv)):
    qJK prog 281 [Ptr gb] Fr (Y:=MP) (λy vs y'=> ∃p a b,y=a++p::b/\vs= [Str p.1]/\y'=a++b) (λy=>y= []) (ssM lv):=by
  obtain ⟨es,ck,hg,hst,hkv⟩:=hm
  refine qJK.walk func281 O ntmps281 O (λ{X} M IY S l x0 w0 hw0 h0 hY=>?_)
  refine yl λ_ C1=>yj (qAH O O isAgg235 (m:=Fr) xD (hb)) O<|yp (qK5 O O qQE xD hg hkv) O ?_
  rintro⟨g5,mi⟩ hit
  try dsimp only at hit
  refine yi C1<|yz<|vN (X:=MP×X×Hp) (λζ=> [(0,.func (.yield l) #[] #[]),(5,Ptr g5)]) (λζ=> [Fr,M ζ.2.1,ζ.2.2]) (λζ=>IY ζ.1 ζ.2.1/\ItM ζ.2.2 g5 gm es ck ζ.1) (λζ=>ζ.1.length) (ssM lv,x0,mi) (⟨h0,hit⟩) (Sub.of O) (λ_ h=>h) ?_
  rintro⟨y,x,mi⟩ ⟨hI,hit⟩ I0 hI0
  dsimp only at hI hit⊢
  refine yl λ_ C2=>yp (qNr (i:=2) O O (m:=Fr) xD hg hst O hit) O ?_
  rintro⟨on,mj⟩ hnx
  try dsimp only at hnx
  refine yj ((qAp O (yY some (qRf on)) (qWe on))) O<|yi C2<|ym λ_ C3=>vf O (λh7=>?_) (λh7=>?_)
  .
    obtain ⟨p,a,b,rfl,hy,hl⟩: ∃p a b,on=some p/\y=a++p::b/\ItL mj g5 gm es ck (a++b) p:=by
      rcases hnx with ⟨h1,_,_⟩|h1
      . rw [h1] at h7;cases h7
      . exact h1
    refine yy C3<|yz<|yl λ_ C4=>yj ((qK7 (mi:=mj) (p:=p) O O xD hg hst xD hl)) O<|yj ((qAp O O O)) O<|yh O<|yi C4<|ym λ_ C5=>wN ?_
    refine vc (qAT O O) O O O ?_
    refine vc (qAT O O) O O O ?_
    refine wO (ex:= [mj]) O O O O O O (hY y [Str p.1] (a++b) ⟨p,a,b,hy,O,O⟩ x hI) ?_
    rintro x' b hb1 hb2
    cases b
    .
      have hyb:=hb2 O
      refine vc (qA5 O O) O O O ?_
      refine vy ?_
      refine yq (yu C5 ?_)
      refine vV ?_
      exact yr<|vI<|y5<|vI<|vH hw0 (λ_ _ h=>h) (qIj O) (λw hs=>⟨x',⟨_,O⟩,.inr hyb,hs.pick [0,1] xC⟩)
    have hyb:=hb1 O
    refine vc (qA5 O O) O O O ?_
    refine vy ?_
    refine yq (yu C5 ?_)
    refine vC ?_
    exact vP<|vB<|yq<|vE (a++b,x',mj) hI0 ⟨hyb,hl.it⟩ (Sub.of O) (λ_ h=>h) (by rw [hy];simp)
  have hy0:y= []:=by
    rcases hnx with ⟨_,h1,_⟩|⟨p,a,b,h1,_⟩
    . exact h1
    . rw [h1] at h7;cases h7
  refine vK<|y6<|y6<|vL ?_
  exact vo hw0 (λ_ _ h=>h) (qIj O) (λw hs=>⟨x,⟨_,O⟩,.inl ⟨[],O,hy0▸hI⟩,hs.pick [0,1] xC⟩)
theorem qZJ(F:Hp)(gb gm:Nat)(lv:List Sm.PR)(hb:qAI F ⟨gb,0,none⟩ [.map (some gm)])(hm:MapAt F gm (ssM lv))(hln:lv.length<=1000000):Ct prog 298 [.slice none 0 0,.func (.func 281) #[] #[Ptr gb]] [F] (λx:List xA×yS×Nat×Hp=> .slice x.2.1 x.1.length x.2.2.1) (λx=>Row x.2.2.2 9 1 x.2.1 x.1.length x.2.2.1 (qAG x.1)/\x.1.Perm (lv.map (·.1))) (λx=> [F,x.2.2.2]):=by
 refine y7 func298 O ntmps298 O (λw0 hw0=>?_)
 refine yl λ_ C1=>yp (qAi O O O) O λg2 _=>yh O<|yi C1<|ym λ_ C2=>yl λ_ C3=>yh O<|yi C3<|yz<|ve [1,2,0] [blk g2 [.slice none 0 0] 50,(λ_=>none),F] O xC<|wY (λx:List xA×yS×Nat×Hp=> [blk g2 [.slice x.2.1 x.1.length x.2.2.1] 50,x.2.2.2]) [F] (λ(y:MP) x=>Row x.2.2.2 9 1 x.2.1 x.1.length x.2.2.1 (qAG x.1)/\(x.1++y.map (·.1)).Perm (lv.map (·.1))) (λ_ _=>False) ([],none,0,λ_=>none) O ent (λFr hF=>qVK Fr gb gm lv (hb.mono (Fa hF)) (hm.mono (Fa hF))) (by rintro y vs y' ⟨p,a,b,rfl,rfl,rfl⟩;rfl) O (⟨qBf.nil,by show(([]:List xA)++(ssM lv).map (·.1)).Perm _;rw [j7,ze];exact List.Perm.refl _⟩) ?_ ?_ ?_
 .
  intro y vs y' x l wa wb hi hI K4 Post4 C4 hN4 hR4 hE4
  obtain ⟨p,a,b,rfl,rfl,rfl⟩:=hi
  obtain ⟨ks,Ax,cx,mx⟩:=x
  obtain ⟨hr,hp⟩:=hI
  dsimp only at hr hp
  have hkl:=hp.length_eq
  rw [jA,jJ,jJ,jA,jC] at hkl
  change J _ ((7,Str p.1)::_) _ [blk g2 [.slice Ax ks.length cx] 50,mx,F] _
  refine vt ?_
  refine yh O<|vu ?_
  refine yq (C4 _ _ ?_)
  refine wM ?_
  refine vt ?_
  refine vF 0 qB7 O O O O O<|yh O<|yp (qAE (l:= [.tmp 9]) (xs:= [[Str p.1]]) O O O O qAg el9 O xC xC xD) O λg10 _=>?_
  change J _ _ _ [_,_,_,blk g10 [Str p.1] 9] _
  refine yp (qAV (i:=1) (m2:=blk g10 [Str p.1] 9) (ys:=qAG [p.1]) O O O qAg qAg el9 O hr xD (slS [p.1] O) (qDR _) xB xB) O ?_
  rintro⟨A11,c11,m11⟩ h11
  try dsimp only at h11
  replace h11:Row m11 9 1 A11 (ks.length+1) c11 (qAG (ks++ [p.1])):=by rw [qBh];exact h11
  rw [show ks.length+1=(ks++ [p.1]).length by simp] at h11⊢
  refine vG (qAU (i:=0) O O O O O qBs O xD) O O λ_ _=>vW [0,1,2] [blk g2 [.slice A11 (ks++ [p.1]).length c11] 50,m11,F] O xC<|vu ?_
  refine vB ?_
  exact hN4 _ (ks++ [p.1],A11,c11,m11) ⟨h11,by dsimp only;rw [jM,jN];refine List.Perm.trans ?_ hp;rw [jN,jY];exact List.Perm.append_left _ (by simpa using List.perm_middle.symm)⟩
 .
  intro w4 x y hx4 hf hI
  obtain ⟨ks,Ax,cx,mx⟩:=x
  obtain ⟨hr,hp⟩:=hI
  obtain rfl:y= []:=hf
  dsimp only at hr hp
  rw [zg,jS] at hp
  refine vB<|yq (yu C2 ?_)
  exact yl λ_ C5=>vF 0 qB7 O O O O O<|yh O<|yi C5<|yr<|wG hw0 hx4 (λ_ _ h=>h) (qIM O O) (qAf (ks,Ax,cx,mx) O ⟨hr,hp⟩ [2,1] O xC)
 intro w4 x c hx4 hS
 exact hS.elim
theorem qY9(F:Hp)(gb gm:Nat)(lv:List Sm.PR)(hb:qAI F ⟨gb,0,none⟩ [.map (some gm)])(hm:MapAt F gm (ssM lv))(hln:lv.length<=1000000):Ct prog 279 [.func (.func 281) #[] #[Ptr gb]] [F] (λx:List xA×yS×Nat×Hp=> .slice x.2.1 x.1.length x.2.2.1) (λx=>Row x.2.2.2 9 1 x.2.1 x.1.length x.2.2.1 (qAG x.1)/\x.1.Perm (lv.map (·.1))) (λx=> [F,x.2.2.2]):=by
 refine y7 func279 O ntmps279 O (λw0 hw0=>?_)
 refine yl λ_ C1=>yh O<|yi C1<|yl λ_ C2=>yh O<|yp (qBx O O (λF' hF=>qZJ F' gb gm lv (hb.mono (Fa hF)) (hm.mono (Fa hF)) hln)) O ?_
 rintro⟨ks,A4,c4,m4⟩ h4
 try dsimp only at h4
 exact yh O<|yi C2<|yr<|yw hw0 O (ks,A4,c4,m4) O h4 [0,1] O xC
theorem qQY(F:Hp)(gb gm:Nat)(lv:List Sm.PR)(hb:qAI F ⟨gb,0,none⟩ [.map (some gm)])(hm:MapAt F gm (ssM lv))(hln:lv.length<=1000000):Ct prog 238 [.func (.func 281) #[] #[Ptr gb]] [F] (λx:yS×Nat×Hp=> .slice x.1 (Sm.keysS lv).length x.2.1) (λx=>Row x.2.2 9 1 x.1 (Sm.keysS lv).length x.2.1 (qAG (Sm.keysS lv))) (λx=> [F,x.2.2]):=by
 refine y7 func238 O ntmps238 O (λw0 hw0=>?_)
 refine yl λ_ C1=>yh O<|yi C1<|yl λ_ C2=>yh O<|yp (qBx O O (λF' hF=>qY9 F' gb gm lv (hb.mono (Fa hF)) (hm.mono (Fa hF)) hln)) O ?_
 rintro⟨ks,A5,c5,m5⟩ h5
 try dsimp only at h5
 refine yh O<|yi C2<|yl λ_ C3=>yh O<|yp (qAJ O O ent (vR 1 O (λF' hF=>qXX F' m5 A5 ks.length c5 ks h5.1 (by have:=h5.2.length_eq;rw [jJ] at this;omega)))) O ?_
 rintro m7 h7
 refine yi C3<|yl λ_ C4=>yn 2 O<|yi C4<|yr ?_
 have hks:Sm.srt ks=Sm.keysS lv:=Sm.srt_eq h5.2
 have hkn:ks.length=(Sm.keysS lv).length:=by rw [<-hks,Sm.srt_len]
 rw [hks,hkn] at h7
 exact yw hw0 O (A5,c5,m7) (by rw [hkn]) h7 [0,1] O xC
theorem qNQ(F:Hp)(g:Nat)(l:List Sm.PR)(hT:qCo F g l)(hln:l.length<=1000000):Ct prog 174 [Ptr g] [F] (λx:yS×Nat×Hp=> .slice x.1 (Sm.keysS l).length x.2.1) (λx=>Row x.2.2 9 1 x.1 (Sm.keysS l).length x.2.1 (qAG (Sm.keysS l))) (λx=> [F,x.2.2]):=by
 have hT0:=hT
 obtain ⟨gm,hc,hm⟩:=hT0
 refine y7 func174 O ntmps174 O (λw0 hw0=>?_)
 refine yl λ_ C1=>yh O<|yi C1<|ym λ_ C2=>yl λ_ C3=>yh O<|yj ((qBL qMK O O O).as (v':= .bool false) O) O<|yi C3<|vC ?_
 refine yy C2<|yl λ_ C4=>yh O<|yj (qAB O O) O<|vA 0 qMJ sizeOf235 O O O O O<|yj (qAH O O isAgg235 (m:=F) xD (hc)) O<|yp (qBx O O (λF' _=>qU5 F' gm)) O ?_
 rintro g9 _
 refine yp (qBx O O (λF' hF=>qQY F' g9 gm l (qAI.blk0.mono (hF (blk g9 [.map (some gm)] 235) xD)) (hm.mono (Fa hF)) hln)) O ?_
 rintro⟨A10,c10,m10⟩ h10
 try dsimp only at h10
 exact yh O<|yi C4<|yr<|yw hw0 O (A10,c10,m10) O h10 [0,2] O xC
def nbl(b:xA)(d:Int)(k:xA):Bool:=!Sm.belowB k b (min d.toNat 128)
theorem qN0(F:Hp)(k:xA)(hk:k.length<=1000000)(pb pd:Nat)(b:xA)(d:Int)(hpb:qAI F ⟨pb,0,none⟩ [Str b])(hpd:qAI F ⟨pd,0,none⟩ [I d])(hb:b.length<=1000000):Cz prog 241 [Str (k),Ptr pb,Ptr pd] F (.bool (nbl b d k)):=by
 refine y7 func241 O ntmps241 O (λw0 hw0=>?_)
 exact yl λ_ C1=>yh O<|yi C1<|yl λ_ C2=>yh O<|yj (qAH O O b9_ (m:=F) xD (hpb)) O<|yj (qAH O O b3_ (m:=F) xD (hpd)) O<|yp (qAZ O O (λF' hF=>qFi F' k xB b xB d)) O λg8 _=>yj (qA5 O O) O<|yh O<|yi C2<|yr<|yw hw0 O () (by unfold nbl;rfl) yd [0] O xC
theorem qXa(F:Hp)(A:yS)(n c:Nat)(ks:List xA)(hs:Sl F 1 A n c (qAG ks))(hn:n<=1000000)(hsm: ∀k:Nat,(ks.getD k []).length<=1000000)(pb pd:Nat)(b:xA)(d:Int)(hpb:qAI F ⟨pb,0,none⟩ [Str b])(hpd:qAI F ⟨pd,0,none⟩ [I d])(hb:b.length<=1000000):Cz prog 240 [.slice A n c,.func (.func 241) #[] #[Ptr pb,Ptr pd]] F (I (ixS (nbl b d) ks)):=by
 have hkn:ks.length=n:=by have:=hs.1;simpa [qAG] using this
 refine y7 func240 O ntmps240 O (λw0 hw0=>?_)
 refine yl λ_ C1=>yh O<|yi C1<|ym λ_ C2=>yl λ_ C3=>yh O<|yj (qAN qAg O O) O<|yh O<|yi C3<|yz<|vN (X:=Nat) (λζ=> [(0,.slice A n c),(1,.func (.func 241) #[] #[Ptr pb,Ptr pd]),(7,I (n:Nat)),(8,I (ζ:Nat))]) (λζ=> [F]) (λζ=>ζ<=n/\ ∀j<ζ,nbl b d (ks.getD j [])=false) (λζ=>n-ζ) 0 (⟨jH _,λj h=>absurd h (jz j)⟩) (Sub.of O) (λ_ h=>h) ?_
 rintro k ⟨hk,hno⟩ I0 hI0
 refine yl λ_ C4=>yj (qAP O O O) O<|yi C4<|ym λ_ C5=>y1 O (λh9=>?_) (λh9=>?_)
 .
  refine yy C5<|ym λ_ C6=>yz<|yl λ_ C7=>yn 2 O<|yi C7<|yl λ_ C8=>yn 3 O<|yj (qAC O O O qAg z9_ hs xB) O<|yj (qAH O O b9_ (m:=F) xD (hs.elem (qAa (qAc [] xB)))) O<|yp (qDv O O O ent (Ct.use0 (λF' hF=>qN0 F' (ks.getD k []) (by first|omega|(exact hsm _)) pb pd b d (hpb.mono (Fa hF)) (hpd.mono (Fa hF)) xB))) O λg16 _=>yi C8<|vf O (λh16=>?_) (λh16=>?_)
  .
   exact yl λ_ C9=>yn 2 O<|yi C9<|yr<|vI<|y5<|y5<|vI<|y5<|yw hw0 O () (by rw [qWv (k:=k) xB (by simpa using h16) hno]) yd [0] O xC
  refine vP<|vB<|yq (yu C6 ?_)
  exact yt<|yj ((qAM O O O xB).nat (k+1) xB) O<|yh O<|y8<|yq<|vE (k+1) hI0 ⟨xB,λj hj=>by rcases Nat.lt_succ_iff_lt_or_eq.1 hj with h|rfl;exact hno j h;simpa using h16⟩ (Sub.of O) (λ_ h=>h)
 refine vK<|y6<|y6<|vL ?_
 refine yq (yu C2 ?_)
 exact yl λ_ C10=>yh O<|yi C10<|yr<|yw hw0 O () (by rw [qWt (λj hj=>hno j xB)]) yd [0] O xC
theorem qXe(F m:Hp)(A:yS)(n c:Nat)(ks:List xA)(hr:Row m 9 1 A n c (qAG ks))(hn:n<=1000000)(hsm: ∀k:Nat,(ks.getD k []).length<=1000000)(pb pd:Nat)(b:xA)(d:Int)(hpb:qAI F ⟨pb,0,none⟩ [Str b])(hpd:qAI F ⟨pd,0,none⟩ [I d])(hb:b.length<=1000000):
    Ct prog 176 [.slice A n c,.func (.func 241) #[] #[Ptr pb,Ptr pd]] [m,F] (λ_:Hp=> .slice A (ks.filter λk=>!nbl b d k).length c) (λm'=>Row m' 9 1 A (ks.filter λk=>!nbl b d k).length c (qAG (ks.filter λk=>!nbl b d k))) (λm'=> [m',F]):=by
  have hkn:ks.length=n:=by have:=hr.len;simpa [qAG] using this
  have hnc:=hr.2.2.1
  refine y7 func176 O ntmps176 O (λw0 hw0=>?_)
  change J _ [(0,_),(1,_)] _ _ _
  refine yl λ_ C1=>yh O<|yi C1<|yl λ_ C2=>yn 2 O<|yp (qAZ O O (λF' hF=>qXa F' A n c ks (hr.sl.mono (Fa hF)) xB (hsm) pb pd b d (hpb.mono (Fa hF)) (hpd.mono (Fa hF)) xB)) O λg10 _=>yh O<|yi C2<|ym λ_ C3=>yl λ_ C4=>yh O<|yj (qAR O O O) O<|yi C4<|y1 O (λh12=>?_) (λh12=>?_)
  .
    refine yl λ_ C5=>yn 2 O<|yi C5<|yr<|y5 ?_
    have hf:(ks.filter λk=>!nbl b d k)=ks:=qOH h12
    exact yw hw0 O m (by rw [hf,hkn]) (by rw [hf,hkn];exact hr) [0,1] O xC
  refine yy C3<|ym λ_ C6=>ym λ_ C7=>?_
  obtain ⟨i0,h5,hi0,hf0⟩:=qWu h12
  obtain ⟨ga,rfl⟩:=hr.at xB
  rw [h5]
  refine yt<|yh O<|yj ((qAM O O O xB).nat (i0+1) xB) O<|yh O<|yi C7<|yz<|vN (X:=Nat×Nat×List xA×Hp) (λζ=> [(0,.slice (some ⟨ga,0,none⟩) n c),(1,.func (.func 241) #[] #[Ptr pb,Ptr pd]),(5,I (ζ.1:Nat)),(6,I (ζ.2.1:Nat))]) (λζ=> [ζ.2.2.2,F]) (λζ=>ζ.1<ζ.2.1/\ζ.2.1<=n/\ζ.2.2.1.length=n/\ζ.2.2.1.take ζ.1=(ks.take ζ.2.1).filter (λk=>!nbl b d k)/\ζ.2.2.1.drop ζ.2.1=ks.drop ζ.2.1/\Row ζ.2.2.2 9 1 (some ⟨ga,0,none⟩) n c (qAG ζ.2.2.1)) (λζ=>n-ζ.2.1) (i0,i0+1,ks,m) (⟨by dsimp only;omega,by dsimp only;omega,hkn,hf0,O,hr⟩) (Sub.of O) (λ_ h=>h) ?_
  rintro⟨w,j,L,m⟩ ⟨hw,hj,hL,hA,hB,hr⟩ I0 hI0
  dsimp only at hw hj hL hA hB hr⊢
  refine ym λ_ C8=>yl λ_ C9=>yn 2 O<|yj (qAN qAg O O) O<|yj (qAP O O O) O<|yi C9<|y1 O (λh19=>?_) (λh19=>?_)
  .
    refine yy C8<|ym λ_ C10=>yz<|yl λ_ C11=>yn 2 O<|yj (qAY (i:=j) (j:=0+j*1) O O O qAg z9_ xB xB) O ?_
    have hnw:w<j:=hw
    refine yj (qAH O O b9_ (m:=m) xD (hr.sl.cells (qAa (qAc [] xB)))) O<|yh O<|yi C11<|ym λ_ C12=>?_
    have hgj:(L.getD j []).length<=1000000:=by
      have e0:=yY (λz=>z.getD 0 []) hB
      have e1:L.getD j []=ks.getD j []:=by simpa [jB,js] using e0
      rw [e1];exact hsm j
    refine yt<|yn 2 O<|yp (qDv O O O ent (Ct.use0 (λF' hF=>qN0 F' (L.getD j []) (by first|omega|(exact hsm _)) pb pd b d (hpb.mono (Fa hF)) (hpd.mono (Fa hF)) xB))) O λg28 _=>yj (qA5 O O) O<|yi C12<|vf O (λh29=>?_) (λh29=>?_)
    .
      refine yl λ_ C13=>yn 3 O<|yj (qAY (i:=w) (j:=0+w*1) O O O qAg z9_ xB xB) O<|vG (qBr (i:=0) (k:=w) (off:=0) (b:= [Str (L.getD j [])]) O O O O hr (vs:= [Str (L.getD j [])]) O z9_ O xB (qAa (qAc [] xB)) O (jL _)) O O ?_
      rintro m9_1 hm9_1
      rw [qEK] at hm9_1
      refine yi C13<|yt<|yh O<|yj ((qAM O O O xB).nat (w+1) xB) O<|yh O<|y8<|vB<|yq (yu C10 ?_)
      exact yt<|yh O<|yj ((qAM O O O xB).nat (j+1) xB) O<|yh O<|y8<|yq<|vE (w+1,j+1,L.set w (L.getD j []),m9_1) hI0 ⟨by dsimp only;omega,by dsimp only;omega,by dsimp only;rw [j6];exact hL,(qG6 hw xB xB hA hB (by simpa using h29)).1,(qG6 hw xB xB hA hB (by simpa using h29)).2,by assumption⟩ (Sub.of O) (λ_ h=>h)
    refine vP<|vB<|yq (yu C10 ?_)
    exact yt<|yh O<|yj ((qAM O O O xB).nat (j+1) xB) O<|yh O<|y8<|yq<|vE (w,j+1,L,m) hI0 ⟨by dsimp only;omega,by dsimp only;omega,hL,(qG7 xB hA hB (by simpa using h29)).1,(qG7 xB hA hB (by simpa using h29)).2,hr⟩ (Sub.of O) (λ_ h=>h)
  refine vK<|y6<|y6<|vL ?_
  refine yq (yu C6 ?_)
  refine yl λ_ C14=>yn 2 O<|yj (qCi O O qAg z9_ O O xB) O<|vG (qFW (i:=0) (l:=w) (h:=n) O O (by split<;>simp [Addr.add_lit]) qAg el9 O O O (hr.shrink xB) O xB xB) O O ?_
  rintro mc hmc
  refine yi C14<|yl λ_ C15=>yn 2 O<|yj (qEi O O qAg z9_ O xB) O<|yh O<|yi C15<|yr ?_
  have hfl:(ks.filter λk=>!nbl b d k)=L.take w:=by rw [hA,jV xB]
  have hfw:(ks.filter λk=>!nbl b d k).length=w:=by rw [hfl,jF];omega
  rw [qEd,<-hfl] at hmc
  exact yw hw0 O mc (by rw [hfw]) (by rw [hfw];exact hmc) [0,1] O xC
def qW4(f:Nat):Prop:= ∀(F:Hp) (hK:yf F) (g:Nat) (l:List Sm.PR) (hT:qCo F g l) (hv: ∀p∈l,p.2.length<=1000000) (A:yS) (n c:Nat) (ks:List xA) (hs:Sl F 1 A n c (qAG ks)) (hn:n<=1000000) (hw:Sm.WF f (Sm.prs l ks)) (hu:Sm.Up (Sm.prs l ks)) (d:Nat) (hd:d+f=128),Cz prog 242 [Ptr g,.slice A n c,I (d:Nat)] F (Str (Sm.nd f (Sm.prs l ks)))
theorem qI8{l:List Sm.PR}(hv: ∀p∈l,p.2.length<=1000000)(k:xA):((Sm.getP l k).getD []).length<=1000000:=by
 cases h:Sm.getP l k with
 |none=>exact jH _
 |some v=>exact hv _ (Sm.getP_some h)
theorem qRE{f:Nat}{l:List Sm.PR}{ks:List xA}(hw:Sm.WF f (Sm.prs l ks)){j:Nat}(hj:j<ks.length):(ks.getD j []).length=16:=by
 have h:j<(Sm.prs l ks).length:=by rw [Sm.prs_len];exact hj
 have h1:=hw.2.1 _ (jU h)
 rw [Sm.prs_get l ks h hj] at h1
 rw [jB,jD hj];exact h1
theorem qRD{f:Nat}{l:List Sm.PR}{ks:List xA}(hw:Sm.WF f (Sm.prs l ks))(j:Nat):(ks.getD j []).length<=1000000:=by
 by_cases hj:j<ks.length
 . rw [qRE hw hj];decide
 . rw [jB,je xB];decide
theorem qRF{f d:Nat}{l:List Sm.PR}{ks:List xA}(hw:Sm.WF (f+1) (Sm.prs l ks))(hd:d+(f+1)=128){j:Nat}(h:j<(Sm.prs l ks).length):Sm.bit (ks.getD j []) d=Sm.kv (Sm.prs l ks)[j].1/2^f%2:=by
 have hj:j<ks.length:=by rw [Sm.prs_len] at h;exact h
 rw [Sm.bit_kv (qRE hw hj) xB,Sm.prs_get l ks h hj,jB,jD hj,show 127-d=f by omega];rfl
theorem qIc(f:Nat)(ih: ∀f',f=f'+1->qW4 f')(F:Hp)(hK:yf F)(g:Nat)(l:List Sm.PR)(hT:qCo F g l)(hv: ∀p∈l,p.2.length<=1000000)(A:yS)(n c:Nat)(ks:List xA)(hs:Sl F 1 A n c (qAG ks))(hn:n<=1000000)(hw:Sm.WF f (Sm.prs l ks))(hu:Sm.Up (Sm.prs l ks))(d:Nat)(hd:d+f=128):
    Cz prog 242 [Ptr g,.slice A n c,I (d:Nat)] F (Str (Sm.nd f (Sm.prs l ks))):=by
  have hkn:ks.length=n:=by have:=hs.1;simpa [qAG] using this
  have hT0:=hT
  obtain ⟨gm,hc,hm⟩:=hT0
  have hsm:=qRD hw
  have hnc:=hs.2.1
  refine y7 func242 O ntmps242 O (λw0 hw0=>?_)
  change J _ [(0,_),(1,_),(2,_)] _ _ _
  refine yl λ_ C1=>yh O<|yi C1<|ym λ_ C2=>yl λ_ C3=>yh O<|yj (qAN qAg O O) O<|yi C3<|yz<|yl λ_ C4=>yj (qAR O O O) O<|yh O<|yi C4<|y1 O (λh10=>?_) (λh10=>?_)
  .
    exact yl λ_ C5=>yh O<|yi C5<|yr<|vI<|y5<|yw hw0 O () (by rw [jT (show ks.length=0 by omega)];show _=Str (Sm.nd f []);rw [Sm.nd_nil]) yd [0] O xC
  refine yl λ_ C6=>yj (qAR O O O) O<|yh O<|yi C6<|y1 O (λh12=>?_) (λh12=>?_)
  .
    refine ym λ_ C7=>?_
    have hk0:=hsm 0
    have hv0:=qI8 hv (ks.getD 0 [])
    refine vQ [F] [] (.y 0 (.y 1 (.y 2 (.y 3 (.y 4 (.y 5 (.y 6 (.y 7 (.y 8 (.y 9 (.y 10 (.e 11 (.y 12 .nil))))))))))))) ye xF xD ?_
    refine yx ?_
    refine yo O (qAC (i:=0) O O O qAg z9_ hs xB) O O<|yo O (qAH O O b9_ (m:=F) xD (hs.elem (qAa (qAc [] xB)))) O O<|yx ?_
    refine yo O (qAB O O) O O<|yo O (qAA O O qMJ O sizeOf235 O) O O<|yo O (qAH (v:= .map (some gm)) O O isAgg235 (m:=F) xD (hc)) O O<|yx ?_
    refine yo O (qAC (i:=0) O O O qAg z9_ hs xB) O O<|yo O (qAH O O b9_ (m:=F) xD (hs.elem (qAa (qAc [] xB)))) O O<|yo O ((qCt O O O qQE u9_ e9_ (m:=F) xD hm).as (v':=Str ((Sm.getP l (ks.getD 0 [])).getD [])) (by rw [qMo,qSa])) O O<|vD O (qAZ O O (λF' hF=>qGn F' (hK.mo hF) (ks.getD 0 []) ((Sm.getP l (ks.getD 0 [])).getD []) (by first|omega|exact jW O) (by first|omega|exact jW O))) O xD λg25 _=>vU ?_
    refine vM<|yq (yu C7 ?_)
    exact yr<|vI<|y5<|yw hw0 O () (by obtain ⟨k,rfl⟩:=List.length_eq_one_iff.1 (show ks.length=1 by omega);exact(yY Str (Sm.nd_one f (k,(Sm.getP l k).getD []))).symm) yd [0] O xC
  obtain ⟨f',rfl⟩: ∃f',f=f'+1:=Nat.exists_eq_succ_of_ne_zero (λe=>by subst e;have:=hw.short;rw [Sm.prs_len] at this;omega)
  refine vP<|vB<|yq (yu C2 ?_)
  refine yl λ_ C8=>yh O<|yi C8<|vl (X:=Nat) (λζ=> [(0,Ptr g),(1,.slice A n c),(2,I (d:Nat)),(7,I (ζ:Nat))]) (λζ=> [F]) (λζ=>ζ<=n/\(∀j<ζ,Sm.bit (ks.getD j []) d=0)/\(ζ<n->Sm.bit (ks.getD ζ []) d≠0)) (λ_ C9=>?_) ?_
  .
    refine yz<|vN (X:=Nat) (λζ=> [(0,Ptr g),(1,.slice A n c),(2,I (d:Nat)),(7,I (ζ:Nat))]) (λζ=> [F]) (λζ=>ζ<=n/\ ∀j<ζ,Sm.bit (ks.getD j []) d=0) (λζ=>n-ζ) 0 (⟨jH _,λj h=>absurd h (jz j)⟩) (Sub.of O) (λ_ h=>h) ?_
    rintro k ⟨hk,hno⟩ I1 hI1
    have hsk:=hsm k
    refine ym λ_ C10=>yl λ_ C11=>yn 2 O<|yj (qAN qAg O O) O<|yj (qAP O O O) O<|yh O<|vO (d:=30) O (λh30=>?_) (λh30=>?_)
    .
      refine yn 2 O<|yv (qAC O O O qAg z9_ hs xB) O<|yv (qAH O O b9_ (m:=F) xD (hs.elem (qAa (qAc [] xB)))) O<|yh O<|vg (qAZ O O (λF' hF=>qGS F' (ks.getD k []) (by first|omega|exact hsm _) d xB)) O λg36 _=>yv (qAR O O O) O<|yh O<|yi C11<|y1 O (λh38=>?_) (λh38=>?_)
      .
        exact yy C10<|yz<|yt<|yh O<|yj ((qAM O O O xB).nat (k+1) xB) O<|yh O<|y8<|vB<|yq<|vE (k+1) hI1 ⟨xB,λj hj=>by rcases Nat.lt_succ_iff_lt_or_eq.1 hj with h|rfl;exact hno j h;omega⟩ (Sub.of O) (λ_ h=>h)
      refine vK<|y6<|y6<|vL ?_
      exact yq<|vY (k) C9 (⟨xB,hno,λh=>xB⟩) (Sub.of O) (λ_ h=>h)
    refine yn 8 O<|yi C11<|vC ?_
    refine vK<|y6<|y6<|vL ?_
    exact yq<|vY (k) C9 (⟨xB,hno,λh=>xB⟩) (Sub.of O) (λ_ h=>h)
  rintro k ⟨hk,hk0,hk1⟩
  refine ym λ_ C12=>?_
  have hup:=Sm.up_bits hw hu (k:=k) (λj hj hjk=>by rw [<-qRF hw hd hj];exact hk0 j hjk) (λhj=>by rw [<-qRF hw hd hj];exact hk1 (by rw [Sm.prs_len] at hj;omega))
  have hW1:Sm.WF f' (Sm.prs l (ks.take k)):=by rw [Sm.prs_take,hup.1];exact hw.side true
  have hW2:Sm.WF f' (Sm.prs l (ks.drop k)):=by rw [Sm.prs_drop,hup.2];exact hw.side false
  have hU1:Sm.Up (Sm.prs l (ks.take k)):=by rw [Sm.prs_take];exact hu.sub (List.take_sublist _ _)
  have hU2:Sm.Up (Sm.prs l (ks.drop k)):=by rw [Sm.prs_drop];exact hu.sub (List.drop_sublist _ _)
  have hz1:=Sm.nd_small f' (Sm.prs l (ks.take k))
  have hz2:=Sm.nd_small f' (Sm.prs l (ks.drop k))
  refine vQ [F] [] (.y 0 (.y 1 (.y 2 (.y 3 (.y 4 (.y 5 (.y 7 (.y 8 (.y 9 (.y 10 (.y 11 (.y 12 (.e 6 (.e 13 (.e 14 (.y 15 .nil)))))))))))))))) ye xF xD ?_
  iterate 3 refine yx ?_
  refine yo O (qEi O O qAg z9_ O xB) O O<|yx ?_
  refine yo O ((qAM O O O xB).nat (d+1) xB) O O<|yx ?_
  refine yx ?_
  refine yx ?_
  refine yo O (qCi O O qAg z9_ O O xB) O O<|yx ?_
  refine yo O ((qAM O O O xB).nat (d+1) xB) O O<|vD O (qAZ O O (λF' hF=>ih f' O F' (hK.mo hF) g l (hT.mono (Fa hF)) hv A k c (ks.take k) ((hs.strsTo xB).mono (Fa hF)) xB hW1 hU1 (d+1) xB)) O xD λg47 _=>vD O (qAZ O O (λF' hF=>ih f' O F' (hK.mo hF) g l (hT.mono (Fa hF)) hv (if c=k then A else A.map (·.add (k*1))) (n-k) (c-k) (ks.drop k) ((hs.strsFrom xB).mono (Fa hF)) xB hW2 hU2 (d+1) xB)) O xD λg54 _=>vD O (qAZ O O (λF' hF=>qCS F' (hK.mo hF) (Sm.nd f' (Sm.prs l (ks.take k))) (Sm.nd f' (Sm.prs l (ks.drop k))) xB xB)) O xD λg55 _=>vU ?_
  refine vM<|yq (yu C12 ?_)
  exact yr<|yw hw0 O () (by rw [Sm.nd_two f' (by rw [Sm.prs_len];omega),<-hup.1,<-hup.2,Sm.prs_take,Sm.prs_drop]) yd [0] O xC
theorem qNP: ∀f,qW4 f
 |0=>λF hK g l hT hv A n c ks hs hn hw hu d hd=>qIc 0 (λf' h=>absurd h (Nat.succ_ne_zero f').symm) F hK g l hT hv A n c ks hs hn hw hu d hd
 |f+1=>λF hK g l hT hv A n c ks hs hn hw hu d hd=>qIc (f+1) (λf' h=>by injection h with h;subst h;exact qNP f) F hK g l hT hv A n c ks hs hn hw hu d hd
theorem qHq{l:List Sm.PR}(hk: ∀p∈l,p.1.length=16)(j:Nat):((Sm.keysS l).getD j []).length<=1000000:=by
  by_cases hj:j<(Sm.keysS l).length
  . rw [jB,jD hj]
    obtain ⟨v,hv⟩:=Sm.keysS_mem.1 (jU hj)
    show((Sm.keysS l)[j]).length<=1000000
    rw [show(Sm.keysS l)[j].length=16 from hk _ hv];decide
  . rw [jB,je xB];decide
theorem qSc(l:List Sm.PR)(b:xA)(d:Int):Sm.prs l ((Sm.keysS l).filter λk=>!nbl b d k)=Sm.bel (Sm.prs l (Sm.keysS l)) b (min d.toNat 128):=by
 rw [Sm.prs_filter]
 unfold Sm.bel nbl
 congr 1
 funext p
 rw [Bool.not_not]
theorem qOd{l:List Sm.PR}(ho:Sm.Once l)(b:xA)(D:Nat):(Sm.bel l b D).Perm (Sm.bel (Sm.prs l (Sm.keysS l)) b D):=(Sm.prs_perm ho).symm.filter _
structure qCD (l:List Sm.PR):Prop where
 once:Sm.Once l
 k16: ∀p∈l,p.1.length=16
 small: ∀p∈l,p.2.length<=1000000
 few:l.length<=1000000
theorem qGl(F:Hp)(hK:yf F)(g:Nat)(l:List Sm.PR)(hT:qCo F g l)(hf:qCD l)(b:xA)(hb:b.length<=1000000)(d:Int)(hw:Sm.WF (128-min d.toNat 128) (Sm.bel l b (min d.toNat 128))):Cz prog 178 [Ptr g,Str (b),I (d)] F (Str (Sm.ndB l b (min d.toNat 128))):=by
 have hln:=hf.few
 have hkl:=Sm.keysS_len l
 have hfl:((Sm.keysS l).filter λk=>!nbl b d k).length<=(Sm.keysS l).length:=yI _ _
 have hW:Sm.WF (128-min d.toNat 128) (Sm.prs l ((Sm.keysS l).filter λk=>!nbl b d k)):=by rw [qSc];exact hw.perm (qOd hf.once _ _)
 have hU:Sm.Up (Sm.prs l ((Sm.keysS l).filter λk=>!nbl b d k)):=by rw [Sm.prs_filter];exact(Sm.prs_up hf.once hf.k16).sub List.filter_sublist
 have hR:Sm.nd (128-min d.toNat 128) (Sm.prs l ((Sm.keysS l).filter λk=>!nbl b d k))=Sm.ndB l b (min d.toNat 128):=by rw [qSc];exact(Sm.nd_perm _ hw (qOd hf.once _ _)).symm
 refine y7 func178 O ntmps178 O (λw0 hw0=>?_)
 refine yl λ_ C1=>yp (qAi O O O) O λg4 _=>yp (qAi O O O) O λg5 _=>yh O<|yi C1<|ym λ_ C2=>yl λ_ C3=>yh O<|yj ((qBL qMK O O O).as (v':= .bool false) O) O<|yi C3<|vC ?_
 refine yy C2<|yl λ_ C4=>yh O<|yp (qBx O O (λF' hF=>qNQ F' g l (hT.mono (Fa hF)) xB)) O ?_
 rintro⟨A11,c11,m11⟩ h11
 try dsimp only at h11
 refine yj (qBt O O) O<|yp (qAJ O O ent (vR 3 O (λF' hF=>qXe F' m11 A11 (Sm.keysS l).length c11 (Sm.keysS l) h11 xB (qHq hf.k16) g4 g5 b d (qAI.blk0.mono (hF (blk g4 [Str (b)] 9) xD)) (qAI.blk0.mono (hF (blk g5 [I (d)] 3) xD)) hb))) O ?_
 rintro m13 h13
 exact yh O<|yi C4<|yl λ_ C5=>yn 2 O<|vF 2 b3_ O O O O O<|yj ((qNt O O O).nat (d.toNat) xB) O<|yj ((qEx O O O).nat (min d.toNat 128) xB) O<|yp (qAZ O O (λF' hF=>qNP (128-min d.toNat 128) F' (hK.mo hF) g l (hT.mono (Fa hF)) hf.small A11 _ c11 _ (h13.sl.mono (Fa hF)) xB hW hU (min d.toNat 128) xB)) O λg19 _=>yh O<|yi C5<|yr<|yw hw0 O () (by rw [hR]) yd [0] O xC
theorem qJR{l:List Sm.PR}{b:xA}(hf:qCD l):Sm.WF (128-min (0:Int).toNat 128) (Sm.bel l b (min (0:Int).toNat 128)):=by
 show Sm.WF 128 (Sm.bel l b 0)
 rw [Sm.bel_zero];exact Sm.WF.top hf.once hf.k16
theorem qNJ{l:List Sm.PR}{b:xA}{d:Int}(hf:qCD l)(hb:b.length=16):Sm.WF (128-min d.toNat 128) (Sm.bel l b (min d.toNat 128)):=Sm.bel_wf hf.once hf.k16 hb (Nat.min_le_right _ _)
theorem el274:qCx prog 274 [Str [],Str []] 32:=qCx.of xH O
def qah(f:Nat):Prop:= ∀(F:Hp) (A:yS) (n c:Nat) (m:List Pr) (hs:Sl F 2 A n c (qGt m)) (hn:n<=1000000) (hw:Sm.WF f (m.map toP)) (hv: ∀p∈m,p.v.length<=1000000) (d:Nat) (hd:d+f=128),Cz prog 80 [.slice A n c,I (d:Nat)] F (Str (Sm.nd f (m.map toP)))
def qBY(f:Nat)(t:Bool)(m:List Pr):List Pr:=m.filter λp=>decide (Sm.kv p.k/2^f%2=0)==t
theorem qCz(f:Nat)(t:Bool)(m:List Pr):(qBY f t m).map toP=Sm.side f t (m.map toP):=by
 unfold qBY Sm.side
 rw [List.filter_map];rfl
theorem qQx{f:Nat}{m:List Pr}(hw:Sm.WF f (m.map toP)){j:Nat}(hj:j<m.length):(m.getD j qGO).k.length=16:=by
 rw [jB,jD hj]
 exact hw.2.1 (toP m[j]) (List.mem_map.2 ⟨_,jU hj,O⟩)
theorem qQw{f:Nat}{m:List Pr}(hw:Sm.WF f (m.map toP))(j:Nat):(m.getD j qGO).k.length<=1000000:=by
 by_cases hj:j<m.length
 . rw [qQx hw hj];decide
 . rw [jB,je xB];exact jH _
theorem qXv{m:List Pr}(hv: ∀p∈m,p.v.length<=1000000)(j:Nat):(m.getD j qGO).v.length<=1000000:=by
 by_cases hj:j<m.length
 . rw [jB,jD hj];exact hv _ (jU hj)
 . rw [jB,je xB];exact jH _
theorem qEf{f d:Nat}{m:List Pr}(hw:Sm.WF (f+1) (m.map toP))(hd:d+(f+1)=128){i:Nat}(hi:i<m.length)(t:Bool):
    qBY f t (m.take (i+1))=qBY f t (m.take i)++if(decide (Sm.bit (m.getD i qGO).k d=0)==t)=true then [m.getD i qGO] else []:=by
  unfold qBY
  rw [jP hi,zG,jp,zo,Sm.bit_kv (qQx hw hi) xB,show 127-d=f by omega,jB,jD hi]
  rfl
theorem qQb{f d:Nat}{m:List Pr}(hw:Sm.WF (f+1) (m.map toP))(hd:d+(f+1)=128){i:Nat}(hi:i<m.length)(h:Sm.bit (m.getD i qGO).k d=0):
    qBY f true (m.take (i+1))=qBY f true (m.take i)++ [m.getD i qGO]/\qBY f false (m.take (i+1))=qBY f false (m.take i):=by
  constructor
  . rw [qEf hw hd hi,ya h];rfl
  . rw [qEf hw hd hi,ya h];exact jS _
theorem qT7{f d:Nat}{m:List Pr}(hw:Sm.WF (f+1) (m.map toP))(hd:d+(f+1)=128){i:Nat}(hi:i<m.length)(h: ¬Sm.bit (m.getD i qGO).k d=0):
    qBY f true (m.take (i+1))=qBY f true (m.take i)/\qBY f false (m.take (i+1))=qBY f false (m.take i)++ [m.getD i qGO]:=by
  constructor
  . rw [qEf hw hd hi,yb h];exact jS _
  . rw [qEf hw hd hi,yb h];rfl
theorem qFJ(f:Nat)(t:Bool)(m:List Pr):(qBY f t m).length<=m.length:=yI _ _
theorem qYh{a b:xA}(ha:a≠ [])(hb:b≠ []):Sb.join a b≠ []:=by
  have e:Sb.join a b=if a= [0]/\(b= [0]\/Sb.isLf b) then b else if b= [0]/\Sb.isLf a then a else 2::Sha.tagged 10 [a,b]:=by unfold Sb.join;rfl
  rw [e]
  split
  . exact hb
  . split
    . exact ha
    . exact za _ _
theorem qRs: ∀{f:Nat} {l:List Sm.PR},Sm.WF f l->Sm.nd f l≠ []
 |f,[],_=>by rw [Sm.nd_nil];exact za _ _
 |f,[p],_=>by rw [Sm.nd_one];unfold Sb.leafN;exact za _ _
 |0,a::b::r,hw=>by have:=hw.short;simp at this
 |f+1,a::b::r,hw=>by rw [Sm.nd_two f xD];exact qYh (qRs (hw.side true)) (qRs (hw.side false))
theorem qVO{x y:xA}{e1 e2:Prop}(h1:x= [0]↔e1)(h2:y= [0]↔e2)(hn: ¬(e1/\e2)):(e1/\Sb.isLf y->Sb.join x y=y)/\(¬(e1/\Sb.isLf y)->e2/\Sb.isLf x->Sb.join x y=x)/\(¬(e1/\Sb.isLf y)-> ¬(e2/\Sb.isLf x)->Sb.join x y=2::Sha.tagged 10 [x,y]):=by
 have e:Sb.join x y=if x= [0]/\(y= [0]\/Sb.isLf y) then y else if y= [0]/\Sb.isLf x then x else 2::Sha.tagged 10 [x,y]:=by unfold Sb.join;rfl
 obtain rfl:e1=(x= [0]):=propext h1.symm
 obtain rfl:e2=(y= [0]):=propext h2.symm
 rw [e]
 refine⟨λh=>by rw [yX ⟨h.1,.inr h.2⟩],λh h3=>?_,λh h3=>?_⟩
 . rw [yW (λq=>q.2.elim (λq2=>hn ⟨q.1,q2⟩) (λq2=>h ⟨q.1,q2⟩)),yX h3]
 . rw [yW (λq=>q.2.elim (λq2=>hn ⟨q.1,q2⟩) (λq2=>h ⟨q.1,q2⟩)),yW h3]
theorem qRr{f:Nat}{l:List Sm.PR}(hw:Sm.WF f l):(Sm.nd f l).getD 0 0=1↔Sb.isLf (Sm.nd f l):=by
 have h0:=qRs hw
 unfold Sb.isLf
 cases h:Sm.nd f l with
 |nil=>exact absurd h h0
 |cons a r=>simp
theorem qKm(f:Nat)(m:List Pr):(qBY f true m).length+(qBY f false m).length=m.length:=by
 have h:=Sm.side_len f (m.map toP)
 rw [<-qCz,<-qCz,jJ,jJ,jJ] at h
 exact h
theorem qUN{f:Nat}{m:List Pr}(hw:Sm.WF (f+1) (m.map toP))(h2:2<=m.length){x y:xA}(hx:x=Sm.nd f ((qBY f true m).map toP))(hy:y=Sm.nd f ((qBY f false m).map toP)):
    (0<x.length/\x.length<=17)/\(0<y.length/\y.length<=17)/\((qBY f true m).length=0/\(y.getD 0 0).toNat=1->Sm.nd (f+1) (m.map toP)=y)/\
    (¬((qBY f true m).length=0/\(y.getD 0 0).toNat=1)->(qBY f false m).length=0/\(x.getD 0 0).toNat=1->Sm.nd (f+1) (m.map toP)=x)/\
    (¬((qBY f true m).length=0/\(y.getD 0 0).toNat=1)-> ¬((qBY f false m).length=0/\(x.getD 0 0).toNat=1)->Sm.nd (f+1) (m.map toP)= [2]++Sha.tagged 10 [x,y]):=by
  subst hx hy
  have w1:=hw.side true
  have w2:=hw.side false
  rw [<-qCz] at w1 w2
  have l1:Sb.isLf (Sm.nd f ((qBY f true m).map toP))↔((Sm.nd f ((qBY f true m).map toP)).getD 0 0).toNat=1:=(qRr w1).symm.trans ⟨λh=>by rw [h];rfl,λh=>UInt8.toNat_inj.1 h⟩
  have l2:Sb.isLf (Sm.nd f ((qBY f false m).map toP))↔((Sm.nd f ((qBY f false m).map toP)).getD 0 0).toNat=1:=(qRr w2).symm.trans ⟨λh=>by rw [h];rfl,λh=>UInt8.toNat_inj.1 h⟩
  have e1:Sm.nd f ((qBY f true m).map toP)= [0]↔(qBY f true m).length=0:=(Sm.nd_eq0 w1).trans (by rw [List.map_eq_nil_iff,List.length_eq_zero_iff])
  have e2:Sm.nd f ((qBY f false m).map toP)= [0]↔(qBY f false m).length=0:=(Sm.nd_eq0 w2).trans (by rw [List.map_eq_nil_iff,List.length_eq_zero_iff])
  have hs:=qKm f m
  obtain ⟨j1,j2,j3⟩:=qVO e1 e2 xB
  rw [l1,l2] at j2 j3
  rw [l2] at j1
  have hj:Sm.nd (f+1) (m.map toP)=Sb.join (Sm.nd f ((qBY f true m).map toP)) (Sm.nd f ((qBY f false m).map toP)):=by rw [Sm.nd_two f (by rw [jJ];exact h2),qCz,qCz]
  rw [hj]
  exact⟨⟨List.length_pos_iff.2 (qRs w1),Sm.nd_small _ _⟩,⟨List.length_pos_iff.2 (qRs w2),Sm.nd_small _ _⟩,j1,j2,j3⟩
theorem qIi(f:Nat)(ih: ∀f',f=f'+1->qah f')(F:Hp)(A:yS)(n c:Nat)(m:List Pr)(hs:Sl F 2 A n c (qGt m))(hn:n<=1000000)(hw:Sm.WF f (m.map toP))(hv: ∀p∈m,p.v.length<=1000000)(d:Nat)(hd:d+f=128):
    Cz prog 80 [.slice A n c,I (d:Nat)] F (Str (Sm.nd f (m.map toP))):=by
  have hkn:m.length=n:=by have:=hs.1;simpa [qGt] using this
  have hsm:=qQw hw
  refine y7 func80 O ntmps80 O (λw0 hw0=>?_)
  refine yl λ_ C1=>yh O<|yi C1<|ym λ_ C2=>yl λ_ C3=>yh O<|yj (qAN qCK O O) O<|yj (qAR O O O) O<|yi C3<|y1 O (λh12=>?_) (λh12=>?_)
  .
    exact yl λ_ C4=>yh O<|yi C4<|yr<|y5<|yw hw0 O () (by rw [jT (show m.length=0 by omega)];show _=Str (Sm.nd f []);rw [Sm.nd_nil]) yd [0] O xC
  refine yy C2<|ym λ_ C5=>yl λ_ C6=>yh O<|yj (qAN qCK O O) O<|yj (qAR O O O) O<|yi C6<|y1 O (λh15=>?_) (λh15=>?_)
  .
    refine ym λ_ C7=>?_
    have hk0:=hsm 0
    have hv0:=qXv hv 0
    exact yt<|yh O<|yj (qAC O O O qCK sizeOf274 hs (by first|omega|(simp only [jA,jC,jG,jF,jE,Sha.tagged_length] at*;omega))) O<|yj (qAb O O isAgg274 sizeOf274 (m:=F) xD (hs.elem (qGs (by first|omega|(simp only [jA,jC,jG,jF,jE,Sha.tagged_length] at*;omega)))) O) O<|yp (qAZ O O (λF' hF=>qVA F' ((m.getD 0 qGO).k) ((m.getD 0 qGO).v) xB xB)) O λg19 _=>yh O<|yi C7<|yr<|y5<|yw hw0 O () (by obtain ⟨p,rfl⟩:=List.length_eq_one_iff.1 (show m.length=1 by omega);exact(yY Str (Sm.nd_one f (toP p))).symm) yd [0] O xC
  obtain ⟨f',rfl⟩: ∃f',f=f'+1:=Nat.exists_eq_succ_of_ne_zero (λe=>by subst e;have:=hw.short;rw [jJ] at this;omega)
  refine yy C5<|yl λ_ C8=>yn 2 O<|yi C8<|ym λ_ C9=>yl λ_ C10=>yh O<|yi C10<|yz<|vN (X:=Nat×yS×Nat×Hp×yS×Nat×Hp) (λζ=> [(0,.slice A n c),(1,I (d:Nat)),(5,.slice ζ.2.1 ((qBY f' true (m.take ζ.1)).length) ζ.2.2.1),(6,.slice ζ.2.2.2.2.1 ((qBY f' false (m.take ζ.1)).length) ζ.2.2.2.2.2.1),(7,I (ζ.1:Nat))]) (λζ=> [F,ζ.2.2.2.1,ζ.2.2.2.2.2.2]) (λζ=>ζ.1<=n/\Row ζ.2.2.2.1 274 2 ζ.2.1 (qBY f' true (m.take ζ.1)).length ζ.2.2.1 (qGt (qBY f' true (m.take ζ.1)))/\Row ζ.2.2.2.2.2.2 274 2 ζ.2.2.2.2.1 (qBY f' false (m.take ζ.1)).length ζ.2.2.2.2.2.1 (qGt (qBY f' false (m.take ζ.1)))) (λζ=>n-ζ.1) (0,none,0,(λ_=>none),none,0,(λ_=>none)) (⟨jH _,qBf.nil,qBf.nil⟩) (Sub.of O) (λ_ h=>h.empty.empty.pick [0,1,2] xC) ?_
  rintro⟨i,Aa,ca,ma,Ab,cb,mb⟩ ⟨hi,hra,hrb⟩ I0 hI0
  dsimp only at hi hra hrb⊢
  have hsi:=hsm i
  have hla:=qFJ f' true (m.take i)
  have hlb:=qFJ f' false (m.take i)
  rw [jF] at hla hlb
  refine ym λ_ C11=>yl λ_ C12=>yn 2 O<|yj (qAN qCK O O) O<|yj (qAP O O O) O<|yi C12<|y1 O (λh23=>?_) (λh23=>?_)
  .
    refine yy C11<|ym λ_ C13=>yz<|yl λ_ C14=>yn 2 O<|yj (qAC O O O qCK sizeOf274 hs (by first|omega|(simp only [jA,jC,jG,jF,jE,Sha.tagged_length] at*;omega))) O<|yj (qBM O O qQD O z9_ hs (by first|omega|(simp only [jA,jC,jG,jF,jE,Sha.tagged_length] at*;omega)) O) O<|yj (qAH O O b9_ (m:=F) xD (hs.part (qGs (by first|omega|(simp only [jA,jC,jG,jF,jE,Sha.tagged_length] at*;omega))) 0 1)) O<|yh O<|yp (qAZ O O (λF' hF=>qZH F' ((m.getD i qGO).k) xB d xB)) O λg32 _=>yj (qAR O O O) O<|yi C14<|y1 O (λh33=>?_) (λh33=>?_)
    .
      obtain ⟨hy1,hy2⟩:=qQb hw hd (i:=i) xB xB
      refine yt<|yn 3 O<|yj (qAC O O O qCK sizeOf274 hs (by first|omega|(simp only [jA,jC,jG,jF,jE,Sha.tagged_length] at*;omega))) O<|yj (qAb O O isAgg274 sizeOf274 (m:=F) xD (hs.elem (qGs (by first|omega|(simp only [jA,jC,jG,jF,jE,Sha.tagged_length] at*;omega)))) O) O<|yp (qAE (l:= [.tmp 38]) (xs:= [[Str ((m.getD i qGO).k),Str ((m.getD i qGO).v)]]) O O O O qCK el274 O xC xC xD) O λg39 _=>yp (qAV (i:=1) (m2:=blk g39 [Str ((m.getD i qGO).k),Str ((m.getD i qGO).v)] 274) O O O qCK qCK el274 O hra xD ((qAj (q:=True) (xs:=qGt [(m.getD i qGO)]) O (by intro x hx;rw [List.mem_singleton.1 hx];rfl)).sl) O (by first|omega|(simp only [jA,jC,jG,jF,jE,Sha.tagged_length] at*;omega)) (by first|omega|(simp only [jA,jC,jG,jF,jE,Sha.tagged_length] at*;omega))) O ?_
      rintro⟨A40,c40,m40⟩ h40
      try dsimp only at h40
      replace h40:Row m40 274 2 A40 (((qBY f' true (m.take i)).length)+1) c40 (qGt ((qBY f' true (m.take i))++([(m.getD i qGO)]))):=by rw [qFO];exact h40
      refine yh O<|y8<|vB<|yq (yu C13 ?_)
      exact yt<|yh O<|yj ((qAM O O O (by first|omega|(simp only [jA,jC,jG,jF,jE,Sha.tagged_length] at*;omega))).nat (i+1) xB) O<|yh O<|y8<|yq<|vE (i+1,A40,c40,m40,Ab,cb,mb) hI0 ⟨by dsimp only;omega,by dsimp only;rw [hy1,jA];exact h40,by dsimp only;rw [hy2];exact hrb⟩ ⟨O,O,by dsimp only;first|rfl|(rw [hy1,jA];rfl)|(rw [hy1];rfl),by dsimp only;first|rfl|(rw [hy2,jA];rfl)|(rw [hy2];rfl),O,yd⟩ (λ_ h=>h.pick [0,1,2] xC)
    obtain ⟨hy1,hy2⟩:=qT7 hw hd (i:=i) xB xB
    refine yt<|yn 3 O<|yj (qAC O O O qCK sizeOf274 hs (by first|omega|(simp only [jA,jC,jG,jF,jE,Sha.tagged_length] at*;omega))) O<|yj (qAb O O isAgg274 sizeOf274 (m:=F) xD (hs.elem (qGs (by first|omega|(simp only [jA,jC,jG,jF,jE,Sha.tagged_length] at*;omega)))) O) O<|yp (qAE (l:= [.tmp 45]) (xs:= [[Str ((m.getD i qGO).k),Str ((m.getD i qGO).v)]]) O O O O qCK el274 O xC xC xD) O λg46 _=>yp (qAV (i:=2) (m2:=blk g46 [Str ((m.getD i qGO).k),Str ((m.getD i qGO).v)] 274) O O O qCK qCK el274 O hrb xD ((qAj (q:=True) (xs:=qGt [(m.getD i qGO)]) O (by intro x hx;rw [List.mem_singleton.1 hx];rfl)).sl) O (by first|omega|(simp only [jA,jC,jG,jF,jE,Sha.tagged_length] at*;omega)) (by first|omega|(simp only [jA,jC,jG,jF,jE,Sha.tagged_length] at*;omega))) O ?_
    rintro⟨A47,c47,m47⟩ h47
    try dsimp only at h47
    replace h47:Row m47 274 2 A47 (((qBY f' false (m.take i)).length)+1) c47 (qGt ((qBY f' false (m.take i))++([(m.getD i qGO)]))):=by rw [qFO];exact h47
    refine yh O<|y8<|vB<|yq (yu C13 ?_)
    exact yt<|yh O<|yj ((qAM O O O (by first|omega|(simp only [jA,jC,jG,jF,jE,Sha.tagged_length] at*;omega))).nat (i+1) xB) O<|yh O<|y8<|yq<|vE (i+1,Aa,ca,ma,A47,c47,m47) hI0 ⟨by dsimp only;omega,by dsimp only;rw [hy1];exact hra,by dsimp only;rw [hy2,jA];exact h47⟩ ⟨O,O,by dsimp only;first|rfl|(rw [hy1,jA];rfl)|(rw [hy1];rfl),by dsimp only;first|rfl|(rw [hy2,jA];rfl)|(rw [hy2];rfl),O,yd⟩ (λ_ h=>h.pick [0,1,2] xC)
  refine vK<|y6<|y6<|vL ?_
  refine yq (yu C9 ?_)
  refine ym λ_ C15=>?_
  obtain rfl:i=m.length:=by omega
  rw [jn] at hra hrb⊢
  refine yt<|yn 2 O<|yj ((qAM O O O (by first|omega|(simp only [jA,jC,jG,jF,jE,Sha.tagged_length] at*;omega))).nat (d+1) xB) O<|yp (qAZ O O (λF' hF=>ih f' O F' Aa _ ca (qBY f' true m) (hra.sl.mono (Fa hF)) (by have:=qFJ f' true m;omega) (by rw [qCz];exact hw.side true) (λp hp=>hv p (List.mem_filter.1 hp).1) (d+1) xB)) O λg51 _=>yn 2 O<|yj ((qAM O O O (by first|omega|(simp only [jA,jC,jG,jF,jE,Sha.tagged_length] at*;omega))).nat (d+1) xB) O<|yp (qAZ O O (λF' hF=>ih f' O F' Ab _ cb (qBY f' false m) (hrb.sl.mono (Fa hF)) (by have:=qFJ f' false m;omega) (by rw [qCz];exact hw.side false) (λp hp=>hv p (List.mem_filter.1 hp).1) (d+1) xB)) O λg55 _=>yn 2 O<|yi C15<|ym λ_ C16=>ym λ_ C17=>?_
  obtain ⟨x,hx⟩: ∃x,x=(Sm.nd f' ((qBY f' true m).map toP)):=⟨_,rfl⟩
  obtain ⟨y,hy⟩: ∃y,y=(Sm.nd f' ((qBY f' false m).map toP)):=⟨_,rfl⟩
  obtain ⟨⟨hx1,hx2⟩,⟨hy1,hy2⟩,hj1,hj2,hj3⟩:=qUN hw xB hx hy
  have hsum:=qKm f' m
  rw [<-hx,<-hy]
  refine yt<|yh O<|yj (qAN qCK O O) O<|yj (qAR O O O) O<|yh O<|vO (d:=59) O (λh59=>?_) (λh59=>?_)
  .
    refine yh O<|yv (qA9 (c:=y.getD 0 0) u9_ O O O (qAc 0 (by first|omega|(simp only [jA,jC,jG,jF,jE,Sha.tagged_length] at*;omega)))) O<|yv (qAR O O O) O<|yn 2 O<|vO (d:=64) O (λh64=>?_) (λh64=>?_)
    .
      refine yn 4 O<|vX (Wan.un O O O O) O O ?_
      refine vX (Wan.un O O O O) O O ?_
      refine vX (Wan.un O O O O) O O ?_
      refine yn 2 O<|yi C17<|vV ?_
      exact yl λ_ C18=>yn 2 O<|yi C18<|yr<|y5<|yw hw0 O () (by first|(exfalso;omega)|rw [hj1 xB]|rw [hj2 xB xB]|rw [hj3 xB xB]) yd [0] O xC
    refine yh O<|yv (qAN qCK O O) O<|yv (qAR O O O) O<|yh O<|vO (d:=68) O (λh68=>?_) (λh68=>?_)
    .
      refine yh O<|yv (qAN qCK O O) O<|yv (qAR O O O) O<|yn 2 O<|yi C17<|y1 O (λh73=>?_) (λh73=>?_)
      .
        exact yl λ_ C19=>yn 2 O<|yi C19<|yr<|y5<|yw hw0 O () (by first|(exfalso;omega)|rw [hj1 xB]|rw [hj2 xB xB]|rw [hj3 xB xB]) yd [0] O xC
      refine yy C16<|ym λ_ C20=>yl λ_ C21=>yh O<|yj (qAN qCK O O) O<|yj (qAR O O O) O<|yh O<|vO (d:=78) O (λh78=>?_) (λh78=>?_)
      .
        refine yh O<|yv (qA9 u9_ O O O (qAc 0 (by first|omega|(simp only [jA,jC,jG,jF,jE,Sha.tagged_length] at*;omega)))) O<|yv (qAR O O O) O<|yh O<|yi C21<|y1 O (λh82=>?_) (λh82=>?_)
        .
          exact yl λ_ C22=>yn 2 O<|yi C22<|yr<|y5<|yw hw0 O () (by first|(exfalso;omega)|rw [hj1 xB]|rw [hj2 xB xB]|rw [hj3 xB xB]) yd [0] O xC
        exact yy C20<|yl λ_ C23=>yn 2 O<|yp (qAE (l:= [.tmp 84,.tmp 85]) (xs:= [[Str (x)],[Str (y)]]) O O O O qAg el9 O xC xC xD) O λg86 _=>yp (qAZ O O (λF' hF=>qBZ F' 10 (some ⟨g86,0,none⟩) 2 2 ([x,y]) (((qAz (q:=True) (qAG [x,y]) O (by simp [qAG]) O).sl).mono (hF (blk g86 [Str (x),Str (y)] 9) xD)) xJ xB)) O λg87 _=>yj (qAq O O O (by first|omega|(simp only [jA,jC,jG,jF,jE,Sha.tagged_length] at*;omega))) O<|yh O<|yi C23<|yr<|yw hw0 O () (by first|(exfalso;omega)|rw [hj1 xB]|rw [hj2 xB xB]|rw [hj3 xB xB]) yd [0] O xC
      refine yn 4 O<|yi C21<|vC ?_
      exact yy C20<|yl λ_ C24=>yn 2 O<|yp (qAE (l:= [.tmp 84,.tmp 85]) (xs:= [[Str (x)],[Str (y)]]) O O O O qAg el9 O xC xC xD) O λg86 _=>yp (qAZ O O (λF' hF=>qBZ F' 10 (some ⟨g86,0,none⟩) 2 2 ([x,y]) (((qAz (q:=True) (qAG [x,y]) O (by simp [qAG]) O).sl).mono (hF (blk g86 [Str (x),Str (y)] 9) xD)) xJ xB)) O λg87 _=>yj (qAq O O O (by first|omega|(simp only [jA,jC,jG,jF,jE,Sha.tagged_length] at*;omega))) O<|yh O<|yi C24<|yr<|yw hw0 O () (by first|(exfalso;omega)|rw [hj1 xB]|rw [hj2 xB xB]|rw [hj3 xB xB]) yd [0] O xC
    refine yn 5 O<|yi C17<|vC ?_
    refine yy C16<|ym λ_ C25=>yl λ_ C26=>yh O<|yj (qAN qCK O O) O<|yj (qAR O O O) O<|yh O<|vO (d:=78) O (λh78=>?_) (λh78=>?_)
    .
      refine yh O<|yv (qA9 u9_ O O O (qAc 0 (by first|omega|(simp only [jA,jC,jG,jF,jE,Sha.tagged_length] at*;omega)))) O<|yv (qAR O O O) O<|yh O<|yi C26<|y1 O (λh82=>?_) (λh82=>?_)
      .
        exact yl λ_ C27=>yn 2 O<|yi C27<|yr<|y5<|yw hw0 O () (by first|(exfalso;omega)|rw [hj1 xB]|rw [hj2 xB xB]|rw [hj3 xB xB]) yd [0] O xC
      exact yy C25<|yl λ_ C28=>yn 2 O<|yp (qAE (l:= [.tmp 84,.tmp 85]) (xs:= [[Str (x)],[Str (y)]]) O O O O qAg el9 O xC xC xD) O λg86 _=>yp (qAZ O O (λF' hF=>qBZ F' 10 (some ⟨g86,0,none⟩) 2 2 ([x,y]) (((qAz (q:=True) (qAG [x,y]) O (by simp [qAG]) O).sl).mono (hF (blk g86 [Str (x),Str (y)] 9) xD)) xJ xB)) O λg87 _=>yj (qAq O O O (by first|omega|(simp only [jA,jC,jG,jF,jE,Sha.tagged_length] at*;omega))) O<|yh O<|yi C28<|yr<|yw hw0 O () (by first|(exfalso;omega)|rw [hj1 xB]|rw [hj2 xB xB]|rw [hj3 xB xB]) yd [0] O xC
    refine yn 4 O<|yi C26<|vC ?_
    exact yy C25<|yl λ_ C29=>yn 2 O<|yp (qAE (l:= [.tmp 84,.tmp 85]) (xs:= [[Str (x)],[Str (y)]]) O O O O qAg el9 O xC xC xD) O λg86 _=>yp (qAZ O O (λF' hF=>qBZ F' 10 (some ⟨g86,0,none⟩) 2 2 ([x,y]) (((qAz (q:=True) (qAG [x,y]) O (by simp [qAG]) O).sl).mono (hF (blk g86 [Str (x),Str (y)] 9) xD)) xJ xB)) O λg87 _=>yj (qAq O O O (by first|omega|(simp only [jA,jC,jG,jF,jE,Sha.tagged_length] at*;omega))) O<|yh O<|yi C29<|yr<|yw hw0 O () (by first|(exfalso;omega)|rw [hj1 xB]|rw [hj2 xB xB]|rw [hj3 xB xB]) yd [0] O xC
  refine yn 6 O<|yv (qAN qCK O O) O<|yv (qAR O O O) O<|yh O<|vO (d:=68) O (λh68=>?_) (λh68=>?_)
  .
    refine yh O<|yv (qAN qCK O O) O<|yv (qAR O O O) O<|yn 2 O<|yi C17<|y1 O (λh73=>?_) (λh73=>?_)
    .
      exact yl λ_ C30=>yn 2 O<|yi C30<|yr<|y5<|yw hw0 O () (by first|(exfalso;omega)|rw [hj1 xB]|rw [hj2 xB xB]|rw [hj3 xB xB]) yd [0] O xC
    refine yy C16<|ym λ_ C31=>yl λ_ C32=>yh O<|yj (qAN qCK O O) O<|yj (qAR O O O) O<|yh O<|vO (d:=78) O (λh78=>?_) (λh78=>?_)
    .
      refine yh O<|yv (qA9 u9_ O O O (qAc 0 (by first|omega|(simp only [jA,jC,jG,jF,jE,Sha.tagged_length] at*;omega)))) O<|yv (qAR O O O) O<|yh O<|yi C32<|y1 O (λh82=>?_) (λh82=>?_)
      .
        exact yl λ_ C33=>yn 2 O<|yi C33<|yr<|y5<|yw hw0 O () (by first|(exfalso;omega)|rw [hj1 xB]|rw [hj2 xB xB]|rw [hj3 xB xB]) yd [0] O xC
      exact yy C31<|yl λ_ C34=>yn 2 O<|yp (qAE (l:= [.tmp 84,.tmp 85]) (xs:= [[Str (x)],[Str (y)]]) O O O O qAg el9 O xC xC xD) O λg86 _=>yp (qAZ O O (λF' hF=>qBZ F' 10 (some ⟨g86,0,none⟩) 2 2 ([x,y]) (((qAz (q:=True) (qAG [x,y]) O (by simp [qAG]) O).sl).mono (hF (blk g86 [Str (x),Str (y)] 9) xD)) xJ xB)) O λg87 _=>yj (qAq O O O (by first|omega|(simp only [jA,jC,jG,jF,jE,Sha.tagged_length] at*;omega))) O<|yh O<|yi C34<|yr<|yw hw0 O () (by first|(exfalso;omega)|rw [hj1 xB]|rw [hj2 xB xB]|rw [hj3 xB xB]) yd [0] O xC
    refine yn 4 O<|yi C32<|vC ?_
    exact yy C31<|yl λ_ C35=>yn 2 O<|yp (qAE (l:= [.tmp 84,.tmp 85]) (xs:= [[Str (x)],[Str (y)]]) O O O O qAg el9 O xC xC xD) O λg86 _=>yp (qAZ O O (λF' hF=>qBZ F' 10 (some ⟨g86,0,none⟩) 2 2 ([x,y]) (((qAz (q:=True) (qAG [x,y]) O (by simp [qAG]) O).sl).mono (hF (blk g86 [Str (x),Str (y)] 9) xD)) xJ xB)) O λg87 _=>yj (qAq O O O (by first|omega|(simp only [jA,jC,jG,jF,jE,Sha.tagged_length] at*;omega))) O<|yh O<|yi C35<|yr<|yw hw0 O () (by first|(exfalso;omega)|rw [hj1 xB]|rw [hj2 xB xB]|rw [hj3 xB xB]) yd [0] O xC
  refine yn 5 O<|yi C17<|vC ?_
  refine yy C16<|ym λ_ C36=>yl λ_ C37=>yh O<|yj (qAN qCK O O) O<|yj (qAR O O O) O<|yh O<|vO (d:=78) O (λh78=>?_) (λh78=>?_)
  .
    refine yh O<|yv (qA9 (c:=x.getD 0 0) u9_ O O O (qAc 0 (by first|omega|(simp only [jA,jC,jG,jF,jE,Sha.tagged_length] at*;omega)))) O<|yv (qAR O O O) O<|yh O<|yi C37<|y1 O (λh82=>?_) (λh82=>?_)
    .
      exact yl λ_ C38=>yn 2 O<|yi C38<|yr<|y5<|yw hw0 O () (by first|(exfalso;omega)|rw [hj1 xB]|rw [hj2 xB xB]|rw [hj3 xB xB]) yd [0] O xC
    exact yy C36<|yl λ_ C39=>yn 2 O<|yp (qAE (l:= [.tmp 84,.tmp 85]) (xs:= [[Str (x)],[Str (y)]]) O O O O qAg el9 O xC xC xD) O λg86 _=>yp (qAZ O O (λF' hF=>qBZ F' 10 (some ⟨g86,0,none⟩) 2 2 ([x,y]) (((qAz (q:=True) (qAG [x,y]) O (by simp [qAG]) O).sl).mono (hF (blk g86 [Str (x),Str (y)] 9) xD)) xJ xB)) O λg87 _=>yj (qAq O O O (by first|omega|(simp only [jA,jC,jG,jF,jE,Sha.tagged_length] at*;omega))) O<|yh O<|yi C39<|yr<|yw hw0 O () (by first|(exfalso;omega)|rw [hj1 xB]|rw [hj2 xB xB]|rw [hj3 xB xB]) yd [0] O xC
  refine yn 4 O<|yi C37<|vC ?_
  exact yy C36<|yl λ_ C40=>yn 2 O<|yp (qAE (l:= [.tmp 84,.tmp 85]) (xs:= [[Str (x)],[Str (y)]]) O O O O qAg el9 O xC xC xD) O λg86 _=>yp (qAZ O O (λF' hF=>qBZ F' 10 (some ⟨g86,0,none⟩) 2 2 ([x,y]) (((qAz (q:=True) (qAG [x,y]) O (by simp [qAG]) O).sl).mono (hF (blk g86 [Str (x),Str (y)] 9) xD)) xJ xB)) O λg87 _=>yj (qAq O O O (by first|omega|(simp only [jA,jC,jG,jF,jE,Sha.tagged_length] at*;omega))) O<|yh O<|yi C40<|yr<|yw hw0 O () (by first|(exfalso;omega)|rw [hj1 xB]|rw [hj2 xB xB]|rw [hj3 xB xB]) yd [0] O xC
theorem qNb: ∀f,qah f
 |0=>λF A n c m hs hn hw hv d hd=>qIi 0 (λf' h=>absurd h (Nat.succ_ne_zero f').symm) F A n c m hs hn hw hv d hd
 |f+1=>λF A n c m hs hn hw hv d hd=>qIi (f+1) (λf' h=>by injection h with h;subst h;exact qNb f) F A n c m hs hn hw hv d hd
theorem qUH(F:Hp)(A:yS)(n c:Nat)(m:List Pr)(hs:Sl F 2 A n c (qGt m))(hn:n<=1000000)(d:Nat)(hd:d<=128)(hw:Sm.WF (128-d) (m.map toP))(hv: ∀p∈m,p.v.length<=1000000):
    Cz prog 80 [.slice A n c,I (d:Nat)] F (Str (Sm.nd (128-d) (m.map toP))):=qNb (128-d) F A n c m hs hn hw hv d xB
structure qID (m:List Pr) (kv:List Sm.PR):Prop where
 fine:qCD kv
 perm:(m.map toP).Perm kv
theorem qID.nil:qID [] []:=⟨⟨List.Pairwise.nil,by simp,by simp,jH _⟩,List.Perm.refl _⟩
theorem qID.once{m:List Pr}{kv:List Sm.PR}(h:qID m kv):Sm.Once (m.map toP):=h.fine.once.perm h.perm.symm
theorem qID.k16{m:List Pr}{kv:List Sm.PR}(h:qID m kv): ∀p∈m.map toP,p.1.length=16:=λp q=>h.fine.k16 p (h.perm.mem_iff.1 q)
theorem qID.wf{m:List Pr}{kv:List Sm.PR}(h:qID m kv):Sm.WF 128 (m.map toP):=Sm.WF.top h.once h.k16
theorem qID.root{m:List Pr}{kv:List Sm.PR}(h:qID m kv):Sm.nd 128 kv=Sm.nd 128 (m.map toP):=(Sm.nd_perm 128 h.wf h.perm).symm
structure Pu where
 a:UInt8
 b:UInt8
 v:xA
 deriving DecidableEq
def Pu.cells(x:Pu):yU:= [B8 (x.a),B8 (x.b),Str (x.v)]
end Go.Proofs.YtmemgokiolfdoaaGreatDoor