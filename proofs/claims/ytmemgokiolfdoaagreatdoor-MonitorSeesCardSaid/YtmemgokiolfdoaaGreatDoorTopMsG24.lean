/- A part of the proof. -/
import Derived.Test.YtmemgokiolfdoaaGreatDoorTopMsG23
import Derived.Shelf.Strings.MapGrows
set_option maxRecDepth 100000
set_option maxHeartbeats 1000000
set_option linter.unusedSimpArgs false
set_option linter.unusedVariables false
namespace Go.Proofs.YtmemgokiolfdoaaGreatDoor
open Go Go.Fw Go.Proofs.Tryz
open Go.Shelf Go.RowKit
def Tryz.lays230_ren:Go.Shelf.Ren:=⟨λ|230=>161|197=>230|118=>231|165=>110|166=>111|168=>232|270=>233|167=>208|169=>113|260=>274|240=>194|241=>195|242=>275|276=>251|277=>252|278=>294|n=>n,λ|107=>282|9=>9|72=>146|0=>0|4=>4|3=>3|21=>21|105=>332|76=>229|5=>5|75=>228|70=>144|20=>20|37=>73|127=>307|119=>391|46=>222|139=>394|138=>393|164=>360|51=>302|80=>112|n=>n,λ|3=>1|4=>2|n=>n⟩
theorem Tryz.lays230:Go.Proofs.Lays.n230 prog Tryz.lays230_ren:={
 mixed:=by kernel_rfl
 f118:=func231.trans (congrArg some xI)
 f165:=func110.trans (congrArg some xI)
 f166:=func111.trans (congrArg some xI)
 f167:=func208.trans (congrArg some xI)
 f168:=func232.trans (congrArg some xI)
 f169:=func113.trans (congrArg some xI)
 f197:=func230.trans (congrArg some xI)
 f230:=func161.trans (congrArg some xI)
 f240:=func194.trans (congrArg some xI)
 f241:=func195.trans (congrArg some xI)
 f242:=func275.trans (congrArg some xI)
 f260:=func274.trans (congrArg some xI)
 f270:=func233.trans (congrArg some xI)
 f276:=func251.trans (congrArg some xI)
 f277:=func252.trans (congrArg some xI)
 f278:=func294.trans (congrArg some xI)
 t0:=u0_
 a0:=isAgg0
 z0:=sizeOf0
 v0:=e0_
 t3:=u3_
 a3:=b3_
 z3:=z3_
 v3:=e3_
 t4:=u4_
 a4:=b4_
 z4:=z4_
 v4:=e4_
 t5:=u5_
 a5:=b5_
 z5:=z5_
 v5:=e5_
 t9:=u9_
 a9:=b9_
 z9:=z9_
 v9:=e9_
 t20:=underlying20
 a20:=isAgg20
 z20:=sizeOf20
 v20:=zeroValue20
 t21:=underlying21
 a21:=isAgg21
 z21:=sizeOf21
 v21:=zeroValue21
 t37:=qBu
 a37:=qPX
 z37:=qJu
 v37:=zeroValue73
 t46:=qIt
 a46:=isAgg222
 z46:=sizeOf222
 v46:=zeroValue222
 t51:=qJ6
 a51:=qDO
 z51:=qCI
 v51:=zeroValue302
 t70:=qOS
 a70:=isAgg144
 z70:=sizeOf144
 v70:=zeroValue144
 t72:=qDl
 a72:=isAgg146
 z72:=sizeOf146
 v72:=zeroValue146
 t75:=underlying228
 a75:=isAgg228
 z75:=sizeOf228
 v75:=zeroValue228
 t76:=underlying229
 a76:=isAgg229
 z76:=sizeOf229
 v76:=zeroValue229
 t105:=underlying332
 a105:=isAgg332
 z105:=sizeOf332
 v105:=zeroValue332
 t107:=underlying282
 a107:=isAgg282
 z107:=sizeOf282
 v107:=zeroValue282
 t119:=underlying391
 a119:=isAgg391
 z119:=sizeOf391
 t127:=underlying307
 a127:=isAgg307
 z127:=sizeOf307
 v127:=zeroValue307
 t138:=underlying393
 a138:=isAgg393
 z138:=sizeOf393
 v138:=zeroValue393
 t139:=underlying394
 a139:=isAgg394
 z139:=sizeOf394
 v139:=zeroValue394
 t164:=underlying360
 a164:=isAgg360
 z164:=sizeOf360
 v164:=zeroValue360
 g3:=by kernel_rfl
 g4:=by kernel_rfl}
theorem Tryz.extra230:Builder.Extra prog Tryz.lays230_ren:={
 sizeBuilder:=by kernel_rfl
 liesBuilder:=by kernel_rfl
 t5:=Tryz.lays230.t5
 a5:=Tryz.lays230.a5
 z5:=Tryz.lays230.z5
 v5:=Tryz.lays230.v5
 infoByte:=by kernel_rfl
 cellsByte:=by kernel_rfl
 sizeByte:=by kernel_rfl
 neB5:=by decide}
theorem qX6{r:Nat}(h:Rn r):Lib.encodeRune (r:Int)=enc r:=by
  obtain ⟨h1,h2⟩:=h
  have cv: ∀n:Nat,((n:Int).toNat.toUInt8)=UInt8.ofNat n:=λn=>by rw [jY]
  unfold Lib.encodeRune Lib.encodeRuneZ enc
  by_cases a:r<128
  · rw [if_pos xB,if_pos a,jb,zT,cv]
  by_cases b:r<2048
  · rw [if_neg xB,if_pos xB,if_neg a,if_pos b]
    simp only [jb,zT]
    rw [show(192:Int)+(r:Int)/64=((192+r/64:Nat):Int) by omega,show(128:Int)+(r:Int)%64=((128+r%64:Nat):Int) by omega,cv,cv]
  by_cases c:r<65536
  · rw [if_neg xB,if_neg xB,if_pos xB,if_neg a,if_neg b,if_pos c]
    simp only [jb,zT]
    rw [show(224:Int)+(r:Int)/4096=((224+r/4096:Nat):Int) by omega,show(128:Int)+(r:Int)/64%64=((128+r/64%64:Nat):Int) by omega,show(128:Int)+(r:Int)%64=((128+r%64:Nat):Int) by omega,cv,cv,cv]
  · rw [if_neg xB,if_neg xB,if_neg xB,if_pos xB,if_neg a,if_neg b,if_neg c]
    simp only [jb,zT]
    rw [show(240:Int)+(r:Int)/262144=((240+r/262144:Nat):Int) by omega,show(128:Int)+(r:Int)/4096%64=((128+r/4096%64:Nat):Int) by omega,show(128:Int)+(r:Int)/64%64=((128+r/64%64:Nat):Int) by omega,show(128:Int)+(r:Int)%64=((128+r%64:Nat):Int) by omega,cv,cv,cv,cv]
def qE1(z:Int):Int:=(small z.toNat:Int)
theorem qNk: ∀(l:List Nat),(∀r∈l,Rn r)→ ∀n,(unr l).length≤n→Lib.mapGoD qE1 n (unr l)=unr (l.map small)
 | [],_,n,_=>by cases n<;>rfl
 |r::l,h,0,hn=>by
  have:=List.length_pos_iff.2 (qHW r)
  rw [qCd,jA] at hn;omega
 |r::l,h,n+1,hn=>by
  have hr:=h r (.head _)
  have:=List.length_pos_iff.2 (qHW r)
  have hd:Lib.decodeL (enc r++unr l)=(r,(enc r).length):=qHb hr (unr l)
  rw [qCd,jA] at hn
  rw [Lib.mapGoD,qCd,if_neg (by simp [qHW]),hd]
  dsimp only
  have hz:qE1 (r:Int)=((small r:Nat):Int):=by unfold qE1;rw [jY]
  rw [List.drop_left,qNk l (λx hx=>h x (.tail _ hx)) n xB,hz,if_pos (Int.natCast_nonneg _),jb,qCd,qX6 (qTv hr)]
theorem qZT(F:Hp)(hA:qAG F ⟨0,0,none⟩ qBT)(hT:qBv F)(s:xA)(hs:s.length≤1000000)(hv:vld s=true):Cz prog 161 [.func (.func 162) #[] #[],Str s] F (Str (unr ((rl s).map small))):=Ct.ofBelow λw hw=>by
 have h:=Any.strings_Map_grows Tryz.lays230 Tryz.extra230 162 #[] ent qE1 ⟨s.toArray⟩ w (by rw [qC7];omega) (by
  intro W x hx hb
  have hW:Le F (hp W):=λg o ho=>by
   have h1:=hw g o ho
   show W.heap[g]?=some o
   rw [hb.block g (qFs h1)];exact h1
  have hc:=Ct.below (qM7 (hp W) (hA.mono hW) x xB)
  have hz:qE1 (x:Int)=((small x:Nat):Int):=by unfold qE1;rw [jY]
  rw [hz]
  exact hc) (by
  intro x hx
  have:=qTd x
  have hz:qE1 (x:Int)=((small x:Nat):Int):=by unfold qE1;rw [jY]
  rw [hz]
  exact⟨xB,xB⟩) (hT.tabs hw)
 have e:Lib.mapD qE1 s=unr ((rl s).map small):=by
  obtain ⟨h1,h2⟩:=qPl hv
  have:=qNk (rl s) h1 s.length (by rw [←h2];exact jJ _)
  rw [←h2] at this;exact this
 rw [e] at h
 exact h
end Go.Proofs.YtmemgokiolfdoaaGreatDoor
namespace Go.Proofs.YtmemgokiolfdoaaGreatDoor
open Go Go.Fw Go.Proofs.Tryz
theorem qRX(F:Hp)(hA:qAG F ⟨0,0,none⟩ qBT)(hT:qBv F)(s:xA)(hs:s.length≤1000000):Cz prog 160 [Str (s)] F (.bool (right s)):=by
 refine Ct.walk func160 O ntmps160 O (λw0 hw0=>?_)
 refine J.f λ_ j1=>J.b O<|J.c j1<|J.k λ_ j2=>J.f λ_ j3=>J.b O<|J.q (qFB O O u9_) O ?_
 rintro g8 _
 refine J.c j3<|J.T<|J.b5 (X:=Nat) (λζ=> [(0,Str (s)),(8,Ptr g8)]) (λζ=> [F,itr g8 s ζ]) (λζ=>ζ≤s.length∧(rl (s.drop ζ)).all okR=(rl s).all okR) (λζ=>s.length-ζ) 0 (⟨xB,O⟩) ⟨O,O,trivial⟩ (λ_ h=>h) ?_
 rintro p ⟨hp,he⟩ I0 hI0
 refine J.f λ_ j4=>J.q (qGN (i:=1) O O O) O ?_
 rintro _ _
 refine J.g (qAT O O (qUN _ _)) O<|J.c j4<|J.k λ_ j5=>J.Z O (λh10=>?_) (λh10=>?_)
 ·
  have hps:p<s.length:=h10
  have hnp:=qD5 hps
  have hdl:=qN2 s p hps
  have hdr:=qGW s p xB
  have hdp:=qEt s p xB
  have hrl:=qTw hps
  refine J.M j5<|J.T<|J.f λ_ j6=>J.g (qAT O O (qXc hps)) O<|J.b O<|J.c j6<|J.f λ_ j7=>J.b O<|J.q (qAZ O O (λF' hF=>qK0 F' (hA.mono (Fa hF)) ((dec s p).1) xB)) O λg13 _=>J.g (qAe O O O) O<|J.b O<|J.b9 (d:=15) O (λh15=>?_) (λh15=>?_)
  ·
   refine J.b O<|J.G (qAS O O O) O<|J.b O<|J.b9 (d:=18) O (λh18=>?_) (λh18=>?_)
   ·
    refine J.p 6 O<|J.d0 (qAZ O O (λF' hF=>qQG F' ((dec s p).1))) O λg25 _=>J.G (qAs O O) O<|J.b O<|J.c j7<|J.c5 O (λh27=>?_) (λh27=>?_)
    ·
     exact J.f λ_ j8=>J.b O<|J.c j8<|J.A<|J.a5<|J.V<|J.a5<|J.V<|J.E hw0 O () (by unfold right;rw [←he,hrl,zH,show okR (dec s p).1=false from qVs xB xB (by simpa using h27)];rfl) trivial [0] O xC
    exact J.b2<|J.a2<|J.u<|J.a8 (qKr s p) (λη (hη:_∧s.length-η<s.length-p)=>hI0 η hη.1 hη.2) ⟨⟨xB,by rw [←he,hrl,zH,show okR (dec s p).1=true by first|exact qJP (by simpa using h27)|exact qJO xB];rfl⟩,by first|omega|(dsimp only;omega)⟩ ⟨O,O,trivial⟩ (λ_ h=>h)
   refine J.b O<|J.G (qA5 O O O) O<|J.p 3 O<|J.b9 (d:=23) O (λh23=>?_) (λh23=>?_)
   ·
    refine J.b O<|J.d0 (qAZ O O (λF' hF=>qQG F' ((dec s p).1))) O λg25 _=>J.G (qAs O O) O<|J.b O<|J.c j7<|J.c5 O (λh27=>?_) (λh27=>?_)
    ·
     exact J.f λ_ j9=>J.b O<|J.c j9<|J.A<|J.a5<|J.V<|J.a5<|J.V<|J.E hw0 O () (by unfold right;rw [←he,hrl,zH,show okR (dec s p).1=false from qVs xB xB (by simpa using h27)];rfl) trivial [0] O xC
    exact J.b2<|J.a2<|J.u<|J.a8 (qKr s p) (λη (hη:_∧s.length-η<s.length-p)=>hI0 η hη.1 hη.2) ⟨⟨xB,by rw [←he,hrl,zH,show okR (dec s p).1=true by first|exact qJP (by simpa using h27)|exact qJO xB];rfl⟩,by first|omega|(dsimp only;omega)⟩ ⟨O,O,trivial⟩ (λ_ h=>h)
   refine J.p 4 O<|J.c j7<|J.a3 ?_
   exact J.b2<|J.a2<|J.u<|J.a8 (qKr s p) (λη (hη:_∧s.length-η<s.length-p)=>hI0 η hη.1 hη.2) ⟨⟨xB,by rw [←he,hrl,zH,show okR (dec s p).1=true by first|exact qJP (by simpa using h27)|exact qJO xB];rfl⟩,by first|omega|(dsimp only;omega)⟩ ⟨O,O,trivial⟩ (λ_ h=>h)
  refine J.p 3 O<|J.c9 (Wan.un O O O O) O O ?_
  refine J.c9 (Wan.un O O O O) O O ?_
  refine J.p 7 O<|J.c j7<|J.a3 ?_
  exact J.b2<|J.a2<|J.u<|J.a8 (qKr s p) (λη (hη:_∧s.length-η<s.length-p)=>hI0 η hη.1 hη.2) ⟨⟨xB,by rw [←he,hrl,zH,show okR (dec s p).1=true by first|exact qJP (by simpa using h27)|exact qJO xB];rfl⟩,by first|omega|(dsimp only;omega)⟩ ⟨O,O,trivial⟩ (λ_ h=>h)
 refine J.b3<|J.a0<|J.a0<|J.b4 ?_
 refine J.u (J.D j2 ?_)
 refine J.k λ_ j10=>J.k λ_ j11=>?_
 have hk1:(rl s).all okR=true:=by rw [←he,js xB,qKS];rfl
 refine J.H<|J.b O<|J.q (qBb O O (λF' hF=>qRY F' (hT.mono (Fa hF)) s xB)) O ?_
 rintro⟨A29,c29,m29⟩ h29
 try dsimp only at h29
 refine J.g (qAO qAn O O) O<|J.b O<|J.c j11<|J.T<|J.b5 (X:=Nat) (λζ=> [(0,Str (s)),(29,.slice A29 ((spl [] s).length) c29),(30,I ((spl [] s).length:Nat)),(31,I (ζ:Nat))]) (λζ=> [F,m29]) (λζ=>ζ≤(spl [] s).length∧((spl [] s).take ζ).all okP=true) (λζ=>(spl [] s).length-ζ) 0 (⟨xB,O⟩) ⟨O,O,O,O,trivial⟩ (λ_ h=>h.pick [0,2] xC) ?_
 rintro k ⟨hk,hq⟩ I2 hI2
 refine J.f λ_ j12=>J.g (qAS O O O) O<|J.c j12<|J.k λ_ j13=>J.Z O (λh32=>?_) (λh32=>?_)
 ·
  have hpn:=qL4 s []
  have hpl:((spl [] s).getD k []).length≤1000000:=jg (qWd s k) hs
  refine J.M j13<|J.k λ_ j14=>J.T<|J.f λ_ j15=>J.g (qAF O O O qAn z9_ h29.sl xB) O<|J.g (qAI O O b9_ (m:=m29) xD (h29.sl.elem (qAc (qAi [] xB)))) O<|J.b O<|J.c j15<|J.f λ_ j16=>J.b O<|J.g (qBY O O O) O<|J.b O<|J.b9 (d:=37) O (λh37=>?_) (λh37=>?_)
  ·
   refine J.p 5 O<|J.c j16<|J.c3 ?_
   exact J.f λ_ j17=>J.b O<|J.c j17<|J.A<|J.a5<|J.V<|J.V<|J.a5<|J.V<|J.E hw0 O () (by unfold right;rw [qN1 (k:=k) xB (by unfold okP;rw [h37];rfl),Bool.and_false];rfl) trivial [0] O xC
  refine J.b O<|J.d0 (qAZ O O (λF' hF=>qYU F' (hA.mono (Fa hF)) ((spl [] s).getD k []) xB)) O λg39 _=>J.d0 (qAZ O O (λF' hF=>qZL F' (qJx (rl ((spl [] s).getD k [])) 0) (qSl _ _ xB))) O λg40 _=>J.G (qAs O O) O<|J.b O<|J.c j16<|J.c5 O (λh42=>?_) (λh42=>?_)
  ·
   exact J.f λ_ j18=>J.b O<|J.c j18<|J.A<|J.a5<|J.V<|J.V<|J.a5<|J.V<|J.E hw0 O () (by unfold right;rw [qN1 (k:=k) xB (by unfold okP;rw [show good (qJx (rl ((spl [] s).getD k [])) 0)=false from by simpa using h42,Bool.and_false]),Bool.and_false];rfl) trivial [0] O xC
  refine J.b2<|J.a2<|J.u (J.D j14 ?_)
  exact J.H<|J.g ((qAR O O O xB).nat (k+1) xB) O<|J.b O<|J.a4<|J.u<|J.a8 (k+1) (λη (hη:_∧(spl [] s).length-η<(spl [] s).length-k)=>hI2 η hη.1 hη.2) ⟨⟨xB,by rw [qTO xB,hq];unfold okP;rw [decide_eq_true h37];simpa using h42⟩,by first|omega|(dsimp only;omega)⟩ ⟨O,O,O,O,trivial⟩ (λ_ h=>h)
 refine J.b3<|J.a0<|J.a0<|J.b4 ?_
 refine J.u (J.D j10 ?_)
 refine J.k λ_ j19=>?_
 have hk2:(spl [] s).all okP=true:=by rw [←hq,jV xB]
 exact J.H<|J.b O<|J.q (qAZ O O (λF' hF=>qQL F' s xB)) O λg45 _=>J.g (qCb O O O) O<|J.b O<|J.c j19<|J.A<|J.E hw0 O () (by unfold right;rw [hk1,hk2];exact congrArg Value.bool (decide_eq_decide.2 xB)) trivial [0] O xC
theorem qHE(F:Hp)(hA:qAG F ⟨0,0,none⟩ qBT)(hT:qBv F)(s:xA)(hs:s.length≤1000000):Cz prog 90 [Str (s)] F (.tuple #[Str ((normal s).1),I ((normal s).2:Nat)]):=by
 refine Ct.walk func90 O ntmps90 O (λw0 hw0=>?_)
 refine J.f λ_ j1=>J.p 2 O<|J.c j1<|J.f λ_ j2=>J.b O<|J.q (qAZ O O (λF' hF=>qTp F' (hT.mono (Fa hF)) s xB)) O λg8 _=>J.p 5 O<|J.c j2<|J.k λ_ j3=>J.T<|J.f λ_ j4=>J.b O<|J.g (qAs O O) O<|J.b O<|J.c j4<|J.c5 O (λh11=>?_) (λh11=>?_)
 ·
  exact J.f λ_ j5=>J.p 2 O<|J.c j5<|J.A<|J.a5<|J.V<|J.a9 hw0 (λ_ _ h=>h) (qBw O O O) (qAg () (by unfold normal;rw [if_neg (by simpa using h11)];rfl) trivial [0] O xC)
 refine J.k λ_ j6=>?_
 have hv:vld s=true:=by simpa using h11
 refine J.H<|J.b O<|J.g (qA5 O O O) O<|J.b O<|J.c j6<|J.Z O (λh14=>?_) (λh14=>?_)
 ·
  refine J.k λ_ j7=>?_
  rw [if_pos hv] at h14
  exact J.H<|J.p 2 O<|J.c j7<|J.A<|J.a5<|J.V<|J.a9 hw0 (λ_ _ h=>h) (qBw O O O) (qAg () (by unfold normal;rw [if_pos hv,if_neg xB];rfl) trivial [0] O xC)
 refine J.k λ_ j8=>?_
 rw [if_pos hv] at h14
 refine J.H<|J.b O<|J.q (qAZ O O (λF' hF=>qRX F' (hA.mono (Fa hF)) (hT.mono (Fa hF)) s xB)) O λg19 _=>J.g (qAs O O) O<|J.b O<|J.c j8<|J.c5 O (λh17=>?_) (λh17=>?_)
 ·
  exact J.f λ_ j9=>J.p 2 O<|J.c j9<|J.A<|J.a5<|J.V<|J.a9 hw0 (λ_ _ h=>h) (qBw O O O) (qAg () (by unfold normal;rw [if_pos hv,if_pos xB,if_neg (by simpa using h17)];rfl) trivial [0] O xC)
 refine J.b2<|J.a2<|J.u (J.D j3 ?_)
 exact J.f λ_ j10=>J.b O<|J.q (qAZ O O (λF' hF=>qZT F' (hA.mono (Fa hF)) (hT.mono (Fa hF)) s xB xG)) O λg22 _=>J.p 2 O<|J.c j10<|J.A<|J.a9 hw0 (λ_ _ h=>h) (qBw O O O) (qAg () (by unfold normal;rw [if_pos hv,if_pos xB,if_pos (by simpa using h17)];rfl) trivial [0] O xC)
end Go.Proofs.YtmemgokiolfdoaaGreatDoor