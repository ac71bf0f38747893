/- A part of the proof. -/
import Derived.Test.YtmemgokiolfdoaaGreatDoorTopSpG20
import Derived.Shelf.Strings.MapGrows
set_option maxRecDepth 100000
set_option maxHeartbeats 1000000
set_option linter.unusedSimpArgs false
set_option linter.unusedVariables false
namespace Go.Proofs.YtmemgokiolfdoaaGreatDoor
open Go Go.Fw Go.Proofs.Tryz
open Go.Shelf Go.RowKit
def Tryz.lays230_ren:Go.Shelf.Ren:=⟨λ|230=>161|197=>230|118=>231|165=>110|166=>111|168=>232|270=>233|167=>208|169=>113|260=>274|240=>194|241=>195|242=>275|276=>251|277=>252|278=>294|n=>n,λ|107=>282|9=>9|72=>146|0=>0|4=>4|3=>3|21=>21|105=>332|76=>229|5=>5|75=>228|70=>144|20=>20|37=>73|127=>307|119=>391|46=>222|139=>394|138=>393|164=>360|51=>302|80=>112|n=>n,λ|3=>1|4=>2|n=>n⟩
theorem Tryz.lays230:Go.Proofs.Lays.n230 prog Tryz.lays230_ren:={
 mixed:=by kernel_rfl
 f118:=func231.trans (yY some xH)
 f165:=func110.trans (yY some xH)
 f166:=func111.trans (yY some xH)
 f167:=func208.trans (yY some xH)
 f168:=func232.trans (yY some xH)
 f169:=func113.trans (yY some xH)
 f197:=func230.trans (yY some xH)
 f230:=func161.trans (yY some xH)
 f240:=func194.trans (yY some xH)
 f241:=func195.trans (yY some xH)
 f242:=func275.trans (yY some xH)
 f260:=func274.trans (yY some xH)
 f270:=func233.trans (yY some xH)
 f276:=func251.trans (yY some xH)
 f277:=func252.trans (yY some xH)
 f278:=func294.trans (yY some xH)
 t0:=u0_
 a0:=isAgg0
 z0:=sizeOf0
 v0:=e0_
 t3:=u3_
 a3:=b3_
 z3:=z3_
 v3:=e3_
 t4:=u4_
 a4:=b4_
 z4:=z4_
 v4:=e4_
 t5:=u5_
 a5:=b5_
 z5:=z5_
 v5:=e5_
 t9:=u9_
 a9:=b9_
 z9:=z9_
 v9:=e9_
 t20:=underlying20
 a20:=isAgg20
 z20:=sizeOf20
 v20:=zeroValue20
 t21:=underlying21
 a21:=isAgg21
 z21:=sizeOf21
 v21:=zeroValue21
 t37:=qBo
 a37:=qPt
 z37:=qKQ
 v37:=zeroValue73
 t46:=qJU
 a46:=isAgg222
 z46:=sizeOf222
 v46:=zeroValue222
 t51:=qKe
 a51:=qDg
 z51:=qCU
 v51:=zeroValue302
 t70:=qOr
 a70:=isAgg144
 z70:=sizeOf144
 v70:=zeroValue144
 t72:=qD8
 a72:=isAgg146
 z72:=sizeOf146
 v72:=zeroValue146
 t75:=underlying228
 a75:=isAgg228
 z75:=sizeOf228
 v75:=zeroValue228
 t76:=underlying229
 a76:=isAgg229
 z76:=sizeOf229
 v76:=zeroValue229
 t105:=underlying332
 a105:=isAgg332
 z105:=sizeOf332
 v105:=zeroValue332
 t107:=underlying282
 a107:=isAgg282
 z107:=sizeOf282
 v107:=zeroValue282
 t119:=underlying391
 a119:=isAgg391
 z119:=sizeOf391
 t127:=underlying307
 a127:=isAgg307
 z127:=sizeOf307
 v127:=zeroValue307
 t138:=underlying393
 a138:=isAgg393
 z138:=sizeOf393
 v138:=zeroValue393
 t139:=underlying394
 a139:=isAgg394
 z139:=sizeOf394
 v139:=zeroValue394
 t164:=underlying360
 a164:=isAgg360
 z164:=sizeOf360
 v164:=zeroValue360
 g3:=by kernel_rfl
 g4:=by kernel_rfl}
theorem Tryz.extra230:Builder.Extra prog Tryz.lays230_ren:={
 sizeBuilder:=by kernel_rfl
 liesBuilder:=by kernel_rfl
 t5:=Tryz.lays230.t5
 a5:=Tryz.lays230.a5
 z5:=Tryz.lays230.z5
 v5:=Tryz.lays230.v5
 infoByte:=by kernel_rfl
 cellsByte:=by kernel_rfl
 sizeByte:=by kernel_rfl
 neB5:=by decide}
theorem qYv{r:Nat}(h:Rn r):Lib.encodeRune (r:Int)=enc r:=by
  obtain ⟨h1,h2⟩:=h
  have cv: ∀n:Nat,((n:Int).toNat.toUInt8)=UInt8.ofNat n:=λn=>by rw [jd]
  unfold Lib.encodeRune Lib.encodeRuneZ enc
  by_cases a:r<128
  . rw [yX xB,yX a,jY,zg,cv]
  by_cases b:r<2048
  . rw [yW xB,yX xB,yW a,yX b]
    simp only [jY,zg]
    rw [show(192:Int)+(r:Int)/64=((192+r/64:Nat):Int) by omega,show(128:Int)+(r:Int)%64=((128+r%64:Nat):Int) by omega,cv,cv]
  by_cases c:r<65536
  . rw [yW xB,yW xB,yX xB,yW a,yW b,yX c]
    simp only [jY,zg]
    rw [show(224:Int)+(r:Int)/4096=((224+r/4096:Nat):Int) by omega,show(128:Int)+(r:Int)/64%64=((128+r/64%64:Nat):Int) by omega,show(128:Int)+(r:Int)%64=((128+r%64:Nat):Int) by omega,cv,cv,cv]
  . rw [yW xB,yW xB,yW xB,yX xB,yW a,yW b,yW c]
    simp only [jY,zg]
    rw [show(240:Int)+(r:Int)/262144=((240+r/262144:Nat):Int) by omega,show(128:Int)+(r:Int)/4096%64=((128+r/4096%64:Nat):Int) by omega,show(128:Int)+(r:Int)/64%64=((128+r/64%64:Nat):Int) by omega,show(128:Int)+(r:Int)%64=((128+r%64:Nat):Int) by omega,cv,cv,cv,cv]
def qFI(z:Int):Int:=(small z.toNat:Int)
theorem qN7: ∀(l:yT),(∀r∈l,Rn r)-> ∀n,(unr l).length<=n->Lib.mapGoD qFI n (unr l)=unr (l.map small)
 | [],_,n,_=>by cases n<;>rfl
 |r::l,h,0,hn=>by
  have:=List.length_pos_iff.2 (qH0 r)
  rw [qCh,jA] at hn;omega
 |r::l,h,n+1,hn=>by
  have hr:=h r (.head _)
  have:=List.length_pos_iff.2 (qH0 r)
  have hd:Lib.decodeL (enc r++unr l)=(r,(enc r).length):=qH4 hr (unr l)
  rw [qCh,jA] at hn
  rw [Lib.mapGoD,qCh,yW (by simp [qH0]),hd]
  dsimp only
  have hz:qFI (r:Int)=((small r:Nat):Int):=by unfold qFI;rw [jd]
  rw [List.drop_left,qN7 l (λx hx=>h x (.tail _ hx)) n xB,hz,yX (Int.natCast_nonneg _),jY,qCh,qYv (qUI hr)]
theorem qZ8(F:Hp)(hA:yg F)(hT:qBl F)(s:xA)(hs:s.length<=1000000)(hv:vld s=true):Cz prog 161 [.func (.func 162) #[] #[],Str s] F (Str (unr ((rl s).map small))):=Ct.ofBelow λw hw=>by
 have h:=Any.strings_Map_grows Tryz.lays230 Tryz.extra230 162 #[] ent qFI ⟨s.toArray⟩ w (by rw [qDV];omega) (by
  intro W x hx hb
  have hW:Le F (hp W):=λg o ho=>by
   have h1:=hw g o ho
   show W.heap[g]?=some o
   rw [hb.block g (qHt h1)];exact h1
  have hc:=Ct.below (qNV (hp W) (hA.mono hW) x xB)
  have hz:qFI (x:Int)=((small x:Nat):Int):=by unfold qFI;rw [jd]
  rw [hz]
  exact hc) (by
  intro x hx
  have:=qT3 x
  have hz:qFI (x:Int)=((small x:Nat):Int):=by unfold qFI;rw [jd]
  rw [hz]
  exact⟨xB,xB⟩) (hT.tabs hw)
 have e:Lib.mapD qFI s=unr ((rl s).map small):=by
  obtain ⟨h1,h2⟩:=qP8 hv
  have:=qN7 (rl s) h1 s.length (by rw [<-h2];exact jL _)
  rw [<-h2] at this;exact this
 rw [e] at h
 exact h
end Go.Proofs.YtmemgokiolfdoaaGreatDoor
namespace Go.Proofs.YtmemgokiolfdoaaGreatDoor
open Go Go.Fw Go.Proofs.Tryz
theorem qR2(F:Hp)(hA:yg F)(hT:qBl F)(s:xA)(hs:s.length<=1000000):Cz prog 160 [Str (s)] F (.bool (right s)):=by
 refine y7 func160 O ntmps160 O (λw0 hw0=>?_)
 refine yl λ_ C1=>yh O<|yi C1<|ym λ_ C2=>yl λ_ C3=>yh O<|yp (qFU O O u9_) O ?_
 rintro g8 _
 refine yi C3<|yz<|vN (X:=Nat) (λζ=> [(0,Str (s)),(8,Ptr g8)]) (λζ=> [F,itr g8 s ζ]) (λζ=>ζ<=s.length/\(rl (s.drop ζ)).all okR=(rl s).all okR) (λζ=>s.length-ζ) 0 (⟨xB,O⟩) (Sub.of O) (λ_ h=>h) ?_
 rintro p ⟨hp,he⟩ I0 hI0
 refine yl λ_ C4=>yp (qGy (i:=1) O O O) O ?_
 rintro _ _
 refine yj (qAp O O (qUw _ _)) O<|yi C4<|ym λ_ C5=>y1 O (λh10=>?_) (λh10=>?_)
 .
  have hps:p<s.length:=h10
  have hnp:=qER hps
  have hdl:=qOT s p hps
  have hdr:=qG8 s p xB
  have hdp:=qFB s p xB
  have hrl:=qUK hps
  refine yy C5<|yz<|yl λ_ C6=>yj (qAp O O (qYL hps)) O<|yh O<|yi C6<|yl λ_ C7=>yh O<|yp (qAZ O O (λF' hF=>qLM F' (hA.mono (Fa hF)) ((dec s p).1) xB)) O λg13 _=>yj (qAR O O O) O<|yh O<|vO (d:=15) O (λh15=>?_) (λh15=>?_)
  .
   refine yh O<|yv (qAP O O O) O<|yh O<|vO (d:=18) O (λh18=>?_) (λh18=>?_)
   .
    refine yn 6 O<|vg (qAZ O O (λF' hF=>qQe F' ((dec s p).1))) O λg25 _=>yv (qA5 O O) O<|yh O<|yi C7<|vf O (λh27=>?_) (λh27=>?_)
    .
     exact yl λ_ C8=>yh O<|yi C8<|yr<|vI<|y5<|vI<|y5<|yw hw0 O () (by unfold right;rw [<-he,hrl,zP,show okR (dec s p).1=false from qWd xB xB (by simpa using h27)];rfl) yd [0] O xC
    exact vP<|vB<|yq<|vE (qLE s p) hI0 ⟨xB,by rw [<-he,hrl,zP,show okR (dec s p).1=true by first|exact qJz (by simpa using h27)|exact qJy xB];rfl⟩ (Sub.of O) (λ_ h=>h)
   refine yh O<|yv (qAs O O O) O<|yn 3 O<|vO (d:=23) O (λh23=>?_) (λh23=>?_)
   .
    refine yh O<|vg (qAZ O O (λF' hF=>qQe F' ((dec s p).1))) O λg25 _=>yv (qA5 O O) O<|yh O<|yi C7<|vf O (λh27=>?_) (λh27=>?_)
    .
     exact yl λ_ C9=>yh O<|yi C9<|yr<|vI<|y5<|vI<|y5<|yw hw0 O () (by unfold right;rw [<-he,hrl,zP,show okR (dec s p).1=false from qWd xB xB (by simpa using h27)];rfl) yd [0] O xC
    exact vP<|vB<|yq<|vE (qLE s p) hI0 ⟨xB,by rw [<-he,hrl,zP,show okR (dec s p).1=true by first|exact qJz (by simpa using h27)|exact qJy xB];rfl⟩ (Sub.of O) (λ_ h=>h)
   refine yn 4 O<|yi C7<|vC ?_
   exact vP<|vB<|yq<|vE (qLE s p) hI0 ⟨xB,by rw [<-he,hrl,zP,show okR (dec s p).1=true by first|exact qJz (by simpa using h27)|exact qJy xB];rfl⟩ (Sub.of O) (λ_ h=>h)
  refine yn 3 O<|vX (Wan.un O O O O) O O ?_
  refine vX (Wan.un O O O O) O O ?_
  refine yn 7 O<|yi C7<|vC ?_
  exact vP<|vB<|yq<|vE (qLE s p) hI0 ⟨xB,by rw [<-he,hrl,zP,show okR (dec s p).1=true by first|exact qJz (by simpa using h27)|exact qJy xB];rfl⟩ (Sub.of O) (λ_ h=>h)
 refine vK<|y6<|y6<|vL ?_
 refine yq (yu C2 ?_)
 refine ym λ_ C10=>ym λ_ C11=>?_
 have hk1:(rl s).all okR=true:=by rw [<-he,j4 xB,qKv];rfl
 refine yt<|yh O<|yp (qBx O O (λF' hF=>qR3 F' (hT.mono (Fa hF)) s xB)) O ?_
 rintro⟨A29,c29,m29⟩ h29
 try dsimp only at h29
 refine yj (qAN qAg O O) O<|yh O<|yi C11<|yz<|vN (X:=Nat) (λζ=> [(0,Str (s)),(29,.slice A29 ((spl [] s).length) c29),(30,I ((spl [] s).length:Nat)),(31,I (ζ:Nat))]) (λζ=> [F,m29]) (λζ=>ζ<=(spl [] s).length/\((spl [] s).take ζ).all okP=true) (λζ=>(spl [] s).length-ζ) 0 (⟨xB,O⟩) (Sub.of O) (λ_ h=>h.pick [0,2] xC) ?_
 rintro k ⟨hk,hq⟩ I2 hI2
 refine yl λ_ C12=>yj (qAP O O O) O<|yi C12<|ym λ_ C13=>y1 O (λh32=>?_) (λh32=>?_)
 .
  have hpn:=qMM s []
  have hpl:((spl [] s).getD k []).length<=1000000:=jf (qXV s k) hs
  refine yy C13<|ym λ_ C14=>yz<|yl λ_ C15=>yj (qAC O O O qAg z9_ h29.sl xB) O<|yj (qAH O O b9_ (m:=m29) xD (h29.sl.elem (qAa (qAc [] xB)))) O<|yh O<|yi C15<|yl λ_ C16=>yh O<|yj (qBP O O O) O<|yh O<|vO (d:=37) O (λh37=>?_) (λh37=>?_)
  .
   refine yn 5 O<|yi C16<|vV ?_
   exact yl λ_ C17=>yh O<|yi C17<|yr<|vI<|y5<|y5<|vI<|y5<|yw hw0 O () (by unfold right;rw [qOS (k:=k) xB (by unfold okP;rw [h37];rfl),Bool.and_false];rfl) yd [0] O xC
  refine yh O<|vg (qAZ O O (λF' hF=>qZL F' (hA.mono (Fa hF)) ((spl [] s).getD k []) xB)) O λg39 _=>vg (qAZ O O (λF' hF=>qZw F' (qKT (rl ((spl [] s).getD k [])) 0) (qTD _ _ xB))) O λg40 _=>yv (qA5 O O) O<|yh O<|yi C16<|vf O (λh42=>?_) (λh42=>?_)
  .
   exact yl λ_ C18=>yh O<|yi C18<|yr<|vI<|y5<|y5<|vI<|y5<|yw hw0 O () (by unfold right;rw [qOS (k:=k) xB (by unfold okP;rw [show good (qKT (rl ((spl [] s).getD k [])) 0)=false from by simpa using h42,Bool.and_false]),Bool.and_false];rfl) yd [0] O xC
  refine vP<|vB<|yq (yu C14 ?_)
  exact yt<|yj ((qAM O O O xB).nat (k+1) xB) O<|yh O<|y8<|yq<|vE (k+1) hI2 ⟨xB,by rw [qTo xB,hq];unfold okP;rw [ya h37];simpa using h42⟩ (Sub.of O) (λ_ h=>h)
 refine vK<|y6<|y6<|vL ?_
 refine yq (yu C10 ?_)
 refine ym λ_ C19=>?_
 have hk2:(spl [] s).all okP=true:=by rw [<-hq,jV xB]
 exact yt<|yh O<|yp (qAZ O O (λF' hF=>qQl F' s xB)) O λg45 _=>yj (qBQ O O O) O<|yh O<|yi C19<|yr<|yw hw0 O () (by unfold right;rw [hk1,hk2];exact yY Value.bool (decide_eq_decide.2 xB)) yd [0] O xC
theorem qHi(F:Hp)(hA:yg F)(hT:qBl F)(s:xA)(hs:s.length<=1000000):Cz prog 90 [Str (s)] F (.tuple #[Str ((normal s).1),I ((normal s).2:Nat)]):=by
 refine y7 func90 O ntmps90 O (λw0 hw0=>?_)
 refine yl λ_ C1=>yn 2 O<|yi C1<|yl λ_ C2=>yh O<|yp (qAZ O O (λF' hF=>qUC F' (hT.mono (Fa hF)) s xB)) O λg8 _=>yn 5 O<|yi C2<|ym λ_ C3=>yz<|yl λ_ C4=>yh O<|yj (qA5 O O) O<|yh O<|yi C4<|vf O (λh11=>?_) (λh11=>?_)
 .
  exact yl λ_ C5=>yn 2 O<|yi C5<|yr<|vI<|y5<|vH hw0 (λ_ _ h=>h) (qB5 O O O) (qAf () (by unfold normal;rw [yW (by simpa using h11)];rfl) yd [0] O xC)
 refine ym λ_ C6=>?_
 have hv:vld s=true:=by simpa using h11
 refine yt<|yh O<|yj (qAs O O O) O<|yh O<|yi C6<|y1 O (λh14=>?_) (λh14=>?_)
 .
  refine ym λ_ C7=>?_
  rw [yX hv] at h14
  exact yt<|yn 2 O<|yi C7<|yr<|vI<|y5<|vH hw0 (λ_ _ h=>h) (qB5 O O O) (qAf () (by unfold normal;rw [yX hv,yW xB];rfl) yd [0] O xC)
 refine ym λ_ C8=>?_
 rw [yX hv] at h14
 refine yt<|yh O<|yp (qAZ O O (λF' hF=>qR2 F' (hA.mono (Fa hF)) (hT.mono (Fa hF)) s xB)) O λg19 _=>yj (qA5 O O) O<|yh O<|yi C8<|vf O (λh17=>?_) (λh17=>?_)
 .
  exact yl λ_ C9=>yn 2 O<|yi C9<|yr<|vI<|y5<|vH hw0 (λ_ _ h=>h) (qB5 O O O) (qAf () (by unfold normal;rw [yX hv,yX xB,yW (by simpa using h17)];rfl) yd [0] O xC)
 refine vP<|vB<|yq (yu C3 ?_)
 exact yl λ_ C10=>yh O<|yp (qAZ O O (λF' hF=>qZ8 F' (hA.mono (Fa hF)) (hT.mono (Fa hF)) s xB xG)) O λg22 _=>yn 2 O<|yi C10<|yr<|vH hw0 (λ_ _ h=>h) (qB5 O O O) (qAf () (by unfold normal;rw [yX hv,yX xB,yX (by simpa using h17)];rfl) yd [0] O xC)
end Go.Proofs.YtmemgokiolfdoaaGreatDoor