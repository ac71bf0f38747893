/- A part of the proof. -/
import Derived.Test.YtcgcjaflllmlpaaGreatDoorTopCkG19
import Derived.Shelf.Strings.MapGrows
set_option maxRecDepth 100000
set_option maxHeartbeats 1000000
set_option linter.unusedSimpArgs false
set_option linter.unusedVariables false
namespace Go.Proofs.YtcgcjaflllmlpaaGreatDoor
open Go Go.Fw Go.Proofs.Tryz
open Go.Shelf Go.RowKit
def Tryz.lays230_ren:Go.Shelf.Ren:=⟨λ|230=>202|197=>229|118=>230|165=>111|166=>112|168=>231|270=>232|167=>136|169=>114|260=>250|240=>167|241=>168|242=>251|276=>198|277=>199|278=>259|n=>n,λ|107=>302|9=>9|72=>156|0=>0|4=>4|3=>3|21=>21|105=>329|76=>204|5=>5|75=>203|70=>154|20=>20|37=>80|127=>263|119=>347|46=>198|139=>350|138=>349|164=>297|51=>253|80=>64|n=>n,λ|3=>3|4=>4|n=>n⟩
theorem Tryz.lays230:Go.Proofs.Lays.n230 prog Tryz.lays230_ren:={
 mixed:=by kernel_rfl
 f118:=func230.trans (congrArg some xI)
 f165:=func111.trans (congrArg some xI)
 f166:=func112.trans (congrArg some xI)
 f167:=func136.trans (congrArg some xI)
 f168:=func231.trans (congrArg some xI)
 f169:=func114.trans (congrArg some xI)
 f197:=func229.trans (congrArg some xI)
 f230:=func202.trans (congrArg some xI)
 f240:=func167.trans (congrArg some xI)
 f241:=func168.trans (congrArg some xI)
 f242:=func251.trans (congrArg some xI)
 f260:=func250.trans (congrArg some xI)
 f270:=func232.trans (congrArg some xI)
 f276:=func198.trans (congrArg some xI)
 f277:=func199.trans (congrArg some xI)
 f278:=func259.trans (congrArg some xI)
 t0:=u0_
 a0:=isAgg0
 z0:=sizeOf0
 v0:=e0_
 t3:=u3_
 a3:=b3_
 z3:=z3_
 v3:=e3_
 t4:=u4_
 a4:=b4_
 z4:=z4_
 v4:=e4_
 t5:=u5_
 a5:=b5_
 z5:=z5_
 v5:=e5_
 t9:=u9_
 a9:=b9_
 z9:=z9_
 v9:=e9_
 t20:=underlying20
 a20:=isAgg20
 z20:=sizeOf20
 v20:=zeroValue20
 t21:=underlying21
 a21:=isAgg21
 z21:=sizeOf21
 v21:=zeroValue21
 t37:=qBt
 a37:=qPc
 z37:=qJj
 v37:=zeroValue80
 t46:=qIj
 a46:=isAgg198
 z46:=sizeOf198
 v46:=zeroValue198
 t51:=qJz
 a51:=qDG
 z51:=qCM
 v51:=zeroValue253
 t70:=qOZ
 a70:=isAgg154
 z70:=sizeOf154
 v70:=zeroValue154
 t72:=qDh
 a72:=isAgg156
 z72:=sizeOf156
 v72:=zeroValue156
 t75:=underlying203
 a75:=isAgg203
 z75:=sizeOf203
 v75:=zeroValue203
 t76:=underlying204
 a76:=isAgg204
 z76:=sizeOf204
 v76:=zeroValue204
 t105:=underlying329
 a105:=isAgg329
 z105:=sizeOf329
 v105:=zeroValue329
 t107:=underlying302
 a107:=isAgg302
 z107:=sizeOf302
 v107:=zeroValue302
 t119:=underlying347
 a119:=isAgg347
 z119:=sizeOf347
 t127:=underlying263
 a127:=isAgg263
 z127:=sizeOf263
 v127:=zeroValue263
 t138:=underlying349
 a138:=isAgg349
 z138:=sizeOf349
 v138:=zeroValue349
 t139:=underlying350
 a139:=isAgg350
 z139:=sizeOf350
 v139:=zeroValue350
 t164:=underlying297
 a164:=isAgg297
 z164:=sizeOf297
 v164:=zeroValue297
 g3:=by kernel_rfl
 g4:=by kernel_rfl}
theorem Tryz.extra230:Builder.Extra prog Tryz.lays230_ren:={
 sizeBuilder:=by kernel_rfl
 liesBuilder:=by kernel_rfl
 t5:=Tryz.lays230.t5
 a5:=Tryz.lays230.a5
 z5:=Tryz.lays230.z5
 v5:=Tryz.lays230.v5
 infoByte:=by kernel_rfl
 cellsByte:=by kernel_rfl
 sizeByte:=by kernel_rfl
 neB5:=by decide}
theorem qYD{r:Nat}(h:Rn r):Lib.encodeRune (r:Int)=enc r:=by
  obtain ⟨h1,h2⟩:=h
  have cv: ∀n:Nat,((n:Int).toNat.toUInt8)=UInt8.ofNat n:=λn=>by rw [jP]
  unfold Lib.encodeRune Lib.encodeRuneZ enc
  by_cases a:r<128
  · rw [if_pos xB,if_pos a,jd,zV,cv]
  by_cases b:r<2048
  · rw [if_neg xB,if_pos xB,if_neg a,if_pos b]
    simp only [jd,zV]
    rw [show(192:Int)+(r:Int)/64=((192+r/64:Nat):Int) by omega,show(128:Int)+(r:Int)%64=((128+r%64:Nat):Int) by omega,cv,cv]
  by_cases c:r<65536
  · rw [if_neg xB,if_neg xB,if_pos xB,if_neg a,if_neg b,if_pos c]
    simp only [jd,zV]
    rw [show(224:Int)+(r:Int)/4096=((224+r/4096:Nat):Int) by omega,show(128:Int)+(r:Int)/64%64=((128+r/64%64:Nat):Int) by omega,show(128:Int)+(r:Int)%64=((128+r%64:Nat):Int) by omega,cv,cv,cv]
  · rw [if_neg xB,if_neg xB,if_neg xB,if_pos xB,if_neg a,if_neg b,if_neg c]
    simp only [jd,zV]
    rw [show(240:Int)+(r:Int)/262144=((240+r/262144:Nat):Int) by omega,show(128:Int)+(r:Int)/4096%64=((128+r/4096%64:Nat):Int) by omega,show(128:Int)+(r:Int)/64%64=((128+r/64%64:Nat):Int) by omega,show(128:Int)+(r:Int)%64=((128+r%64:Nat):Int) by omega,cv,cv,cv,cv]
def qEx(z:Int):Int:=(small z.toNat:Int)
theorem qNe: ∀(l:List Nat),(∀r∈l,Rn r)→ ∀n,(unr l).length≤n→Lib.mapGoD qEx n (unr l)=unr (l.map small)
 | [],_,n,_=>by cases n<;>rfl
 |r::l,h,0,hn=>by
  have:=List.length_pos_iff.2 (qHO r)
  rw [qCb,jA] at hn;omega
 |r::l,h,n+1,hn=>by
  have hr:=h r (.head _)
  have:=List.length_pos_iff.2 (qHO r)
  have hd:Lib.decodeL (enc r++unr l)=(r,(enc r).length):=qHT hr (unr l)
  rw [qCb,jA] at hn
  rw [Lib.mapGoD,qCb,if_neg (by simp [qHO]),hd]
  dsimp only
  have hz:qEx (r:Int)=((small r:Nat):Int):=by unfold qEx;rw [jP]
  rw [List.drop_left,qNe l (λx hx=>h x (.tail _ hx)) n xB,hz,if_pos (Int.natCast_nonneg _),jd,qCb,qYD (qTs hr)]
theorem qZS(F:Hp)(hA:qAM F ⟨2,0,none⟩ qBd)(hT:qCI F)(s:xA)(hs:s.length≤1000000)(hv:vld s=true):Cz prog 202 [.func (.func 203) #[] #[],Str s] F (Str (unr ((rl s).map small))):=Ct.ofBelow λw hw=>by
 have h:=Any.strings_Map_grows Tryz.lays230 Tryz.extra230 203 #[] ent qEx ⟨s.toArray⟩ w (by rw [qC0];omega) (by
  intro W x hx hb
  have hW:Le F (hp W):=λg o ho=>by
   have h1:=hw g o ho
   show W.heap[g]?=some o
   rw [hb.block g (qFd h1)];exact h1
  have hc:=Ct.below (qMw (hp W) (hA.mono hW) x xB)
  have hz:qEx (x:Int)=((small x:Nat):Int):=by unfold qEx;rw [jP]
  rw [hz]
  exact hc) (by
  intro x hx
  have:=qTc x
  have hz:qEx (x:Int)=((small x:Nat):Int):=by unfold qEx;rw [jP]
  rw [hz]
  exact⟨xB,xB⟩) (hT.tabs hw)
 have e:Lib.mapD qEx s=unr ((rl s).map small):=by
  obtain ⟨h1,h2⟩:=qPs hv
  have:=qNe (rl s) h1 s.length (by rw [←h2];exact jK _)
  rw [←h2] at this;exact this
 rw [e] at h
 exact h
end Go.Proofs.YtcgcjaflllmlpaaGreatDoor
namespace Go.Proofs.YtcgcjaflllmlpaaGreatDoor
open Go Go.Fw Go.Proofs.Tryz
theorem qRR(F:Hp)(hA:qAM F ⟨2,0,none⟩ qBd)(hT:qCI F)(s:xA)(hs:s.length≤1000000):Cz prog 201 [Str (s)] F (.bool (right s)):=by
 refine Ct.walk func201 O ntmps201 O (λw0 hw0=>?_)
 refine J.g λ_ j1=>J.b O<|J.c j1<|J.q λ_ j2=>J.g λ_ j3=>J.b O<|J.p (qE5 O O u9_) O ?_
 rintro g8 _
 refine J.c j3<|J.V<|J.b6 (X:=Nat) (λζ=> [(0,Str (s)),(8,Ptr g8)]) (λζ=> [F,itr g8 s ζ]) (λζ=>ζ≤s.length∧(rl (s.drop ζ)).all okR=(rl s).all okR) (λζ=>s.length-ζ) 0 (⟨xB,O⟩) ⟨O,O,trivial⟩ (λ_ h=>h) ?_
 rintro p ⟨hp,he⟩ I0 hI0
 refine J.g λ_ j4=>J.p (qGC (i:=1) O O O) O ?_
 rintro _ _
 refine J.f (qAb O O (qUF _ _)) O<|J.c j4<|J.q λ_ j5=>J.a0 O (λh10=>?_) (λh10=>?_)
 ·
  have hps:p<s.length:=h10
  have hnp:=qDx hps
  have hdl:=qN0 s p hps
  have hdr:=qGN s p xB
  have hdp:=qEo s p xB
  have hrl:=qTt hps
  refine J.T j5<|J.V<|J.g λ_ j6=>J.f (qAb O O (qXg hps)) O<|J.b O<|J.c j6<|J.g λ_ j7=>J.b O<|J.p (qAa O O (λF' hF=>qKg F' (hA.mono (Fa hF)) ((dec s p).1) xB)) O λg13 _=>J.f (qAX O O O) O<|J.b O<|J.b9 (d:=15) O (λh15=>?_) (λh15=>?_)
  ·
   refine J.b O<|J.D (qAS O O O) O<|J.b O<|J.b9 (d:=18) O (λh18=>?_) (λh18=>?_)
   ·
    refine J.k 6 O<|J.c8 (qAa O O (λF' hF=>qQJ F' ((dec s p).1))) O λg25 _=>J.D (qAt O O) O<|J.b O<|J.c j7<|J.c7 O (λh27=>?_) (λh27=>?_)
    ·
     exact J.g λ_ j8=>J.b O<|J.c j8<|J.A<|J.a8<|J.W<|J.a8<|J.W<|J.E hw0 O () (by unfold right;rw [←he,hrl,zJ,show okR (dec s p).1=false from qVn xB xB (by simpa using h27)];rfl) trivial [0] O xC
    exact J.b5<|J.a3<|J.u<|J.a5 (qKW s p) (λη (hη:_∧s.length-η<s.length-p)=>hI0 η hη.1 hη.2) ⟨⟨xB,by rw [←he,hrl,zJ,show okR (dec s p).1=true by first|exact qJG (by simpa using h27)|exact qJF xB];rfl⟩,by first|omega|(dsimp only;omega)⟩ ⟨O,O,trivial⟩ (λ_ h=>h)
   refine J.b O<|J.D (qAz O O O) O<|J.k 3 O<|J.b9 (d:=23) O (λh23=>?_) (λh23=>?_)
   ·
    refine J.b O<|J.c8 (qAa O O (λF' hF=>qQJ F' ((dec s p).1))) O λg25 _=>J.D (qAt O O) O<|J.b O<|J.c j7<|J.c7 O (λh27=>?_) (λh27=>?_)
    ·
     exact J.g λ_ j9=>J.b O<|J.c j9<|J.A<|J.a8<|J.W<|J.a8<|J.W<|J.E hw0 O () (by unfold right;rw [←he,hrl,zJ,show okR (dec s p).1=false from qVn xB xB (by simpa using h27)];rfl) trivial [0] O xC
    exact J.b5<|J.a3<|J.u<|J.a5 (qKW s p) (λη (hη:_∧s.length-η<s.length-p)=>hI0 η hη.1 hη.2) ⟨⟨xB,by rw [←he,hrl,zJ,show okR (dec s p).1=true by first|exact qJG (by simpa using h27)|exact qJF xB];rfl⟩,by first|omega|(dsimp only;omega)⟩ ⟨O,O,trivial⟩ (λ_ h=>h)
   refine J.k 4 O<|J.c j7<|J.a2 ?_
   exact J.b5<|J.a3<|J.u<|J.a5 (qKW s p) (λη (hη:_∧s.length-η<s.length-p)=>hI0 η hη.1 hη.2) ⟨⟨xB,by rw [←he,hrl,zJ,show okR (dec s p).1=true by first|exact qJG (by simpa using h27)|exact qJF xB];rfl⟩,by first|omega|(dsimp only;omega)⟩ ⟨O,O,trivial⟩ (λ_ h=>h)
  refine J.k 3 O<|J.c6 (Wan.un O O O O) O O ?_
  refine J.c6 (Wan.un O O O O) O O ?_
  refine J.k 7 O<|J.c j7<|J.a2 ?_
  exact J.b5<|J.a3<|J.u<|J.a5 (qKW s p) (λη (hη:_∧s.length-η<s.length-p)=>hI0 η hη.1 hη.2) ⟨⟨xB,by rw [←he,hrl,zJ,show okR (dec s p).1=true by first|exact qJG (by simpa using h27)|exact qJF xB];rfl⟩,by first|omega|(dsimp only;omega)⟩ ⟨O,O,trivial⟩ (λ_ h=>h)
 refine J.b3<|J.a1<|J.a1<|J.b4 ?_
 refine J.u (J.G j2 ?_)
 refine J.q λ_ j10=>J.q λ_ j11=>?_
 have hk1:(rl s).all okR=true:=by rw [←he,jr xB,qKF];rfl
 refine J.H<|J.b O<|J.p (qBr O O (λF' hF=>qRS F' (hT.mono (Fa hF)) s xB)) O ?_
 rintro⟨A29,c29,m29⟩ h29
 try dsimp only at h29
 refine J.f (qAR qAk O O) O<|J.b O<|J.c j11<|J.V<|J.b6 (X:=Nat) (λζ=> [(0,Str (s)),(29,.slice A29 ((spl [] s).length) c29),(30,I ((spl [] s).length:Nat)),(31,I (ζ:Nat))]) (λζ=> [F,m29]) (λζ=>ζ≤(spl [] s).length∧((spl [] s).take ζ).all okP=true) (λζ=>(spl [] s).length-ζ) 0 (⟨xB,O⟩) ⟨O,O,O,O,trivial⟩ (λ_ h=>h.pick [0,2] xC) ?_
 rintro k ⟨hk,hq⟩ I2 hI2
 refine J.g λ_ j12=>J.f (qAS O O O) O<|J.c j12<|J.q λ_ j13=>J.a0 O (λh32=>?_) (λh32=>?_)
 ·
  have hpn:=qLk s []
  have hpl:((spl [] s).getD k []).length≤1000000:=jZ (qWl s k) hs
  refine J.T j13<|J.q λ_ j14=>J.V<|J.g λ_ j15=>J.f (qAF O O O qAk z9_ h29.sl xB) O<|J.f (qAI O O b9_ (m:=m29) xD (h29.sl.elem (qAY (qAi [] xB)))) O<|J.b O<|J.c j15<|J.g λ_ j16=>J.b O<|J.f (qBA O O O) O<|J.b O<|J.b9 (d:=37) O (λh37=>?_) (λh37=>?_)
  ·
   refine J.k 5 O<|J.c j16<|J.c3 ?_
   exact J.g λ_ j17=>J.b O<|J.c j17<|J.A<|J.a8<|J.W<|J.W<|J.a8<|J.W<|J.E hw0 O () (by unfold right;rw [qNz (k:=k) xB (by unfold okP;rw [h37];rfl),Bool.and_false];rfl) trivial [0] O xC
  refine J.b O<|J.c8 (qAa O O (λF' hF=>qYZ F' (hA.mono (Fa hF)) ((spl [] s).getD k []) xB)) O λg39 _=>J.c8 (qAa O O (λF' hF=>qZK F' (qJo (rl ((spl [] s).getD k [])) 0) (qSk _ _ xB))) O λg40 _=>J.D (qAt O O) O<|J.b O<|J.c j16<|J.c7 O (λh42=>?_) (λh42=>?_)
  ·
   exact J.g λ_ j18=>J.b O<|J.c j18<|J.A<|J.a8<|J.W<|J.W<|J.a8<|J.W<|J.E hw0 O () (by unfold right;rw [qNz (k:=k) xB (by unfold okP;rw [show good (qJo (rl ((spl [] s).getD k [])) 0)=false from by simpa using h42,Bool.and_false]),Bool.and_false];rfl) trivial [0] O xC
  refine J.b5<|J.a3<|J.u (J.G j14 ?_)
  exact J.H<|J.f ((qAQ O O O xB).nat (k+1) xB) O<|J.b O<|J.a4<|J.u<|J.a5 (k+1) (λη (hη:_∧(spl [] s).length-η<(spl [] s).length-k)=>hI2 η hη.1 hη.2) ⟨⟨xB,by rw [qTP xB,hq];unfold okP;rw [decide_eq_true h37];simpa using h42⟩,by first|omega|(dsimp only;omega)⟩ ⟨O,O,O,O,trivial⟩ (λ_ h=>h)
 refine J.b3<|J.a1<|J.a1<|J.b4 ?_
 refine J.u (J.G j10 ?_)
 refine J.q λ_ j19=>?_
 have hk2:(spl [] s).all okP=true:=by rw [←hq,jf xB]
 exact J.H<|J.b O<|J.p (qAa O O (λF' hF=>qQN F' s xB)) O λg45 _=>J.f (qCY O O O) O<|J.b O<|J.c j19<|J.A<|J.E hw0 O () (by unfold right;rw [hk1,hk2];exact congrArg Value.bool (decide_eq_decide.2 xB)) trivial [0] O xC
theorem qKX(F:Hp)(hA:qAM F ⟨2,0,none⟩ qBd)(hT:qCI F)(s:xA)(hs:s.length≤1000000):Cz prog 169 [Str (s)] F (.tuple #[Str ((normal s).1),I ((normal s).2:Nat)]):=by
 refine Ct.walk func169 O ntmps169 O (λw0 hw0=>?_)
 refine J.g λ_ j1=>J.k 2 O<|J.c j1<|J.g λ_ j2=>J.b O<|J.p (qAa O O (λF' hF=>qTn F' (hT.mono (Fa hF)) s xB)) O λg8 _=>J.k 5 O<|J.c j2<|J.q λ_ j3=>J.V<|J.g λ_ j4=>J.b O<|J.f (qAt O O) O<|J.b O<|J.c j4<|J.c7 O (λh11=>?_) (λh11=>?_)
 ·
  exact J.g λ_ j5=>J.k 2 O<|J.c j5<|J.A<|J.a8<|J.W<|J.b0 hw0 (λ_ _ h=>h) (qCK O O O) (qAn () (by unfold normal;rw [if_neg (by simpa using h11)];rfl) trivial [0] O xC)
 refine J.q λ_ j6=>?_
 have hv:vld s=true:=by simpa using h11
 refine J.H<|J.b O<|J.f (qAz O O O) O<|J.b O<|J.c j6<|J.a0 O (λh14=>?_) (λh14=>?_)
 ·
  refine J.q λ_ j7=>?_
  rw [if_pos hv] at h14
  exact J.H<|J.k 2 O<|J.c j7<|J.A<|J.a8<|J.W<|J.b0 hw0 (λ_ _ h=>h) (qCK O O O) (qAn () (by unfold normal;rw [if_pos hv,if_neg xB];rfl) trivial [0] O xC)
 refine J.q λ_ j8=>?_
 rw [if_pos hv] at h14
 refine J.H<|J.b O<|J.p (qAa O O (λF' hF=>qRR F' (hA.mono (Fa hF)) (hT.mono (Fa hF)) s xB)) O λg19 _=>J.f (qAt O O) O<|J.b O<|J.c j8<|J.c7 O (λh17=>?_) (λh17=>?_)
 ·
  exact J.g λ_ j9=>J.k 2 O<|J.c j9<|J.A<|J.a8<|J.W<|J.b0 hw0 (λ_ _ h=>h) (qCK O O O) (qAn () (by unfold normal;rw [if_pos hv,if_pos xB,if_neg (by simpa using h17)];rfl) trivial [0] O xC)
 refine J.b5<|J.a3<|J.u (J.G j3 ?_)
 exact J.g λ_ j10=>J.b O<|J.p (qAa O O (λF' hF=>qZS F' (hA.mono (Fa hF)) (hT.mono (Fa hF)) s xB xG)) O λg22 _=>J.k 2 O<|J.c j10<|J.A<|J.b0 hw0 (λ_ _ h=>h) (qCK O O O) (qAn () (by unfold normal;rw [if_pos hv,if_pos xB,if_pos (by simpa using h17)];rfl) trivial [0] O xC)
end Go.Proofs.YtcgcjaflllmlpaaGreatDoor