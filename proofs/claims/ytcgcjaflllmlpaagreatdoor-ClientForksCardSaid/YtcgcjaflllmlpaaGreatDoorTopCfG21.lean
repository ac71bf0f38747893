/- A part of the proof. -/
import Derived.Test.YtcgcjaflllmlpaaGreatDoorTopCfG20
import Derived.Shelf.Strings.MapGrows
import Derived.Test.YtcgcjaflllmlpaaGreatDoorTopCfG8
set_option linter.unusedSimpArgs false
set_option linter.unusedVariables false
namespace Go.Proofs.YtcgcjaflllmlpaaGreatDoor
open Go Go.Fw Go.Proofs.Tryz
set_option maxRecDepth 100000
set_option maxHeartbeats 1000000
open Go.Shelf Go.RowKit
def Tryz.lays230_ren:Go.Shelf.Ren:=⟨λ|230=>202|197=>229|118=>230|165=>111|166=>112|168=>231|270=>232|167=>136|169=>114|260=>250|240=>167|241=>168|242=>251|276=>198|277=>199|278=>259|n=>n,λ|107=>302|9=>9|72=>156|0=>0|4=>4|3=>3|21=>21|105=>329|76=>204|5=>5|75=>203|70=>154|20=>20|37=>80|127=>263|119=>347|46=>198|139=>350|138=>349|164=>297|51=>253|80=>64|n=>n,λ|3=>3|4=>4|n=>n⟩
theorem Tryz.lays230:Go.Proofs.Lays.n230 prog Tryz.lays230_ren:={
 mixed:=by kernel_rfl
 f118:=func230.trans (congrArg some (by kernel_rfl))
 f165:=func111.trans (congrArg some (by kernel_rfl))
 f166:=func112.trans (congrArg some (by kernel_rfl))
 f167:=func136.trans (congrArg some (by kernel_rfl))
 f168:=func231.trans (congrArg some (by kernel_rfl))
 f169:=func114.trans (congrArg some (by kernel_rfl))
 f197:=func229.trans (congrArg some (by kernel_rfl))
 f230:=func202.trans (congrArg some (by kernel_rfl))
 f240:=func167.trans (congrArg some (by kernel_rfl))
 f241:=func168.trans (congrArg some (by kernel_rfl))
 f242:=func251.trans (congrArg some (by kernel_rfl))
 f260:=func250.trans (congrArg some (by kernel_rfl))
 f270:=func232.trans (congrArg some (by kernel_rfl))
 f276:=func198.trans (congrArg some (by kernel_rfl))
 f277:=func199.trans (congrArg some (by kernel_rfl))
 f278:=func259.trans (congrArg some (by kernel_rfl))
 t0:=u0_
 a0:=isAgg0
 z0:=sizeOf0
 v0:=e0_
 t3:=u3_
 a3:=b3_
 z3:=z3_
 v3:=e3_
 t4:=u4_
 a4:=b4_
 z4:=z4_
 v4:=e4_
 t5:=u5_
 a5:=b5_
 z5:=z5_
 v5:=e5_
 t9:=u9_
 a9:=b9_
 z9:=z9_
 v9:=e9_
 t20:=underlying20
 a20:=isAgg20
 z20:=sizeOf20
 v20:=zeroValue20
 t21:=underlying21
 a21:=isAgg21
 z21:=sizeOf21
 v21:=zeroValue21
 t37:=qBl
 a37:=qO0
 z37:=qJM
 v37:=zeroValue80
 t46:=qIH
 a46:=isAgg198
 z46:=sizeOf198
 v46:=zeroValue198
 t51:=qJc
 a51:=qC3
 z51:=qB9
 v51:=zeroValue253
 t70:=qNy
 a70:=isAgg154
 z70:=sizeOf154
 v70:=zeroValue154
 t72:=qDQ
 a72:=isAgg156
 z72:=sizeOf156
 v72:=zeroValue156
 t75:=underlying203
 a75:=isAgg203
 z75:=sizeOf203
 v75:=zeroValue203
 t76:=underlying204
 a76:=isAgg204
 z76:=sizeOf204
 v76:=zeroValue204
 t105:=underlying329
 a105:=isAgg329
 z105:=sizeOf329
 v105:=zeroValue329
 t107:=underlying302
 a107:=isAgg302
 z107:=sizeOf302
 v107:=zeroValue302
 t119:=underlying347
 a119:=isAgg347
 z119:=sizeOf347
 t127:=underlying263
 a127:=isAgg263
 z127:=sizeOf263
 v127:=zeroValue263
 t138:=underlying349
 a138:=isAgg349
 z138:=sizeOf349
 v138:=zeroValue349
 t139:=underlying350
 a139:=isAgg350
 z139:=sizeOf350
 v139:=zeroValue350
 t164:=underlying297
 a164:=isAgg297
 z164:=sizeOf297
 v164:=zeroValue297
 g3:=by kernel_rfl
 g4:=by kernel_rfl}
theorem Tryz.extra230:Builder.Extra prog Tryz.lays230_ren:={
 sizeBuilder:=by kernel_rfl
 liesBuilder:=by kernel_rfl
 t5:=Tryz.lays230.t5
 a5:=Tryz.lays230.a5
 z5:=Tryz.lays230.z5
 v5:=Tryz.lays230.v5
 infoByte:=by kernel_rfl
 cellsByte:=by kernel_rfl
 sizeByte:=by kernel_rfl
 neB5:=by decide}
theorem qXM{r:Nat}(h:Rn r):Lib.encodeRune (r:Int)=enc r:=by
  obtain ⟨h1,h2⟩:=h
  have cv: ∀n:Nat,((n:Int).toNat.toUInt8)=UInt8.ofNat n:=λn=>by rw [jT]
  unfold Lib.encodeRune Lib.encodeRuneZ enc
  by_cases a:r<128
  · rw [if_pos (by omega),if_pos a,jZ,zT,cv]
  by_cases b:r<2048
  · rw [if_neg (by omega),if_pos (by omega),if_neg a,if_pos b]
    simp only [jZ,zT]
    rw [show(192:Int)+(r:Int)/64=((192+r/64:Nat):Int) by omega,show(128:Int)+(r:Int)%64=((128+r%64:Nat):Int) by omega,cv,cv]
  by_cases c:r<65536
  · rw [if_neg (by omega),if_neg (by omega),if_pos (by omega),if_neg a,if_neg b,if_pos c]
    simp only [jZ,zT]
    rw [show(224:Int)+(r:Int)/4096=((224+r/4096:Nat):Int) by omega,show(128:Int)+(r:Int)/64%64=((128+r/64%64:Nat):Int) by omega,show(128:Int)+(r:Int)%64=((128+r%64:Nat):Int) by omega,cv,cv,cv]
  · rw [if_neg (by omega),if_neg (by omega),if_neg (by omega),if_pos (by omega),if_neg a,if_neg b,if_neg c]
    simp only [jZ,zT]
    rw [show(240:Int)+(r:Int)/262144=((240+r/262144:Nat):Int) by omega,show(128:Int)+(r:Int)/4096%64=((128+r/4096%64:Nat):Int) by omega,show(128:Int)+(r:Int)/64%64=((128+r/64%64:Nat):Int) by omega,show(128:Int)+(r:Int)%64=((128+r%64:Nat):Int) by omega,cv,cv,cv,cv]
def qEa(z:Int):Int:=(small z.toNat:Int)
theorem qNG: ∀(l:List Nat),(∀r∈l,Rn r)→ ∀n,(unr l).length≤n→Lib.mapGoD qEa n (unr l)=unr (l.map small)
 | [],_,n,_=>by cases n<;>rfl
 |r::l,h,0,hn=>by
  have:=List.length_pos_iff.2 (qGu r)
  rw [qCP,jA] at hn;omega
 |r::l,h,n+1,hn=>by
  have hr:=h r (.head _)
  have:=List.length_pos_iff.2 (qGu r)
  have hd:Lib.decodeL (enc r++unr l)=(r,(enc r).length):=qGy hr (unr l)
  rw [qCP,jA] at hn
  rw [Lib.mapGoD,qCP,if_neg (by simp [qGu]),hd]
  dsimp only
  have hz:qEa (r:Int)=((small r:Nat):Int):=by unfold qEa;rw [jT]
  rw [List.drop_left,qNG l (λx hx=>h x (.tail _ hx)) n (by omega),hz,if_pos (Int.natCast_nonneg _),jZ,qCP,qXM (qTE hr)]
theorem qYY(F:Hp)(hA:qAR F ⟨2,0,none⟩ qBY)(hT:qB5 F)(s:List UInt8)(hs:s.length≤1000000)(hv:vld s=true):Cz prog 202 [.func (.func 203) #[] #[],Str s] F (Str (unr ((rl s).map small))):=Ct.ofBelow λw hw=>by
 have h:=Any.strings_Map_grows Tryz.lays230 Tryz.extra230 203 #[] ent203 qEa ⟨s.toArray⟩ w (by rw [qCm];omega) (by
  intro W x hx hb
  have hW:Le F (hp W):=λg o ho=>by
   have h1:=hw g o ho
   show W.heap[g]?=some o
   rw [hb.block g (qFE h1)];exact h1
  have hc:=Ct.below (qMW (hp W) (hA.mono hW) x (by omega))
  have hz:qEa (x:Int)=((small x:Nat):Int):=by unfold qEa;rw [jT]
  rw [hz]
  exact hc) (by
  intro x hx
  have:=qSx x
  have hz:qEa (x:Int)=((small x:Nat):Int):=by unfold qEa;rw [jT]
  rw [hz]
  exact⟨by omega,by omega⟩) (hT.tabs hw)
 have e:Lib.mapD qEa s=unr ((rl s).map small):=by
  obtain ⟨h1,h2⟩:=qPG hv
  have:=qNG (rl s) h1 s.length (by rw [←h2];exact jK _)
  rw [←h2] at this;exact this
 rw [e] at h
 exact h
end Go.Proofs.YtcgcjaflllmlpaaGreatDoor
namespace Go.Proofs.YtcgcjaflllmlpaaGreatDoor
open Go Go.Fw Go.Proofs.Tryz
set_option maxRecDepth 100000
set_option maxHeartbeats 1000000
theorem ent200:qAD prog 200:=qAD.of func200 rfl (by kernel_rfl)
theorem ent201:qAD prog 201:=qAD.of func201 rfl (by kernel_rfl)
theorem ent202:qAD prog 202:=qAD.of func202 rfl (by kernel_rfl)
theorem ent225:qAD prog 225:=qAD.of func225 rfl (by kernel_rfl)
theorem ent226:qAD prog 226:=qAD.of func226 rfl (by kernel_rfl)
theorem ent227:qAD prog 227:=qAD.of func227 rfl (by kernel_rfl)
theorem ent228:qAD prog 228:=qAD.of func228 rfl (by kernel_rfl)
theorem qQt(F:Hp)(hA:qAR F ⟨2,0,none⟩ qBY)(hT:qB5 F)(s:List UInt8)(hs:s.length≤1000000):Cz prog 201 [Str (s)] F (.bool (right s)):=by
 refine Ct.walk func201 rfl ntmps201 rfl (λw0 hw0=>?_)
 refine J.f λ_ j1=>J.b O<|J.c j1<|J.k λ_ j2=>J.f λ_ j3=>J.b O<|J.p (qEi O O u9_) O ?_
 rintro g8 _
 refine J.c j3<|J.O<|J.b4 (X:=Nat) (λζ=> [(0,Str (s)),(8,Ptr g8)]) (λζ=> [F,itr g8 s ζ]) (λζ=>ζ≤s.length∧(rl (s.drop ζ)).all okR=(rl s).all okR) (λζ=>s.length-ζ) 0 (⟨by omega,O⟩) ⟨O,O,trivial⟩ (λ_ h=>h) ?_
 rintro p ⟨hp,he⟩ I0 hI0
 refine J.f λ_ j4=>J.p (qFo (i:=1) O O O) O ?_
 rintro _ _
 refine J.g (qAh O O (qTc _ _)) O<|J.c j4<|J.k λ_ j5=>J.W O (λh10=>?_) (λh10=>?_)
 ·
  have hps:p<s.length:=h10
  have hnp:=qDh hps
  have hdl:=qNX s p hps
  have hdr:=qFx s p (by omega)
  have hdp:=qEQ s p (by omega)
  have hrl:=qTF hps
  refine J.M j5<|J.O<|J.f λ_ j6=>J.g (qAh O O (qWp hps)) O<|J.b O<|J.c j6<|J.f λ_ j7=>J.b O<|J.p (qAB O O ent223 (Ct.use0 (λF' hF=>qKJ F' (hA.mono (Fa hF)) ((dec s p).1) (by omega)))) O λg13 _=>J.g (qAg O O O) O<|J.b O<|J.b9 (d:=15) O (λh15=>?_) (λh15=>?_)
  ·
   refine J.b O<|J.G (qAT O O O) O<|J.b O<|J.b9 (d:=18) O (λh18=>?_) (λh18=>?_)
   ·
    refine J.q 6 O<|J.c9 (qAB O O ent224 (Ct.use0 (λF' hF=>qPi F' ((dec s p).1)))) O λg25 _=>J.G (qAy O O) O<|J.b O<|J.c j7<|J.c6 O (λh27=>?_) (λh27=>?_)
    ·
     exact J.f λ_ j8=>J.b O<|J.c j8<|J.A<|J.a7<|J.V<|J.a7<|J.V<|J.E hw0 O () (by unfold right;rw [←he,hrl,zJ,show okR (dec s p).1=false from qU6 (by omega) (by omega) (by simpa using h27)];rfl) trivial [0] rfl (by decide)
    exact J.b5<|J.a2<|J.u<|J.a4 (qKA s p) (λη (hη:_∧s.length-η<s.length-p)=>hI0 η hη.1 hη.2) ⟨⟨by omega,by rw [←he,hrl,zJ,show okR (dec s p).1=true by first|exact qIr (by simpa using h27)|exact qIq (by omega)];rfl⟩,by first|omega|(dsimp only;omega)⟩ ⟨rfl,rfl,trivial⟩ (λ_ h=>h)
   refine J.b O<|J.G (qA5 O O O) O<|J.q 3 O<|J.b9 (d:=23) O (λh23=>?_) (λh23=>?_)
   ·
    refine J.b O<|J.c9 (qAB O O ent224 (Ct.use0 (λF' hF=>qPi F' ((dec s p).1)))) O λg25 _=>J.G (qAy O O) O<|J.b O<|J.c j7<|J.c6 O (λh27=>?_) (λh27=>?_)
    ·
     exact J.f λ_ j9=>J.b O<|J.c j9<|J.A<|J.a7<|J.V<|J.a7<|J.V<|J.E hw0 O () (by unfold right;rw [←he,hrl,zJ,show okR (dec s p).1=false from qU6 (by omega) (by omega) (by simpa using h27)];rfl) trivial [0] rfl (by decide)
    exact J.b5<|J.a2<|J.u<|J.a4 (qKA s p) (λη (hη:_∧s.length-η<s.length-p)=>hI0 η hη.1 hη.2) ⟨⟨by omega,by rw [←he,hrl,zJ,show okR (dec s p).1=true by first|exact qIr (by simpa using h27)|exact qIq (by omega)];rfl⟩,by first|omega|(dsimp only;omega)⟩ ⟨rfl,rfl,trivial⟩ (λ_ h=>h)
   refine J.q 4 O<|J.c j7<|J.a1 ?_
   exact J.b5<|J.a2<|J.u<|J.a4 (qKA s p) (λη (hη:_∧s.length-η<s.length-p)=>hI0 η hη.1 hη.2) ⟨⟨by omega,by rw [←he,hrl,zJ,show okR (dec s p).1=true by first|exact qIr (by simpa using h27)|exact qIq (by omega)];rfl⟩,by first|omega|(dsimp only;omega)⟩ ⟨rfl,rfl,trivial⟩ (λ_ h=>h)
  refine J.q 3 O<|J.c8 (Wan.un O O O O) O O ?_
  refine J.c8 (Wan.un O O O O) O O ?_
  refine J.q 7 O<|J.c j7<|J.a1 ?_
  exact J.b5<|J.a2<|J.u<|J.a4 (qKA s p) (λη (hη:_∧s.length-η<s.length-p)=>hI0 η hη.1 hη.2) ⟨⟨by omega,by rw [←he,hrl,zJ,show okR (dec s p).1=true by first|exact qIr (by simpa using h27)|exact qIq (by omega)];rfl⟩,by first|omega|(dsimp only;omega)⟩ ⟨rfl,rfl,trivial⟩ (λ_ h=>h)
 refine J.b2<|J.a0<|J.a0<|J.b3 ?_
 refine J.u (J.D j2 ?_)
 refine J.k λ_ j10=>J.k λ_ j11=>?_
 have hk1:(rl s).all okR=true:=by rw [←he,jp (by omega),qJs];rfl
 refine J.H<|J.b O<|J.p (qAB O O ent225 (Ct.use (λF' hF=>qQu F' (hT.mono (Fa hF)) s (by omega)))) O ?_
 rintro⟨A29,c29,m29⟩ h29
 try dsimp only at h29
 refine J.g (qAU qAk O O) O<|J.b O<|J.c j11<|J.O<|J.b4 (X:=Nat) (λζ=> [(0,Str (s)),(29,.slice A29 ((spl [] s).length) c29),(30,I (((spl [] s).length:Nat):Int)),(31,I ((ζ:Nat):Int))]) (λζ=> [F,m29]) (λζ=>ζ≤(spl [] s).length∧((spl [] s).take ζ).all okP=true) (λζ=>(spl [] s).length-ζ) 0 (⟨by omega,O⟩) ⟨O,O,O,O,trivial⟩ (λ_ h=>h.pick [0,2] (by decide)) ?_
 rintro k ⟨hk,hq⟩ I2 hI2
 refine J.f λ_ j12=>J.g (qAT O O O) O<|J.c j12<|J.k λ_ j13=>J.W O (λh32=>?_) (λh32=>?_)
 ·
  have hpn:=qLM s []
  have hpl:((spl [] s).getD k []).length≤1000000:=jb (qVu s k) hs
  refine J.M j13<|J.k λ_ j14=>J.O<|J.f λ_ j15=>J.g (qAH O O O qAk z9_ h29.sl (by omega)) O<|J.g (qAJ O O b9_ (m:=m29) (by simp) (h29.sl.elem (qAa (qAj [] (by omega))))) rfl<|J.b rfl<|J.c j15<|J.f λ_ j16=>J.b rfl<|J.g (qBS rfl rfl rfl) rfl<|J.b rfl<|J.b9 (d:=37) rfl (λh37=>?_) (λh37=>?_)
  ·
   refine J.q 5 O<|J.c j16<|J.c4 ?_
   exact J.f λ_ j17=>J.b O<|J.c j17<|J.A<|J.a7<|J.V<|J.V<|J.a7<|J.V<|J.E hw0 O () (by unfold right;rw [qNW (k:=k) (by omega) (by unfold okP;rw [h37];rfl),Bool.and_false];rfl) trivial [0] rfl (by decide)
  refine J.b O<|J.c9 (qAB O O ent227 (Ct.use0 (λF' hF=>qXk F' (hA.mono (Fa hF)) ((spl [] s).getD k []) (by omega)))) O λg39 _=>J.c9 (qAB O O ent226 (Ct.use0 (λF' hF=>qYQ F' (qJR (rl ((spl [] s).getD k [])) 0) (qR5 _ _ (by omega))))) O λg40 _=>J.G (qAy O O) O<|J.b O<|J.c j16<|J.c6 O (λh42=>?_) (λh42=>?_)
  ·
   exact J.f λ_ j18=>J.b O<|J.c j18<|J.A<|J.a7<|J.V<|J.V<|J.a7<|J.V<|J.E hw0 O () (by unfold right;rw [qNW (k:=k) (by omega) (by unfold okP;rw [show good (qJR (rl ((spl [] s).getD k [])) 0)=false from by simpa using h42,Bool.and_false]),Bool.and_false];rfl) trivial [0] rfl (by decide)
  refine J.b5<|J.a2<|J.u (J.D j14 ?_)
  exact J.H<|J.g ((qAS O O O (by omega)).nat (k+1) (by omega)) O<|J.b O<|J.a3<|J.u<|J.a4 (k+1) (λη (hη:_∧(spl [] s).length-η<(spl [] s).length-k)=>hI2 η hη.1 hη.2) ⟨⟨by omega,by rw [qSk (by omega),hq];unfold okP;rw [decide_eq_true h37];simpa using h42⟩,by first|omega|(dsimp only;omega)⟩ ⟨rfl,rfl,rfl,rfl,trivial⟩ (λ_ h=>h)
 refine J.b2<|J.a0<|J.a0<|J.b3 ?_
 refine J.u (J.D j10 ?_)
 refine J.k λ_ j19=>?_
 have hk2:(spl [] s).all okP=true:=by rw [←hq,jc (by omega)]
 exact J.H<|J.b O<|J.p (qAB O O ent228 (Ct.use0 (λF' hF=>qPm F' s (by omega)))) O λg45 _=>J.g (qCM O O O) O<|J.b O<|J.c j19<|J.A<|J.E hw0 O () (by unfold right;rw [hk1,hk2];exact congrArg Value.bool (decide_eq_decide.2 (by omega))) trivial [0] rfl (by decide)
theorem qKB(F:Hp)(hA:qAR F ⟨2,0,none⟩ qBY)(hT:qB5 F)(s:List UInt8)(hs:s.length≤1000000):Cz prog 169 [Str (s)] F (.tuple #[Str ((normal s).1),I (((normal s).2:Nat):Int)]):=by
 refine Ct.walk func169 rfl ntmps169 rfl (λw0 hw0=>?_)
 refine J.f λ_ j1=>J.q 2 O<|J.c j1<|J.f λ_ j2=>J.b O<|J.p (qAB O O ent200 (Ct.use0 (λF' hF=>qS8 F' (hT.mono (Fa hF)) s (by omega)))) O λg8 _=>J.q 5 O<|J.c j2<|J.k λ_ j3=>J.O<|J.f λ_ j4=>J.b O<|J.g (qAy O O) O<|J.b O<|J.c j4<|J.c6 O (λh11=>?_) (λh11=>?_)
 ·
  exact J.f λ_ j5=>J.q 2 O<|J.c j5<|J.A<|J.a7<|J.V<|J.a9 hw0 (λ_ _ h=>h) (qCG O O O) (qAq () (by unfold normal;rw [if_neg (by simpa using h11)];rfl) trivial [0] rfl (by decide))
 refine J.k λ_ j6=>?_
 have hv:vld s=true:=by simpa using h11
 refine J.H<|J.b O<|J.g (qA5 O O O) O<|J.b O<|J.c j6<|J.W O (λh14=>?_) (λh14=>?_)
 ·
  refine J.k λ_ j7=>?_
  rw [if_pos hv] at h14
  exact J.H<|J.q 2 O<|J.c j7<|J.A<|J.a7<|J.V<|J.a9 hw0 (λ_ _ h=>h) (qCG O O O) (qAq () (by unfold normal;rw [if_pos hv,if_neg (by omega)];rfl) trivial [0] rfl (by decide))
 refine J.k λ_ j8=>?_
 rw [if_pos hv] at h14
 refine J.H<|J.b O<|J.p (qAB O O ent201 (Ct.use0 (λF' hF=>qQt F' (hA.mono (Fa hF)) (hT.mono (Fa hF)) s (by omega)))) O λg19 _=>J.g (qAy O O) O<|J.b O<|J.c j8<|J.c6 O (λh17=>?_) (λh17=>?_)
 ·
  exact J.f λ_ j9=>J.q 2 O<|J.c j9<|J.A<|J.a7<|J.V<|J.a9 hw0 (λ_ _ h=>h) (qCG O O O) (qAq () (by unfold normal;rw [if_pos hv,if_pos (by omega),if_neg (by simpa using h17)];rfl) trivial [0] rfl (by decide))
 refine J.b5<|J.a2<|J.u (J.D j3 ?_)
 exact J.f λ_ j10=>J.b O<|J.p (qAB O O ent202 (Ct.use0 (λF' hF=>qYY F' (hA.mono (Fa hF)) (hT.mono (Fa hF)) s (by omega) (by assumption)))) O λg22 _=>J.q 2 O<|J.c j10<|J.A<|J.a9 hw0 (λ_ _ h=>h) (qCG O O O) (qAq () (by unfold normal;rw [if_pos hv,if_pos (by omega),if_pos (by simpa using h17)];rfl) trivial [0] rfl (by decide))
end Go.Proofs.YtcgcjaflllmlpaaGreatDoor
