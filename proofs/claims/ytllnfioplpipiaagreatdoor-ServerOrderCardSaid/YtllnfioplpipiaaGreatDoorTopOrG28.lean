/- A part of the proof. -/
import Derived.Test.YtllnfioplpipiaaGreatDoorTopOrG27
import Derived.Shelf.Strings.MapGrows
import Derived.Test.YtllnfioplpipiaaGreatDoorTopOrG8
set_option linter.unusedSimpArgs false
set_option linter.unusedVariables false
namespace Go.Proofs.YtllnfioplpipiaaGreatDoor
open Go Go.Fw Go.Proofs.Tryz
set_option maxRecDepth 100000
set_option maxHeartbeats 1000000
open Go.Shelf Go.RowKit
def Tryz.lays230_ren:Go.Shelf.Ren:=⟨λ|230=>195|197=>230|118=>231|165=>79|166=>80|168=>232|270=>233|167=>167|169=>82|260=>249|240=>146|241=>147|242=>250|276=>191|277=>192|278=>265|n=>n,λ|107=>280|9=>9|72=>131|0=>0|4=>4|3=>3|21=>21|105=>318|76=>168|5=>5|75=>167|70=>129|20=>20|37=>22|127=>235|119=>333|46=>161|139=>336|138=>335|164=>274|51=>230|80=>56|n=>n,λ|3=>3|4=>4|n=>n⟩
theorem Tryz.lays230:Go.Proofs.Lays.n230 prog Tryz.lays230_ren:={
 mixed:=by kernel_rfl
 f118:=func231.trans (congrArg some (by kernel_rfl))
 f165:=func79.trans (congrArg some (by kernel_rfl))
 f166:=func80.trans (congrArg some (by kernel_rfl))
 f167:=func167.trans (congrArg some (by kernel_rfl))
 f168:=func232.trans (congrArg some (by kernel_rfl))
 f169:=func82.trans (congrArg some (by kernel_rfl))
 f197:=func230.trans (congrArg some (by kernel_rfl))
 f230:=func195.trans (congrArg some (by kernel_rfl))
 f240:=func146.trans (congrArg some (by kernel_rfl))
 f241:=func147.trans (congrArg some (by kernel_rfl))
 f242:=func250.trans (congrArg some (by kernel_rfl))
 f260:=func249.trans (congrArg some (by kernel_rfl))
 f270:=func233.trans (congrArg some (by kernel_rfl))
 f276:=func191.trans (congrArg some (by kernel_rfl))
 f277:=func192.trans (congrArg some (by kernel_rfl))
 f278:=func265.trans (congrArg some (by kernel_rfl))
 t0:=u0_
 a0:=isAgg0
 z0:=sizeOf0
 v0:=e0_
 t3:=u3_
 a3:=b3_
 z3:=z3_
 v3:=e3_
 t4:=u4_
 a4:=b4_
 z4:=z4_
 v4:=e4_
 t5:=u5_
 a5:=b5_
 z5:=z5_
 v5:=e5_
 t9:=u9_
 a9:=b9_
 z9:=z9_
 v9:=e9_
 t20:=underlying20
 a20:=isAgg20
 z20:=sizeOf20
 v20:=zeroValue20
 t21:=underlying21
 a21:=isAgg21
 z21:=sizeOf21
 v21:=zeroValue21
 t37:=qBV
 a37:=qMN
 z37:=qHq
 v37:=zeroValue22
 t46:=qGy
 a46:=isAgg161
 z46:=sizeOf161
 v46:=zeroValue161
 t51:=qH5
 a51:=qCX
 z51:=qBk
 v51:=zeroValue230
 t70:=qLb
 a70:=isAgg129
 z70:=sizeOf129
 v70:=zeroValue129
 t72:=qCt
 a72:=isAgg131
 z72:=sizeOf131
 v72:=zeroValue131
 t75:=underlying167
 a75:=isAgg167
 z75:=sizeOf167
 v75:=zeroValue167
 t76:=underlying168
 a76:=isAgg168
 z76:=sizeOf168
 v76:=zeroValue168
 t105:=underlying318
 a105:=isAgg318
 z105:=sizeOf318
 v105:=zeroValue318
 t107:=underlying280
 a107:=isAgg280
 z107:=sizeOf280
 v107:=zeroValue280
 t119:=underlying333
 a119:=isAgg333
 z119:=sizeOf333
 t127:=underlying235
 a127:=isAgg235
 z127:=sizeOf235
 v127:=zeroValue235
 t138:=underlying335
 a138:=isAgg335
 z138:=sizeOf335
 v138:=zeroValue335
 t139:=underlying336
 a139:=isAgg336
 z139:=sizeOf336
 v139:=zeroValue336
 t164:=underlying274
 a164:=isAgg274
 z164:=sizeOf274
 v164:=zeroValue274
 g3:=by kernel_rfl
 g4:=by kernel_rfl}
theorem Tryz.extra230:Builder.Extra prog Tryz.lays230_ren:={
 sizeBuilder:=by kernel_rfl
 liesBuilder:=by kernel_rfl
 t5:=Tryz.lays230.t5
 a5:=Tryz.lays230.a5
 z5:=Tryz.lays230.z5
 v5:=Tryz.lays230.v5
 infoByte:=by kernel_rfl
 cellsByte:=by kernel_rfl
 sizeByte:=by kernel_rfl
 neB5:=by decide}
theorem qTQ{r:Nat}(h:Rn r):Lib.encodeRune (r:Int)=enc r:=by
  obtain ⟨h1,h2⟩:=h
  have cv: ∀n:Nat,((n:Int).toNat.toUInt8)=UInt8.ofNat n:=λn=>by rw [Int.toNat_natCast]
  unfold Lib.encodeRune Lib.encodeRuneZ enc
  by_cases a:r<128
  · rw [if_pos (by omega),if_pos a,List.map_cons,List.map_nil,cv]
  by_cases b:r<2048
  · rw [if_neg (by omega),if_pos (by omega),if_neg a,if_pos b]
    simp only [List.map_cons,List.map_nil]
    rw [show(192:Int)+(r:Int)/64=((192+r/64:Nat):Int) by omega,show(128:Int)+(r:Int)%64=((128+r%64:Nat):Int) by omega,cv,cv]
  by_cases c:r<65536
  · rw [if_neg (by omega),if_neg (by omega),if_pos (by omega),if_neg a,if_neg b,if_pos c]
    simp only [List.map_cons,List.map_nil]
    rw [show(224:Int)+(r:Int)/4096=((224+r/4096:Nat):Int) by omega,show(128:Int)+(r:Int)/64%64=((128+r/64%64:Nat):Int) by omega,show(128:Int)+(r:Int)%64=((128+r%64:Nat):Int) by omega,cv,cv,cv]
  · rw [if_neg (by omega),if_neg (by omega),if_neg (by omega),if_pos (by omega),if_neg a,if_neg b,if_neg c]
    simp only [List.map_cons,List.map_nil]
    rw [show(240:Int)+(r:Int)/262144=((240+r/262144:Nat):Int) by omega,show(128:Int)+(r:Int)/4096%64=((128+r/4096%64:Nat):Int) by omega,show(128:Int)+(r:Int)/64%64=((128+r/64%64:Nat):Int) by omega,show(128:Int)+(r:Int)%64=((128+r%64:Nat):Int) by omega,cv,cv,cv,cv]
def qDk(z:Int):Int:=(small z.toNat:Int)
theorem qK1: ∀(l:List Nat),(∀r∈l,Rn r)→ ∀n,(unr l).length≤n→Lib.mapGoD qDk n (unr l)=unr (l.map small)
 | [],_,n,_=>by cases n<;>rfl
 |r::l,h,0,hn=>by
  have:=List.length_pos_iff.2 (qFk r)
  rw [qBt,List.length_append] at hn;omega
 |r::l,h,n+1,hn=>by
  have hr:=h r (.head _)
  have:=List.length_pos_iff.2 (qFk r)
  have hd:Lib.decodeL (enc r++unr l)=(r,(enc r).length):=qFo hr (unr l)
  rw [qBt,List.length_append] at hn
  rw [Lib.mapGoD,qBt,if_neg (by simp [qFk]),hd]
  dsimp only
  have hz:qDk (r:Int)=((small r:Nat):Int):=by unfold qDk;rw [Int.toNat_natCast]
  rw [List.drop_left,qK1 l (λx hx=>h x (.tail _ hx)) n (by omega),hz,if_pos (Int.natCast_nonneg _),List.map_cons,qBt,qTQ (qPj hr)]
theorem qUN(F:Hp)(hA:qAL F ⟨2,0,none⟩ qBT)(hT:qBx F)(s:List UInt8)(hs:s.length≤1000000)(hv:vld s=true):Ct prog 195 [.func (.func 196) #[] #[],Str s] [F] (λ_:Unit=>Str (unr ((rl s).map small))) (λ_=>True) (λ_=> [F]):=Ct.ofBelow λw hw=>by
 have h:=Any.strings_Map_grows Tryz.lays230 Tryz.extra230 196 #[] ent196 qDk ⟨s.toArray⟩ w (by rw [qCO];omega) (by
  intro W x hx hb
  have hW:Le F (hp W):=λg o ho=>by
   have h1:=hw g o ho
   show W.heap[g]?=some o
   rw [hb.block g (qEN h1)];exact h1
  have hc:=Ct.below (qKa (hp W) (hA.mono hW) x (by omega))
  have hz:qDk (x:Int)=((small x:Nat):Int):=by unfold qDk;rw [Int.toNat_natCast]
  rw [hz]
  exact hc) (by
  intro x hx
  have:=qPV x
  have hz:qDk (x:Int)=((small x:Nat):Int):=by unfold qDk;rw [Int.toNat_natCast]
  rw [hz]
  exact⟨by omega,by omega⟩) (hT.tabs hw)
 have e:Lib.mapD qDk s=unr ((rl s).map small):=by
  obtain ⟨h1,h2⟩:=qMZ hv
  have:=qK1 (rl s) h1 s.length (by rw [←h2];exact Nat.le_refl _)
  rw [←h2] at this;exact this
 rw [e] at h
 exact h
end Go.Proofs.YtllnfioplpipiaaGreatDoor
namespace Go.Proofs.YtllnfioplpipiaaGreatDoor
open Go Go.Fw Go.Proofs.Tryz
set_option maxRecDepth 100000
set_option maxHeartbeats 1000000
theorem ent193:qAD prog 193:=qAD.of func193 rfl (by kernel_rfl)
theorem ent194:qAD prog 194:=qAD.of func194 rfl (by kernel_rfl)
theorem ent195:qAD prog 195:=qAD.of func195 rfl (by kernel_rfl)
theorem ent226:qAD prog 226:=qAD.of func226 rfl (by kernel_rfl)
theorem ent227:qAD prog 227:=qAD.of func227 rfl (by kernel_rfl)
theorem ent228:qAD prog 228:=qAD.of func228 rfl (by kernel_rfl)
theorem ent229:qAD prog 229:=qAD.of func229 rfl (by kernel_rfl)
theorem qNr(F:Hp)(hA:qAL F ⟨2,0,none⟩ qBT)(hT:qBx F)(s:List UInt8)(hs:s.length≤1000000):Ct prog 194 [Str (s)] [F] (λ_:Unit=> .bool (right s)) (λ_=>True) (λ_=> [F]):=by
 refine Ct.walk func194 rfl ntmps194 rfl (λw0 hw0=>?_)
 change J _ [(0,_)] _ _ _
 refine J.g λK1 hK1=>J.b O<|J.c hK1<|J.u 0 ?_
 refine J.j λK2 hK2=>J.g λK3 hK3=>J.b O<|J.k (qDq O O u9_) O ?_
 rintro g8 _
 change J _ _ _ [F,itr g8 s 0] _
 refine J.c hK3<|J.E 0 8 ?_
 refine J.V<|J.b6 (X:=Nat) (λζ=> [(0,Str (s)),(8,Ptr g8)]) (λζ=> [F,itr g8 s ζ]) (λζ=>ζ≤s.length∧(rl (s.drop ζ)).all okR=(rl s).all okR) (λζ=>s.length-ζ) 0 (⟨by omega,O⟩) ⟨O,O,trivial⟩ (λ_ h=>h) ?_
 rintro p ⟨hp,he⟩ I0 hI0
 refine J.g λK4 hK4=>J.k (qEo (i:=1) O O O) O ?_
 rintro _ _
 change J _ _ _ [F,itr g8 s (qFX s p)] _
 refine J.f (qAa (v:= .bool (decide (p<s.length))) O O (qQD _ _)) O<|J.c hK4<|J.O 0 8 9 10 ?_
 refine J.j λK5 hK5=>J.a2 O (λh10=>?_) (λh10=>?_)
 ·
  have hps:p<s.length:=h10
  have hnp:=qC3 hps
  have hdl:=qLG s p hps
  have hdr:=qE0 s p (by omega)
  have hdp:=qDc s p (by omega)
  have hrl:=qPl hps
  refine J.W hK5<|J.G 0 8 9 ?_
  refine J.V<|J.g λK6 hK6=>J.f (qAa (v:= .int .i32 (((dec s p).1:Nat):Int)) O O (qSq hps)) O<|J.b O<|J.c hK6<|J.G 0 4 8 ?_
  refine J.g λK7 hK7=>J.b O<|J.k (qAA O O ent224 (Ct.use0 (λF' hF=>qIe F' (hA.mono (hF F (by simp))) ((dec s p).1) (by omega)))) rfl λg13 _=>J.f (qAY rfl rfl rfl) rfl<|J.b rfl<|J.c4 (d:=15) rfl (λh15=>?_) (λh15=>?_)
  ·
   refine J.b O<|J.Z (qAT O O O) O<|J.b O<|J.c4 (d:=18) O (λh18=>?_) (λh18=>?_)
   ·
    refine J.p 6 O<|J.d7 (qAA O O ent225 (Ct.use0 (λF' hF=>qMx F' ((dec s p).1)))) O λg25 _=>J.Z (qAt O O) O<|J.b O<|J.c hK7<|J.G 0 8 27 ?_
    refine J.d6 O (λh27=>?_) (λh27=>?_)
    ·
     refine J.g λK8 hK8=>J.b O<|J.c hK8<|J.u 2 ?_
     exact J.D<|J.b1<|J.a4<|J.b1<|J.a4<|J.M hw0 O () (by unfold right;rw [←he,hrl,List.all_cons,show okR (dec s p).1=false from qRQ (by omega) (by omega) (by simpa using h27)];rfl) trivial [0] rfl (by decide)
    exact J.b7<|J.a6<|J.A<|J.a8 (qFX s p) (λη (hη:_∧s.length-η<s.length-p)=>hI0 η hη.1 hη.2) ⟨⟨by omega,by rw [←he,hrl,List.all_cons,show okR (dec s p).1=true by first|exact qHT (by simpa using h27)|exact qHS (by omega)];rfl⟩,by first|omega|(dsimp only;omega)⟩ ⟨rfl,rfl,trivial⟩ (λ_ h=>h)
   refine J.b O<|J.Z (qAz O O O) O<|J.p 3 O<|J.c4 (d:=23) O (λh23=>?_) (λh23=>?_)
   ·
    refine J.b O<|J.d7 (qAA O O ent225 (Ct.use0 (λF' hF=>qMx F' ((dec s p).1)))) O λg25 _=>J.Z (qAt O O) O<|J.b O<|J.c hK7<|J.G 0 8 27 ?_
    refine J.d6 O (λh27=>?_) (λh27=>?_)
    ·
     refine J.g λK9 hK9=>J.b O<|J.c hK9<|J.u 2 ?_
     exact J.D<|J.b1<|J.a4<|J.b1<|J.a4<|J.M hw0 O () (by unfold right;rw [←he,hrl,List.all_cons,show okR (dec s p).1=false from qRQ (by omega) (by omega) (by simpa using h27)];rfl) trivial [0] rfl (by decide)
    exact J.b7<|J.a6<|J.A<|J.a8 (qFX s p) (λη (hη:_∧s.length-η<s.length-p)=>hI0 η hη.1 hη.2) ⟨⟨by omega,by rw [←he,hrl,List.all_cons,show okR (dec s p).1=true by first|exact qHT (by simpa using h27)|exact qHS (by omega)];rfl⟩,by first|omega|(dsimp only;omega)⟩ ⟨rfl,rfl,trivial⟩ (λ_ h=>h)
   refine J.p 4 O<|J.c hK7<|J.G 0 8 27 ?_
   refine J.a5 ?_
   exact J.b7<|J.a6<|J.A<|J.a8 (qFX s p) (λη (hη:_∧s.length-η<s.length-p)=>hI0 η hη.1 hη.2) ⟨⟨by omega,by rw [←he,hrl,List.all_cons,show okR (dec s p).1=true by first|exact qHT (by simpa using h27)|exact qHS (by omega)];rfl⟩,by first|omega|(dsimp only;omega)⟩ ⟨rfl,rfl,trivial⟩ (λ_ h=>h)
  refine J.p 3 O<|J.d4 (Wan.un O O O O) O O ?_
  refine J.d4 (Wan.un O O O O) O O ?_
  refine J.p 7 O<|J.c hK7<|J.G 0 8 27 ?_
  refine J.a5 ?_
  exact J.b7<|J.a6<|J.A<|J.a8 (qFX s p) (λη (hη:_∧s.length-η<s.length-p)=>hI0 η hη.1 hη.2) ⟨⟨by omega,by rw [←he,hrl,List.all_cons,show okR (dec s p).1=true by first|exact qHT (by simpa using h27)|exact qHS (by omega)];rfl⟩,by first|omega|(dsimp only;omega)⟩ ⟨rfl,rfl,trivial⟩ (λ_ h=>h)
 refine J.b4<|J.a1<|J.a1<|J.b5 ?_
 refine J.A (J.H hK2 ?_)
 refine J.u 0 ?_
 refine J.j λK10 hK10=>J.j λK11 hK11=>?_
 have hk1:(rl s).all okR=true:=by rw [←he,List.drop_of_length_le (by omega),qIG];rfl
 refine J.L<|J.b O<|J.k (qAA O O ent226 (Ct.use (new:=λx:Option Addr×Nat×Hp=> [x.2.2]) (λF' hF=>qNs F' (hT.mono (hF F (by simp))) s (by omega)))) rfl ?_
 rintro⟨A29,c29,m29⟩ h29
 try dsimp only at h29
 change J _ ((29,.slice A29 (spl [] s).length c29)::_) _ [F,itr g8 s (qFX s p),m29] _
 refine J.f (qAP qAe O O) O<|J.b O<|J.c hK11<|J.O 0 29 30 31 ?_
 refine J.V<|J.b6 (X:=Nat) (λζ=> [(0,Str (s)),(29,.slice A29 ((spl [] s).length) c29),(30,I (((spl [] s).length:Nat):Int)),(31,I ((ζ:Nat):Int))]) (λζ=> [F,m29]) (λζ=>ζ≤(spl [] s).length∧((spl [] s).take ζ).all okP=true) (λζ=>(spl [] s).length-ζ) 0 (⟨by omega,O⟩) ⟨O,O,O,O,trivial⟩ (λ_ h=>h.pick [0,2] (by decide)) ?_
 rintro k ⟨hk,hq⟩ I2 hI2
 refine J.g λK12 hK12=>J.f (qAT O O O) O<|J.c hK12<|J.a0 0 29 30 31 32 ?_
 refine J.j λK13 hK13=>J.a2 O (λh32=>?_) (λh32=>?_)
 ·
  have hpn:=qJZ s []
  have hpl:((spl [] s).getD k []).length≤1000000:=Nat.le_trans (qR5 s k) hs
  refine J.W hK13<|J.O 0 29 30 31 ?_
  refine J.j λK14 hK14=>J.V<|J.g λK15 hK15=>J.f (qAH (i:=k) O O O qAe z9_ h29.sl (by omega)) O<|J.f (qAJ O O b9_ (m:=m29) (by simp) (h29.sl.elem (qAQ (qAc [] (by omega))))) rfl<|J.b rfl<|J.c hK15<|J.a0 0 6 29 30 31 ?_
  refine J.g λK16 hK16=>J.b O<|J.f (qBQ O O O) O<|J.b O<|J.c4 (d:=37) O (λh37=>?_) (λh37=>?_)
  ·
   refine J.p 5 O<|J.c hK16<|J.a0 0 29 30 31 42 ?_
   refine J.d0 ?_
   refine J.g λK17 hK17=>J.b O<|J.c hK17<|J.u 2 ?_
   exact J.D<|J.b1<|J.a4<|J.a4<|J.b1<|J.a4<|J.M hw0 O () (by unfold right;rw [qLF (k:=k) (by omega) (by unfold okP;rw [h37];rfl),Bool.and_false];rfl) trivial [0] rfl (by decide)
  refine J.b O<|J.d7 (qAA O O ent228 (Ct.use0 (λF' hF=>qTj F' (hA.mono (hF F (by simp))) ((spl [] s).getD k []) (by omega)))) rfl λg39 _=>J.d7 (qAA rfl rfl ent227 (Ct.use0 (λF' hF=>qUH F' (qHu (rl ((spl [] s).getD k [])) 0) (qOn _ _ (by omega))))) rfl λg40 _=>J.Z (qAt rfl rfl) rfl<|J.b rfl<|J.c hK16<|J.a0 0 29 30 31 42 ?_
  refine J.d6 O (λh42=>?_) (λh42=>?_)
  ·
   refine J.g λK18 hK18=>J.b O<|J.c hK18<|J.u 2 ?_
   exact J.D<|J.b1<|J.a4<|J.a4<|J.b1<|J.a4<|J.M hw0 O () (by unfold right;rw [qLF (k:=k) (by omega) (by unfold okP;rw [show good (qHu (rl ((spl [] s).getD k [])) 0)=false from by simpa using h42,Bool.and_false]),Bool.and_false];rfl) trivial [0] rfl (by decide)
  refine J.b7<|J.a6<|J.A (J.H hK14 ?_)
  refine J.O 0 29 30 31 ?_
  exact J.L<|J.f ((qAO O O O (by omega)).nat (k+1) (by omega)) O<|J.b O<|J.a7<|J.A<|J.a8 (k+1) (λη (hη:_∧(spl [] s).length-η<(spl [] s).length-k)=>hI2 η hη.1 hη.2) ⟨⟨by omega,by rw [qPJ (by omega),hq];unfold okP;rw [decide_eq_true h37];simpa using h42⟩,by first|omega|(dsimp only;omega)⟩ ⟨rfl,rfl,rfl,rfl,trivial⟩ (λ_ h=>h)
 refine J.b4<|J.a1<|J.a1<|J.b5 ?_
 refine J.A (J.H hK10 ?_)
 refine J.u 0 ?_
 refine J.j λK19 hK19=>?_
 have hk2:(spl [] s).all okP=true:=by rw [←hq,List.take_of_length_le (by omega)]
 refine J.L<|J.b O<|J.k (qAA O O ent229 (Ct.use0 (λF' hF=>qM1 F' s (by omega)))) O λg45 _=>J.f (qB5 O O O) O<|J.b O<|J.c hK19<|J.u 2 ?_
 exact J.D<|J.M hw0 O () (by unfold right;rw [hk1,hk2];exact congrArg Value.bool (decide_eq_decide.2 (by omega))) trivial [0] rfl (by decide)
theorem qIY(F:Hp)(hA:qAL F ⟨2,0,none⟩ qBT)(hT:qBx F)(s:List UInt8)(hs:s.length≤1000000):Ct prog 148 [Str (s)] [F] (λ_:Unit=> .tuple #[Str ((normal s).1),I (((normal s).2:Nat):Int)]) (λ_=>True) (λ_=> [F]):=by
 refine Ct.walk func148 rfl ntmps148 rfl (λw0 hw0=>?_)
 change J _ [(0,_)] _ _ _
 refine J.g λK1 hK1=>J.p 2 O<|J.c hK1<|J.u 0 ?_
 refine J.g λK2 hK2=>J.b O<|J.k (qAA O O ent193 (Ct.use0 (λF' hF=>qPf F' (hT.mono (hF F (by simp))) s (by omega)))) rfl λg8 _=>J.p 5 rfl<|J.c hK2<|J.G 0 4 5 ?_
 refine J.j λK3 hK3=>J.V<|J.g λK4 hK4=>J.b O<|J.f (qAt O O) O<|J.b O<|J.c hK4<|J.G 0 4 11 ?_
 refine J.d6 O (λh11=>?_) (λh11=>?_)
 ·
  refine J.g λK5 hK5=>J.p 2 O<|J.c hK5<|J.E 2 3 ?_
  exact J.D<|J.b1<|J.a4<|J.b2 hw0 (λ_ _ h=>h) (qB2 O O O) (qAn () (by unfold normal;rw [if_neg (by simpa using h11)];rfl) trivial [0] rfl (by decide))
 refine J.j λK6 hK6=>?_
 have hv:vld s=true:=by simpa using h11
 refine J.L<|J.b O<|J.f (qAz O O O) O<|J.b O<|J.c hK6<|J.E 0 14 ?_
 refine J.a2 O (λh14=>?_) (λh14=>?_)
 ·
  refine J.j λK7 hK7=>?_
  rw [if_pos hv] at h14
  refine J.L<|J.p 2 O<|J.c hK7<|J.E 2 3 ?_
  exact J.D<|J.b1<|J.a4<|J.b2 hw0 (λ_ _ h=>h) (qB2 O O O) (qAn () (by unfold normal;rw [if_pos hv,if_neg (by omega)];rfl) trivial [0] rfl (by decide))
 refine J.j λK8 hK8=>?_
 rw [if_pos hv] at h14
 refine J.L<|J.b O<|J.k (qAA O O ent194 (Ct.use0 (λF' hF=>qNr F' (hA.mono (hF F (by simp))) (hT.mono (hF F (by simp))) s (by omega)))) rfl λg19 _=>J.f (qAt rfl rfl) rfl<|J.b rfl<|J.c hK8<|J.E 0 17 ?_
 refine J.d6 O (λh17=>?_) (λh17=>?_)
 ·
  refine J.g λK9 hK9=>J.p 2 O<|J.c hK9<|J.E 2 3 ?_
  exact J.D<|J.b1<|J.a4<|J.b2 hw0 (λ_ _ h=>h) (qB2 O O O) (qAn () (by unfold normal;rw [if_pos hv,if_pos (by omega),if_neg (by simpa using h17)];rfl) trivial [0] rfl (by decide))
 refine J.b7<|J.a6<|J.A (J.H hK3 ?_)
 refine J.u 0 ?_
 refine J.g λK10 hK10=>J.b O<|J.k (qAA O O ent195 (Ct.use0 (λF' hF=>qUN F' (hA.mono (hF F (by simp))) (hT.mono (hF F (by simp))) s (by omega) (by assumption)))) rfl λg22 _=>J.p 2 rfl<|J.c hK10<|J.E 2 3 ?_
 exact J.D<|J.b2 hw0 (λ_ _ h=>h) (qB2 O O O) (qAn () (by unfold normal;rw [if_pos hv,if_pos (by omega),if_pos (by simpa using h17)];rfl) trivial [0] rfl (by decide))
end Go.Proofs.YtllnfioplpipiaaGreatDoor
