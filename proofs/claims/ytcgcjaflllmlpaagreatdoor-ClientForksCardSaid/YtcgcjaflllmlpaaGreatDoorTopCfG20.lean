/- A part of the proof. -/
import Derived.Test.YtcgcjaflllmlpaaGreatDoorTopCfG19
import Derived.Shelf.Strings.Count
import Derived.Test.YtcgcjaflllmlpaaGreatDoorTopCfG8
import Derived.Test.YtcgcjaflllmlpaaGreatDoorTopCfG9
set_option linter.unusedSimpArgs false
set_option linter.unusedVariables false
namespace Go.Proofs.YtcgcjaflllmlpaaGreatDoor
open Go Go.Fw Go.Proofs.Tryz
set_option maxRecDepth 100000
set_option maxHeartbeats 1000000
open Go.Shelf Go.RowKit
def Tryz.lays138_ren:Go.Shelf.Ren:=⟨λ|138=>228|195=>222|218=>248|143=>249|219=>258|217=>261|225=>262|224=>263|267=>264|266=>265|314=>266|n=>n,λ|9=>9|3=>3|4=>4|5=>5|0=>0|46=>198|146=>259|51=>253|n=>n,λ|1=>1|n=>n⟩
theorem Tryz.lays138:Go.Proofs.Lays.n138 prog Tryz.lays138_ren:={
 mixed:=by kernel_rfl
 f138:=func228.trans (congrArg some (by kernel_rfl))
 f143:=func249.trans (congrArg some (by kernel_rfl))
 f195:=func222.trans (congrArg some (by kernel_rfl))
 f217:=func261.trans (congrArg some (by kernel_rfl))
 f218:=func248.trans (congrArg some (by kernel_rfl))
 f219:=func258.trans (congrArg some (by kernel_rfl))
 f224:=func263.trans (congrArg some (by kernel_rfl))
 f225:=func262.trans (congrArg some (by kernel_rfl))
 f266:=func265.trans (congrArg some (by kernel_rfl))
 f267:=func264.trans (congrArg some (by kernel_rfl))
 f314:=func266.trans (congrArg some (by kernel_rfl))
 t0:=u0_
 a0:=isAgg0
 z0:=sizeOf0
 v0:=e0_
 t3:=u3_
 a3:=b3_
 z3:=z3_
 v3:=e3_
 t4:=u4_
 a4:=b4_
 z4:=z4_
 v4:=e4_
 t5:=u5_
 a5:=b5_
 z5:=z5_
 v5:=e5_
 t9:=u9_
 a9:=b9_
 z9:=z9_
 v9:=e9_
 t46:=qIH
 a46:=isAgg198
 z46:=sizeOf198
 v46:=zeroValue198
 t51:=qJc
 a51:=qC3
 z51:=qB9
 v51:=zeroValue253
 t146:=underlying259
 a146:=isAgg259
 z146:=sizeOf259
 v146:=zeroValue259
 g1:=by kernel_rfl}
theorem Ct.ofSame{P:Program}{f:FuncId}{vs:List Value}{F:Hp}{v:Value}(h: ∀w,Le F (hp w)→Calls P f vs.toArray w λe w'=>e= .returned v∧w'=w):
    Ct P f vs [F] (λ_:Unit=>v) (λ_=>True) (λ_=> [F]):=Ct.ofBelow λw hw=>(h w hw).mono λ_ _ ⟨he,hs⟩=>⟨he,hs▸Below.refl _ _⟩
theorem qPm(F:Hp)(s:List UInt8)(hs:s.length≤1000000):Cz prog 228 [Str s,Str [64]] F (I ((s.count 64:Nat):Int)):=Ct.ofSame λw hw=>
 Any.strings_Count_one Tryz.lays138 ⟨s.toArray⟩ 64 w
end Go.Proofs.YtcgcjaflllmlpaaGreatDoor
namespace Go.Proofs.YtcgcjaflllmlpaaGreatDoor
open Go Go.Fw Go.Proofs.Tryz
set_option maxRecDepth 100000
set_option maxHeartbeats 1000000
theorem ent203:qAD prog 203:=qAD.of func203 rfl (by kernel_rfl)
theorem ent221:qAD prog 221:=qAD.of func221 rfl (by kernel_rfl)
theorem ent222:qAD prog 222:=qAD.of func222 rfl (by kernel_rfl)
theorem ent223:qAD prog 223:=qAD.of func223 rfl (by kernel_rfl)
theorem ent224:qAD prog 224:=qAD.of func224 rfl (by kernel_rfl)
theorem ent229:qAD prog 229:=qAD.of func229 rfl (by kernel_rfl)
theorem ent230:qAD prog 230:=qAD.of func230 rfl (by kernel_rfl)
theorem ent233:qAD prog 233:=qAD.of func233 rfl (by kernel_rfl)
def qBY:List Value:= [I 1,R32 97,R32 122,I 2,R32 945,R32 969,I 4,R32 1072,R32 1103]
def qSM(k:Nat):Nat:=if k=0 then 1 else if k=1 then 2 else 4
def qI7(k:Nat):Nat:=if k=0 then 97 else if k=1 then 945 else 1072
def qIy(k:Nat):Nat:=if k=0 then 122 else if k=1 then 969 else 1103
theorem qKr{k:Nat}(h:k<3):Value.agg (qBY.toArray.extract (k*3) (k*3+3))= .agg [I (qSM k:Nat),R32 (qI7 k),R32 (qIy k)].toArray:=by
 match k,h with
 |0,_=>rfl
 |1,_=>rfl
 |2,_=>rfl
def qOx(k r:Nat):Bool:=decide (qI7 k≤r∧r≤qIy k)
def qUR(k r:Nat):Bool:=qOx k (r+32)&&!qOx k r&&decide (r≠930)
theorem qSv{k r:Nat}(hk:k<3)(h:qUR k r=true):small r=r+32:=by
 unfold qUR qOx at h
 unfold small
 match k,hk with
 |0,_=>simp [qI7,qIy] at h;rw [if_pos (by omega)]
 |1,_=>simp [qI7,qIy] at h;rw [if_pos (by omega)]
 |2,_=>simp [qI7,qIy] at h;rw [if_pos (by omega)]
theorem qSw{r:Nat}(h: ∀k<3,qUR k r=false):small r=r:=by
 have h0:=h 0 (by decide)
 have h1:=h 1 (by decide)
 have h2:=h 2 (by decide)
 simp [qUR,qOx,qI7,qIy] at h0 h1 h2
 unfold small
 rw [if_neg (by omega)]
theorem qW5{k r:Nat}(hk:k<3)(h:qOx k (small r)=true):qKK r=qSM k:=by
 unfold qOx at h
 unfold qKK
 match k,hk with
 |0,_=>simp [qI7,qIy] at h;rw [if_pos (by omega)];rfl
 |1,_=>simp [qI7,qIy] at h;rw [if_neg (by omega),if_pos (by omega)];rfl
 |2,_=>simp [qI7,qIy] at h;rw [if_neg (by omega),if_neg (by omega),if_pos (by omega)];rfl
theorem qW6{r:Nat}(h: ∀k<3,qOx k (small r)=false):qKK r=0:=by
 have h0:=h 0 (by decide)
 have h1:=h 1 (by decide)
 have h2:=h 2 (by decide)
 simp [qOx,qI7,qIy] at h0 h1 h2
 unfold qKK
 rw [if_neg (by omega),if_neg (by omega),if_neg (by omega)]
theorem qRD(F:Hp)(k r:Nat):Cz prog 233 [.agg #[I (qSM k:Nat),R32 (qI7 k),R32 (qIy k)],.int .i32 ((r:Nat):Int)] F (.bool (qOx k r)):=by
 refine Ct.walk func233 rfl ntmps233 rfl (λw0 hw0=>?_)
 refine J.f λ_ j1=>J.p (qAd O O O) O λg2 _=>J.b O<|J.c j1<|J.f λ_ j2=>J.b O<|J.T 1 qPQ sizeOf21 O O O O O<|J.a5 1 isAgg21 O O O O O<|J.g (qBA O O O) O<|J.b O<|J.b9 (d:=9) O (λh9=>?_) (λh9=>?_)
 ·
  exact J.b O<|J.G (qAA O O qPQ O sizeOf21 O) O<|J.G (qAE 1 O O O isAgg21 O) O<|J.G (qCM O O O) O<|J.q 2 O<|J.c j2<|J.A<|J.E hw0 O () (by unfold qOx;exact congrArg Value.bool (decide_eq_decide.2 (by omega))) trivial [0] O (by decide)
 exact J.q 6 O<|J.c j2<|J.A<|J.E hw0 O () (by unfold qOx;rw [decide_eq_false (by omega: ¬(qI7 k≤r∧r≤qIy k))]) trivial [0] rfl (by decide)
theorem qMW(F:Hp)(hA:qAR F ⟨2,0,none⟩ qBY)(r:Nat)(hr:r≤1073741824):Cz prog 203 [.int .i32 ((r:Nat):Int)] F (.int .i32 ((small r:Nat):Int)):=by
 refine Ct.walk func203 rfl ntmps203 rfl (λw0 hw0=>?_)
 refine J.f λ_ j1=>J.b O<|J.c j1<|J.k λ_ j2=>J.f λ_ j3=>J.g (qEj 0 O O isAgg334 sizeOf334 O hA O) O<|J.b O<|J.c j3<|J.O<|J.b4 (X:=Nat) (λζ=> [(0,.int .i32 ((r:Nat):Int)),(5,.agg qBY.toArray),(6,I ((ζ:Nat):Int))]) (λζ=> [F]) (λζ=>ζ≤3∧ ∀j<ζ,qUR j r=false) (λζ=>3-ζ) 0 (⟨by omega,λj h=>absurd h (zA j)⟩) ⟨O,O,O,trivial⟩ (λ_ h=>h) ?_
 rintro k ⟨hk,hn⟩ I0 hI0
 refine J.f λ_ j4=>J.g (qAT O O O) O<|J.c j4<|J.k λ_ j5=>J.W O (λh7=>?_) (λh7=>?_)
 ·
  refine J.M j5<|J.k λ_ j6=>J.O<|J.f λ_ j7=>J.g ((qJ7 O O O underlying334 sizeOf333 isAgg333 (by omega)).as (v':= .agg #[I (qSM k:Nat),R32 (qI7 k),R32 (qIy k)]) (qKr (by omega))) O<|J.p (qAL O zeroValue333 O) O λg4 _=>J.a6 (qAF (i:=1) (l:= [I 0,.int .i32 0,.int .i32 0]) (vs:= [I (qSM k:Nat),R32 (qI7 k),R32 (qIy k)]) O O O O O sizeOf333 O O) O O λ_ _=>J.c j7<|J.f λ_ j8=>J.b7 1 isAgg333 sizeOf333 O O O O O<|J.b O<|J.g (qQc O O O (by first|omega|(simp only [jA,jD,jE,jF,jI] at*;omega))) rfl<|J.p (qAB rfl rfl ent233 (Ct.use0 (λF' hF=>qRD F' k (r+32)))) rfl λg12 _=>J.b rfl<|J.e8 (d:=13) rfl (λh13=>?_) (λh13=>?_)
  ·
   refine J.G (qAY 1 O O O isAgg333 sizeOf333 O) O<|J.b O<|J.c9 (qAB O O ent233 (Ct.use0 (λF' hF=>qRD F' k (r)))) O λg16 _=>J.G (qAy O O) O<|J.q 2 O<|J.e8 (d:=19) O (λh19=>?_) (λh19=>?_)
   ·
    refine J.b O<|J.G (qAe O O O) O<|J.b O<|J.c j8<|J.W O (λh22=>?_) (λh22=>?_)
    ·
     exact J.f λ_ j9=>J.b O<|J.g (qQc O O O (by first|omega|(simp only [jA,jD,jE,jF,jI] at*;omega))) rfl<|J.b rfl<|J.c j9<|J.A<|J.a7<|J.V<|J.V<|J.a7<|J.V<|J.E hw0 rfl () (by rw [qSv (k:=k) (by omega) (by unfold qUR;simp [*];omega)]) trivial [0] rfl (by decide)
    refine J.b5<|J.a2<|J.u (J.D j6 ?_)
    exact J.H<|J.g ((qAS O O O (by first|omega|(simp only [jA,jD,jE,jF,jI] at*;omega))).nat (k+1) (by omega)) rfl<|J.b rfl<|J.a3<|J.u<|J.a4 (k+1) (λη (hη:_∧3-η<3-k)=>hI0 η hη.1 hη.2) ⟨⟨by omega,λj hj=>by rcases Nat.lt_succ_iff_lt_or_eq.1 hj with h|rfl;exact hn j h;exact(by unfold qUR;simp [*];try omega)⟩,by first|omega|(dsimp only;omega)⟩ ⟨rfl,rfl,rfl,trivial⟩ (λ_ h=>h.pick [0] (by decide))
   refine J.q 3 O<|J.c j8<|J.a1 ?_
   refine J.b5<|J.a2<|J.u (J.D j6 ?_)
   exact J.H<|J.g ((qAS O O O (by first|omega|(simp only [jA,jD,jE,jF,jI] at*;omega))).nat (k+1) (by omega)) rfl<|J.b rfl<|J.a3<|J.u<|J.a4 (k+1) (λη (hη:_∧3-η<3-k)=>hI0 η hη.1 hη.2) ⟨⟨by omega,λj hj=>by rcases Nat.lt_succ_iff_lt_or_eq.1 hj with h|rfl;exact hn j h;exact(by unfold qUR;simp [*];try omega)⟩,by first|omega|(dsimp only;omega)⟩ ⟨rfl,rfl,rfl,trivial⟩ (λ_ h=>h.pick [0] (by decide))
  refine J.q 9 O<|J.c j8<|J.a1 ?_
  refine J.b5<|J.a2<|J.u (J.D j6 ?_)
  exact J.H<|J.g ((qAS O O O (by first|omega|(simp only [jA,jD,jE,jF,jI] at*;omega))).nat (k+1) (by omega)) rfl<|J.b rfl<|J.a3<|J.u<|J.a4 (k+1) (λη (hη:_∧3-η<3-k)=>hI0 η hη.1 hη.2) ⟨⟨by omega,λj hj=>by rcases Nat.lt_succ_iff_lt_or_eq.1 hj with h|rfl;exact hn j h;exact(by unfold qUR;simp [*];try omega)⟩,by first|omega|(dsimp only;omega)⟩ ⟨rfl,rfl,rfl,trivial⟩ (λ_ h=>h.pick [0] (by decide))
 refine J.b2<|J.a0<|J.a0<|J.b3 ?_
 refine J.u (J.D j2 ?_)
 exact J.f λ_ j10=>J.q 2 O<|J.c j10<|J.A<|J.E hw0 O () (by rw [qSw (λj hj=>hn j (by omega))]) trivial [0] rfl (by decide)
theorem qKJ(F:Hp)(hA:qAR F ⟨2,0,none⟩ qBY)(r:Nat)(hr:r≤1073741824):Cz prog 223 [.int .i32 ((r:Nat):Int)] F (I ((qKK r:Nat):Int)):=by
 refine Ct.walk func223 rfl ntmps223 rfl (λw0 hw0=>?_)
 refine J.f λ_ j1=>J.b O<|J.c j1<|J.f λ_ j2=>J.b O<|J.p (qAB O O ent203 (Ct.use0 (λF' hF=>qMW F' (hA.mono (Fa hF)) r (by omega)))) O λg6 _=>J.b O<|J.c j2<|J.k λ_ j3=>J.f λ_ j4=>J.g (qEj 0 O O isAgg334 sizeOf334 O hA O) O<|J.b O<|J.c j4<|J.O<|J.b4 (X:=Nat) (λζ=> [(0,.int .i32 ((small r:Nat):Int)),(7,.agg qBY.toArray),(8,I ((ζ:Nat):Int))]) (λζ=> [F]) (λζ=>ζ≤3∧ ∀j<ζ,qOx j (small r)=false) (λζ=>3-ζ) 0 (⟨by omega,λj h=>absurd h (zA j)⟩) ⟨O,O,O,trivial⟩ (λ_ h=>h) ?_
 rintro k ⟨hk,hn⟩ I0 hI0
 refine J.f λ_ j5=>J.g (qAT O O O) O<|J.c j5<|J.k λ_ j6=>J.W O (λh9=>?_) (λh9=>?_)
 ·
  refine J.M j6<|J.k λ_ j7=>J.O<|J.f λ_ j8=>J.g ((qJ7 O O O underlying334 sizeOf333 isAgg333 (by omega)).as (v':= .agg #[I (qSM k:Nat),R32 (qI7 k),R32 (qIy k)]) (qKr (by omega))) O<|J.p (qAL O zeroValue333 O) O λg4 _=>J.a6 (qAF (i:=1) (l:= [I 0,.int .i32 0,.int .i32 0]) (vs:= [I (qSM k:Nat),R32 (qI7 k),R32 (qIy k)]) O O O O O sizeOf333 O O) O O λ_ _=>J.c j8<|J.f λ_ j9=>J.b7 1 isAgg333 sizeOf333 O O O O O<|J.b O<|J.p (qAB O O ent233 (Ct.use0 (λF' hF=>qRD F' k (small r)))) O λg13 _=>J.c j9<|J.c6 O (λh13=>?_) (λh13=>?_)
  ·
   exact J.f λ_ j10=>J.T 0 qPQ z3_ O O O O O<|J.a5 1 b3_ O O O O O<|J.b O<|J.c j10<|J.A<|J.a7<|J.V<|J.V<|J.a7<|J.V<|J.E hw0 O () (by rw [qW5 (k:=k) (by omega) (by assumption)]) trivial [0] rfl (by decide)
  refine J.b5<|J.a2<|J.u (J.D j7 ?_)
  exact J.H<|J.g ((qAS O O O (by first|omega|(simp only [jA,jD,jE,jF,jI] at*;omega))).nat (k+1) (by omega)) rfl<|J.b rfl<|J.a3<|J.u<|J.a4 (k+1) (λη (hη:_∧3-η<3-k)=>hI0 η hη.1 hη.2) ⟨⟨by omega,λj hj=>by rcases Nat.lt_succ_iff_lt_or_eq.1 hj with h|rfl;exact hn j h;assumption⟩,by first|omega|(dsimp only;omega)⟩ ⟨rfl,rfl,rfl,trivial⟩ (λ_ h=>h.pick [0] (by decide))
 refine J.b2<|J.a0<|J.a0<|J.b3 ?_
 refine J.u (J.D j3 ?_)
 exact J.f λ_ j11=>J.b O<|J.c j11<|J.A<|J.E hw0 O () (by rw [qW6 (λj hj=>hn j (by omega))];rfl) trivial [0] rfl (by decide)
theorem qPi(F:Hp)(r:Nat):Cz prog 224 [.int .i32 ((r:Nat):Int)] F (.bool (qHZ r)):=by
 refine Ct.walk func224 rfl ntmps224 rfl (λw0 hw0=>?_)
 refine J.f λ_ j1=>J.b O<|J.c j1<|J.f λ_ j2=>J.b O<|J.g (qAg O O O) O<|J.b O<|J.b9 (d:=5) O (λh5=>?_) (λh5=>?_)
 ·
  exact J.q 12 O<|J.c j2<|J.A<|J.E hw0 O () (by unfold qHZ;first|rw [decide_eq_true (by omega)]|exact congrArg Value.bool (decide_eq_decide.2 (by omega))) trivial [0] rfl (by decide)
 refine J.b O<|J.G (qAg O O O) O<|J.q 2 O<|J.b9 (d:=9) O (λh9=>?_) (λh9=>?_)
 ·
  exact J.q 8 O<|J.c j2<|J.A<|J.E hw0 O () (by unfold qHZ;first|rw [decide_eq_true (by omega)]|exact congrArg Value.bool (decide_eq_decide.2 (by omega))) trivial [0] rfl (by decide)
 refine J.b O<|J.G (qAg O O O) O<|J.q 2 O<|J.b9 (d:=13) O (λh13=>?_) (λh13=>?_)
 ·
  exact J.q 4 O<|J.c j2<|J.A<|J.E hw0 O () (by unfold qHZ;first|rw [decide_eq_true (by omega)]|exact congrArg Value.bool (decide_eq_decide.2 (by omega))) trivial [0] rfl (by decide)
 exact J.b O<|J.G (qAg O O O) O<|J.q 2 O<|J.c j2<|J.A<|J.E hw0 O () (by unfold qHZ;first|rw [decide_eq_true (by omega)]|exact congrArg Value.bool (decide_eq_decide.2 (by omega))) trivial [0] rfl (by decide)
theorem qXk(F:Hp)(hA:qAR F ⟨2,0,none⟩ qBY)(s:List UInt8)(hs:s.length≤1000000):Cz prog 227 [Str (s)] F (I ((qJR (rl s) 0:Nat):Int)):=by
 refine Ct.walk func227 rfl ntmps227 rfl (λw0 hw0=>?_)
 refine J.f λ_ j1=>J.b O<|J.c j1<|J.f λ_ j2=>J.b O<|J.c j2<|J.k λ_ j3=>J.f λ_ j4=>J.b O<|J.p (qEi O O u9_) O ?_
 rintro g7 _
 refine J.c j4<|J.O<|J.b4 (X:=Nat×Nat) (λζ=> [(3,I ((ζ.2:Nat):Int)),(7,Ptr g7)]) (λζ=> [F,itr g7 s ζ.1]) (λζ=>ζ.1≤s.length∧ζ.2<8∧qJR (rl (s.drop ζ.1)) ζ.2=qJR (rl s) 0) (λζ=>s.length-ζ.1) (0,0) (⟨by omega,by omega,O⟩) ⟨O,O,trivial⟩ (λ_ h=>h) ?_
 rintro⟨p,b⟩ ⟨hp,hb,he⟩ I0 hI0
 dsimp only at hp hb he⊢
 refine J.f λ_ j5=>J.p (qFo (i:=1) O O O) O ?_
 rintro _ _
 refine J.g (qAh O O (qTc _ _)) O<|J.c j5<|J.k λ_ j6=>J.W O (λh9=>?_) (λh9=>?_)
 ·
  have hps:p<s.length:=h9
  have hnp:=qDh hps
  have hdl:=qNX s p hps
  have hdr:=qFx s p (by omega)
  have hdp:=qEQ s p (by omega)
  have hrl:=qTF hps
  refine J.M j6<|J.O<|J.f λ_ j7=>J.g (qAh O O (qWp hps)) O<|J.b O<|J.c j7<|J.H<|J.q 2 O<|J.p (qAB O O ent223 (Ct.use0 (λF' hF=>qKJ F' (hA.mono (Fa hF)) ((dec s p).1) (by omega)))) O λg13 _=>?_
  have hll:=qLq (dec s p).1
  exact J.g (qU4 O O O (by first|omega|(simp only [jA,jD,jE,jF,jI] at*;omega))) rfl<|J.b rfl<|J.a3<|J.a2<|J.u<|J.a4 (qKA s p,b|||qKK (dec s p).1) (λη (hη:_∧s.length-η.1<s.length-p)=>hI0 η hη.1 hη.2) ⟨⟨by dsimp only;omega,Nat.or_lt_two_pow (n:=3) hb (qLq _),by rw [←he,hrl];rfl⟩,by first|omega|(dsimp only;omega)⟩ ⟨rfl,rfl,trivial⟩ (λ_ h=>h)
 refine J.b2<|J.a0<|J.a0<|J.b3 ?_
 refine J.u (J.D j3 ?_)
 exact J.f λ_ j8=>J.q 2 O<|J.c j8<|J.A<|J.E hw0 O () (by rw [←he,jp (by omega),qJs];rfl) trivial [0] rfl (by decide)
theorem qPz(F:Hp)(s:List UInt8)(hs:s.length≤1000000):Cz prog 222 [Str (s)] F (I (((rl s).length:Nat):Int)):=by
 refine Ct.walk func222 rfl ntmps222 rfl (λw0 hw0=>?_)
 refine J.f λ_ j1=>J.b O<|J.c j1<|J.k λ_ j2=>J.f λ_ j3=>J.b O<|J.p (qEi O O u9_) O ?_
 rintro g4 _
 refine J.c j3<|J.O<|J.b4 (X:=Nat×Nat) (λζ=> [(2,I ((ζ.2:Nat):Int)),(4,Ptr g4)]) (λζ=> [F,itr g4 s ζ.1]) (λζ=>ζ.1≤s.length∧ζ.2≤ζ.1∧ζ.2+(rl (s.drop ζ.1)).length=(rl s).length) (λζ=>s.length-ζ.1) (0,0) (⟨by omega,by omega,jj _⟩) ⟨O,O,trivial⟩ (λ_ h=>h) ?_
 rintro⟨p,n⟩ ⟨hp,hb,he⟩ I0 hI0
 dsimp only at hp hb he⊢
 refine J.f λ_ j4=>J.p (qFo (i:=1) O O O) O ?_
 rintro _ _
 refine J.g (qAh O O (qTc _ _)) O<|J.c j4<|J.k λ_ j5=>J.W O (λh6=>?_) (λh6=>?_)
 ·
  have hps:p<s.length:=h6
  have hnp:=qDh hps
  have hdl:=qNX s p hps
  have hdr:=qFx s p (by omega)
  have hdp:=qEQ s p (by omega)
  have hrl:=qTF hps
  exact J.M j5<|J.O<|J.H<|J.b O<|J.g ((qAS O O O (by first|omega|(simp only [jA,jD,jE,jF,jI] at*;omega))).nat (n+1) (by omega)) rfl<|J.b rfl<|J.a3<|J.a2<|J.u<|J.a4 (qKA s p,n+1) (λη (hη:_∧s.length-η.1<s.length-p)=>hI0 η hη.1 hη.2) ⟨⟨by dsimp only;omega,by dsimp only;omega,by rw [←he,hrl,jD];dsimp only;omega⟩,by first|omega|(dsimp only;omega)⟩ ⟨rfl,rfl,trivial⟩ (λ_ h=>h)
 refine J.b2<|J.a0<|J.a0<|J.b3 ?_
 refine J.u (J.D j2 ?_)
 exact J.f λ_ j6=>J.q 2 O<|J.c j6<|J.A<|J.E hw0 O () (by rw [←he,jp (by omega),qJs];rfl) trivial [0] rfl (by decide)
theorem qS8(F:Hp)(hT:qB5 F)(s:List UInt8)(hs:s.length≤1000000):Cz prog 200 [Str (s)] F (.tuple #[I ((if vld s=true then(rl s).length else 0:Nat):Int),.bool (vld s)]):=by
 refine Ct.walk func200 rfl ntmps200 rfl (λw0 hw0=>?_)
 refine J.f λ_ j1=>J.q 2 O<|J.c j1<|J.k λ_ j2=>J.f λ_ j3=>J.b O<|J.p (qAB O O ent221 (Ct.use0 (λF' hF=>qSb F' (hT.mono (Fa hF)) s (by omega)))) O λg5 _=>J.g (qAy O O) O<|J.c j3<|J.c6 O (λh6=>?_) (λh6=>?_)
 ·
  exact J.f λ_ j4=>J.q 2 O<|J.c j4<|J.A<|J.V<|J.a9 hw0 (λ_ _ h=>h) (qCG O O O) (qAq () (by rw [show vld s=false by simpa using h6];rfl) trivial [0] rfl (by decide))
 exact J.M j2<|J.f λ_ j5=>J.b O<|J.p (qAB O O ent222 (Ct.use0 (λF' hF=>qPz F' s (by omega)))) O λg8 _=>J.q 2 O<|J.c j5<|J.A<|J.a9 hw0 (λ_ _ h=>h) (qCG O O O) (qAq () (by rw [show vld s=true by simpa using h6];rfl) trivial [0] rfl (by decide))
theorem qWD(F:Hp)(r:Nat)(hr:Rn r):Cz prog 230 [.int .i32 ((r:Nat):Int)] F (I (((enc r).length:Nat):Int)):=by
 obtain ⟨hr1,hr2⟩:=hr
 refine Ct.walk func230 rfl ntmps230 rfl (λw0 hw0=>?_)
 refine J.f λ_ j1=>J.b O<|J.c j1<|J.k λ_ j2=>J.O<|J.f λ_ j3=>J.b O<|J.g (qAT O O O) O<|J.b O<|J.c j3<|J.W O (λh3=>?_) (λh3=>?_)
 ·
  exact J.f λ_ j4=>J.b O<|J.c j4<|J.A<|J.a7<|J.V<|J.E hw0 O () (by exfalso;omega) trivial [0] O (by decide)
 refine J.f λ_ j5=>J.b O<|J.g (qCM O O O) O<|J.b O<|J.c j5<|J.W O (λh6=>?_) (λh6=>?_)
 ·
  exact J.f λ_ j6=>J.b O<|J.c j6<|J.A<|J.a7<|J.V<|J.E hw0 O () (by rw [qCb (by omega)];rfl) trivial [0] rfl (by decide)
 refine J.f λ_ j7=>J.b O<|J.g (qCM O O O) O<|J.b O<|J.c j7<|J.W O (λh9=>?_) (λh9=>?_)
 ·
  exact J.f λ_ j8=>J.b O<|J.c j8<|J.A<|J.a7<|J.V<|J.E hw0 O () (by unfold enc;rw [if_neg (by omega),if_pos (by omega)];rfl) trivial [0] rfl (by decide)
 refine J.f λ_ j9=>J.b O<|J.g (qCM O O O) O<|J.b O<|J.b9 (d:=15) O (λh15=>?_) (λh15=>?_)
 ·
  refine J.b O<|J.G (qCM O O O) O<|J.q 2 O<|J.c j9<|J.W O (λh12=>?_) (λh12=>?_)
  ·
   exact J.f λ_ j10=>J.b O<|J.c j10<|J.A<|J.a7<|J.V<|J.E hw0 O () (by exfalso;omega) trivial [0] O (by decide)
  refine J.f λ_ j11=>J.b O<|J.g (qCM O O O) O<|J.b O<|J.c j11<|J.W O (λh19=>?_) (λh19=>?_)
  ·
   exact J.f λ_ j12=>J.b O<|J.c j12<|J.A<|J.a7<|J.V<|J.E hw0 O () (by unfold enc;rw [if_neg (by omega),if_neg (by omega),if_pos (by omega)];rfl) trivial [0] rfl (by decide)
  refine J.f λ_ j13=>J.b O<|J.g (qCM O O O) O<|J.b O<|J.c j13<|J.W O (λh22=>?_) (λh22=>?_)
  ·
   exact J.f λ_ j14=>J.b O<|J.c j14<|J.A<|J.a7<|J.V<|J.E hw0 O () (by unfold enc;rw [if_neg (by omega),if_neg (by omega),if_neg (by omega)];rfl) trivial [0] rfl (by decide)
  refine J.b5<|J.a2<|J.u (J.D j2 ?_)
  exact J.f λ_ j15=>J.b O<|J.c j15<|J.A<|J.E hw0 O () (by exfalso;omega) trivial [0] O (by decide)
 refine J.q 4 O<|J.c j9<|J.a1 ?_
 refine J.f λ_ j16=>J.b O<|J.g (qCM O O O) O<|J.b O<|J.c j16<|J.W O (λh19=>?_) (λh19=>?_)
 ·
  exact J.f λ_ j17=>J.b O<|J.c j17<|J.A<|J.a7<|J.V<|J.E hw0 O () (by unfold enc;rw [if_neg (by omega),if_neg (by omega),if_pos (by omega)];rfl) trivial [0] rfl (by decide)
 refine J.f λ_ j18=>J.b O<|J.g (qCM O O O) O<|J.b O<|J.c j18<|J.W O (λh22=>?_) (λh22=>?_)
 ·
  exact J.f λ_ j19=>J.b O<|J.c j19<|J.A<|J.a7<|J.V<|J.E hw0 O () (by unfold enc;rw [if_neg (by omega),if_neg (by omega),if_neg (by omega)];rfl) trivial [0] rfl (by decide)
 refine J.b5<|J.a2<|J.u (J.D j2 ?_)
 exact J.f λ_ j20=>J.b O<|J.c j20<|J.A<|J.E hw0 O () (by exfalso;omega) trivial [0] O (by decide)
theorem qQu(F:Hp)(hT:qB5 F)(s:List UInt8)(hs:s.length≤1000000):Ct prog 225 [Str (s)] [F] (λx:Option Addr×Nat×Hp=> .slice x.1 (spl [] s).length x.2.1) (λx=>Row x.2.2 9 1 x.1 (spl [] s).length x.2.1 (qAI (spl [] s))) (λx=> [F,x.2.2]):=by
 refine Ct.walk func225 rfl ntmps225 rfl (λw0 hw0=>?_)
 refine J.f λ_ j1=>J.b O<|J.c j1<|J.f λ_ j2=>J.p (qAG (l:= [.const ((Value.string (ByteArray.mk #[])))]) (xs:= [[Str ([])]]) O O O O qAk el9 O (by decide) (by decide) (by simp)) rfl λg7 _=>J.b rfl<|J.c j2<|J.k λ_ j3=>J.f λ_ j4=>J.b rfl<|J.p (qEi rfl rfl u9_) rfl ?_
 rintro g9 _
 refine J.c j4<|J.O<|J.b4 (X:=Nat×List (List UInt8)×List UInt8×Nat×Option Addr×Nat×Hp) (λζ=> [(0,Str (s)),(3,.slice ζ.2.2.2.2.1 ζ.2.2.2.1 ζ.2.2.2.2.2.1),(9,Ptr g9)]) (λζ=> [F,ζ.2.2.2.2.2.2,itr g9 s ζ.1]) (λζ=>ζ.1≤s.length∧ζ.2.2.2.1=ζ.2.1.length+1∧ζ.2.1.length≤ζ.1∧ζ.2.2.1.length≤ζ.1∧Row ζ.2.2.2.2.2.2 9 1 ζ.2.2.2.2.1 ζ.2.2.2.1 ζ.2.2.2.2.2.1 (qAI (ζ.2.1++ [ζ.2.2.1]))∧ζ.2.1++spl ζ.2.2.1 (s.drop ζ.1)=spl [] s) (λζ=>s.length-ζ.1) (0,[],[],1,_,_,_) (⟨by omega,O,by simp,by simp,qBD (qAI [[]]) rfl (by simp [qAI]) rfl,rfl⟩) ⟨rfl,rfl,rfl,trivial⟩ (λ_ h=>h) ?_
 rintro⟨p,ds,cur,n,A,c,m⟩ ⟨hp,hn,hd,hc,hr,he⟩ I0 hI0
 dsimp only at hp hn hd hc hr he⊢
 obtain ⟨ga,rfl⟩:=hr.at (by omega)
 have hlen:=congrArg List.length he
 refine J.f λ_ j5=>J.p (qFo (i:=2) O O O) O ?_
 rintro _ _
 refine J.g (qAh O O (qTc _ _)) O<|J.c j5<|J.k λ_ j6=>J.W O (λh11=>?_) (λh11=>?_)
 ·
  have hps:p<s.length:=h11
  have hnp:=qDh hps
  have hdl:=qNX s p hps
  have hdr:=qFx s p (by omega)
  have hdp:=qEQ s p (by omega)
  have hrl:=qTF hps
  have hdn:=qGw hps
  have hdd:=qD4 (s:=s) (pos:=p) (by omega)
  refine J.M j6<|J.O<|J.f λ_ j7=>J.g (qAh O O (nxt_1 hps)) O<|J.g (qAh O O (qWp hps)) O<|J.q 2 O<|J.c j7<|J.f λ_ j8=>J.b O<|J.p (qAB O O ent230 (Ct.use0 (λF' hF=>qWD F' ((dec s p).1) (qYw hps)))) O λg15 _=>J.b O<|J.c j8<|J.d4 (X:=Unit) (λζ=> [(0,Str (s)),(3,.slice (some ⟨ga,0,none⟩) n c),(4,I ((p:Nat):Int)),(5,.int .i32 (((dec s p).1:Nat):Int)),(6,I (((dec s p).2:Nat):Int)),(9,Ptr g9)]) (λζ=> [F,m,itr g9 s (qKA s p)]) (λζ=>True) (λ_ j9=>?_) ?_
  ·
   refine J.f λ_ j10=>J.b O<|J.g (qAg O O O) O<|J.c j10<|J.W O (λh17=>?_) (λh17=>?_)
   ·
    exact J.H<|J.q 2 O<|J.g ((qA9 u9_ O O O O ⟨by first|omega|(simp only [jA,jD,jE,jF,jI] at*;omega),by first|omega|(simp only [jA,jD,jE,jF,jI] at*;omega)⟩).as (v':=Str (s.drop p)) (by rw [jo])) rfl<|J.p (qAB rfl rfl ent229 (Ct.use0 (λF' hF=>qRZ F' (hT.mono (Fa hF)) (s.drop p) (by assumption)))) rfl λg22 _=>J.q 4 rfl<|J.a3<|J.u<|J.a4 () j9 (trivial) ⟨rfl,rfl,rfl,rfl,(by show some (I (((dec (s.drop p) 0).2:Nat):Int))=_;rw [←hdd]),rfl,trivial⟩ (λ_ h=>h)
   exact J.b5<|J.u<|J.a4 () j9 (trivial) ⟨O,O,O,O,(by show some (I (((enc (dec s p).1).length:Nat):Int))=_;rw [qXN hps (by omega)]),rfl,trivial⟩ (λ_ h=>h)
  rintro _ _
  refine J.f λ_ j11=>J.b O<|J.p (qAB O O ent224 (Ct.use0 (λF' hF=>qPi F' ((dec s p).1)))) O λg26 _=>J.c j11<|J.c6 O (λh26=>?_) (λh26=>?_)
  ·
   refine J.H<|J.b O<|J.p (qAG (l:= [.const ((Value.string (ByteArray.mk #[])))]) (xs:= [[Str ([])]]) O O O O qAk el9 O (by decide) (by decide) (by simp)) rfl λg28 _=>?_
   change J _ _ _ [F,m,itr g9 s (qKA s p),blk g28 [Str ([])] 9] _
   refine J.p (qAV (i:=1) (xs:=qAI (ds++ [cur])) (m2:=blk g28 [Str ([])] 9) (ys:= [[Str ([])]]) O O O qAk qAk el9 O hr (by simp) ((qBD (q:=True) (qAI [[]]) rfl (by simp [qAI]) rfl).sl) rfl (by first|omega|(simp only [jA,jD,jE,jF,jI] at*;omega)) (by first|omega|(simp only [jA,jD,jE,jF,jI] at*;omega))) rfl ?_
   rintro⟨A29,c29,m29⟩ h29
   try dsimp only at h29
   change J _ ((29,.slice A29 (n+1) c29)::_) _ [_,m29,_,_] _
   rw [←qB4] at h29
   exact J.b O<|J.a3<|J.a2<|J.u<|J.a4 (qKA s p,ds++ [cur],[],n+1,A29,c29,m29) (λη (hη:_∧s.length-η.1<s.length-p)=>hI0 η hη.1 hη.2) ⟨⟨by dsimp only;omega,by simp;omega,by simp;omega,by simp,h29,by rw [←he,qSu hps _ h26,jV];rfl⟩,by first|omega|(dsimp only;omega)⟩ ⟨rfl,rfl,rfl,trivial⟩ (λ_ h=>h.pick [0,1,2] (by decide))
  refine J.b0 [F,m,itr g9 s (qKA s p)] [14] (.y 0 (.y 1 (.y 2 (.y 3 (.y 4 (.y 5 (.y 6 (.y 7 (.y 8 (.y 9 (.y 10 (.y 11 (.y 12 (.y 13 (.e 14 .nil))))))))))))))) Tryz.wide (by decide+kernel) (by simp) ?_
  refine J.L ?_
  refine J.L ?_
  refine J.j O (qAU qAk O O) O O<|J.j O ((qA4 O O O (by omega)).nat (n-1) (by omega)) O O<|J.j O (qAi (i:=n-1) (j:=0+(n-1)*1) O O O qAk z9_ (by first|omega|(simp only [jA,jD,jE,jF,jI] at*;omega)) (by omega)) rfl rfl<|J.j rfl (qAJ rfl rfl b9_ (m:=m) (by simp) (hr.sl.cells (qAa (qAj [] (by first|omega|(simp only [jA,jD,jE,jF,jI] at*;omega)))))) rfl rfl<|J.L ?_
  iterate 3 refine J.L ?_
  refine J.j O ((qAS O O O (by first|omega|(simp only [jA,jD,jE,jF,jI] at*;omega))).as (v':=I ((p+((dec s p).2):Nat):Int)) (congrArg I (by omega))) rfl rfl<|J.j rfl (qA9 u9_ rfl rfl rfl rfl ⟨by first|omega|(simp only [jA,jD,jE,jF,jI] at*;omega),by first|omega|(simp only [jA,jD,jE,jF,jI] at*;omega)⟩) rfl rfl ?_
  have hgl:((ds++ [cur]).getD (n-1) []).length≤p:=by rw [show n-1=ds.length by omega,qTv];exact hc
  refine J.j O (qBI O O O (by first|omega|(simp only [jA,jD,jE,jF,jI] at*;omega))) rfl rfl<|J.j rfl (qAi (i:=n-1) (j:=0+(n-1)*1) rfl rfl rfl qAk z9_ (by first|omega|(simp only [jA,jD,jE,jF,jI] at*;omega)) (by omega)) rfl rfl<|J.c2 rfl (qBR (i:=1) (k:=n-1) (off:=0) (b:= [Str (((ds++ [cur]).getD (n-1) [])++((s.take (p+((dec s p).2))).drop p))]) rfl rfl rfl rfl hr (vs:= [Str (((ds++ [cur]).getD (n-1) [])++((s.take (p+((dec s p).2))).drop p))]) rfl z9_ rfl (by omega) (qAa (qAj [] (by first|omega|(simp only [jA,jD,jE,jF,jI] at*;omega)))) rfl (jK _)) rfl rfl rfl ?_
  rintro m10_1 hm10_1
  rw [qDb] at hm10_1
  exact J.a8<|J.a2<|J.u<|J.a4 (qKA s p,ds,cur++(s.take (p+(dec s p).2)).drop p,n,some ⟨ga,0,none⟩,c,m10_1) (λη (hη:_∧s.length-η.1<s.length-p)=>hI0 η hη.1 hη.2) ⟨⟨by dsimp only;omega,by simp;omega,by dsimp only;omega,by simp;omega,by rw [qTt _ _ _ (by omega)] at hm10_1;exact hm10_1,by rw [←he,qHE hps _ h26]⟩,by first|omega|(dsimp only;omega)⟩ ⟨rfl,rfl,rfl,trivial⟩ (λ_ h=>h)
 refine J.b2<|J.a0<|J.a0<|J.b3 ?_
 refine J.u (J.D j3 ?_)
 refine J.f λ_ j12=>J.q 2 O<|J.c j12<|J.A ?_
 have he2:ds++ [cur]=spl [] s:=by rw [←he,jp (by omega)];rfl
 have hn2:n=(spl [] s).length:=by rw [←he2];simp;omega
 rw [he2,hn2] at hr
 exact J.E hw0 O (some ⟨ga,0,none⟩,c,m) (by rw [hn2]) hr [0,1] rfl (by decide)
theorem qTY: ∀b:Nat,b<8→IntKind.i64.wrap (((BitVec.ofInt 64 (b:Int))&&&BitVec.ofInt 64 ((b:Int)-1)).toNat:Int)=((b&&&(b-1):Nat):Int):=by decide
theorem qYQ(F:Hp)(b:Nat)(hb:b<8):Cz prog 226 [I ((b:Nat):Int)] F (.bool (good b)):=by
 refine Ct.walk func226 rfl ntmps226 rfl (λw0 hw0=>?_)
 exact J.f λ_ j1=>J.b O<|J.c j1<|J.f λ_ j2=>J.q 2 O<|J.g (qA4 O O O (by omega)) O<|J.g (qWk O O O (qTY b hb)) O<|J.g (qAg O O O) O<|J.b O<|J.c j2<|J.A<|J.E hw0 O () (congrArg Value.bool (Bool.eq_iff_iff.2 (by rw [decide_eq_true_eq,←qTX b hb];exact Int.natCast_eq_zero))) trivial [0] rfl (by decide)
end Go.Proofs.YtcgcjaflllmlpaaGreatDoor
