/- A part of the proof. -/
import Derived.Test.YtmemgokiolfdoaaGreatDoorTopMsG22
import Derived.Shelf.Strings.Count
set_option maxRecDepth 100000
set_option maxHeartbeats 1000000
set_option linter.unusedSimpArgs false
set_option linter.unusedVariables false
namespace Go.Proofs.YtmemgokiolfdoaaGreatDoor
open Go Go.Fw Go.Proofs.Tryz
open Go.Shelf Go.RowKit
def Tryz.lays138_ren:Go.Shelf.Ren:=⟨λ|138=>229|195=>223|218=>272|143=>273|219=>293|217=>303|225=>304|224=>305|267=>306|266=>321|314=>322|n=>n,λ|9=>9|3=>3|4=>4|5=>5|0=>0|46=>222|146=>303|51=>302|n=>n,λ|1=>4|n=>n⟩
theorem Tryz.lays138:Go.Proofs.Lays.n138 prog Tryz.lays138_ren:={
 mixed:=by kernel_rfl
 f138:=func229.trans (congrArg some xI)
 f143:=func273.trans (congrArg some xI)
 f195:=func223.trans (congrArg some xI)
 f217:=func303.trans (congrArg some xI)
 f218:=func272.trans (congrArg some xI)
 f219:=func293.trans (congrArg some xI)
 f224:=func305.trans (congrArg some xI)
 f225:=func304.trans (congrArg some xI)
 f266:=func321.trans (congrArg some xI)
 f267:=func306.trans (congrArg some xI)
 f314:=func322.trans (congrArg some xI)
 t0:=u0_
 a0:=isAgg0
 z0:=sizeOf0
 v0:=e0_
 t3:=u3_
 a3:=b3_
 z3:=z3_
 v3:=e3_
 t4:=u4_
 a4:=b4_
 z4:=z4_
 v4:=e4_
 t5:=u5_
 a5:=b5_
 z5:=z5_
 v5:=e5_
 t9:=u9_
 a9:=b9_
 z9:=z9_
 v9:=e9_
 t46:=qIt
 a46:=isAgg222
 z46:=sizeOf222
 v46:=zeroValue222
 t51:=qJ6
 a51:=qDO
 z51:=qCI
 v51:=zeroValue302
 t146:=underlying303
 a146:=isAgg303
 z146:=sizeOf303
 v146:=zeroValue303
 g1:=by kernel_rfl}
theorem Ct.ofSame{P:Program}{f:FuncId}{vs:List Value}{F:Hp}{v:Value}(h: ∀w,Le F (hp w)→Calls P f vs.toArray w λe w'=>e= .returned v∧w'=w):
    Ct P f vs [F] (λ_:Unit=>v) (λ_=>True) (λ_=> [F]):=Ct.ofBelow λw hw=>(h w hw).mono λ_ _ ⟨he,hs⟩=>⟨he,hs▸Below.refl _ _⟩
theorem qQL(F:Hp)(s:xA)(hs:s.length≤1000000):Cz prog 229 [Str s,Str [64]] F (I (s.count 64:Nat)):=Ct.ofSame λw hw=>
 Any.strings_Count_one Tryz.lays138 ⟨s.toArray⟩ 64 w
end Go.Proofs.YtmemgokiolfdoaaGreatDoor
namespace Go.Proofs.YtmemgokiolfdoaaGreatDoor
open Go Go.Fw Go.Proofs.Tryz
def qBT:List Value:= [I 1,R32 97,R32 122,I 2,R32 945,R32 969,I 4,R32 1072,R32 1103]
def qSz(k:Nat):Nat:=if k=0 then 1 else if k=1 then 2 else 4
def qJd(k:Nat):Nat:=if k=0 then 97 else if k=1 then 945 else 1072
def qJV(k:Nat):Nat:=if k=0 then 122 else if k=1 then 969 else 1103
theorem qLZ{k:Nat}(h:k<3):Value.agg (qBT.toArray.extract (k*3) (k*3+3))= .agg [I (qSz k:Nat),R32 (qJd k),R32 (qJV k)].toArray:=by
 match k,h with
 |0,_=>rfl
 |1,_=>rfl
 |2,_=>rfl
def qPV(k r:Nat):Bool:=decide (qJd k≤r∧r≤qJV k)
def qVF(k r:Nat):Bool:=qPV k (r+32)&&!qPV k r&&decide (r≠930)
theorem qTb{k r:Nat}(hk:k<3)(h:qVF k r=true):small r=r+32:=by
 unfold qVF qPV at h
 unfold small
 match k,hk with
 |0,_=>simp [qJd,qJV] at h;rw [if_pos xB]
 |1,_=>simp [qJd,qJV] at h;rw [if_pos xB]
 |2,_=>simp [qJd,qJV] at h;rw [if_pos xB]
theorem qTc{r:Nat}(h: ∀k<3,qVF k r=false):small r=r:=by
 have h0:=h 0 xC
 have h1:=h 1 xC
 have h2:=h 2 xC
 simp [qVF,qPV,qJd,qJV] at h0 h1 h2
 unfold small
 rw [if_neg xB]
theorem qXq{k r:Nat}(hk:k<3)(h:qPV k (small r)=true):qK1 r=qSz k:=by
 unfold qPV at h
 unfold qK1
 match k,hk with
 |0,_=>simp [qJd,qJV] at h;rw [if_pos xB];rfl
 |1,_=>simp [qJd,qJV] at h;rw [if_neg xB,if_pos xB];rfl
 |2,_=>simp [qJd,qJV] at h;rw [if_neg xB,if_neg xB,if_pos xB];rfl
theorem qXr{r:Nat}(h: ∀k<3,qPV k (small r)=false):qK1 r=0:=by
 have h0:=h 0 xC
 have h1:=h 1 xC
 have h2:=h 2 xC
 simp [qPV,qJd,qJV] at h0 h1 h2
 unfold qK1
 rw [if_neg xB,if_neg xB,if_neg xB]
theorem qRx(F:Hp)(k r:Nat):Cz prog 234 [.agg #[I (qSz k:Nat),R32 (qJd k),R32 (qJV k)],.int .i32 ((r:Nat):Int)] F (.bool (qPV k r)):=by
 refine Ct.walk func234 O ntmps234 O (λw0 hw0=>?_)
 refine J.f λ_ j1=>J.q (qAb O O O) O λg2 _=>J.b O<|J.c j1<|J.f λ_ j2=>J.b O<|J.W 1 qPu sizeOf21 O O O O O<|J.a6 1 isAgg21 O O O O O<|J.g (qBI O O O) O<|J.b O<|J.b9 (d:=9) O (λh9=>?_) (λh9=>?_)
 ·
  exact J.b O<|J.G (qAA O O qPu O sizeOf21 O) O<|J.G (qAD 1 O O O isAgg21 O) O<|J.G (qCb O O O) O<|J.p 2 O<|J.c j2<|J.A<|J.E hw0 O () (by unfold qPV;exact congrArg Value.bool (decide_eq_decide.2 xB)) trivial [0] O xC
 exact J.p 6 O<|J.c j2<|J.A<|J.E hw0 O () (by unfold qPV;rw [decide_eq_false (by omega: ¬(qJd k≤r∧r≤qJV k))]) trivial [0] O xC
theorem qM7(F:Hp)(hA:qAG F ⟨0,0,none⟩ qBT)(r:Nat)(hr:r≤1073741824):Cz prog 162 [.int .i32 ((r:Nat):Int)] F (.int .i32 ((small r:Nat):Int)):=by
 refine Ct.walk func162 O ntmps162 O (λw0 hw0=>?_)
 refine J.f λ_ j1=>J.b O<|J.c j1<|J.k λ_ j2=>J.f λ_ j3=>J.g (qFC 0 O O isAgg337 sizeOf337 O hA O) O<|J.b O<|J.c j3<|J.T<|J.b5 (X:=Nat) (λζ=> [(0,.int .i32 ((r:Nat):Int)),(5,.agg qBT.toArray),(6,I (ζ:Nat))]) (λζ=> [F]) (λζ=>ζ≤3∧ ∀j<ζ,qVF j r=false) (λζ=>3-ζ) 0 (⟨xB,λj h=>absurd h (jy j)⟩) ⟨O,O,O,trivial⟩ (λ_ h=>h) ?_
 rintro k ⟨hk,hn⟩ I0 hI0
 refine J.f λ_ j4=>J.g (qAS O O O) O<|J.c j4<|J.k λ_ j5=>J.Z O (λh7=>?_) (λh7=>?_)
 ·
  refine J.M j5<|J.k λ_ j6=>J.T<|J.f λ_ j7=>J.g ((qKn O O O underlying337 sizeOf336 isAgg336 xB).as (v':= .agg #[I (qSz k:Nat),R32 (qJd k),R32 (qJV k)]) (qLZ xB)) O<|J.q (qAJ O zeroValue336 O) O λg4 _=>J.a7 (qAC (i:=1) (l:= [I 0,.int .i32 0,.int .i32 0]) (vs:= [I (qSz k:Nat),R32 (qJd k),R32 (qJV k)]) O O O O O sizeOf336 O O) O O λ_ _=>J.c j7<|J.f λ_ j8=>J.c0 1 isAgg336 sizeOf336 O O O O O<|J.b O<|J.g (qQ9 O O O xE) O<|J.q (qAZ O O (λF' hF=>qRx F' k (r+32))) O λg12 _=>J.b O<|J.e4 (d:=13) O (λh13=>?_) (λh13=>?_)
  ·
   refine J.G (qAU 1 O O O isAgg336 sizeOf336 O) O<|J.b O<|J.d0 (qAZ O O (λF' hF=>qRx F' k (r))) O λg16 _=>J.G (qAs O O) O<|J.p 2 O<|J.e4 (d:=19) O (λh19=>?_) (λh19=>?_)
   ·
    refine J.b O<|J.G (qAV O O O) O<|J.b O<|J.c j8<|J.Z O (λh22=>?_) (λh22=>?_)
    ·
     exact J.f λ_ j9=>J.b O<|J.g (qQ9 O O O xE) O<|J.b O<|J.c j9<|J.A<|J.a5<|J.V<|J.V<|J.a5<|J.V<|J.E hw0 O () (by rw [qTb (k:=k) xB (by unfold qVF;simp [*];omega)]) trivial [0] O xC
    refine J.b2<|J.a2<|J.u (J.D j6 ?_)
    exact J.H<|J.g ((qAR O O O xE).nat (k+1) xB) O<|J.b O<|J.a4<|J.u<|J.a8 (k+1) (λη (hη:_∧3-η<3-k)=>hI0 η hη.1 hη.2) ⟨⟨xB,λj hj=>by rcases Nat.lt_succ_iff_lt_or_eq.1 hj with h|rfl;exact hn j h;exact(by unfold qVF;simp [*];try omega)⟩,by first|omega|(dsimp only;omega)⟩ ⟨O,O,O,trivial⟩ (λ_ h=>h.pick [0] xC)
   refine J.p 3 O<|J.c j8<|J.a3 ?_
   refine J.b2<|J.a2<|J.u (J.D j6 ?_)
   exact J.H<|J.g ((qAR O O O xE).nat (k+1) xB) O<|J.b O<|J.a4<|J.u<|J.a8 (k+1) (λη (hη:_∧3-η<3-k)=>hI0 η hη.1 hη.2) ⟨⟨xB,λj hj=>by rcases Nat.lt_succ_iff_lt_or_eq.1 hj with h|rfl;exact hn j h;exact(by unfold qVF;simp [*];try omega)⟩,by first|omega|(dsimp only;omega)⟩ ⟨O,O,O,trivial⟩ (λ_ h=>h.pick [0] xC)
  refine J.p 9 O<|J.c j8<|J.a3 ?_
  refine J.b2<|J.a2<|J.u (J.D j6 ?_)
  exact J.H<|J.g ((qAR O O O xE).nat (k+1) xB) O<|J.b O<|J.a4<|J.u<|J.a8 (k+1) (λη (hη:_∧3-η<3-k)=>hI0 η hη.1 hη.2) ⟨⟨xB,λj hj=>by rcases Nat.lt_succ_iff_lt_or_eq.1 hj with h|rfl;exact hn j h;exact(by unfold qVF;simp [*];try omega)⟩,by first|omega|(dsimp only;omega)⟩ ⟨O,O,O,trivial⟩ (λ_ h=>h.pick [0] xC)
 refine J.b3<|J.a0<|J.a0<|J.b4 ?_
 refine J.u (J.D j2 ?_)
 exact J.f λ_ j10=>J.p 2 O<|J.c j10<|J.A<|J.E hw0 O () (by rw [qTc (λj hj=>hn j xB)]) trivial [0] O xC
theorem qK0(F:Hp)(hA:qAG F ⟨0,0,none⟩ qBT)(r:Nat)(hr:r≤1073741824):Cz prog 224 [.int .i32 ((r:Nat):Int)] F (I (qK1 r:Nat)):=by
 refine Ct.walk func224 O ntmps224 O (λw0 hw0=>?_)
 refine J.f λ_ j1=>J.b O<|J.c j1<|J.f λ_ j2=>J.b O<|J.q (qAZ O O (λF' hF=>qM7 F' (hA.mono (Fa hF)) r xB)) O λg6 _=>J.b O<|J.c j2<|J.k λ_ j3=>J.f λ_ j4=>J.g (qFC 0 O O isAgg337 sizeOf337 O hA O) O<|J.b O<|J.c j4<|J.T<|J.b5 (X:=Nat) (λζ=> [(0,.int .i32 ((small r:Nat):Int)),(7,.agg qBT.toArray),(8,I (ζ:Nat))]) (λζ=> [F]) (λζ=>ζ≤3∧ ∀j<ζ,qPV j (small r)=false) (λζ=>3-ζ) 0 (⟨xB,λj h=>absurd h (jy j)⟩) ⟨O,O,O,trivial⟩ (λ_ h=>h) ?_
 rintro k ⟨hk,hn⟩ I0 hI0
 refine J.f λ_ j5=>J.g (qAS O O O) O<|J.c j5<|J.k λ_ j6=>J.Z O (λh9=>?_) (λh9=>?_)
 ·
  refine J.M j6<|J.k λ_ j7=>J.T<|J.f λ_ j8=>J.g ((qKn O O O underlying337 sizeOf336 isAgg336 xB).as (v':= .agg #[I (qSz k:Nat),R32 (qJd k),R32 (qJV k)]) (qLZ xB)) O<|J.q (qAJ O zeroValue336 O) O λg4 _=>J.a7 (qAC (i:=1) (l:= [I 0,.int .i32 0,.int .i32 0]) (vs:= [I (qSz k:Nat),R32 (qJd k),R32 (qJV k)]) O O O O O sizeOf336 O O) O O λ_ _=>J.c j8<|J.f λ_ j9=>J.c0 1 isAgg336 sizeOf336 O O O O O<|J.b O<|J.q (qAZ O O (λF' hF=>qRx F' k (small r))) O λg13 _=>J.c j9<|J.c5 O (λh13=>?_) (λh13=>?_)
  ·
   exact J.f λ_ j10=>J.W 0 qPu z3_ O O O O O<|J.a6 1 b3_ O O O O O<|J.b O<|J.c j10<|J.A<|J.a5<|J.V<|J.V<|J.a5<|J.V<|J.E hw0 O () (by rw [qXq (k:=k) xB xG]) trivial [0] O xC
  refine J.b2<|J.a2<|J.u (J.D j7 ?_)
  exact J.H<|J.g ((qAR O O O xE).nat (k+1) xB) O<|J.b O<|J.a4<|J.u<|J.a8 (k+1) (λη (hη:_∧3-η<3-k)=>hI0 η hη.1 hη.2) ⟨⟨xB,λj hj=>by rcases Nat.lt_succ_iff_lt_or_eq.1 hj with h|rfl;exact hn j h;assumption⟩,by first|omega|(dsimp only;omega)⟩ ⟨O,O,O,trivial⟩ (λ_ h=>h.pick [0] xC)
 refine J.b3<|J.a0<|J.a0<|J.b4 ?_
 refine J.u (J.D j3 ?_)
 exact J.f λ_ j11=>J.b O<|J.c j11<|J.A<|J.E hw0 O () (by rw [qXr (λj hj=>hn j xB)];rfl) trivial [0] O xC
theorem qQG(F:Hp)(r:Nat):Cz prog 225 [.int .i32 ((r:Nat):Int)] F (.bool (qIC r)):=by
 refine Ct.walk func225 O ntmps225 O (λw0 hw0=>?_)
 refine J.f λ_ j1=>J.b O<|J.c j1<|J.f λ_ j2=>J.b O<|J.g (qAe O O O) O<|J.b O<|J.b9 (d:=5) O (λh5=>?_) (λh5=>?_)
 ·
  exact J.p 12 O<|J.c j2<|J.A<|J.E hw0 O () (by unfold qIC;first|rw [decide_eq_true xB]|exact congrArg Value.bool (decide_eq_decide.2 xB)) trivial [0] O xC
 refine J.b O<|J.G (qAe O O O) O<|J.p 2 O<|J.b9 (d:=9) O (λh9=>?_) (λh9=>?_)
 ·
  exact J.p 8 O<|J.c j2<|J.A<|J.E hw0 O () (by unfold qIC;first|rw [decide_eq_true xB]|exact congrArg Value.bool (decide_eq_decide.2 xB)) trivial [0] O xC
 refine J.b O<|J.G (qAe O O O) O<|J.p 2 O<|J.b9 (d:=13) O (λh13=>?_) (λh13=>?_)
 ·
  exact J.p 4 O<|J.c j2<|J.A<|J.E hw0 O () (by unfold qIC;first|rw [decide_eq_true xB]|exact congrArg Value.bool (decide_eq_decide.2 xB)) trivial [0] O xC
 exact J.b O<|J.G (qAe O O O) O<|J.p 2 O<|J.c j2<|J.A<|J.E hw0 O () (by unfold qIC;first|rw [decide_eq_true xB]|exact congrArg Value.bool (decide_eq_decide.2 xB)) trivial [0] O xC
theorem qYU(F:Hp)(hA:qAG F ⟨0,0,none⟩ qBT)(s:xA)(hs:s.length≤1000000):Cz prog 228 [Str (s)] F (I (qJx (rl s) 0:Nat)):=by
 refine Ct.walk func228 O ntmps228 O (λw0 hw0=>?_)
 refine J.f λ_ j1=>J.b O<|J.c j1<|J.f λ_ j2=>J.b O<|J.c j2<|J.k λ_ j3=>J.f λ_ j4=>J.b O<|J.q (qFB O O u9_) O ?_
 rintro g7 _
 refine J.c j4<|J.T<|J.b5 (X:=Nat×Nat) (λζ=> [(3,I (ζ.2:Nat)),(7,Ptr g7)]) (λζ=> [F,itr g7 s ζ.1]) (λζ=>ζ.1≤s.length∧ζ.2<8∧qJx (rl (s.drop ζ.1)) ζ.2=qJx (rl s) 0) (λζ=>s.length-ζ.1) (0,0) (⟨xB,xB,O⟩) ⟨O,O,trivial⟩ (λ_ h=>h) ?_
 rintro⟨p,b⟩ ⟨hp,hb,he⟩ I0 hI0
 dsimp only at hp hb he⊢
 refine J.f λ_ j5=>J.q (qGN (i:=1) O O O) O ?_
 rintro _ _
 refine J.g (qAT O O (qUN _ _)) O<|J.c j5<|J.k λ_ j6=>J.Z O (λh9=>?_) (λh9=>?_)
 ·
  have hps:p<s.length:=h9
  have hnp:=qD5 hps
  have hdl:=qN2 s p hps
  have hdr:=qGW s p xB
  have hdp:=qEt s p xB
  have hrl:=qTw hps
  refine J.M j6<|J.T<|J.f λ_ j7=>J.g (qAT O O (qXc hps)) O<|J.b O<|J.c j7<|J.H<|J.p 2 O<|J.q (qAZ O O (λF' hF=>qK0 F' (hA.mono (Fa hF)) ((dec s p).1) xB)) O λg13 _=>?_
  have hll:=qMU (dec s p).1
  exact J.g (qVq O O O xE) O<|J.b O<|J.a4<|J.a2<|J.u<|J.a8 (qKr s p,b|||qK1 (dec s p).1) (λη (hη:_∧s.length-η.1<s.length-p)=>hI0 η hη.1 hη.2) ⟨⟨by dsimp only;omega,Nat.or_lt_two_pow (n:=3) hb (qMU _),by rw [←he,hrl];rfl⟩,by first|omega|(dsimp only;omega)⟩ ⟨O,O,trivial⟩ (λ_ h=>h)
 refine J.b3<|J.a0<|J.a0<|J.b4 ?_
 refine J.u (J.D j3 ?_)
 exact J.f λ_ j8=>J.p 2 O<|J.c j8<|J.A<|J.E hw0 O () (by rw [←he,js xB,qKS];rfl) trivial [0] O xC
theorem qQa(F:Hp)(s:xA)(hs:s.length≤1000000):Cz prog 223 [Str (s)] F (I ((rl s).length:Nat)):=by
 refine Ct.walk func223 O ntmps223 O (λw0 hw0=>?_)
 refine J.f λ_ j1=>J.b O<|J.c j1<|J.k λ_ j2=>J.f λ_ j3=>J.b O<|J.q (qFB O O u9_) O ?_
 rintro g4 _
 refine J.c j3<|J.T<|J.b5 (X:=Nat×Nat) (λζ=> [(2,I (ζ.2:Nat)),(4,Ptr g4)]) (λζ=> [F,itr g4 s ζ.1]) (λζ=>ζ.1≤s.length∧ζ.2≤ζ.1∧ζ.2+(rl (s.drop ζ.1)).length=(rl s).length) (λζ=>s.length-ζ.1) (0,0) (⟨xB,xB,jj _⟩) ⟨O,O,trivial⟩ (λ_ h=>h) ?_
 rintro⟨p,n⟩ ⟨hp,hb,he⟩ I0 hI0
 dsimp only at hp hb he⊢
 refine J.f λ_ j4=>J.q (qGN (i:=1) O O O) O ?_
 rintro _ _
 refine J.g (qAT O O (qUN _ _)) O<|J.c j4<|J.k λ_ j5=>J.Z O (λh6=>?_) (λh6=>?_)
 ·
  have hps:p<s.length:=h6
  have hnp:=qD5 hps
  have hdl:=qN2 s p hps
  have hdr:=qGW s p xB
  have hdp:=qEt s p xB
  have hrl:=qTw hps
  exact J.M j5<|J.T<|J.H<|J.b O<|J.g ((qAR O O O xE).nat (n+1) xB) O<|J.b O<|J.a4<|J.a2<|J.u<|J.a8 (qKr s p,n+1) (λη (hη:_∧s.length-η.1<s.length-p)=>hI0 η hη.1 hη.2) ⟨⟨by dsimp only;omega,by dsimp only;omega,by rw [←he,hrl,jD];dsimp only;omega⟩,by first|omega|(dsimp only;omega)⟩ ⟨O,O,trivial⟩ (λ_ h=>h)
 refine J.b3<|J.a0<|J.a0<|J.b4 ?_
 refine J.u (J.D j2 ?_)
 exact J.f λ_ j6=>J.p 2 O<|J.c j6<|J.A<|J.E hw0 O () (by rw [←he,js xB,qKS];rfl) trivial [0] O xC
theorem qTp(F:Hp)(hT:qBv F)(s:xA)(hs:s.length≤1000000):Cz prog 159 [Str (s)] F (.tuple #[I (if vld s=true then(rl s).length else 0:Nat),.bool (vld s)]):=by
 refine Ct.walk func159 O ntmps159 O (λw0 hw0=>?_)
 refine J.f λ_ j1=>J.p 2 O<|J.c j1<|J.k λ_ j2=>J.f λ_ j3=>J.b O<|J.q (qAZ O O (λF' hF=>qTH F' (hT.mono (Fa hF)) s xB)) O λg5 _=>J.g (qAs O O) O<|J.c j3<|J.c5 O (λh6=>?_) (λh6=>?_)
 ·
  exact J.f λ_ j4=>J.p 2 O<|J.c j4<|J.A<|J.V<|J.a9 hw0 (λ_ _ h=>h) (qBw O O O) (qAg () (by rw [show vld s=false by simpa using h6];rfl) trivial [0] O xC)
 exact J.M j2<|J.f λ_ j5=>J.b O<|J.q (qAZ O O (λF' hF=>qQa F' s xB)) O λg8 _=>J.p 2 O<|J.c j5<|J.A<|J.a9 hw0 (λ_ _ h=>h) (qBw O O O) (qAg () (by rw [show vld s=true by simpa using h6];rfl) trivial [0] O xC)
theorem qWw(F:Hp)(r:Nat)(hr:Rn r):Cz prog 231 [.int .i32 ((r:Nat):Int)] F (I ((enc r).length:Nat)):=by
 obtain ⟨hr1,hr2⟩:=hr
 refine Ct.walk func231 O ntmps231 O (λw0 hw0=>?_)
 refine J.f λ_ j1=>J.b O<|J.c j1<|J.k λ_ j2=>J.T<|J.f λ_ j3=>J.b O<|J.g (qAS O O O) O<|J.b O<|J.c j3<|J.Z O (λh3=>?_) (λh3=>?_)
 ·
  exact J.f λ_ j4=>J.b O<|J.c j4<|J.A<|J.a5<|J.V<|J.E hw0 O () (by exfalso;omega) trivial [0] O xC
 refine J.f λ_ j5=>J.b O<|J.g (qCb O O O) O<|J.b O<|J.c j5<|J.Z O (λh6=>?_) (λh6=>?_)
 ·
  exact J.f λ_ j6=>J.b O<|J.c j6<|J.A<|J.a5<|J.V<|J.E hw0 O () (by rw [qCu xB];rfl) trivial [0] O xC
 refine J.f λ_ j7=>J.b O<|J.g (qCb O O O) O<|J.b O<|J.c j7<|J.Z O (λh9=>?_) (λh9=>?_)
 ·
  exact J.f λ_ j8=>J.b O<|J.c j8<|J.A<|J.a5<|J.V<|J.E hw0 O () (by unfold enc;rw [if_neg xB,if_pos xB];rfl) trivial [0] O xC
 refine J.f λ_ j9=>J.b O<|J.g (qCb O O O) O<|J.b O<|J.b9 (d:=15) O (λh15=>?_) (λh15=>?_)
 ·
  refine J.b O<|J.G (qCb O O O) O<|J.p 2 O<|J.c j9<|J.Z O (λh12=>?_) (λh12=>?_)
  ·
   exact J.f λ_ j10=>J.b O<|J.c j10<|J.A<|J.a5<|J.V<|J.E hw0 O () (by exfalso;omega) trivial [0] O xC
  refine J.f λ_ j11=>J.b O<|J.g (qCb O O O) O<|J.b O<|J.c j11<|J.Z O (λh19=>?_) (λh19=>?_)
  ·
   exact J.f λ_ j12=>J.b O<|J.c j12<|J.A<|J.a5<|J.V<|J.E hw0 O () (by unfold enc;rw [if_neg xB,if_neg xB,if_pos xB];rfl) trivial [0] O xC
  refine J.f λ_ j13=>J.b O<|J.g (qCb O O O) O<|J.b O<|J.c j13<|J.Z O (λh22=>?_) (λh22=>?_)
  ·
   exact J.f λ_ j14=>J.b O<|J.c j14<|J.A<|J.a5<|J.V<|J.E hw0 O () (by unfold enc;rw [if_neg xB,if_neg xB,if_neg xB];rfl) trivial [0] O xC
  refine J.b2<|J.a2<|J.u (J.D j2 ?_)
  exact J.f λ_ j15=>J.b O<|J.c j15<|J.A<|J.E hw0 O () (by exfalso;omega) trivial [0] O xC
 refine J.p 4 O<|J.c j9<|J.a3 ?_
 refine J.f λ_ j16=>J.b O<|J.g (qCb O O O) O<|J.b O<|J.c j16<|J.Z O (λh19=>?_) (λh19=>?_)
 ·
  exact J.f λ_ j17=>J.b O<|J.c j17<|J.A<|J.a5<|J.V<|J.E hw0 O () (by unfold enc;rw [if_neg xB,if_neg xB,if_pos xB];rfl) trivial [0] O xC
 refine J.f λ_ j18=>J.b O<|J.g (qCb O O O) O<|J.b O<|J.c j18<|J.Z O (λh22=>?_) (λh22=>?_)
 ·
  exact J.f λ_ j19=>J.b O<|J.c j19<|J.A<|J.a5<|J.V<|J.E hw0 O () (by unfold enc;rw [if_neg xB,if_neg xB,if_neg xB];rfl) trivial [0] O xC
 refine J.b2<|J.a2<|J.u (J.D j2 ?_)
 exact J.f λ_ j20=>J.b O<|J.c j20<|J.A<|J.E hw0 O () (by exfalso;omega) trivial [0] O xC
theorem qRY(F:Hp)(hT:qBv F)(s:xA)(hs:s.length≤1000000):Ct prog 226 [Str (s)] [F] (λx:Option Addr×Nat×Hp=> .slice x.1 (spl [] s).length x.2.1) (λx=>Row x.2.2 9 1 x.1 (spl [] s).length x.2.1 (qAH (spl [] s))) (λx=> [F,x.2.2]):=by
 refine Ct.walk func226 O ntmps226 O (λw0 hw0=>?_)
 refine J.f λ_ j1=>J.b O<|J.c j1<|J.f λ_ j2=>J.q (qAE (l:= [.const ((Value.string (ByteArray.mk #[])))]) (xs:= [[Str ([])]]) O O O O qAn el9 O xC xC xD) O λg7 _=>J.b O<|J.c j2<|J.k λ_ j3=>J.f λ_ j4=>J.b O<|J.q (qFB O O u9_) O ?_
 rintro g9 _
 refine J.c j4<|J.T<|J.b5 (X:=Nat×List xA×xA×Nat×Option Addr×Nat×Hp) (λζ=> [(0,Str (s)),(3,.slice ζ.2.2.2.2.1 ζ.2.2.2.1 ζ.2.2.2.2.2.1),(9,Ptr g9)]) (λζ=> [F,ζ.2.2.2.2.2.2,itr g9 s ζ.1]) (λζ=>ζ.1≤s.length∧ζ.2.2.2.1=ζ.2.1.length+1∧ζ.2.1.length≤ζ.1∧ζ.2.2.1.length≤ζ.1∧Row ζ.2.2.2.2.2.2 9 1 ζ.2.2.2.2.1 ζ.2.2.2.1 ζ.2.2.2.2.2.1 (qAH (ζ.2.1++ [ζ.2.2.1]))∧ζ.2.1++spl ζ.2.2.1 (s.drop ζ.1)=spl [] s) (λζ=>s.length-ζ.1) (0,[],[],1,_,_,_) (⟨xB,O,by simp,by simp,qBO (qAH [[]]) O (by simp [qAH]) O,O⟩) ⟨O,O,O,trivial⟩ (λ_ h=>h) ?_
 rintro⟨p,ds,cur,n,A,c,m⟩ ⟨hp,hn,hd,hc,hr,he⟩ I0 hI0
 dsimp only at hp hn hd hc hr he⊢
 obtain ⟨ga,rfl⟩:=hr.at xB
 have hlen:=congrArg List.length he
 refine J.f λ_ j5=>J.q (qGN (i:=2) O O O) O ?_
 rintro _ _
 refine J.g (qAT O O (qUN _ _)) O<|J.c j5<|J.k λ_ j6=>J.Z O (λh11=>?_) (λh11=>?_)
 ·
  have hps:p<s.length:=h11
  have hnp:=qD5 hps
  have hdl:=qN2 s p hps
  have hdr:=qGW s p xB
  have hdp:=qEt s p xB
  have hrl:=qTw hps
  have hdn:=qHZ hps
  have hdd:=qES (s:=s) (pos:=p) xB
  refine J.M j6<|J.T<|J.f λ_ j7=>J.g (qAT O O (nxt_1 hps)) O<|J.g (qAT O O (qXc hps)) O<|J.p 2 O<|J.c j7<|J.f λ_ j8=>J.b O<|J.q (qAZ O O (λF' hF=>qWw F' ((dec s p).1) (qZu hps))) O λg15 _=>J.b O<|J.c j8<|J.d9 (X:=Unit) (λζ=> [(0,Str (s)),(3,.slice (some ⟨ga,0,none⟩) n c),(4,I (p:Nat)),(5,.int .i32 (((dec s p).1:Nat):Int)),(6,I ((dec s p).2:Nat)),(9,Ptr g9)]) (λζ=> [F,m,itr g9 s (qKr s p)]) (λζ=>True) (λ_ j9=>?_) ?_
  ·
   refine J.f λ_ j10=>J.b O<|J.g (qAe O O O) O<|J.c j10<|J.Z O (λh17=>?_) (λh17=>?_)
   ·
    exact J.H<|J.p 2 O<|J.g ((qA9 u9_ O O O O ⟨by first|omega|(simp only [jA,jD,jG,jF,jI] at*;omega),by first|omega|(simp only [jA,jD,jG,jF,jI] at*;omega)⟩).as (v':=Str (s.drop p)) (by rw [jm])) O<|J.q (qAZ O O (λF' hF=>qSF F' (hT.mono (Fa hF)) (s.drop p) xG)) O λg22 _=>J.p 4 O<|J.a4<|J.u<|J.a8 () j9 (trivial) ⟨O,O,O,O,(by show some (I ((dec (s.drop p) 0).2:Nat))=_;rw [←hdd]),O,trivial⟩ (λ_ h=>h)
   exact J.b2<|J.u<|J.a8 () j9 (trivial) ⟨O,O,O,O,(by show some (I ((enc (dec s p).1).length:Nat))=_;rw [qYB hps xB]),O,trivial⟩ (λ_ h=>h)
  rintro _ _
  refine J.f λ_ j11=>J.b O<|J.q (qAZ O O (λF' hF=>qQG F' ((dec s p).1))) O λg26 _=>J.c j11<|J.c5 O (λh26=>?_) (λh26=>?_)
  ·
   refine J.H<|J.b O<|J.q (qAE (l:= [.const ((Value.string (ByteArray.mk #[])))]) (xs:= [[Str ([])]]) O O O O qAn el9 O xC xC xD) O λg28 _=>?_
   change J _ _ _ [F,m,itr g9 s (qKr s p),blk g28 [Str ([])] 9] _
   refine J.q (qAX (i:=1) (xs:=qAH (ds++ [cur])) (m2:=blk g28 [Str ([])] 9) (ys:= [[Str ([])]]) O O O qAn qAn el9 O hr xD ((qBO (q:=True) (qAH [[]]) O (by simp [qAH]) O).sl) O xE xE) O ?_
   rintro⟨A29,c29,m29⟩ h29
   try dsimp only at h29
   change J _ ((29,.slice A29 (n+1) c29)::_) _ [_,m29,_,_] _
   rw [←qCD] at h29
   exact J.b O<|J.a4<|J.a2<|J.u<|J.a8 (qKr s p,ds++ [cur],[],n+1,A29,c29,m29) (λη (hη:_∧s.length-η.1<s.length-p)=>hI0 η hη.1 hη.2) ⟨⟨by dsimp only;omega,by simp;omega,by simp;omega,by simp,h29,by rw [←he,qTa hps _ h26,jX];rfl⟩,by first|omega|(dsimp only;omega)⟩ ⟨O,O,O,trivial⟩ (λ_ h=>h.pick [0,1,2] xC)
  refine J.b1 [F,m,itr g9 s (qKr s p)] [14] (.y 0 (.y 1 (.y 2 (.y 3 (.y 4 (.y 5 (.y 6 (.y 7 (.y 8 (.y 9 (.y 10 (.y 11 (.y 12 (.y 13 (.e 14 .nil))))))))))))))) Tryz.wide xF xD ?_
  refine J.L ?_
  refine J.L ?_
  refine J.j O (qAO qAn O O) O O<|J.j O ((qA4 O O O xB).nat (n-1) xB) O O<|J.j O (qAh (i:=n-1) (j:=0+(n-1)*1) O O O qAn z9_ xE xB) O O<|J.j O (qAI O O b9_ (m:=m) xD (hr.sl.cells (qAc (qAi [] xE)))) O O<|J.L ?_
  iterate 3 refine J.L ?_
  refine J.j O ((qAR O O O xE).as (v':=I (p+((dec s p).2):Nat)) (congrArg I xB)) O O<|J.j O (qA9 u9_ O O O O ⟨by first|omega|(simp only [jA,jD,jG,jF,jI] at*;omega),by first|omega|(simp only [jA,jD,jG,jF,jI] at*;omega)⟩) O O ?_
  have hgl:((ds++ [cur]).getD (n-1) []).length≤p:=by rw [show n-1=ds.length by omega,qUk];exact hc
  refine J.j O (qBe O O O xE) O O<|J.j O (qAh (i:=n-1) (j:=0+(n-1)*1) O O O qAn z9_ xE xB) O O<|J.c1 O (qBL (i:=1) (k:=n-1) (off:=0) (b:= [Str (((ds++ [cur]).getD (n-1) [])++((s.take (p+((dec s p).2))).drop p))]) O O O O hr (vs:= [Str (((ds++ [cur]).getD (n-1) [])++((s.take (p+((dec s p).2))).drop p))]) O z9_ O xB (qAc (qAi [] xE)) O (jJ _)) O O O ?_
  rintro m10_1 hm10_1
  rw [qDx] at hm10_1
  exact J.b0<|J.a2<|J.u<|J.a8 (qKr s p,ds,cur++(s.take (p+(dec s p).2)).drop p,n,some ⟨ga,0,none⟩,c,m10_1) (λη (hη:_∧s.length-η.1<s.length-p)=>hI0 η hη.1 hη.2) ⟨⟨by dsimp only;omega,by simp;omega,by dsimp only;omega,by simp;omega,by rw [qUi _ _ _ xB] at hm10_1;exact hm10_1,by rw [←he,qHs hps _ h26]⟩,by first|omega|(dsimp only;omega)⟩ ⟨O,O,O,trivial⟩ (λ_ h=>h)
 refine J.b3<|J.a0<|J.a0<|J.b4 ?_
 refine J.u (J.D j3 ?_)
 refine J.f λ_ j12=>J.p 2 O<|J.c j12<|J.A ?_
 have he2:ds++ [cur]=spl [] s:=by rw [←he,js xB];rfl
 have hn2:n=(spl [] s).length:=by rw [←he2];simp;omega
 rw [he2,hn2] at hr
 exact J.E hw0 O (some ⟨ga,0,none⟩,c,m) (by rw [hn2]) hr [0,1] O xC
theorem qUJ: ∀b:Nat,b<8→IntKind.i64.wrap (((BitVec.ofInt 64 (b:Int))&&&BitVec.ofInt 64 ((b:Int)-1)).toNat:Int)=((b&&&(b-1):Nat):Int):=by decide
theorem qZL(F:Hp)(b:Nat)(hb:b<8):Cz prog 227 [I (b:Nat)] F (.bool (good b)):=by
 refine Ct.walk func227 O ntmps227 O (λw0 hw0=>?_)
 exact J.f λ_ j1=>J.b O<|J.c j1<|J.f λ_ j2=>J.p 2 O<|J.g (qA4 O O O xB) O<|J.g (qXX O O O (qUJ b hb)) O<|J.g (qAe O O O) O<|J.b O<|J.c j2<|J.A<|J.E hw0 O () (congrArg Value.bool (Bool.eq_iff_iff.2 (by rw [decide_eq_true_eq,←qUI b hb];exact Int.natCast_eq_zero))) trivial [0] O xC
end Go.Proofs.YtmemgokiolfdoaaGreatDoor