/- A part of the proof. -/
import Derived.Test.YtcgcjaflllmlpaaGreatDoorTopCkG18
import Derived.Shelf.Strings.Count
set_option maxRecDepth 100000
set_option maxHeartbeats 1000000
set_option linter.unusedSimpArgs false
set_option linter.unusedVariables false
namespace Go.Proofs.YtcgcjaflllmlpaaGreatDoor
open Go Go.Fw Go.Proofs.Tryz
open Go.Shelf Go.RowKit
def Tryz.lays138_ren:Go.Shelf.Ren:=⟨λ|138=>228|195=>222|218=>248|143=>249|219=>258|217=>261|225=>262|224=>263|267=>264|266=>265|314=>266|n=>n,λ|9=>9|3=>3|4=>4|5=>5|0=>0|46=>198|146=>259|51=>253|n=>n,λ|1=>1|n=>n⟩
theorem Tryz.lays138:Go.Proofs.Lays.n138 prog Tryz.lays138_ren:={
 mixed:=by kernel_rfl
 f138:=func228.trans (congrArg some xI)
 f143:=func249.trans (congrArg some xI)
 f195:=func222.trans (congrArg some xI)
 f217:=func261.trans (congrArg some xI)
 f218:=func248.trans (congrArg some xI)
 f219:=func258.trans (congrArg some xI)
 f224:=func263.trans (congrArg some xI)
 f225:=func262.trans (congrArg some xI)
 f266:=func265.trans (congrArg some xI)
 f267:=func264.trans (congrArg some xI)
 f314:=func266.trans (congrArg some xI)
 t0:=u0_
 a0:=isAgg0
 z0:=sizeOf0
 v0:=e0_
 t3:=u3_
 a3:=b3_
 z3:=z3_
 v3:=e3_
 t4:=u4_
 a4:=b4_
 z4:=z4_
 v4:=e4_
 t5:=u5_
 a5:=b5_
 z5:=z5_
 v5:=e5_
 t9:=u9_
 a9:=b9_
 z9:=z9_
 v9:=e9_
 t46:=qIj
 a46:=isAgg198
 z46:=sizeOf198
 v46:=zeroValue198
 t51:=qJz
 a51:=qDG
 z51:=qCM
 v51:=zeroValue253
 t146:=underlying259
 a146:=isAgg259
 z146:=sizeOf259
 v146:=zeroValue259
 g1:=by kernel_rfl}
theorem Ct.ofSame{P:Program}{f:FuncId}{vs:List Value}{F:Hp}{v:Value}(h: ∀w,Le F (hp w)→Calls P f vs.toArray w λe w'=>e= .returned v∧w'=w):
    Ct P f vs [F] (λ_:Unit=>v) (λ_=>True) (λ_=> [F]):=Ct.ofBelow λw hw=>(h w hw).mono λ_ _ ⟨he,hs⟩=>⟨he,hs▸Below.refl _ _⟩
theorem qQN(F:Hp)(s:xA)(hs:s.length≤1000000):Cz prog 228 [Str s,Str [64]] F (I (s.count 64:Nat)):=Ct.ofSame λw hw=>
 Any.strings_Count_one Tryz.lays138 ⟨s.toArray⟩ 64 w
end Go.Proofs.YtcgcjaflllmlpaaGreatDoor
namespace Go.Proofs.YtcgcjaflllmlpaaGreatDoor
open Go Go.Fw Go.Proofs.Tryz
def qBd:List Value:= [I 1,R32 97,R32 122,I 2,R32 945,R32 969,I 4,R32 1072,R32 1103]
def qS0(k:Nat):Nat:=if k=0 then 1 else if k=1 then 2 else 4
def qJU(k:Nat):Nat:=if k=0 then 97 else if k=1 then 945 else 1072
def qJO(k:Nat):Nat:=if k=0 then 122 else if k=1 then 969 else 1103
theorem qLF{k:Nat}(h:k<3):Value.agg (qBd.toArray.extract (k*3) (k*3+3))= .agg [I (qS0 k:Nat),R32 (qJU k),R32 (qJO k)].toArray:=by
 match k,h with
 |0,_=>rfl
 |1,_=>rfl
 |2,_=>rfl
def qPZ(k r:Nat):Bool:=decide (qJU k≤r∧r≤qJO k)
def qU5(k r:Nat):Bool:=qPZ k (r+32)&&!qPZ k r&&decide (r≠930)
theorem qTa{k r:Nat}(hk:k<3)(h:qU5 k r=true):small r=r+32:=by
 unfold qU5 qPZ at h
 unfold small
 match k,hk with
 |0,_=>simp [qJU,qJO] at h;rw [if_pos xB]
 |1,_=>simp [qJU,qJO] at h;rw [if_pos xB]
 |2,_=>simp [qJU,qJO] at h;rw [if_pos xB]
theorem qTb{r:Nat}(h: ∀k<3,qU5 k r=false):small r=r:=by
 have h0:=h 0 xC
 have h1:=h 1 xC
 have h2:=h 2 xC
 simp [qU5,qPZ,qJU,qJO] at h0 h1 h2
 unfold small
 rw [if_neg xB]
theorem qXv{k r:Nat}(hk:k<3)(h:qPZ k (small r)=true):qKh r=qS0 k:=by
 unfold qPZ at h
 unfold qKh
 match k,hk with
 |0,_=>simp [qJU,qJO] at h;rw [if_pos xB];rfl
 |1,_=>simp [qJU,qJO] at h;rw [if_neg xB,if_pos xB];rfl
 |2,_=>simp [qJU,qJO] at h;rw [if_neg xB,if_neg xB,if_pos xB];rfl
theorem qXw{r:Nat}(h: ∀k<3,qPZ k (small r)=false):qKh r=0:=by
 have h0:=h 0 xC
 have h1:=h 1 xC
 have h2:=h 2 xC
 simp [qPZ,qJU,qJO] at h0 h1 h2
 unfold qKh
 rw [if_neg xB,if_neg xB,if_neg xB]
theorem qRq(F:Hp)(k r:Nat):Cz prog 233 [.agg #[I (qS0 k:Nat),R32 (qJU k),R32 (qJO k)],.int .i32 ((r:Nat):Int)] F (.bool (qPZ k r)):=by
 refine Ct.walk func233 O ntmps233 O (λw0 hw0=>?_)
 refine J.g λ_ j1=>J.p (qAZ O O O) O λg2 _=>J.b O<|J.c j1<|J.g λ_ j2=>J.b O<|J.M 1 qP2 sizeOf21 O O O O O<|J.a7 1 isAgg21 O O O O O<|J.f (qBL O O O) O<|J.b O<|J.b9 (d:=9) O (λh9=>?_) (λh9=>?_)
 ·
  exact J.b O<|J.D (qAA O O qP2 O sizeOf21 O) O<|J.D (qAC 1 O O O isAgg21 O) O<|J.D (qCY O O O) O<|J.k 2 O<|J.c j2<|J.A<|J.E hw0 O () (by unfold qPZ;exact congrArg Value.bool (decide_eq_decide.2 xB)) trivial [0] O xC
 exact J.k 6 O<|J.c j2<|J.A<|J.E hw0 O () (by unfold qPZ;rw [decide_eq_false (by omega: ¬(qJU k≤r∧r≤qJO k))]) trivial [0] O xC
theorem qMw(F:Hp)(hA:qAM F ⟨2,0,none⟩ qBd)(r:Nat)(hr:r≤1073741824):Cz prog 203 [.int .i32 ((r:Nat):Int)] F (.int .i32 ((small r:Nat):Int)):=by
 refine Ct.walk func203 O ntmps203 O (λw0 hw0=>?_)
 refine J.g λ_ j1=>J.b O<|J.c j1<|J.q λ_ j2=>J.g λ_ j3=>J.f (qE6 0 O O isAgg334 sizeOf334 O hA O) O<|J.b O<|J.c j3<|J.V<|J.b6 (X:=Nat) (λζ=> [(0,.int .i32 ((r:Nat):Int)),(5,.agg qBd.toArray),(6,I (ζ:Nat))]) (λζ=> [F]) (λζ=>ζ≤3∧ ∀j<ζ,qU5 j r=false) (λζ=>3-ζ) 0 (⟨xB,λj h=>absurd h (jy j)⟩) ⟨O,O,O,trivial⟩ (λ_ h=>h) ?_
 rintro k ⟨hk,hn⟩ I0 hI0
 refine J.g λ_ j4=>J.f (qAS O O O) O<|J.c j4<|J.q λ_ j5=>J.a0 O (λh7=>?_) (λh7=>?_)
 ·
  refine J.T j5<|J.q λ_ j6=>J.V<|J.g λ_ j7=>J.f ((qKT O O O underlying334 sizeOf333 isAgg333 xB).as (v':= .agg #[I (qS0 k:Nat),R32 (qJU k),R32 (qJO k)]) (qLF xB)) O<|J.p (qAJ O zeroValue333 O) O λg4 _=>J.a6 (qAD (i:=1) (l:= [I 0,.int .i32 0,.int .i32 0]) (vs:= [I (qS0 k:Nat),R32 (qJU k),R32 (qJO k)]) O O O O O sizeOf333 O O) O O λ_ _=>J.c j7<|J.g λ_ j8=>J.b8 1 isAgg333 sizeOf333 O O O O O<|J.b O<|J.f (qRA O O O xE) O<|J.p (qAa O O (λF' hF=>qRq F' k (r+32))) O λg12 _=>J.b O<|J.e1 (d:=13) O (λh13=>?_) (λh13=>?_)
  ·
   refine J.D (qAW 1 O O O isAgg333 sizeOf333 O) O<|J.b O<|J.c8 (qAa O O (λF' hF=>qRq F' k (r))) O λg16 _=>J.D (qAt O O) O<|J.k 2 O<|J.e1 (d:=19) O (λh19=>?_) (λh19=>?_)
   ·
    refine J.b O<|J.D (qAe O O O) O<|J.b O<|J.c j8<|J.a0 O (λh22=>?_) (λh22=>?_)
    ·
     exact J.g λ_ j9=>J.b O<|J.f (qRA O O O xE) O<|J.b O<|J.c j9<|J.A<|J.a8<|J.W<|J.W<|J.a8<|J.W<|J.E hw0 O () (by rw [qTa (k:=k) xB (by unfold qU5;simp [*];omega)]) trivial [0] O xC
    refine J.b5<|J.a3<|J.u (J.G j6 ?_)
    exact J.H<|J.f ((qAQ O O O xE).nat (k+1) xB) O<|J.b O<|J.a4<|J.u<|J.a5 (k+1) (λη (hη:_∧3-η<3-k)=>hI0 η hη.1 hη.2) ⟨⟨xB,λj hj=>by rcases Nat.lt_succ_iff_lt_or_eq.1 hj with h|rfl;exact hn j h;exact(by unfold qU5;simp [*];try omega)⟩,by first|omega|(dsimp only;omega)⟩ ⟨O,O,O,trivial⟩ (λ_ h=>h.pick [0] xC)
   refine J.k 3 O<|J.c j8<|J.a2 ?_
   refine J.b5<|J.a3<|J.u (J.G j6 ?_)
   exact J.H<|J.f ((qAQ O O O xE).nat (k+1) xB) O<|J.b O<|J.a4<|J.u<|J.a5 (k+1) (λη (hη:_∧3-η<3-k)=>hI0 η hη.1 hη.2) ⟨⟨xB,λj hj=>by rcases Nat.lt_succ_iff_lt_or_eq.1 hj with h|rfl;exact hn j h;exact(by unfold qU5;simp [*];try omega)⟩,by first|omega|(dsimp only;omega)⟩ ⟨O,O,O,trivial⟩ (λ_ h=>h.pick [0] xC)
  refine J.k 9 O<|J.c j8<|J.a2 ?_
  refine J.b5<|J.a3<|J.u (J.G j6 ?_)
  exact J.H<|J.f ((qAQ O O O xE).nat (k+1) xB) O<|J.b O<|J.a4<|J.u<|J.a5 (k+1) (λη (hη:_∧3-η<3-k)=>hI0 η hη.1 hη.2) ⟨⟨xB,λj hj=>by rcases Nat.lt_succ_iff_lt_or_eq.1 hj with h|rfl;exact hn j h;exact(by unfold qU5;simp [*];try omega)⟩,by first|omega|(dsimp only;omega)⟩ ⟨O,O,O,trivial⟩ (λ_ h=>h.pick [0] xC)
 refine J.b3<|J.a1<|J.a1<|J.b4 ?_
 refine J.u (J.G j2 ?_)
 exact J.g λ_ j10=>J.k 2 O<|J.c j10<|J.A<|J.E hw0 O () (by rw [qTb (λj hj=>hn j xB)]) trivial [0] O xC
theorem qKg(F:Hp)(hA:qAM F ⟨2,0,none⟩ qBd)(r:Nat)(hr:r≤1073741824):Cz prog 223 [.int .i32 ((r:Nat):Int)] F (I (qKh r:Nat)):=by
 refine Ct.walk func223 O ntmps223 O (λw0 hw0=>?_)
 refine J.g λ_ j1=>J.b O<|J.c j1<|J.g λ_ j2=>J.b O<|J.p (qAa O O (λF' hF=>qMw F' (hA.mono (Fa hF)) r xB)) O λg6 _=>J.b O<|J.c j2<|J.q λ_ j3=>J.g λ_ j4=>J.f (qE6 0 O O isAgg334 sizeOf334 O hA O) O<|J.b O<|J.c j4<|J.V<|J.b6 (X:=Nat) (λζ=> [(0,.int .i32 ((small r:Nat):Int)),(7,.agg qBd.toArray),(8,I (ζ:Nat))]) (λζ=> [F]) (λζ=>ζ≤3∧ ∀j<ζ,qPZ j (small r)=false) (λζ=>3-ζ) 0 (⟨xB,λj h=>absurd h (jy j)⟩) ⟨O,O,O,trivial⟩ (λ_ h=>h) ?_
 rintro k ⟨hk,hn⟩ I0 hI0
 refine J.g λ_ j5=>J.f (qAS O O O) O<|J.c j5<|J.q λ_ j6=>J.a0 O (λh9=>?_) (λh9=>?_)
 ·
  refine J.T j6<|J.q λ_ j7=>J.V<|J.g λ_ j8=>J.f ((qKT O O O underlying334 sizeOf333 isAgg333 xB).as (v':= .agg #[I (qS0 k:Nat),R32 (qJU k),R32 (qJO k)]) (qLF xB)) O<|J.p (qAJ O zeroValue333 O) O λg4 _=>J.a6 (qAD (i:=1) (l:= [I 0,.int .i32 0,.int .i32 0]) (vs:= [I (qS0 k:Nat),R32 (qJU k),R32 (qJO k)]) O O O O O sizeOf333 O O) O O λ_ _=>J.c j8<|J.g λ_ j9=>J.b8 1 isAgg333 sizeOf333 O O O O O<|J.b O<|J.p (qAa O O (λF' hF=>qRq F' k (small r))) O λg13 _=>J.c j9<|J.c7 O (λh13=>?_) (λh13=>?_)
  ·
   exact J.g λ_ j10=>J.M 0 qP2 z3_ O O O O O<|J.a7 1 b3_ O O O O O<|J.b O<|J.c j10<|J.A<|J.a8<|J.W<|J.W<|J.a8<|J.W<|J.E hw0 O () (by rw [qXv (k:=k) xB xG]) trivial [0] O xC
  refine J.b5<|J.a3<|J.u (J.G j7 ?_)
  exact J.H<|J.f ((qAQ O O O xE).nat (k+1) xB) O<|J.b O<|J.a4<|J.u<|J.a5 (k+1) (λη (hη:_∧3-η<3-k)=>hI0 η hη.1 hη.2) ⟨⟨xB,λj hj=>by rcases Nat.lt_succ_iff_lt_or_eq.1 hj with h|rfl;exact hn j h;assumption⟩,by first|omega|(dsimp only;omega)⟩ ⟨O,O,O,trivial⟩ (λ_ h=>h.pick [0] xC)
 refine J.b3<|J.a1<|J.a1<|J.b4 ?_
 refine J.u (J.G j3 ?_)
 exact J.g λ_ j11=>J.b O<|J.c j11<|J.A<|J.E hw0 O () (by rw [qXw (λj hj=>hn j xB)];rfl) trivial [0] O xC
theorem qQJ(F:Hp)(r:Nat):Cz prog 224 [.int .i32 ((r:Nat):Int)] F (.bool (qH2 r)):=by
 refine Ct.walk func224 O ntmps224 O (λw0 hw0=>?_)
 refine J.g λ_ j1=>J.b O<|J.c j1<|J.g λ_ j2=>J.b O<|J.f (qAX O O O) O<|J.b O<|J.b9 (d:=5) O (λh5=>?_) (λh5=>?_)
 ·
  exact J.k 12 O<|J.c j2<|J.A<|J.E hw0 O () (by unfold qH2;first|rw [decide_eq_true xB]|exact congrArg Value.bool (decide_eq_decide.2 xB)) trivial [0] O xC
 refine J.b O<|J.D (qAX O O O) O<|J.k 2 O<|J.b9 (d:=9) O (λh9=>?_) (λh9=>?_)
 ·
  exact J.k 8 O<|J.c j2<|J.A<|J.E hw0 O () (by unfold qH2;first|rw [decide_eq_true xB]|exact congrArg Value.bool (decide_eq_decide.2 xB)) trivial [0] O xC
 refine J.b O<|J.D (qAX O O O) O<|J.k 2 O<|J.b9 (d:=13) O (λh13=>?_) (λh13=>?_)
 ·
  exact J.k 4 O<|J.c j2<|J.A<|J.E hw0 O () (by unfold qH2;first|rw [decide_eq_true xB]|exact congrArg Value.bool (decide_eq_decide.2 xB)) trivial [0] O xC
 exact J.b O<|J.D (qAX O O O) O<|J.k 2 O<|J.c j2<|J.A<|J.E hw0 O () (by unfold qH2;first|rw [decide_eq_true xB]|exact congrArg Value.bool (decide_eq_decide.2 xB)) trivial [0] O xC
theorem qYZ(F:Hp)(hA:qAM F ⟨2,0,none⟩ qBd)(s:xA)(hs:s.length≤1000000):Cz prog 227 [Str (s)] F (I (qJo (rl s) 0:Nat)):=by
 refine Ct.walk func227 O ntmps227 O (λw0 hw0=>?_)
 refine J.g λ_ j1=>J.b O<|J.c j1<|J.g λ_ j2=>J.b O<|J.c j2<|J.q λ_ j3=>J.g λ_ j4=>J.b O<|J.p (qE5 O O u9_) O ?_
 rintro g7 _
 refine J.c j4<|J.V<|J.b6 (X:=Nat×Nat) (λζ=> [(3,I (ζ.2:Nat)),(7,Ptr g7)]) (λζ=> [F,itr g7 s ζ.1]) (λζ=>ζ.1≤s.length∧ζ.2<8∧qJo (rl (s.drop ζ.1)) ζ.2=qJo (rl s) 0) (λζ=>s.length-ζ.1) (0,0) (⟨xB,xB,O⟩) ⟨O,O,trivial⟩ (λ_ h=>h) ?_
 rintro⟨p,b⟩ ⟨hp,hb,he⟩ I0 hI0
 dsimp only at hp hb he⊢
 refine J.g λ_ j5=>J.p (qGC (i:=1) O O O) O ?_
 rintro _ _
 refine J.f (qAb O O (qUF _ _)) O<|J.c j5<|J.q λ_ j6=>J.a0 O (λh9=>?_) (λh9=>?_)
 ·
  have hps:p<s.length:=h9
  have hnp:=qDx hps
  have hdl:=qN0 s p hps
  have hdr:=qGN s p xB
  have hdp:=qEo s p xB
  have hrl:=qTt hps
  refine J.T j6<|J.V<|J.g λ_ j7=>J.f (qAb O O (qXg hps)) O<|J.b O<|J.c j7<|J.H<|J.k 2 O<|J.p (qAa O O (λF' hF=>qKg F' (hA.mono (Fa hF)) ((dec s p).1) xB)) O λg13 _=>?_
  have hll:=qMF (dec s p).1
  exact J.f (qVl O O O xE) O<|J.b O<|J.a4<|J.a3<|J.u<|J.a5 (qKW s p,b|||qKh (dec s p).1) (λη (hη:_∧s.length-η.1<s.length-p)=>hI0 η hη.1 hη.2) ⟨⟨by dsimp only;omega,Nat.or_lt_two_pow (n:=3) hb (qMF _),by rw [←he,hrl];rfl⟩,by first|omega|(dsimp only;omega)⟩ ⟨O,O,trivial⟩ (λ_ h=>h)
 refine J.b3<|J.a1<|J.a1<|J.b4 ?_
 refine J.u (J.G j3 ?_)
 exact J.g λ_ j8=>J.k 2 O<|J.c j8<|J.A<|J.E hw0 O () (by rw [←he,jr xB,qKF];rfl) trivial [0] O xC
theorem qQZ(F:Hp)(s:xA)(hs:s.length≤1000000):Cz prog 222 [Str (s)] F (I ((rl s).length:Nat)):=by
 refine Ct.walk func222 O ntmps222 O (λw0 hw0=>?_)
 refine J.g λ_ j1=>J.b O<|J.c j1<|J.q λ_ j2=>J.g λ_ j3=>J.b O<|J.p (qE5 O O u9_) O ?_
 rintro g4 _
 refine J.c j3<|J.V<|J.b6 (X:=Nat×Nat) (λζ=> [(2,I (ζ.2:Nat)),(4,Ptr g4)]) (λζ=> [F,itr g4 s ζ.1]) (λζ=>ζ.1≤s.length∧ζ.2≤ζ.1∧ζ.2+(rl (s.drop ζ.1)).length=(rl s).length) (λζ=>s.length-ζ.1) (0,0) (⟨xB,xB,jX _⟩) ⟨O,O,trivial⟩ (λ_ h=>h) ?_
 rintro⟨p,n⟩ ⟨hp,hb,he⟩ I0 hI0
 dsimp only at hp hb he⊢
 refine J.g λ_ j4=>J.p (qGC (i:=1) O O O) O ?_
 rintro _ _
 refine J.f (qAb O O (qUF _ _)) O<|J.c j4<|J.q λ_ j5=>J.a0 O (λh6=>?_) (λh6=>?_)
 ·
  have hps:p<s.length:=h6
  have hnp:=qDx hps
  have hdl:=qN0 s p hps
  have hdr:=qGN s p xB
  have hdp:=qEo s p xB
  have hrl:=qTt hps
  exact J.T j5<|J.V<|J.H<|J.b O<|J.f ((qAQ O O O xE).nat (n+1) xB) O<|J.b O<|J.a4<|J.a3<|J.u<|J.a5 (qKW s p,n+1) (λη (hη:_∧s.length-η.1<s.length-p)=>hI0 η hη.1 hη.2) ⟨⟨by dsimp only;omega,by dsimp only;omega,by rw [←he,hrl,jD];dsimp only;omega⟩,by first|omega|(dsimp only;omega)⟩ ⟨O,O,trivial⟩ (λ_ h=>h)
 refine J.b3<|J.a1<|J.a1<|J.b4 ?_
 refine J.u (J.G j2 ?_)
 exact J.g λ_ j6=>J.k 2 O<|J.c j6<|J.A<|J.E hw0 O () (by rw [←he,jr xB,qKF];rfl) trivial [0] O xC
theorem qTn(F:Hp)(hT:qCI F)(s:xA)(hs:s.length≤1000000):Cz prog 200 [Str (s)] F (.tuple #[I (if vld s=true then(rl s).length else 0:Nat),.bool (vld s)]):=by
 refine Ct.walk func200 O ntmps200 O (λw0 hw0=>?_)
 refine J.g λ_ j1=>J.k 2 O<|J.c j1<|J.q λ_ j2=>J.g λ_ j3=>J.b O<|J.p (qAa O O (λF' hF=>qTF F' (hT.mono (Fa hF)) s xB)) O λg5 _=>J.f (qAt O O) O<|J.c j3<|J.c7 O (λh6=>?_) (λh6=>?_)
 ·
  exact J.g λ_ j4=>J.k 2 O<|J.c j4<|J.A<|J.W<|J.b0 hw0 (λ_ _ h=>h) (qCK O O O) (qAn () (by rw [show vld s=false by simpa using h6];rfl) trivial [0] O xC)
 exact J.T j2<|J.g λ_ j5=>J.b O<|J.p (qAa O O (λF' hF=>qQZ F' s xB)) O λg8 _=>J.k 2 O<|J.c j5<|J.A<|J.b0 hw0 (λ_ _ h=>h) (qCK O O O) (qAn () (by rw [show vld s=true by simpa using h6];rfl) trivial [0] O xC)
theorem qW4(F:Hp)(r:Nat)(hr:Rn r):Cz prog 230 [.int .i32 ((r:Nat):Int)] F (I ((enc r).length:Nat)):=by
 obtain ⟨hr1,hr2⟩:=hr
 refine Ct.walk func230 O ntmps230 O (λw0 hw0=>?_)
 refine J.g λ_ j1=>J.b O<|J.c j1<|J.q λ_ j2=>J.V<|J.g λ_ j3=>J.b O<|J.f (qAS O O O) O<|J.b O<|J.c j3<|J.a0 O (λh3=>?_) (λh3=>?_)
 ·
  exact J.g λ_ j4=>J.b O<|J.c j4<|J.A<|J.a8<|J.W<|J.E hw0 O () (by exfalso;omega) trivial [0] O xC
 refine J.g λ_ j5=>J.b O<|J.f (qCY O O O) O<|J.b O<|J.c j5<|J.a0 O (λh6=>?_) (λh6=>?_)
 ·
  exact J.g λ_ j6=>J.b O<|J.c j6<|J.A<|J.a8<|J.W<|J.E hw0 O () (by rw [qCq xB];rfl) trivial [0] O xC
 refine J.g λ_ j7=>J.b O<|J.f (qCY O O O) O<|J.b O<|J.c j7<|J.a0 O (λh9=>?_) (λh9=>?_)
 ·
  exact J.g λ_ j8=>J.b O<|J.c j8<|J.A<|J.a8<|J.W<|J.E hw0 O () (by unfold enc;rw [if_neg xB,if_pos xB];rfl) trivial [0] O xC
 refine J.g λ_ j9=>J.b O<|J.f (qCY O O O) O<|J.b O<|J.b9 (d:=15) O (λh15=>?_) (λh15=>?_)
 ·
  refine J.b O<|J.D (qCY O O O) O<|J.k 2 O<|J.c j9<|J.a0 O (λh12=>?_) (λh12=>?_)
  ·
   exact J.g λ_ j10=>J.b O<|J.c j10<|J.A<|J.a8<|J.W<|J.E hw0 O () (by exfalso;omega) trivial [0] O xC
  refine J.g λ_ j11=>J.b O<|J.f (qCY O O O) O<|J.b O<|J.c j11<|J.a0 O (λh19=>?_) (λh19=>?_)
  ·
   exact J.g λ_ j12=>J.b O<|J.c j12<|J.A<|J.a8<|J.W<|J.E hw0 O () (by unfold enc;rw [if_neg xB,if_neg xB,if_pos xB];rfl) trivial [0] O xC
  refine J.g λ_ j13=>J.b O<|J.f (qCY O O O) O<|J.b O<|J.c j13<|J.a0 O (λh22=>?_) (λh22=>?_)
  ·
   exact J.g λ_ j14=>J.b O<|J.c j14<|J.A<|J.a8<|J.W<|J.E hw0 O () (by unfold enc;rw [if_neg xB,if_neg xB,if_neg xB];rfl) trivial [0] O xC
  refine J.b5<|J.a3<|J.u (J.G j2 ?_)
  exact J.g λ_ j15=>J.b O<|J.c j15<|J.A<|J.E hw0 O () (by exfalso;omega) trivial [0] O xC
 refine J.k 4 O<|J.c j9<|J.a2 ?_
 refine J.g λ_ j16=>J.b O<|J.f (qCY O O O) O<|J.b O<|J.c j16<|J.a0 O (λh19=>?_) (λh19=>?_)
 ·
  exact J.g λ_ j17=>J.b O<|J.c j17<|J.A<|J.a8<|J.W<|J.E hw0 O () (by unfold enc;rw [if_neg xB,if_neg xB,if_pos xB];rfl) trivial [0] O xC
 refine J.g λ_ j18=>J.b O<|J.f (qCY O O O) O<|J.b O<|J.c j18<|J.a0 O (λh22=>?_) (λh22=>?_)
 ·
  exact J.g λ_ j19=>J.b O<|J.c j19<|J.A<|J.a8<|J.W<|J.E hw0 O () (by unfold enc;rw [if_neg xB,if_neg xB,if_neg xB];rfl) trivial [0] O xC
 refine J.b5<|J.a3<|J.u (J.G j2 ?_)
 exact J.g λ_ j20=>J.b O<|J.c j20<|J.A<|J.E hw0 O () (by exfalso;omega) trivial [0] O xC
theorem qRS(F:Hp)(hT:qCI F)(s:xA)(hs:s.length≤1000000):Ct prog 225 [Str (s)] [F] (λx:Option Addr×Nat×Hp=> .slice x.1 (spl [] s).length x.2.1) (λx=>Row x.2.2 9 1 x.1 (spl [] s).length x.2.1 (qAG (spl [] s))) (λx=> [F,x.2.2]):=by
 refine Ct.walk func225 O ntmps225 O (λw0 hw0=>?_)
 refine J.g λ_ j1=>J.b O<|J.c j1<|J.g λ_ j2=>J.p (qAE (l:= [.const ((Value.string (ByteArray.mk #[])))]) (xs:= [[Str ([])]]) O O O O qAk el9 O xC xC xD) O λg7 _=>J.b O<|J.c j2<|J.q λ_ j3=>J.g λ_ j4=>J.b O<|J.p (qE5 O O u9_) O ?_
 rintro g9 _
 refine J.c j4<|J.V<|J.b6 (X:=Nat×List xA×xA×Nat×Option Addr×Nat×Hp) (λζ=> [(0,Str (s)),(3,.slice ζ.2.2.2.2.1 ζ.2.2.2.1 ζ.2.2.2.2.2.1),(9,Ptr g9)]) (λζ=> [F,ζ.2.2.2.2.2.2,itr g9 s ζ.1]) (λζ=>ζ.1≤s.length∧ζ.2.2.2.1=ζ.2.1.length+1∧ζ.2.1.length≤ζ.1∧ζ.2.2.1.length≤ζ.1∧Row ζ.2.2.2.2.2.2 9 1 ζ.2.2.2.2.1 ζ.2.2.2.1 ζ.2.2.2.2.2.1 (qAG (ζ.2.1++ [ζ.2.2.1]))∧ζ.2.1++spl ζ.2.2.1 (s.drop ζ.1)=spl [] s) (λζ=>s.length-ζ.1) (0,[],[],1,_,_,_) (⟨xB,O,by simp,by simp,qA7 (qAG [[]]) O (by simp [qAG]) O,O⟩) ⟨O,O,O,trivial⟩ (λ_ h=>h) ?_
 rintro⟨p,ds,cur,n,A,c,m⟩ ⟨hp,hn,hd,hc,hr,he⟩ I0 hI0
 dsimp only at hp hn hd hc hr he⊢
 obtain ⟨ga,rfl⟩:=hr.at xB
 have hlen:=congrArg List.length he
 refine J.g λ_ j5=>J.p (qGC (i:=2) O O O) O ?_
 rintro _ _
 refine J.f (qAb O O (qUF _ _)) O<|J.c j5<|J.q λ_ j6=>J.a0 O (λh11=>?_) (λh11=>?_)
 ·
  have hps:p<s.length:=h11
  have hnp:=qDx hps
  have hdl:=qN0 s p hps
  have hdr:=qGN s p xB
  have hdp:=qEo s p xB
  have hrl:=qTt hps
  have hdn:=qHR hps
  have hdd:=qEQ (s:=s) (pos:=p) xB
  refine J.T j6<|J.V<|J.g λ_ j7=>J.f (qAb O O (nxt_1 hps)) O<|J.f (qAb O O (qXg hps)) O<|J.k 2 O<|J.c j7<|J.g λ_ j8=>J.b O<|J.p (qAa O O (λF' hF=>qW4 F' ((dec s p).1) (qZt hps))) O λg15 _=>J.b O<|J.c j8<|J.d4 (X:=Unit) (λζ=> [(0,Str (s)),(3,.slice (some ⟨ga,0,none⟩) n c),(4,I (p:Nat)),(5,.int .i32 (((dec s p).1:Nat):Int)),(6,I ((dec s p).2:Nat)),(9,Ptr g9)]) (λζ=> [F,m,itr g9 s (qKW s p)]) (λζ=>True) (λ_ j9=>?_) ?_
  ·
   refine J.g λ_ j10=>J.b O<|J.f (qAX O O O) O<|J.c j10<|J.a0 O (λh17=>?_) (λh17=>?_)
   ·
    exact J.H<|J.k 2 O<|J.f ((qBD u9_ O O O O ⟨by first|omega|(simp only [jA,jD,jE,jF,jH] at*;omega),by first|omega|(simp only [jA,jD,jE,jF,jH] at*;omega)⟩).as (v':=Str (s.drop p)) (by rw [jp])) O<|J.p (qAa O O (λF' hF=>qSC F' (hT.mono (Fa hF)) (s.drop p) xG)) O λg22 _=>J.k 4 O<|J.a4<|J.u<|J.a5 () j9 (trivial) ⟨O,O,O,O,(by show some (I ((dec (s.drop p) 0).2:Nat))=_;rw [←hdd]),O,trivial⟩ (λ_ h=>h)
   exact J.b5<|J.u<|J.a5 () j9 (trivial) ⟨O,O,O,O,(by show some (I ((enc (dec s p).1).length:Nat))=_;rw [qYE hps xB]),O,trivial⟩ (λ_ h=>h)
  rintro _ _
  refine J.g λ_ j11=>J.b O<|J.p (qAa O O (λF' hF=>qQJ F' ((dec s p).1))) O λg26 _=>J.c j11<|J.c7 O (λh26=>?_) (λh26=>?_)
  ·
   refine J.H<|J.b O<|J.p (qAE (l:= [.const ((Value.string (ByteArray.mk #[])))]) (xs:= [[Str ([])]]) O O O O qAk el9 O xC xC xD) O λg28 _=>?_
   change J _ _ _ [F,m,itr g9 s (qKW s p),blk g28 [Str ([])] 9] _
   refine J.p (qAU (i:=1) (xs:=qAG (ds++ [cur])) (m2:=blk g28 [Str ([])] 9) (ys:= [[Str ([])]]) O O O qAk qAk el9 O hr xD ((qA7 (q:=True) (qAG [[]]) O (by simp [qAG]) O).sl) O xE xE) O ?_
   rintro⟨A29,c29,m29⟩ h29
   try dsimp only at h29
   change J _ ((29,.slice A29 (n+1) c29)::_) _ [_,m29,_,_] _
   rw [←qCG] at h29
   exact J.b O<|J.a4<|J.a3<|J.u<|J.a5 (qKW s p,ds++ [cur],[],n+1,A29,c29,m29) (λη (hη:_∧s.length-η.1<s.length-p)=>hI0 η hη.1 hη.2) ⟨⟨by dsimp only;omega,by simp;omega,by simp;omega,by simp,h29,by rw [←he,qTZ hps _ h26,jW];rfl⟩,by first|omega|(dsimp only;omega)⟩ ⟨O,O,O,trivial⟩ (λ_ h=>h.pick [0,1,2] xC)
  refine J.b1 [F,m,itr g9 s (qKW s p)] [14] (.y 0 (.y 1 (.y 2 (.y 3 (.y 4 (.y 5 (.y 6 (.y 7 (.y 8 (.y 9 (.y 10 (.y 11 (.y 12 (.y 13 (.e 14 .nil))))))))))))))) Tryz.wide xF xD ?_
  refine J.L ?_
  refine J.L ?_
  refine J.j O (qAR qAk O O) O O<|J.j O ((qA3 O O O xB).nat (n-1) xB) O O<|J.j O (qAj (i:=n-1) (j:=0+(n-1)*1) O O O qAk z9_ xE xB) O O<|J.j O (qAI O O b9_ (m:=m) xD (hr.sl.cells (qAY (qAi [] xE)))) O O<|J.L ?_
  iterate 3 refine J.L ?_
  refine J.j O ((qAQ O O O xE).as (v':=I (p+((dec s p).2):Nat)) (congrArg I xB)) O O<|J.j O (qBD u9_ O O O O ⟨by first|omega|(simp only [jA,jD,jE,jF,jH] at*;omega),by first|omega|(simp only [jA,jD,jE,jF,jH] at*;omega)⟩) O O ?_
  have hgl:((ds++ [cur]).getD (n-1) []).length≤p:=by rw [show n-1=ds.length by omega,qUZ];exact hc
  refine J.j O (qBN O O O xE) O O<|J.j O (qAj (i:=n-1) (j:=0+(n-1)*1) O O O qAk z9_ xE xB) O O<|J.c1 O (qBK (i:=1) (k:=n-1) (off:=0) (b:= [Str (((ds++ [cur]).getD (n-1) [])++((s.take (p+((dec s p).2))).drop p))]) O O O O hr (vs:= [Str (((ds++ [cur]).getD (n-1) [])++((s.take (p+((dec s p).2))).drop p))]) O z9_ O xB (qAY (qAi [] xE)) O (jK _)) O O O ?_
  rintro m10_1 hm10_1
  rw [qDq] at hm10_1
  exact J.a9<|J.a3<|J.u<|J.a5 (qKW s p,ds,cur++(s.take (p+(dec s p).2)).drop p,n,some ⟨ga,0,none⟩,c,m10_1) (λη (hη:_∧s.length-η.1<s.length-p)=>hI0 η hη.1 hη.2) ⟨⟨by dsimp only;omega,by simp;omega,by dsimp only;omega,by simp;omega,by rw [qUX _ _ _ xB] at hm10_1;exact hm10_1,by rw [←he,qHg hps _ h26]⟩,by first|omega|(dsimp only;omega)⟩ ⟨O,O,O,trivial⟩ (λ_ h=>h)
 refine J.b3<|J.a1<|J.a1<|J.b4 ?_
 refine J.u (J.G j3 ?_)
 refine J.g λ_ j12=>J.k 2 O<|J.c j12<|J.A ?_
 have he2:ds++ [cur]=spl [] s:=by rw [←he,jr xB];rfl
 have hn2:n=(spl [] s).length:=by rw [←he2];simp;omega
 rw [he2,hn2] at hr
 exact J.E hw0 O (some ⟨ga,0,none⟩,c,m) (by rw [hn2]) hr [0,1] O xC
theorem qUB: ∀b:Nat,b<8→IntKind.i64.wrap (((BitVec.ofInt 64 (b:Int))&&&BitVec.ofInt 64 ((b:Int)-1)).toNat:Int)=((b&&&(b-1):Nat):Int):=by decide
theorem qZK(F:Hp)(b:Nat)(hb:b<8):Cz prog 226 [I (b:Nat)] F (.bool (good b)):=by
 refine Ct.walk func226 O ntmps226 O (λw0 hw0=>?_)
 exact J.g λ_ j1=>J.b O<|J.c j1<|J.g λ_ j2=>J.k 2 O<|J.f (qA3 O O O xB) O<|J.f (qXa O O O (qUB b hb)) O<|J.f (qAX O O O) O<|J.b O<|J.c j2<|J.A<|J.E hw0 O () (congrArg Value.bool (Bool.eq_iff_iff.2 (by rw [decide_eq_true_eq,←qUA b hb];exact Int.natCast_eq_zero))) trivial [0] O xC
end Go.Proofs.YtcgcjaflllmlpaaGreatDoor