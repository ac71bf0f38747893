/- A part of the proof. -/
import Derived.Test.YtmemgokiolfdoaaGreatDoorTopSpG19
import Derived.Shelf.Strings.Count
set_option maxRecDepth 100000
set_option maxHeartbeats 1000000
set_option linter.unusedSimpArgs false
set_option linter.unusedVariables false
namespace Go.Proofs.YtmemgokiolfdoaaGreatDoor
open Go Go.Fw Go.Proofs.Tryz
open Go.Shelf Go.RowKit
def Tryz.lays138_ren:Go.Shelf.Ren:=⟨λ|138=>229|195=>223|218=>272|143=>273|219=>293|217=>303|225=>304|224=>305|267=>306|266=>321|314=>322|n=>n,λ|9=>9|3=>3|4=>4|5=>5|0=>0|46=>222|146=>303|51=>302|n=>n,λ|1=>4|n=>n⟩
theorem Tryz.lays138:Go.Proofs.Lays.n138 prog Tryz.lays138_ren:={
 mixed:=by kernel_rfl
 f138:=func229.trans (yY some xH)
 f143:=func273.trans (yY some xH)
 f195:=func223.trans (yY some xH)
 f217:=func303.trans (yY some xH)
 f218:=func272.trans (yY some xH)
 f219:=func293.trans (yY some xH)
 f224:=func305.trans (yY some xH)
 f225:=func304.trans (yY some xH)
 f266:=func321.trans (yY some xH)
 f267:=func306.trans (yY some xH)
 f314:=func322.trans (yY some xH)
 t0:=u0_
 a0:=isAgg0
 z0:=sizeOf0
 v0:=e0_
 t3:=u3_
 a3:=b3_
 z3:=z3_
 v3:=e3_
 t4:=u4_
 a4:=b4_
 z4:=z4_
 v4:=e4_
 t5:=u5_
 a5:=b5_
 z5:=z5_
 v5:=e5_
 t9:=u9_
 a9:=b9_
 z9:=z9_
 v9:=e9_
 t46:=qJU
 a46:=isAgg222
 z46:=sizeOf222
 v46:=zeroValue222
 t51:=qKe
 a51:=qDg
 z51:=qCU
 v51:=zeroValue302
 t146:=underlying303
 a146:=isAgg303
 z146:=sizeOf303
 v146:=zeroValue303
 g1:=by kernel_rfl}
theorem Ct.ofSame{P:Program}{f:FuncId}{vs:yU}{F:Hp}{v:Value}(h: ∀w,Le F (hp w)->Calls P f vs.toArray w λe w'=>e= .returned v/\w'=w):
    Ct P f vs [F] (λ_:Unit=>v) (λ_=>True) (λ_=> [F]):=Ct.ofBelow λw hw=>(h w hw).mono λ_ _ ⟨he,hs⟩=>⟨he,hs▸Below.refl _ _⟩
theorem qQl(F:Hp)(s:xA)(hs:s.length<=1000000):Cz prog 229 [Str s,Str [64]] F (I (s.count 64:Nat)):=Ct.ofSame λw hw=>
 Any.strings_Count_one Tryz.lays138 ⟨s.toArray⟩ 64 w
end Go.Proofs.YtmemgokiolfdoaaGreatDoor
namespace Go.Proofs.YtmemgokiolfdoaaGreatDoor
open Go Go.Fw Go.Proofs.Tryz
def qBJ:yU:= [I 1,R32 97,R32 122,I 2,R32 945,R32 969,I 4,R32 1072,R32 1103]
def qTR(k:Nat):Nat:=if k=0 then 1 else if k=1 then 2 else 4
def qJ9(k:Nat):Nat:=if k=0 then 97 else if k=1 then 945 else 1072
def qJ4(k:Nat):Nat:=if k=0 then 122 else if k=1 then 969 else 1103
theorem qLw{k:Nat}(h:k<3):Value.agg (qBJ.toArray.extract (k*3) (k*3+3))= .agg [I (qTR k:Nat),R32 (qJ9 k),R32 (qJ4 k)].toArray:=by
 match k,h with
 |0,_=>rfl
 |1,_=>rfl
 |2,_=>rfl
def qPr(k r:Nat):Bool:=decide (qJ9 k<=r/\r<=qJ4 k)
def qVo(k r:Nat):Bool:=qPr k (r+32)&&!qPr k r&&decide (r≠930)
theorem qT1{k r:Nat}(hk:k<3)(h:qVo k r=true):small r=r+32:=by
 unfold qVo qPr at h
 unfold small
 match k,hk with
 |0,_=>simp [qJ9,qJ4] at h;rw [yX xB]
 |1,_=>simp [qJ9,qJ4] at h;rw [yX xB]
 |2,_=>simp [qJ9,qJ4] at h;rw [yX xB]
theorem qT2{r:Nat}(h: ∀k<3,qVo k r=false):small r=r:=by
 have h0:=h 0 xC
 have h1:=h 1 xC
 have h2:=h 2 xC
 simp [qVo,qPr,qJ9,qJ4] at h0 h1 h2
 unfold small
 rw [yW xB]
theorem qYV{k r:Nat}(hk:k<3)(h:qPr k (small r)=true):qEB r=qTR k:=by
 unfold qPr at h
 unfold qEB
 match k,hk with
 |0,_=>simp [qJ9,qJ4] at h;rw [yX xB];rfl
 |1,_=>simp [qJ9,qJ4] at h;rw [yW xB,yX xB];rfl
 |2,_=>simp [qJ9,qJ4] at h;rw [yW xB,yW xB,yX xB];rfl
theorem qYW{r:Nat}(h: ∀k<3,qPr k (small r)=false):qEB r=0:=by
 have h0:=h 0 xC
 have h1:=h 1 xC
 have h2:=h 2 xC
 simp [qPr,qJ9,qJ4] at h0 h1 h2
 unfold qEB
 rw [yW xB,yW xB,yW xB]
theorem qSU(F:Hp)(k r:Nat):Cz prog 234 [.agg #[I (qTR k:Nat),R32 (qJ9 k),R32 (qJ4 k)],.int .i32 ((r:Nat):Int)] F (.bool (qPr k r)):=by
 refine y7 func234 O ntmps234 O (λw0 hw0=>?_)
 refine yl λ_ C1=>yp (qAi O O O) O λg2 _=>yh O<|yi C1<|yl λ_ C2=>yh O<|vA 1 qQC sizeOf21 O O O O O<|vF 1 isAgg21 O O O O O<|yj (qA1 O O O) O<|yh O<|vO (d:=9) O (λh9=>?_) (λh9=>?_)
 .
  exact yh O<|yv (qAA O O qQC O sizeOf21 O) O<|yv (qAD 1 O O O isAgg21 O) O<|yv (qBQ O O O) O<|yn 2 O<|yi C2<|yr<|yw hw0 O () (by unfold qPr;exact yY Value.bool (decide_eq_decide.2 xB)) yd [0] O xC
 exact yn 6 O<|yi C2<|yr<|yw hw0 O () (by unfold qPr;rw [yb (by omega: ¬(qJ9 k<=r/\r<=qJ4 k))]) yd [0] O xC
abbrev yg(F:Hp):Prop:=qAI F ⟨0,0,none⟩ qBJ
theorem qNV(F:Hp)(hA:yg F)(r:Nat)(hr:r<=1073741824):Cz prog 162 [.int .i32 ((r:Nat):Int)] F (.int .i32 ((small r:Nat):Int)):=by
 refine y7 func162 O ntmps162 O (λw0 hw0=>?_)
 refine yl λ_ C1=>yh O<|yi C1<|ym λ_ C2=>yl λ_ C3=>yj (qHd 0 O O isAgg337 sizeOf337 O hA O) O<|yh O<|yi C3<|yz<|vN (X:=Nat) (λζ=> [(0,.int .i32 ((r:Nat):Int)),(5,.agg qBJ.toArray),(6,I (ζ:Nat))]) (λζ=> [F]) (λζ=>ζ<=3/\ ∀j<ζ,qVo j r=false) (λζ=>3-ζ) 0 (⟨xB,λj h=>absurd h (jz j)⟩) (Sub.of O) (λ_ h=>h) ?_
 rintro k ⟨hk,hn⟩ I0 hI0
 refine yl λ_ C4=>yj (qAP O O O) O<|yi C4<|ym λ_ C5=>y1 O (λh7=>?_) (λh7=>?_)
 .
  refine yy C5<|ym λ_ C6=>yz<|yl λ_ C7=>yj ((qK6 O O O underlying337 sizeOf336 isAgg336 xB).as (v':= .agg #[I (qTR k:Nat),R32 (qJ9 k),R32 (qJ4 k)]) (qLw xB)) O<|yp (qAO O zeroValue336 O) O λg4 _=>vG (qAF (i:=1) (l:= [I 0,.int .i32 0,.int .i32 0]) (vs:= [I (qTR k:Nat),R32 (qJ9 k),R32 (qJ4 k)]) O O O O O sizeOf336 O O) O O λ_ _=>yi C7<|yl λ_ C8=>vT 1 isAgg336 sizeOf336 O O O O O<|yh O<|yj (qRa O O O xE) O<|yp (qAZ O O (λF' hF=>qSU F' k (r+32))) O λg12 _=>yh O<|vz (d:=13) O (λh13=>?_) (λh13=>?_)
  .
   refine yv (qAx 1 O O O isAgg336 sizeOf336 O) O<|yh O<|vg (qAZ O O (λF' hF=>qSU F' k (r))) O λg16 _=>yv (qA5 O O) O<|yn 2 O<|vz (d:=19) O (λh19=>?_) (λh19=>?_)
   .
    refine yh O<|yv (qAQ O O O) O<|yh O<|yi C8<|y1 O (λh22=>?_) (λh22=>?_)
    .
     exact yl λ_ C9=>yh O<|yj (qRa O O O xE) O<|yh O<|yi C9<|yr<|vI<|y5<|y5<|vI<|y5<|yw hw0 O () (by rw [qT1 (k:=k) xB (by unfold qVo;simp [*];omega)]) yd [0] O xC
    refine vP<|vB<|yq (yu C6 ?_)
    exact yt<|yj ((qAM O O O xE).nat (k+1) xB) O<|yh O<|y8<|yq<|vE (k+1) hI0 ⟨xB,λj hj=>by rcases Nat.lt_succ_iff_lt_or_eq.1 hj with h|rfl;exact hn j h;exact(by unfold qVo;simp [*];try omega)⟩ (Sub.of O) (λ_ h=>h.pick [0] xC)
   refine yn 3 O<|yi C8<|vC ?_
   refine vP<|vB<|yq (yu C6 ?_)
   exact yt<|yj ((qAM O O O xE).nat (k+1) xB) O<|yh O<|y8<|yq<|vE (k+1) hI0 ⟨xB,λj hj=>by rcases Nat.lt_succ_iff_lt_or_eq.1 hj with h|rfl;exact hn j h;exact(by unfold qVo;simp [*];try omega)⟩ (Sub.of O) (λ_ h=>h.pick [0] xC)
  refine yn 9 O<|yi C8<|vC ?_
  refine vP<|vB<|yq (yu C6 ?_)
  exact yt<|yj ((qAM O O O xE).nat (k+1) xB) O<|yh O<|y8<|yq<|vE (k+1) hI0 ⟨xB,λj hj=>by rcases Nat.lt_succ_iff_lt_or_eq.1 hj with h|rfl;exact hn j h;exact(by unfold qVo;simp [*];try omega)⟩ (Sub.of O) (λ_ h=>h.pick [0] xC)
 refine vK<|y6<|y6<|vL ?_
 refine yq (yu C2 ?_)
 exact yl λ_ C10=>yn 2 O<|yi C10<|yr<|yw hw0 O () (by rw [qT2 (λj hj=>hn j xB)]) yd [0] O xC
theorem qLM(F:Hp)(hA:yg F)(r:Nat)(hr:r<=1073741824):Cz prog 224 [.int .i32 ((r:Nat):Int)] F (I (qEB r:Nat)):=by
 refine y7 func224 O ntmps224 O (λw0 hw0=>?_)
 refine yl λ_ C1=>yh O<|yi C1<|yl λ_ C2=>yh O<|yp (qAZ O O (λF' hF=>qNV F' (hA.mono (Fa hF)) r xB)) O λg6 _=>yh O<|yi C2<|ym λ_ C3=>yl λ_ C4=>yj (qHd 0 O O isAgg337 sizeOf337 O hA O) O<|yh O<|yi C4<|yz<|vN (X:=Nat) (λζ=> [(0,.int .i32 ((small r:Nat):Int)),(7,.agg qBJ.toArray),(8,I (ζ:Nat))]) (λζ=> [F]) (λζ=>ζ<=3/\ ∀j<ζ,qPr j (small r)=false) (λζ=>3-ζ) 0 (⟨xB,λj h=>absurd h (jz j)⟩) (Sub.of O) (λ_ h=>h) ?_
 rintro k ⟨hk,hn⟩ I0 hI0
 refine yl λ_ C5=>yj (qAP O O O) O<|yi C5<|ym λ_ C6=>y1 O (λh9=>?_) (λh9=>?_)
 .
  refine yy C6<|ym λ_ C7=>yz<|yl λ_ C8=>yj ((qK6 O O O underlying337 sizeOf336 isAgg336 xB).as (v':= .agg #[I (qTR k:Nat),R32 (qJ9 k),R32 (qJ4 k)]) (qLw xB)) O<|yp (qAO O zeroValue336 O) O λg4 _=>vG (qAF (i:=1) (l:= [I 0,.int .i32 0,.int .i32 0]) (vs:= [I (qTR k:Nat),R32 (qJ9 k),R32 (qJ4 k)]) O O O O O sizeOf336 O O) O O λ_ _=>yi C8<|yl λ_ C9=>vT 1 isAgg336 sizeOf336 O O O O O<|yh O<|yp (qAZ O O (λF' hF=>qSU F' k (small r))) O λg13 _=>yi C9<|vf O (λh13=>?_) (λh13=>?_)
  .
   exact yl λ_ C10=>vA 0 qQC z3_ O O O O O<|vF 1 b3_ O O O O O<|yh O<|yi C10<|yr<|vI<|y5<|y5<|vI<|y5<|yw hw0 O () (by rw [qYV (k:=k) xB xG]) yd [0] O xC
  refine vP<|vB<|yq (yu C7 ?_)
  exact yt<|yj ((qAM O O O xE).nat (k+1) xB) O<|yh O<|y8<|yq<|vE (k+1) hI0 ⟨xB,λj hj=>by rcases Nat.lt_succ_iff_lt_or_eq.1 hj with h|rfl;exact hn j h;assumption⟩ (Sub.of O) (λ_ h=>h.pick [0] xC)
 refine vK<|y6<|y6<|vL ?_
 refine yq (yu C3 ?_)
 exact yl λ_ C11=>yh O<|yi C11<|yr<|yw hw0 O () (by rw [qYW (λj hj=>hn j xB)];rfl) yd [0] O xC
theorem qQe(F:Hp)(r:Nat):Cz prog 225 [.int .i32 ((r:Nat):Int)] F (.bool (qIg r)):=by
 refine y7 func225 O ntmps225 O (λw0 hw0=>?_)
 refine yl λ_ C1=>yh O<|yi C1<|yl λ_ C2=>yh O<|yj (qAR O O O) O<|yh O<|vO (d:=5) O (λh5=>?_) (λh5=>?_)
 .
  exact yn 12 O<|yi C2<|yr<|yw hw0 O () (by unfold qIg;first|rw [ya xB]|exact yY Value.bool (decide_eq_decide.2 xB)) yd [0] O xC
 refine yh O<|yv (qAR O O O) O<|yn 2 O<|vO (d:=9) O (λh9=>?_) (λh9=>?_)
 .
  exact yn 8 O<|yi C2<|yr<|yw hw0 O () (by unfold qIg;first|rw [ya xB]|exact yY Value.bool (decide_eq_decide.2 xB)) yd [0] O xC
 refine yh O<|yv (qAR O O O) O<|yn 2 O<|vO (d:=13) O (λh13=>?_) (λh13=>?_)
 .
  exact yn 4 O<|yi C2<|yr<|yw hw0 O () (by unfold qIg;first|rw [ya xB]|exact yY Value.bool (decide_eq_decide.2 xB)) yd [0] O xC
 exact yh O<|yv (qAR O O O) O<|yn 2 O<|yi C2<|yr<|yw hw0 O () (by unfold qIg;first|rw [ya xB]|exact yY Value.bool (decide_eq_decide.2 xB)) yd [0] O xC
theorem qZL(F:Hp)(hA:yg F)(s:xA)(hs:s.length<=1000000):Cz prog 228 [Str (s)] F (I (qKT (rl s) 0:Nat)):=by
 refine y7 func228 O ntmps228 O (λw0 hw0=>?_)
 refine yl λ_ C1=>yh O<|yi C1<|yl λ_ C2=>yh O<|yi C2<|ym λ_ C3=>yl λ_ C4=>yh O<|yp (qFU O O u9_) O ?_
 rintro g7 _
 refine yi C4<|yz<|vN (X:=Nat×Nat) (λζ=> [(3,I (ζ.2:Nat)),(7,Ptr g7)]) (λζ=> [F,itr g7 s ζ.1]) (λζ=>ζ.1<=s.length/\ζ.2<8/\qKT (rl (s.drop ζ.1)) ζ.2=qKT (rl s) 0) (λζ=>s.length-ζ.1) (0,0) (⟨xB,xB,O⟩) (Sub.of O) (λ_ h=>h) ?_
 rintro⟨p,b⟩ ⟨hp,hb,he⟩ I0 hI0
 dsimp only at hp hb he⊢
 refine yl λ_ C5=>yp (qGy (i:=1) O O O) O ?_
 rintro _ _
 refine yj (qAp O O (qUw _ _)) O<|yi C5<|ym λ_ C6=>y1 O (λh9=>?_) (λh9=>?_)
 .
  have hps:p<s.length:=h9
  have hnp:=qER hps
  have hdl:=qOT s p hps
  have hdr:=qG8 s p xB
  have hdp:=qFB s p xB
  have hrl:=qUK hps
  refine yy C6<|yz<|yl λ_ C7=>yj (qAp O O (qYL hps)) O<|yh O<|yi C7<|yt<|yn 2 O<|yp (qAZ O O (λF' hF=>qLM F' (hA.mono (Fa hF)) ((dec s p).1) xB)) O λg13 _=>?_
  have hll:=qMi (dec s p).1
  exact yj (qRY O O O xE) O<|yh O<|y8<|vB<|yq<|vE (qLE s p,b|||qEB (dec s p).1) hI0 ⟨by dsimp only;omega,Nat.or_lt_two_pow (n:=3) hb (qMi _),by rw [<-he,hrl];rfl⟩ (Sub.of O) (λ_ h=>h)
 refine vK<|y6<|y6<|vL ?_
 refine yq (yu C3 ?_)
 exact yl λ_ C8=>yn 2 O<|yi C8<|yr<|yw hw0 O () (by rw [<-he,j4 xB,qKv];rfl) yd [0] O xC
theorem qQ2(F:Hp)(s:xA)(hs:s.length<=1000000):Cz prog 223 [Str (s)] F (I ((rl s).length:Nat)):=by
 refine y7 func223 O ntmps223 O (λw0 hw0=>?_)
 refine yl λ_ C1=>yh O<|yi C1<|ym λ_ C2=>yl λ_ C3=>yh O<|yp (qFU O O u9_) O ?_
 rintro g4 _
 refine yi C3<|yz<|vN (X:=Nat×Nat) (λζ=> [(2,I (ζ.2:Nat)),(4,Ptr g4)]) (λζ=> [F,itr g4 s ζ.1]) (λζ=>ζ.1<=s.length/\ζ.2<=ζ.1/\ζ.2+(rl (s.drop ζ.1)).length=(rl s).length) (λζ=>s.length-ζ.1) (0,0) (⟨xB,xB,jl _⟩) (Sub.of O) (λ_ h=>h) ?_
 rintro⟨p,n⟩ ⟨hp,hb,he⟩ I0 hI0
 dsimp only at hp hb he⊢
 refine yl λ_ C4=>yp (qGy (i:=1) O O O) O ?_
 rintro _ _
 refine yj (qAp O O (qUw _ _)) O<|yi C4<|ym λ_ C5=>y1 O (λh6=>?_) (λh6=>?_)
 .
  have hps:p<s.length:=h6
  have hnp:=qER hps
  have hdl:=qOT s p hps
  have hdr:=qG8 s p xB
  have hdp:=qFB s p xB
  have hrl:=qUK hps
  exact yy C5<|yz<|yt<|yh O<|yj ((qAM O O O xE).nat (n+1) xB) O<|yh O<|y8<|vB<|yq<|vE (qLE s p,n+1) hI0 ⟨by dsimp only;omega,by dsimp only;omega,by rw [<-he,hrl,jC];dsimp only;omega⟩ (Sub.of O) (λ_ h=>h)
 refine vK<|y6<|y6<|vL ?_
 refine yq (yu C2 ?_)
 exact yl λ_ C6=>yn 2 O<|yi C6<|yr<|yw hw0 O () (by rw [<-he,j4 xB,qKv];rfl) yd [0] O xC
theorem qUC(F:Hp)(hT:qBl F)(s:xA)(hs:s.length<=1000000):Cz prog 159 [Str (s)] F (.tuple #[I (if vld s=true then(rl s).length else 0:Nat),.bool (vld s)]):=by
 refine y7 func159 O ntmps159 O (λw0 hw0=>?_)
 refine yl λ_ C1=>yn 2 O<|yi C1<|ym λ_ C2=>yl λ_ C3=>yh O<|yp (qAZ O O (λF' hF=>qTd F' (hT.mono (Fa hF)) s xB)) O λg5 _=>yj (qA5 O O) O<|yi C3<|vf O (λh6=>?_) (λh6=>?_)
 .
  exact yl λ_ C4=>yn 2 O<|yi C4<|yr<|y5<|vH hw0 (λ_ _ h=>h) (qB5 O O O) (qAf () (by rw [show vld s=false by simpa using h6];rfl) yd [0] O xC)
 exact yy C2<|yl λ_ C5=>yh O<|yp (qAZ O O (λF' hF=>qQ2 F' s xB)) O λg8 _=>yn 2 O<|yi C5<|yr<|vH hw0 (λ_ _ h=>h) (qB5 O O O) (qAf () (by rw [show vld s=true by simpa using h6];rfl) yd [0] O xC)
theorem qXm(F:Hp)(r:Nat)(hr:Rn r):Cz prog 231 [.int .i32 ((r:Nat):Int)] F (I ((enc r).length:Nat)):=by
 obtain ⟨hr1,hr2⟩:=hr
 refine y7 func231 O ntmps231 O (λw0 hw0=>?_)
 refine yl λ_ C1=>yh O<|yi C1<|ym λ_ C2=>yz<|yl λ_ C3=>yh O<|yj (qAP O O O) O<|yh O<|yi C3<|y1 O (λh3=>?_) (λh3=>?_)
 .
  exact yl λ_ C4=>yh O<|yi C4<|yr<|vI<|y5<|yw hw0 O () (by exfalso;omega) yd [0] O xC
 refine yl λ_ C5=>yh O<|yj (qBQ O O O) O<|yh O<|yi C5<|y1 O (λh6=>?_) (λh6=>?_)
 .
  exact yl λ_ C6=>yh O<|yi C6<|yr<|vI<|y5<|yw hw0 O () (by rw [qC8 xB];rfl) yd [0] O xC
 refine yl λ_ C7=>yh O<|yj (qBQ O O O) O<|yh O<|yi C7<|y1 O (λh9=>?_) (λh9=>?_)
 .
  exact yl λ_ C8=>yh O<|yi C8<|yr<|vI<|y5<|yw hw0 O () (by unfold enc;rw [yW xB,yX xB];rfl) yd [0] O xC
 refine yl λ_ C9=>yh O<|yj (qBQ O O O) O<|yh O<|vO (d:=15) O (λh15=>?_) (λh15=>?_)
 .
  refine yh O<|yv (qBQ O O O) O<|yn 2 O<|yi C9<|y1 O (λh12=>?_) (λh12=>?_)
  .
   exact yl λ_ C10=>yh O<|yi C10<|yr<|vI<|y5<|yw hw0 O () (by exfalso;omega) yd [0] O xC
  refine yl λ_ C11=>yh O<|yj (qBQ O O O) O<|yh O<|yi C11<|y1 O (λh19=>?_) (λh19=>?_)
  .
   exact yl λ_ C12=>yh O<|yi C12<|yr<|vI<|y5<|yw hw0 O () (by unfold enc;rw [yW xB,yW xB,yX xB];rfl) yd [0] O xC
  refine yl λ_ C13=>yh O<|yj (qBQ O O O) O<|yh O<|yi C13<|y1 O (λh22=>?_) (λh22=>?_)
  .
   exact yl λ_ C14=>yh O<|yi C14<|yr<|vI<|y5<|yw hw0 O () (by unfold enc;rw [yW xB,yW xB,yW xB];rfl) yd [0] O xC
  refine vP<|vB<|yq (yu C2 ?_)
  exact yl λ_ C15=>yh O<|yi C15<|yr<|yw hw0 O () (by exfalso;omega) yd [0] O xC
 refine yn 4 O<|yi C9<|vC ?_
 refine yl λ_ C16=>yh O<|yj (qBQ O O O) O<|yh O<|yi C16<|y1 O (λh19=>?_) (λh19=>?_)
 .
  exact yl λ_ C17=>yh O<|yi C17<|yr<|vI<|y5<|yw hw0 O () (by unfold enc;rw [yW xB,yW xB,yX xB];rfl) yd [0] O xC
 refine yl λ_ C18=>yh O<|yj (qBQ O O O) O<|yh O<|yi C18<|y1 O (λh22=>?_) (λh22=>?_)
 .
  exact yl λ_ C19=>yh O<|yi C19<|yr<|vI<|y5<|yw hw0 O () (by unfold enc;rw [yW xB,yW xB,yW xB];rfl) yd [0] O xC
 refine vP<|vB<|yq (yu C2 ?_)
 exact yl λ_ C20=>yh O<|yi C20<|yr<|yw hw0 O () (by exfalso;omega) yd [0] O xC
theorem qR3(F:Hp)(hT:qBl F)(s:xA)(hs:s.length<=1000000):Ct prog 226 [Str (s)] [F] (λx:yS×Nat×Hp=> .slice x.1 (spl [] s).length x.2.1) (λx=>Row x.2.2 9 1 x.1 (spl [] s).length x.2.1 (qAG (spl [] s))) (λx=> [F,x.2.2]):=by
 refine y7 func226 O ntmps226 O (λw0 hw0=>?_)
 refine yl λ_ C1=>yh O<|yi C1<|yl λ_ C2=>yp (qAE (l:= [.const ((Value.string (ByteArray.mk #[])))]) (xs:= [[Str ([])]]) O O O O qAg el9 O xC xC xD) O λg7 _=>yh O<|yi C2<|ym λ_ C3=>yl λ_ C4=>yh O<|yp (qFU O O u9_) O ?_
 rintro g9 _
 refine yi C4<|yz<|vN (X:=Nat×List xA×xA×Nat×yS×Nat×Hp) (λζ=> [(0,Str (s)),(3,.slice ζ.2.2.2.2.1 ζ.2.2.2.1 ζ.2.2.2.2.2.1),(9,Ptr g9)]) (λζ=> [F,ζ.2.2.2.2.2.2,itr g9 s ζ.1]) (λζ=>ζ.1<=s.length/\ζ.2.2.2.1=ζ.2.1.length+1/\ζ.2.1.length<=ζ.1/\ζ.2.2.1.length<=ζ.1/\Row ζ.2.2.2.2.2.2 9 1 ζ.2.2.2.2.1 ζ.2.2.2.1 ζ.2.2.2.2.2.1 (qAG (ζ.2.1++ [ζ.2.2.1]))/\ζ.2.1++spl ζ.2.2.1 (s.drop ζ.1)=spl [] s) (λζ=>s.length-ζ.1) (0,[],[],1,_,_,_) (⟨xB,O,by simp,by simp,qAz (qAG [[]]) O (by simp [qAG]) O,O⟩) (Sub.of O) (λ_ h=>h) ?_
 rintro⟨p,ds,cur,n,A,c,m⟩ ⟨hp,hn,hd,hc,hr,he⟩ I0 hI0
 dsimp only at hp hn hd hc hr he⊢
 obtain ⟨ga,rfl⟩:=hr.at xB
 have hlen:=yY List.length he
 refine yl λ_ C5=>yp (qGy (i:=2) O O O) O ?_
 rintro _ _
 refine yj (qAp O O (qUw _ _)) O<|yi C5<|ym λ_ C6=>y1 O (λh11=>?_) (λh11=>?_)
 .
  have hps:p<s.length:=h11
  have hnp:=qER hps
  have hdl:=qOT s p hps
  have hdr:=qG8 s p xB
  have hdp:=qFB s p xB
  have hrl:=qUK hps
  have hdn:=qH2 hps
  have hdd:=qEn (s:=s) (pos:=p) xB
  refine yy C6<|yz<|yl λ_ C7=>yj (qAp O O (nxt_1 hps)) O<|yj (qAp O O (qYL hps)) O<|yn 2 O<|yi C7<|yl λ_ C8=>yh O<|yp (qAZ O O (λF' hF=>qXm F' ((dec s p).1) (qaY hps))) O λg15 _=>yh O<|yi C8<|vl (X:=Unit) (λζ=> [(0,Str (s)),(3,.slice (some ⟨ga,0,none⟩) n c),(4,I (p:Nat)),(5,.int .i32 (((dec s p).1:Nat):Int)),(6,I ((dec s p).2:Nat)),(9,Ptr g9)]) (λζ=> [F,m,itr g9 s (qLE s p)]) (λζ=>True) (λ_ C9=>?_) ?_
  .
   refine yl λ_ C10=>yh O<|yj (qAR O O O) O<|yi C10<|y1 O (λh17=>?_) (λh17=>?_)
   .
    exact yt<|yn 2 O<|yj ((qA0 u9_ O O O O ⟨by first|omega|(simp only [jA,jC,jG,jF,jE] at*;omega),by first|omega|(simp only [jA,jC,jG,jF,jE] at*;omega)⟩).as (v':=Str (s.drop p)) (by rw [jn])) O<|yp (qAZ O O (λF' hF=>qSm F' (hT.mono (Fa hF)) (s.drop p) xG)) O λg22 _=>yn 4 O<|y8<|yq<|vY () C9 (yd) ⟨O,O,O,O,(by show some (I ((dec (s.drop p) 0).2:Nat))=_;rw [<-hdd]),O,yd⟩ (λ_ h=>h)
   exact vP<|yq<|vY () C9 (yd) ⟨O,O,O,O,(by show some (I ((enc (dec s p).1).length:Nat))=_;rw [qYz hps xB]),O,yd⟩ (λ_ h=>h)
  rintro _ _
  refine yl λ_ C11=>yh O<|yp (qAZ O O (λF' hF=>qQe F' ((dec s p).1))) O λg26 _=>yi C11<|vf O (λh26=>?_) (λh26=>?_)
  .
   refine yt<|yh O<|yp (qAE (l:= [.const ((Value.string (ByteArray.mk #[])))]) (xs:= [[Str ([])]]) O O O O qAg el9 O xC xC xD) O λg28 _=>?_
   change J _ _ _ [F,m,itr g9 s (qLE s p),blk g28 [Str ([])] 9] _
   refine yp (qAV (i:=1) (xs:=qAG (ds++ [cur])) (m2:=blk g28 [Str ([])] 9) (ys:= [[Str ([])]]) O O O qAg qAg el9 O hr xD ((qAz (q:=True) (qAG [[]]) O (by simp [qAG]) O).sl) O xE xE) O ?_
   rintro⟨A29,c29,m29⟩ h29
   try dsimp only at h29
   change J _ ((29,.slice A29 (n+1) c29)::_) _ [_,m29,_,_] _
   rw [<-qBh] at h29
   exact yh O<|y8<|vB<|yq<|vE (qLE s p,ds++ [cur],[],n+1,A29,c29,m29) hI0 ⟨by dsimp only;omega,by simp;omega,by simp;omega,by simp,h29,by rw [<-he,qT0 hps _ h26,jM];rfl⟩ (Sub.of O) (λ_ h=>h.pick [0,1,2] xC)
  refine vQ [F,m,itr g9 s (qLE s p)] [14] (.y 0 (.y 1 (.y 2 (.y 3 (.y 4 (.y 5 (.y 6 (.y 7 (.y 8 (.y 9 (.y 10 (.y 11 (.y 12 (.y 13 (.e 14 .nil))))))))))))))) ye xF xD ?_
  refine yx ?_
  refine yx ?_
  refine yo O (qAN qAg O O) O O<|yo O ((qAm O O O xB).nat (n-1) xB) O O<|yo O (qAY (i:=n-1) (j:=0+(n-1)*1) O O O qAg z9_ xE xB) O O<|yo O (qAH O O b9_ (m:=m) xD (hr.sl.cells (qAa (qAc [] xE)))) O O<|yx ?_
  iterate 3 refine yx ?_
  refine yo O ((qAM O O O xE).as (v':=I (p+((dec s p).2):Nat)) (yY I xB)) O O<|yo O (qA0 u9_ O O O O ⟨by first|omega|(simp only [jA,jC,jG,jF,jE] at*;omega),by first|omega|(simp only [jA,jC,jG,jF,jE] at*;omega)⟩) O O ?_
  have hgl:((ds++ [cur]).getD (n-1) []).length<=p:=by rw [show n-1=ds.length by omega,qVH];exact hc
  refine yo O (qAq O O O xE) O O<|yo O (qAY (i:=n-1) (j:=0+(n-1)*1) O O O qAg z9_ xE xB) O O<|vZ O (qBr (i:=1) (k:=n-1) (off:=0) (b:= [Str (((ds++ [cur]).getD (n-1) [])++((s.take (p+((dec s p).2))).drop p))]) O O O O hr (vs:= [Str (((ds++ [cur]).getD (n-1) [])++((s.take (p+((dec s p).2))).drop p))]) O z9_ O xB (qAa (qAc [] xE)) O (jL _)) O O O ?_
  rintro m10_1 hm10_1
  rw [qEK] at hm10_1
  exact vM<|vB<|yq<|vE (qLE s p,ds,cur++(s.take (p+(dec s p).2)).drop p,n,some ⟨ga,0,none⟩,c,m10_1) hI0 ⟨by dsimp only;omega,by simp;omega,by dsimp only;omega,by simp;omega,by rw [qVF _ _ _ xB] at hm10_1;exact hm10_1,by rw [<-he,qIL hps _ h26]⟩ (Sub.of O) (λ_ h=>h)
 refine vK<|y6<|y6<|vL ?_
 refine yq (yu C3 ?_)
 refine yl λ_ C12=>yn 2 O<|yi C12<|yr ?_
 have he2:ds++ [cur]=spl [] s:=by rw [<-he,j4 xB];rfl
 have hn2:n=(spl [] s).length:=by rw [<-he2];simp;omega
 rw [he2,hn2] at hr
 exact yw hw0 O (some ⟨ga,0,none⟩,c,m) (by rw [hn2]) hr [0,1] O xC
theorem qUr: ∀b:Nat,b<8->IntKind.i64.wrap (((BitVec.ofInt 64 (b:Int))&&&BitVec.ofInt 64 ((b:Int)-1)).toNat:Int)=((b&&&(b-1):Nat):Int):=by decide
theorem qZw(F:Hp)(b:Nat)(hb:b<8):Cz prog 227 [I (b:Nat)] F (.bool (good b)):=by
 refine y7 func227 O ntmps227 O (λw0 hw0=>?_)
 exact yl λ_ C1=>yh O<|yi C1<|yl λ_ C2=>yn 2 O<|yj (qAm O O O xB) O<|yj (qYH O O O (qUr b hb)) O<|yj (qAR O O O) O<|yh O<|yi C2<|yr<|yw hw0 O () (yY Value.bool (Bool.eq_iff_iff.2 (by rw [yZ,<-qUq b hb];exact Int.natCast_eq_zero))) yd [0] O xC
theorem qKk(F:Hp)(r:Nat)(hr:r<=1073741824):Cz prog 221 [I (r:Nat)] F (I (small r:Nat)):=by
 refine y7 func221 O ntmps221 O (λw0 hw0=>?_)
 refine yl λ_ C1=>yh O<|yi C1<|ym λ_ C2=>yl λ_ C3=>yh O<|yj (qA1 O O O) O<|yh O<|vO (d:=5) O (λh5=>?_) (λh5=>?_)
 .
  refine yh O<|yv (qBQ O O O) O<|yn 2 O<|vO (d:=9) O (λh9=>?_) (λh9=>?_)
  .
   refine yn 3 O<|vX (Wan.un O O O O) O O ?_
   refine vX (Wan.un O O O O) O O ?_
   refine yn 2 O<|vX (Wan.un O O O O) O O ?_
   refine vX (Wan.un O O O O) O O ?_
   refine yn 6 O<|vX (Wan.un O O O O) O O ?_
   refine vX (Wan.un O O O O) O O ?_
   refine yn 2 O<|yi C3<|vV ?_
   exact yl λ_ C4=>yh O<|yj ((qAM O O O xB).nat (r+32) xB) O<|yh O<|yi C4<|yr<|y5<|yw hw0 O () (by unfold small;first|(exfalso;omega)|rw [yX xB]|rw [yW xB]) yd [0] O xC
  refine yh O<|yv (qA1 O O O) O<|yh O<|vO (d:=12) O (λh12=>?_) (λh12=>?_)
  .
   refine yh O<|yv (qBQ O O O) O<|yn 2 O<|vO (d:=16) O (λh16=>?_) (λh16=>?_)
   .
    refine yh O<|yv (qAQ O O O) O<|yn 3 O<|vO (d:=21) O (λh21=>?_) (λh21=>?_)
    .
     refine yn 3 O<|vX (Wan.un O O O O) O O ?_
     refine vX (Wan.un O O O O) O O ?_
     refine yn 2 O<|yi C3<|vV ?_
     exact yl λ_ C5=>yh O<|yj ((qAM O O O xB).nat (r+32) xB) O<|yh O<|yi C5<|yr<|y5<|yw hw0 O () (by unfold small;first|(exfalso;omega)|rw [yX xB]|rw [yW xB]) yd [0] O xC
    refine yh O<|yv (qA1 O O O) O<|yh O<|vO (d:=24) O (λh24=>?_) (λh24=>?_)
    .
     refine yh O<|yv (qBQ O O O) O<|yn 2 O<|yi C3<|y1 O (λh28=>?_) (λh28=>?_)
     .
      exact yl λ_ C6=>yh O<|yj ((qAM O O O xB).nat (r+32) xB) O<|yh O<|yi C6<|yr<|y5<|yw hw0 O () (by unfold small;first|(exfalso;omega)|rw [yX xB]|rw [yW xB]) yd [0] O xC
     exact yy C2<|yl λ_ C7=>yn 2 O<|yi C7<|yr<|yw hw0 O () (by unfold small;first|(exfalso;omega)|rw [yX xB]|rw [yW xB]) yd [0] O xC
    refine yn 4 O<|yi C3<|vC ?_
    exact yy C2<|yl λ_ C8=>yn 2 O<|yi C8<|yr<|yw hw0 O () (by unfold small;first|(exfalso;omega)|rw [yX xB]|rw [yW xB]) yd [0] O xC
   refine yn 6 O<|yv (qA1 O O O) O<|yh O<|vO (d:=24) O (λh24=>?_) (λh24=>?_)
   .
    refine yh O<|yv (qBQ O O O) O<|yn 2 O<|yi C3<|y1 O (λh28=>?_) (λh28=>?_)
    .
     exact yl λ_ C9=>yh O<|yj ((qAM O O O xB).nat (r+32) xB) O<|yh O<|yi C9<|yr<|y5<|yw hw0 O () (by unfold small;first|(exfalso;omega)|rw [yX xB]|rw [yW xB]) yd [0] O xC
    exact yy C2<|yl λ_ C10=>yn 2 O<|yi C10<|yr<|yw hw0 O () (by unfold small;first|(exfalso;omega)|rw [yX xB]|rw [yW xB]) yd [0] O xC
   refine yn 4 O<|yi C3<|vC ?_
   exact yy C2<|yl λ_ C11=>yn 2 O<|yi C11<|yr<|yw hw0 O () (by unfold small;first|(exfalso;omega)|rw [yX xB]|rw [yW xB]) yd [0] O xC
  refine yn 10 O<|yv (qA1 O O O) O<|yh O<|vO (d:=24) O (λh24=>?_) (λh24=>?_)
  .
   refine yh O<|yv (qBQ O O O) O<|yn 2 O<|yi C3<|y1 O (λh28=>?_) (λh28=>?_)
   .
    exact yl λ_ C12=>yh O<|yj ((qAM O O O xB).nat (r+32) xB) O<|yh O<|yi C12<|yr<|y5<|yw hw0 O () (by unfold small;first|(exfalso;omega)|rw [yX xB]|rw [yW xB]) yd [0] O xC
   exact yy C2<|yl λ_ C13=>yn 2 O<|yi C13<|yr<|yw hw0 O () (by unfold small;first|(exfalso;omega)|rw [yX xB]|rw [yW xB]) yd [0] O xC
  refine yn 4 O<|yi C3<|vC ?_
  exact yy C2<|yl λ_ C14=>yn 2 O<|yi C14<|yr<|yw hw0 O () (by unfold small;first|(exfalso;omega)|rw [yX xB]|rw [yW xB]) yd [0] O xC
 refine yn 5 O<|yv (qA1 O O O) O<|yh O<|vO (d:=12) O (λh12=>?_) (λh12=>?_)
 .
  refine yh O<|yv (qBQ O O O) O<|yn 2 O<|vO (d:=16) O (λh16=>?_) (λh16=>?_)
  .
   refine yh O<|yv (qAQ O O O) O<|yn 3 O<|vO (d:=21) O (λh21=>?_) (λh21=>?_)
   .
    refine yn 3 O<|vX (Wan.un O O O O) O O ?_
    refine vX (Wan.un O O O O) O O ?_
    refine yn 2 O<|yi C3<|vV ?_
    exact yl λ_ C15=>yh O<|yj ((qAM O O O xB).nat (r+32) xB) O<|yh O<|yi C15<|yr<|y5<|yw hw0 O () (by unfold small;first|(exfalso;omega)|rw [yX xB]|rw [yW xB]) yd [0] O xC
   refine yh O<|yv (qA1 O O O) O<|yh O<|vO (d:=24) O (λh24=>?_) (λh24=>?_)
   .
    refine yh O<|yv (qBQ O O O) O<|yn 2 O<|yi C3<|y1 O (λh28=>?_) (λh28=>?_)
    .
     exact yl λ_ C16=>yh O<|yj ((qAM O O O xB).nat (r+32) xB) O<|yh O<|yi C16<|yr<|y5<|yw hw0 O () (by unfold small;first|(exfalso;omega)|rw [yX xB]|rw [yW xB]) yd [0] O xC
    exact yy C2<|yl λ_ C17=>yn 2 O<|yi C17<|yr<|yw hw0 O () (by unfold small;first|(exfalso;omega)|rw [yX xB]|rw [yW xB]) yd [0] O xC
   refine yn 4 O<|yi C3<|vC ?_
   exact yy C2<|yl λ_ C18=>yn 2 O<|yi C18<|yr<|yw hw0 O () (by unfold small;first|(exfalso;omega)|rw [yX xB]|rw [yW xB]) yd [0] O xC
  refine yn 6 O<|yv (qA1 O O O) O<|yh O<|vO (d:=24) O (λh24=>?_) (λh24=>?_)
  .
   refine yh O<|yv (qBQ O O O) O<|yn 2 O<|yi C3<|y1 O (λh28=>?_) (λh28=>?_)
   .
    exact yl λ_ C19=>yh O<|yj ((qAM O O O xB).nat (r+32) xB) O<|yh O<|yi C19<|yr<|y5<|yw hw0 O () (by unfold small;first|(exfalso;omega)|rw [yX xB]|rw [yW xB]) yd [0] O xC
   exact yy C2<|yl λ_ C20=>yn 2 O<|yi C20<|yr<|yw hw0 O () (by unfold small;first|(exfalso;omega)|rw [yX xB]|rw [yW xB]) yd [0] O xC
  refine yn 4 O<|yi C3<|vC ?_
  exact yy C2<|yl λ_ C21=>yn 2 O<|yi C21<|yr<|yw hw0 O () (by unfold small;first|(exfalso;omega)|rw [yX xB]|rw [yW xB]) yd [0] O xC
 refine yn 10 O<|yv (qA1 O O O) O<|yh O<|vO (d:=24) O (λh24=>?_) (λh24=>?_)
 .
  refine yh O<|yv (qBQ O O O) O<|yn 2 O<|yi C3<|y1 O (λh28=>?_) (λh28=>?_)
  .
   exact yl λ_ C22=>yh O<|yj ((qAM O O O xB).nat (r+32) xB) O<|yh O<|yi C22<|yr<|y5<|yw hw0 O () (by unfold small;first|(exfalso;omega)|rw [yX xB]|rw [yW xB]) yd [0] O xC
  exact yy C2<|yl λ_ C23=>yn 2 O<|yi C23<|yr<|yw hw0 O () (by unfold small;first|(exfalso;omega)|rw [yX xB]|rw [yW xB]) yd [0] O xC
 refine yn 4 O<|yi C3<|vC ?_
 exact yy C2<|yl λ_ C24=>yn 2 O<|yi C24<|yr<|yw hw0 O () (by unfold small;first|(exfalso;omega)|rw [yX xB]|rw [yW xB]) yd [0] O xC
theorem qPR(F:Hp)(r:Nat)(hr:r<=1073741824):Cz prog 269 [I (r:Nat)] F (I (qEB r:Nat)):=by
 refine y7 func269 O ntmps269 O (λw0 hw0=>?_)
 refine yl λ_ C1=>yh O<|yi C1<|yl λ_ C2=>yh O<|yp (qAZ O O (λF' hF=>qKk F' r xB)) O λg4 _=>yh O<|yi C2<|ym λ_ C3=>yl λ_ C4=>yh O<|yj (qA1 O O O) O<|yh O<|vO (d:=7) O (λh7=>?_) (λh7=>?_)
 .
  refine yh O<|yv (qBQ O O O) O<|yh O<|yi C4<|y1 O (λh10=>?_) (λh10=>?_)
  .
   exact yl λ_ C5=>yh O<|yi C5<|yr<|y5<|yw hw0 O () (by unfold qEB;first|(exfalso;omega)|(rw [yX xB];rfl)|(rw [yW xB,yX xB];rfl)|(rw [yW xB,yW xB,yX xB];rfl)|(rw [yW xB,yW xB,yW xB];rfl)) yd [0] O xC
  refine yy C3<|ym λ_ C6=>yl λ_ C7=>yh O<|yj (qA1 O O O) O<|yh O<|vO (d:=13) O (λh13=>?_) (λh13=>?_)
  .
   refine yh O<|yv (qBQ O O O) O<|yh O<|yi C7<|y1 O (λh16=>?_) (λh16=>?_)
   .
    exact yl λ_ C8=>yh O<|yi C8<|yr<|y5<|yw hw0 O () (by unfold qEB;first|(exfalso;omega)|(rw [yX xB];rfl)|(rw [yW xB,yX xB];rfl)|(rw [yW xB,yW xB,yX xB];rfl)|(rw [yW xB,yW xB,yW xB];rfl)) yd [0] O xC
   refine yy C6<|ym λ_ C9=>yl λ_ C10=>yh O<|yj (qA1 O O O) O<|yh O<|vO (d:=19) O (λh19=>?_) (λh19=>?_)
   .
    refine yh O<|yv (qBQ O O O) O<|yh O<|yi C10<|y1 O (λh22=>?_) (λh22=>?_)
    .
     exact yl λ_ C11=>yh O<|yi C11<|yr<|y5<|yw hw0 O () (by unfold qEB;first|(exfalso;omega)|(rw [yX xB];rfl)|(rw [yW xB,yX xB];rfl)|(rw [yW xB,yW xB,yX xB];rfl)|(rw [yW xB,yW xB,yW xB];rfl)) yd [0] O xC
    exact yy C9<|yl λ_ C12=>yh O<|yi C12<|yr<|yw hw0 O () (by unfold qEB;first|(exfalso;omega)|(rw [yX xB];rfl)|(rw [yW xB,yX xB];rfl)|(rw [yW xB,yW xB,yX xB];rfl)|(rw [yW xB,yW xB,yW xB];rfl)) yd [0] O xC
   refine yn 3 O<|yi C10<|vC ?_
   exact yy C9<|yl λ_ C13=>yh O<|yi C13<|yr<|yw hw0 O () (by unfold qEB;first|(exfalso;omega)|(rw [yX xB];rfl)|(rw [yW xB,yX xB];rfl)|(rw [yW xB,yW xB,yX xB];rfl)|(rw [yW xB,yW xB,yW xB];rfl)) yd [0] O xC
  refine yn 3 O<|yi C7<|vC ?_
  refine yy C6<|ym λ_ C14=>yl λ_ C15=>yh O<|yj (qA1 O O O) O<|yh O<|vO (d:=19) O (λh19=>?_) (λh19=>?_)
  .
   refine yh O<|yv (qBQ O O O) O<|yh O<|yi C15<|y1 O (λh22=>?_) (λh22=>?_)
   .
    exact yl λ_ C16=>yh O<|yi C16<|yr<|y5<|yw hw0 O () (by unfold qEB;first|(exfalso;omega)|(rw [yX xB];rfl)|(rw [yW xB,yX xB];rfl)|(rw [yW xB,yW xB,yX xB];rfl)|(rw [yW xB,yW xB,yW xB];rfl)) yd [0] O xC
   exact yy C14<|yl λ_ C17=>yh O<|yi C17<|yr<|yw hw0 O () (by unfold qEB;first|(exfalso;omega)|(rw [yX xB];rfl)|(rw [yW xB,yX xB];rfl)|(rw [yW xB,yW xB,yX xB];rfl)|(rw [yW xB,yW xB,yW xB];rfl)) yd [0] O xC
  refine yn 3 O<|yi C15<|vC ?_
  exact yy C14<|yl λ_ C18=>yh O<|yi C18<|yr<|yw hw0 O () (by unfold qEB;first|(exfalso;omega)|(rw [yX xB];rfl)|(rw [yW xB,yX xB];rfl)|(rw [yW xB,yW xB,yX xB];rfl)|(rw [yW xB,yW xB,yW xB];rfl)) yd [0] O xC
 refine yn 3 O<|yi C4<|vC ?_
 refine yy C3<|ym λ_ C19=>yl λ_ C20=>yh O<|yj (qA1 O O O) O<|yh O<|vO (d:=13) O (λh13=>?_) (λh13=>?_)
 .
  refine yh O<|yv (qBQ O O O) O<|yh O<|yi C20<|y1 O (λh16=>?_) (λh16=>?_)
  .
   exact yl λ_ C21=>yh O<|yi C21<|yr<|y5<|yw hw0 O () (by unfold qEB;first|(exfalso;omega)|(rw [yX xB];rfl)|(rw [yW xB,yX xB];rfl)|(rw [yW xB,yW xB,yX xB];rfl)|(rw [yW xB,yW xB,yW xB];rfl)) yd [0] O xC
  refine yy C19<|ym λ_ C22=>yl λ_ C23=>yh O<|yj (qA1 O O O) O<|yh O<|vO (d:=19) O (λh19=>?_) (λh19=>?_)
  .
   refine yh O<|yv (qBQ O O O) O<|yh O<|yi C23<|y1 O (λh22=>?_) (λh22=>?_)
   .
    exact yl λ_ C24=>yh O<|yi C24<|yr<|y5<|yw hw0 O () (by unfold qEB;first|(exfalso;omega)|(rw [yX xB];rfl)|(rw [yW xB,yX xB];rfl)|(rw [yW xB,yW xB,yX xB];rfl)|(rw [yW xB,yW xB,yW xB];rfl)) yd [0] O xC
   exact yy C22<|yl λ_ C25=>yh O<|yi C25<|yr<|yw hw0 O () (by unfold qEB;first|(exfalso;omega)|(rw [yX xB];rfl)|(rw [yW xB,yX xB];rfl)|(rw [yW xB,yW xB,yX xB];rfl)|(rw [yW xB,yW xB,yW xB];rfl)) yd [0] O xC
  refine yn 3 O<|yi C23<|vC ?_
  exact yy C22<|yl λ_ C26=>yh O<|yi C26<|yr<|yw hw0 O () (by unfold qEB;first|(exfalso;omega)|(rw [yX xB];rfl)|(rw [yW xB,yX xB];rfl)|(rw [yW xB,yW xB,yX xB];rfl)|(rw [yW xB,yW xB,yW xB];rfl)) yd [0] O xC
 refine yn 3 O<|yi C20<|vC ?_
 refine yy C19<|ym λ_ C27=>yl λ_ C28=>yh O<|yj (qA1 O O O) O<|yh O<|vO (d:=19) O (λh19=>?_) (λh19=>?_)
 .
  refine yh O<|yv (qBQ O O O) O<|yh O<|yi C28<|y1 O (λh22=>?_) (λh22=>?_)
  .
   exact yl λ_ C29=>yh O<|yi C29<|yr<|y5<|yw hw0 O () (by unfold qEB;first|(exfalso;omega)|(rw [yX xB];rfl)|(rw [yW xB,yX xB];rfl)|(rw [yW xB,yW xB,yX xB];rfl)|(rw [yW xB,yW xB,yW xB];rfl)) yd [0] O xC
  exact yy C27<|yl λ_ C30=>yh O<|yi C30<|yr<|yw hw0 O () (by unfold qEB;first|(exfalso;omega)|(rw [yX xB];rfl)|(rw [yW xB,yX xB];rfl)|(rw [yW xB,yW xB,yX xB];rfl)|(rw [yW xB,yW xB,yW xB];rfl)) yd [0] O xC
 refine yn 3 O<|yi C28<|vC ?_
 exact yy C27<|yl λ_ C31=>yh O<|yi C31<|yr<|yw hw0 O () (by unfold qEB;first|(exfalso;omega)|(rw [yX xB];rfl)|(rw [yW xB,yX xB];rfl)|(rw [yW xB,yW xB,yX xB];rfl)|(rw [yW xB,yW xB,yW xB];rfl)) yd [0] O xC
end Go.Proofs.YtmemgokiolfdoaaGreatDoor