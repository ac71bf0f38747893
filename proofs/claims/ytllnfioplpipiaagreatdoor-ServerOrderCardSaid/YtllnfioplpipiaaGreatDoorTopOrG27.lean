/- A part of the proof. -/
import Derived.Test.YtllnfioplpipiaaGreatDoorTopOrG26
import Derived.Shelf.Strings.Count
import Derived.Test.YtllnfioplpipiaaGreatDoorTopOrG8
import Derived.Test.YtllnfioplpipiaaGreatDoorTopOrG9
set_option linter.unusedSimpArgs false
set_option linter.unusedVariables false
namespace Go.Proofs.YtllnfioplpipiaaGreatDoor
open Go Go.Fw Go.Proofs.Tryz
set_option maxRecDepth 100000
set_option maxHeartbeats 1000000
open Go.Shelf Go.RowKit
def Tryz.lays138_ren:Go.Shelf.Ren:=⟨λ|138=>229|195=>223|218=>247|143=>248|219=>264|217=>273|225=>274|224=>275|267=>276|266=>278|314=>279|n=>n,λ|9=>9|3=>3|4=>4|5=>5|0=>0|46=>161|146=>231|51=>230|n=>n,λ|1=>1|n=>n⟩
theorem Tryz.lays138:Go.Proofs.Lays.n138 prog Tryz.lays138_ren:={
 mixed:=by kernel_rfl
 f138:=func229.trans (congrArg some (by kernel_rfl))
 f143:=func248.trans (congrArg some (by kernel_rfl))
 f195:=func223.trans (congrArg some (by kernel_rfl))
 f217:=func273.trans (congrArg some (by kernel_rfl))
 f218:=func247.trans (congrArg some (by kernel_rfl))
 f219:=func264.trans (congrArg some (by kernel_rfl))
 f224:=func275.trans (congrArg some (by kernel_rfl))
 f225:=func274.trans (congrArg some (by kernel_rfl))
 f266:=func278.trans (congrArg some (by kernel_rfl))
 f267:=func276.trans (congrArg some (by kernel_rfl))
 f314:=func279.trans (congrArg some (by kernel_rfl))
 t0:=u0_
 a0:=isAgg0
 z0:=sizeOf0
 v0:=e0_
 t3:=u3_
 a3:=b3_
 z3:=z3_
 v3:=e3_
 t4:=u4_
 a4:=b4_
 z4:=z4_
 v4:=e4_
 t5:=u5_
 a5:=b5_
 z5:=z5_
 v5:=e5_
 t9:=u9_
 a9:=b9_
 z9:=z9_
 v9:=e9_
 t46:=qGy
 a46:=isAgg161
 z46:=sizeOf161
 v46:=zeroValue161
 t51:=qH5
 a51:=qCX
 z51:=qBk
 v51:=zeroValue230
 t146:=underlying231
 a146:=isAgg231
 z146:=sizeOf231
 v146:=zeroValue231
 g1:=by kernel_rfl}
theorem Ct.ofSame{P:Program}{f:FuncId}{vs:List Value}{F:Hp}{v:Value}(h: ∀w,Le F (hp w)→Calls P f vs.toArray w λe w'=>e= .returned v∧w'=w):
    Ct P f vs [F] (λ_:Unit=>v) (λ_=>True) (λ_=> [F]):=Ct.ofBelow λw hw=>(h w hw).mono λ_ _ ⟨he,hs⟩=>⟨he,hs▸Below.refl _ _⟩
theorem qM1(F:Hp)(s:List UInt8)(hs:s.length≤1000000):Ct prog 229 [Str s,Str [64]] [F] (λ_:Unit=>I ((s.count 64:Nat):Int)) (λ_=>True) (λ_=> [F]):=Ct.ofSame λw hw=>
 Any.strings_Count_one Tryz.lays138 ⟨s.toArray⟩ 64 w
end Go.Proofs.YtllnfioplpipiaaGreatDoor
namespace Go.Proofs.YtllnfioplpipiaaGreatDoor
open Go Go.Fw Go.Proofs.Tryz
set_option maxRecDepth 100000
set_option maxHeartbeats 1000000
theorem ent196:qAD prog 196:=qAD.of func196 rfl (by kernel_rfl)
theorem ent222:qAD prog 222:=qAD.of func222 rfl (by kernel_rfl)
theorem ent223:qAD prog 223:=qAD.of func223 rfl (by kernel_rfl)
theorem ent224:qAD prog 224:=qAD.of func224 rfl (by kernel_rfl)
theorem ent225:qAD prog 225:=qAD.of func225 rfl (by kernel_rfl)
theorem ent230:qAD prog 230:=qAD.of func230 rfl (by kernel_rfl)
theorem ent231:qAD prog 231:=qAD.of func231 rfl (by kernel_rfl)
theorem ent234:qAD prog 234:=qAD.of func234 rfl (by kernel_rfl)
def qBT:List Value:= [I 1,R32 97,R32 122,I 2,R32 945,R32 969,I 4,R32 1072,R32 1103]
def qKF(k:Nat):Nat:=if k=0 then 1 else if k=1 then 2 else 4
def qEv(k:Nat):Nat:=if k=0 then 97 else if k=1 then 945 else 1072
def qEq(k:Nat):Nat:=if k=0 then 122 else if k=1 then 969 else 1103
theorem qJC{k:Nat}(h:k<3):Value.agg (qBT.toArray.extract (k*3) (k*3+3))= .agg [I (qKF k:Nat),R32 (qEv k),R32 (qEq k)].toArray:=by
 match k,h with
 |0,_=>rfl
 |1,_=>rfl
 |2,_=>rfl
def qMJ(k r:Nat):Bool:=decide (qEv k≤r∧r≤qEq k)
def qQt(k r:Nat):Bool:=qMJ k (r+32)&&!qMJ k r&&decide (r≠930)
theorem qPT{k r:Nat}(hk:k<3)(h:qQt k r=true):small r=r+32:=by
 unfold qQt qMJ at h
 unfold small
 match k,hk with
 |0,_=>simp [qEv,qEq] at h;rw [if_pos (by omega)]
 |1,_=>simp [qEv,qEq] at h;rw [if_pos (by omega)]
 |2,_=>simp [qEv,qEq] at h;rw [if_pos (by omega)]
theorem qPU{r:Nat}(h: ∀k<3,qQt k r=false):small r=r:=by
 have h0:=h 0 (by decide)
 have h1:=h 1 (by decide)
 have h2:=h 2 (by decide)
 simp [qQt,qMJ,qEv,qEq] at h0 h1 h2
 unfold small
 rw [if_neg (by omega)]
theorem qS2{k r:Nat}(hk:k<3)(h:qMJ k (small r)=true):qHs r=qKF k:=by
 unfold qMJ at h
 unfold qHs
 match k,hk with
 |0,_=>simp [qEv,qEq] at h;rw [if_pos (by omega)];rfl
 |1,_=>simp [qEv,qEq] at h;rw [if_neg (by omega),if_pos (by omega)];rfl
 |2,_=>simp [qEv,qEq] at h;rw [if_neg (by omega),if_neg (by omega),if_pos (by omega)];rfl
theorem qS3{r:Nat}(h: ∀k<3,qMJ k (small r)=false):qHs r=0:=by
 have h0:=h 0 (by decide)
 have h1:=h 1 (by decide)
 have h2:=h 2 (by decide)
 simp [qMJ,qEv,qEq] at h0 h1 h2
 unfold qHs
 rw [if_neg (by omega),if_neg (by omega),if_neg (by omega)]
theorem qOE(F:Hp)(k r:Nat):Ct prog 234 [.agg #[I (qKF k:Nat),R32 (qEv k),R32 (qEq k)],.int .i32 ((r:Nat):Int)] [F] (λ_:Unit=> .bool (qMJ k r)) (λ_=>True) (λ_=> [F]):=by
 refine Ct.walk func234 rfl ntmps234 rfl (λw0 hw0=>?_)
 change J _ [(0,_),(1,_)] _ _ _
 refine J.g λK1 hK1=>J.k (qAi (l:= [I (qKF k:Nat),R32 (qEv k),R32 (qEq k)]) O O O) O λg2 _=>?_
 change J _ _ _ [F,blk g2 [I (qKF k:Nat),R32 (qEv k),R32 (qEq k)] 322] _
 refine J.b O<|J.c hK1<|J.E 1 2 ?_
 refine J.g λK2 hK2=>J.b O<|J.a3 1 qMf sizeOf21 O O O O O<|J.f (qAE 1 (v:=R32 (qEv k)) O O O isAgg21 O) O<|J.f (qBN O O O) O<|J.b O<|J.c4 (d:=9) O (λh9=>?_) (λh9=>?_)
 ·
  refine J.b O<|J.Z (qAB (j:=2) O O qMf O sizeOf21 O) O<|J.Z (qAE 1 (v:=R32 (qEq k)) O O O isAgg21 O) O<|J.Z (qB5 O O O) O<|J.p 2 O<|J.c hK2<|J.u 4 ?_
  exact J.D<|J.M hw0 O () (by unfold qMJ;exact congrArg Value.bool (decide_eq_decide.2 (by omega))) trivial [0] O (by decide)
 refine J.p 6 O<|J.c hK2<|J.u 4 ?_
 exact J.D<|J.M hw0 O () (by unfold qMJ;rw [decide_eq_false (by omega: ¬(qEv k≤r∧r≤qEq k))]) trivial [0] rfl (by decide)
theorem qKa(F:Hp)(hA:qAL F ⟨2,0,none⟩ qBT)(r:Nat)(hr:r≤1073741824):Ct prog 196 [.int .i32 ((r:Nat):Int)] [F] (λ_:Unit=> .int .i32 ((small r:Nat):Int)) (λ_=>True) (λ_=> [F]):=by
 refine Ct.walk func196 rfl ntmps196 rfl (λw0 hw0=>?_)
 change J _ [(0,_)] _ _ _
 refine J.g λK1 hK1=>J.b O<|J.c hK1<|J.u 0 ?_
 refine J.j λK2 hK2=>J.g λK3 hK3=>J.f (qFT 0 O O isAgg323 sizeOf323 O hA O) O<|J.b O<|J.c hK3<|J.G 0 5 6 ?_
 refine J.V<|J.b6 (X:=Nat) (λζ=> [(0,.int .i32 ((r:Nat):Int)),(5,.agg qBT.toArray),(6,I ((ζ:Nat):Int))]) (λζ=> [F]) (λζ=>ζ≤3∧ ∀j<ζ,qQt j r=false) (λζ=>3-ζ) 0 (⟨by omega,λj h=>absurd h (Nat.not_lt_zero j)⟩) ⟨O,O,O,trivial⟩ (λ_ h=>h) ?_
 rintro k ⟨hk,hn⟩ I0 hI0
 refine J.g λK4 hK4=>J.f (qAT O O O) O<|J.c hK4<|J.O 0 5 6 7 ?_
 refine J.j λK5 hK5=>J.a2 O (λh7=>?_) (λh7=>?_)
 ·
  refine J.W hK5<|J.G 0 5 6 ?_
  refine J.j λK6 hK6=>J.V<|J.g λK7 hK7=>J.f ((qIT (i:=k) O O O underlying323 sizeOf322 isAgg322 (by omega)).as (v':= .agg #[I (qKF k:Nat),R32 (qEv k),R32 (qEq k)]) (qJC (by omega))) O<|J.k (qAN (l:= [I 0,.int .i32 0,.int .i32 0]) O zeroValue322 O) O λg4 _=>?_
  change J _ _ _ [F,blk g4 [I 0,.int .i32 0,.int .i32 0] 322] _
  refine J.b0 (qAI (i:=1) (l:= [I 0,.int .i32 0,.int .i32 0]) (vs:= [I (qKF k:Nat),R32 (qEv k),R32 (qEq k)]) O O O O O sizeOf322 O O) O O λ_ _=>?_
  change J _ _ _ [_,blk g4 [I (qKF k:Nat),R32 (qEv k),R32 (qEq k)] 322] _
  refine J.c hK7<|J.O 0 4 5 6 ?_
  refine J.g λK8 hK8=>J.c9 1 isAgg322 sizeOf322 O O O O O<|J.b O<|J.f (qNb O O O (by first|omega|(simp only [List.length_append,List.length_cons,List.length_nil,List.length_take,List.length_drop] at*;omega))) rfl<|J.k (qAA rfl rfl ent234 (Ct.use0 (λF' hF=>qOE F' k (r+32)))) rfl λg12 _=>J.b rfl<|J.g7 (d:=13) rfl (λh13=>?_) (λh13=>?_)
  ·
   refine J.Z (qAy 1 O O O isAgg322 sizeOf322 O) O<|J.b O<|J.d7 (qAA O O ent234 (Ct.use0 (λF' hF=>qOE F' k (r)))) O λg16 _=>J.Z (qAt O O) O<|J.p 2 O<|J.g7 (d:=19) O (λh19=>?_) (λh19=>?_)
   ·
    refine J.b O<|J.Z (qAb O O O) O<|J.b O<|J.c hK8<|J.O 0 5 6 22 ?_
    refine J.a2 O (λh22=>?_) (λh22=>?_)
    ·
     refine J.g λK9 hK9=>J.b O<|J.f (qNb O O O (by first|omega|(simp only [List.length_append,List.length_cons,List.length_nil,List.length_take,List.length_drop] at*;omega))) rfl<|J.b rfl<|J.c hK9<|J.u 2 ?_
     exact J.D<|J.b1<|J.a4<|J.a4<|J.b1<|J.a4<|J.M hw0 O () (by rw [qPT (k:=k) (by omega) (by unfold qQt;simp [*];omega)]) trivial [0] rfl (by decide)
    refine J.b7<|J.a6<|J.A (J.H hK6 ?_)
    refine J.G 0 5 6 ?_
    exact J.L<|J.f ((qAO O O O (by first|omega|(simp only [List.length_append,List.length_cons,List.length_nil,List.length_take,List.length_drop] at*;omega))).nat (k+1) (by omega)) rfl<|J.b rfl<|J.a7<|J.A<|J.a8 (k+1) (λη (hη:_∧3-η<3-k)=>hI0 η hη.1 hη.2) ⟨⟨by omega,λj hj=>by rcases Nat.lt_succ_iff_lt_or_eq.1 hj with h|rfl;exact hn j h;exact(by unfold qQt;simp [*];try omega)⟩,by first|omega|(dsimp only;omega)⟩ ⟨rfl,rfl,rfl,trivial⟩ (λ_ h=>h.pick [0] (by decide))
   refine J.p 3 O<|J.c hK8<|J.O 0 5 6 22 ?_
   refine J.a5 ?_
   refine J.b7<|J.a6<|J.A (J.H hK6 ?_)
   refine J.G 0 5 6 ?_
   exact J.L<|J.f ((qAO O O O (by first|omega|(simp only [List.length_append,List.length_cons,List.length_nil,List.length_take,List.length_drop] at*;omega))).nat (k+1) (by omega)) rfl<|J.b rfl<|J.a7<|J.A<|J.a8 (k+1) (λη (hη:_∧3-η<3-k)=>hI0 η hη.1 hη.2) ⟨⟨by omega,λj hj=>by rcases Nat.lt_succ_iff_lt_or_eq.1 hj with h|rfl;exact hn j h;exact(by unfold qQt;simp [*];try omega)⟩,by first|omega|(dsimp only;omega)⟩ ⟨rfl,rfl,rfl,trivial⟩ (λ_ h=>h.pick [0] (by decide))
  refine J.p 9 O<|J.c hK8<|J.O 0 5 6 22 ?_
  refine J.a5 ?_
  refine J.b7<|J.a6<|J.A (J.H hK6 ?_)
  refine J.G 0 5 6 ?_
  exact J.L<|J.f ((qAO O O O (by first|omega|(simp only [List.length_append,List.length_cons,List.length_nil,List.length_take,List.length_drop] at*;omega))).nat (k+1) (by omega)) rfl<|J.b rfl<|J.a7<|J.A<|J.a8 (k+1) (λη (hη:_∧3-η<3-k)=>hI0 η hη.1 hη.2) ⟨⟨by omega,λj hj=>by rcases Nat.lt_succ_iff_lt_or_eq.1 hj with h|rfl;exact hn j h;exact(by unfold qQt;simp [*];try omega)⟩,by first|omega|(dsimp only;omega)⟩ ⟨rfl,rfl,rfl,trivial⟩ (λ_ h=>h.pick [0] (by decide))
 refine J.b4<|J.a1<|J.a1<|J.b5 ?_
 refine J.A (J.H hK2 ?_)
 refine J.u 0 ?_
 refine J.g λK10 hK10=>J.p 2 O<|J.c hK10<|J.u 2 ?_
 exact J.D<|J.M hw0 O () (by rw [qPU (λj hj=>hn j (by omega))]) trivial [0] rfl (by decide)
theorem qIe(F:Hp)(hA:qAL F ⟨2,0,none⟩ qBT)(r:Nat)(hr:r≤1073741824):Ct prog 224 [.int .i32 ((r:Nat):Int)] [F] (λ_:Unit=>I ((qHs r:Nat):Int)) (λ_=>True) (λ_=> [F]):=by
 refine Ct.walk func224 rfl ntmps224 rfl (λw0 hw0=>?_)
 change J _ [(0,_)] _ _ _
 refine J.g λK1 hK1=>J.b O<|J.c hK1<|J.u 0 ?_
 refine J.g λK2 hK2=>J.b O<|J.k (qAA O O ent196 (Ct.use0 (λF' hF=>qKa F' (hA.mono (hF F (by simp))) r (by omega)))) rfl λg6 _=>J.b rfl<|J.c hK2<|J.u 0 ?_
 refine J.j λK3 hK3=>J.g λK4 hK4=>J.f (qFT 0 O O isAgg323 sizeOf323 O hA O) O<|J.b O<|J.c hK4<|J.G 0 7 8 ?_
 refine J.V<|J.b6 (X:=Nat) (λζ=> [(0,.int .i32 ((small r:Nat):Int)),(7,.agg qBT.toArray),(8,I ((ζ:Nat):Int))]) (λζ=> [F]) (λζ=>ζ≤3∧ ∀j<ζ,qMJ j (small r)=false) (λζ=>3-ζ) 0 (⟨by omega,λj h=>absurd h (Nat.not_lt_zero j)⟩) ⟨O,O,O,trivial⟩ (λ_ h=>h) ?_
 rintro k ⟨hk,hn⟩ I0 hI0
 refine J.g λK5 hK5=>J.f (qAT O O O) O<|J.c hK5<|J.O 0 7 8 9 ?_
 refine J.j λK6 hK6=>J.a2 O (λh9=>?_) (λh9=>?_)
 ·
  refine J.W hK6<|J.G 0 7 8 ?_
  refine J.j λK7 hK7=>J.V<|J.g λK8 hK8=>J.f ((qIT (i:=k) O O O underlying323 sizeOf322 isAgg322 (by omega)).as (v':= .agg #[I (qKF k:Nat),R32 (qEv k),R32 (qEq k)]) (qJC (by omega))) O<|J.k (qAN (l:= [I 0,.int .i32 0,.int .i32 0]) O zeroValue322 O) O λg4 _=>?_
  change J _ _ _ [F,blk g4 [I 0,.int .i32 0,.int .i32 0] 322] _
  refine J.b0 (qAI (i:=1) (l:= [I 0,.int .i32 0,.int .i32 0]) (vs:= [I (qKF k:Nat),R32 (qEv k),R32 (qEq k)]) O O O O O sizeOf322 O O) O O λ_ _=>?_
  change J _ _ _ [_,blk g4 [I (qKF k:Nat),R32 (qEv k),R32 (qEq k)] 322] _
  refine J.c hK8<|J.O 0 4 7 8 ?_
  refine J.g λK9 hK9=>J.c9 1 isAgg322 sizeOf322 O O O O O<|J.b O<|J.k (qAA O O ent234 (Ct.use0 (λF' hF=>qOE F' k (small r)))) O λg13 _=>J.c hK9<|J.a0 0 4 7 8 13 ?_
  refine J.d6 O (λh13=>?_) (λh13=>?_)
  ·
   refine J.g λK10 hK10=>J.a3 0 qMf z3_ O O O O O<|J.f (qAE 1 (v:=I (qKF k:Nat)) O O O b3_ O) O<|J.b O<|J.c hK10<|J.u 2 ?_
   exact J.D<|J.b1<|J.a4<|J.a4<|J.b1<|J.a4<|J.M hw0 O () (by rw [qS2 (k:=k) (by omega) (by assumption)]) trivial [0] rfl (by decide)
  refine J.b7<|J.a6<|J.A (J.H hK7 ?_)
  refine J.G 0 7 8 ?_
  exact J.L<|J.f ((qAO O O O (by first|omega|(simp only [List.length_append,List.length_cons,List.length_nil,List.length_take,List.length_drop] at*;omega))).nat (k+1) (by omega)) rfl<|J.b rfl<|J.a7<|J.A<|J.a8 (k+1) (λη (hη:_∧3-η<3-k)=>hI0 η hη.1 hη.2) ⟨⟨by omega,λj hj=>by rcases Nat.lt_succ_iff_lt_or_eq.1 hj with h|rfl;exact hn j h;assumption⟩,by first|omega|(dsimp only;omega)⟩ ⟨rfl,rfl,rfl,trivial⟩ (λ_ h=>h.pick [0] (by decide))
 refine J.b4<|J.a1<|J.a1<|J.b5 ?_
 refine J.A (J.H hK3 ?_)
 refine J.c3 [] trivial<|J.g λK11 hK11=>J.b O<|J.c hK11<|J.u 2 ?_
 exact J.D<|J.M hw0 O () (by rw [qS3 (λj hj=>hn j (by omega))];rfl) trivial [0] rfl (by decide)
theorem qMx(F:Hp)(r:Nat):Ct prog 225 [.int .i32 ((r:Nat):Int)] [F] (λ_:Unit=> .bool (qGJ r)) (λ_=>True) (λ_=> [F]):=by
 refine Ct.walk func225 rfl ntmps225 rfl (λw0 hw0=>?_)
 change J _ [(0,_)] _ _ _
 refine J.g λK1 hK1=>J.b O<|J.c hK1<|J.u 0 ?_
 refine J.g λK2 hK2=>J.b O<|J.f (qAY O O O) O<|J.b O<|J.c4 (d:=5) O (λh5=>?_) (λh5=>?_)
 ·
  refine J.p 12 O<|J.c hK2<|J.u 2 ?_
  exact J.D<|J.M hw0 O () (by unfold qGJ;first|rw [decide_eq_true (by omega)]|exact congrArg Value.bool (decide_eq_decide.2 (by omega))) trivial [0] rfl (by decide)
 refine J.b O<|J.Z (qAY O O O) O<|J.p 2 O<|J.c4 (d:=9) O (λh9=>?_) (λh9=>?_)
 ·
  refine J.p 8 O<|J.c hK2<|J.u 2 ?_
  exact J.D<|J.M hw0 O () (by unfold qGJ;first|rw [decide_eq_true (by omega)]|exact congrArg Value.bool (decide_eq_decide.2 (by omega))) trivial [0] rfl (by decide)
 refine J.b O<|J.Z (qAY O O O) O<|J.p 2 O<|J.c4 (d:=13) O (λh13=>?_) (λh13=>?_)
 ·
  refine J.p 4 O<|J.c hK2<|J.u 2 ?_
  exact J.D<|J.M hw0 O () (by unfold qGJ;first|rw [decide_eq_true (by omega)]|exact congrArg Value.bool (decide_eq_decide.2 (by omega))) trivial [0] rfl (by decide)
 refine J.b O<|J.Z (qAY O O O) O<|J.p 2 O<|J.c hK2<|J.u 2 ?_
 exact J.D<|J.M hw0 O () (by unfold qGJ;first|rw [decide_eq_true (by omega)]|exact congrArg Value.bool (decide_eq_decide.2 (by omega))) trivial [0] rfl (by decide)
theorem qTj(F:Hp)(hA:qAL F ⟨2,0,none⟩ qBT)(s:List UInt8)(hs:s.length≤1000000):Ct prog 228 [Str (s)] [F] (λ_:Unit=>I ((qHu (rl s) 0:Nat):Int)) (λ_=>True) (λ_=> [F]):=by
 refine Ct.walk func228 rfl ntmps228 rfl (λw0 hw0=>?_)
 change J _ [(0,_)] _ _ _
 refine J.g λK1 hK1=>J.b O<|J.c hK1<|J.u 0 ?_
 refine J.g λK2 hK2=>J.b O<|J.c hK2<|J.E 0 3 ?_
 refine J.j λK3 hK3=>J.g λK4 hK4=>J.b O<|J.k (qDq O O u9_) O ?_
 rintro g7 _
 change J _ _ _ [F,itr g7 s 0] _
 refine J.c hK4<|J.E 3 7 ?_
 refine J.V<|J.b6 (X:=Nat×Nat) (λζ=> [(3,I ((ζ.2:Nat):Int)),(7,Ptr g7)]) (λζ=> [F,itr g7 s ζ.1]) (λζ=>ζ.1≤s.length∧ζ.2<8∧qHu (rl (s.drop ζ.1)) ζ.2=qHu (rl s) 0) (λζ=>s.length-ζ.1) (0,0) (⟨by omega,by omega,O⟩) ⟨O,O,trivial⟩ (λ_ h=>h) ?_
 rintro⟨p,b⟩ ⟨hp,hb,he⟩ I0 hI0
 dsimp only at hp hb he⊢
 refine J.g λK5 hK5=>J.k (qEo (i:=1) O O O) O ?_
 rintro _ _
 change J _ _ _ [F,itr g7 s (qFX s p)] _
 refine J.f (qAa (v:= .bool (decide (p<s.length))) O O (qQD _ _)) O<|J.c hK5<|J.O 3 7 8 9 ?_
 refine J.j λK6 hK6=>J.a2 O (λh9=>?_) (λh9=>?_)
 ·
  have hps:p<s.length:=h9
  have hnp:=qC3 hps
  have hdl:=qLG s p hps
  have hdr:=qE0 s p (by omega)
  have hdp:=qDc s p (by omega)
  have hrl:=qPl hps
  refine J.W hK6<|J.G 3 7 8 ?_
  refine J.V<|J.g λK7 hK7=>J.f (qAa (v:= .int .i32 (((dec s p).1:Nat):Int)) O O (qSq hps)) O<|J.b O<|J.c hK7<|J.G 3 5 7 ?_
  refine J.L<|J.p 2 O<|J.k (qAA O O ent224 (Ct.use0 (λF' hF=>qIe F' (hA.mono (hF F (by simp))) ((dec s p).1) (by omega)))) rfl λg13 _=>?_
  have hll:=qJx (dec s p).1
  exact J.f (qRO (a:=b) (b:=qHs ((dec s p).1)) O O O (by first|omega|(simp only [List.length_append,List.length_cons,List.length_nil,List.length_take,List.length_drop] at*;omega))) rfl<|J.b rfl<|J.a7<|J.a6<|J.A<|J.a8 (qFX s p,b|||qHs (dec s p).1) (λη (hη:_∧s.length-η.1<s.length-p)=>hI0 η hη.1 hη.2) ⟨⟨by dsimp only;omega,Nat.or_lt_two_pow (n:=3) hb (qJx _),by rw [←he,hrl];rfl⟩,by first|omega|(dsimp only;omega)⟩ ⟨rfl,rfl,trivial⟩ (λ_ h=>h)
 refine J.b4<|J.a1<|J.a1<|J.b5 ?_
 refine J.A (J.H hK3 ?_)
 refine J.u 3 ?_
 refine J.g λK8 hK8=>J.p 2 O<|J.c hK8<|J.u 2 ?_
 exact J.D<|J.M hw0 O () (by rw [←he,List.drop_of_length_le (by omega),qIG];rfl) trivial [0] rfl (by decide)
theorem qM9(F:Hp)(s:List UInt8)(hs:s.length≤1000000):Ct prog 223 [Str (s)] [F] (λ_:Unit=>I (((rl s).length:Nat):Int)) (λ_=>True) (λ_=> [F]):=by
 refine Ct.walk func223 rfl ntmps223 rfl (λw0 hw0=>?_)
 change J _ [(0,_)] _ _ _
 refine J.g λK1 hK1=>J.b O<|J.c hK1<|J.E 0 2 ?_
 refine J.j λK2 hK2=>J.g λK3 hK3=>J.b O<|J.k (qDq O O u9_) O ?_
 rintro g4 _
 change J _ _ _ [F,itr g4 s 0] _
 refine J.c hK3<|J.E 2 4 ?_
 refine J.V<|J.b6 (X:=Nat×Nat) (λζ=> [(2,I ((ζ.2:Nat):Int)),(4,Ptr g4)]) (λζ=> [F,itr g4 s ζ.1]) (λζ=>ζ.1≤s.length∧ζ.2≤ζ.1∧ζ.2+(rl (s.drop ζ.1)).length=(rl s).length) (λζ=>s.length-ζ.1) (0,0) (⟨by omega,by omega,Nat.zero_add _⟩) ⟨O,O,trivial⟩ (λ_ h=>h) ?_
 rintro⟨p,n⟩ ⟨hp,hb,he⟩ I0 hI0
 dsimp only at hp hb he⊢
 refine J.g λK4 hK4=>J.k (qEo (i:=1) O O O) O ?_
 rintro _ _
 change J _ _ _ [F,itr g4 s (qFX s p)] _
 refine J.f (qAa (v:= .bool (decide (p<s.length))) O O (qQD _ _)) O<|J.c hK4<|J.G 2 4 6 ?_
 refine J.j λK5 hK5=>J.a2 O (λh6=>?_) (λh6=>?_)
 ·
  have hps:p<s.length:=h6
  have hnp:=qC3 hps
  have hdl:=qLG s p hps
  have hdr:=qE0 s p (by omega)
  have hdp:=qDc s p (by omega)
  have hrl:=qPl hps
  refine J.W hK5<|J.E 2 4 ?_
  exact J.V<|J.L<|J.b O<|J.f ((qAO O O O (by first|omega|(simp only [List.length_append,List.length_cons,List.length_nil,List.length_take,List.length_drop] at*;omega))).nat (n+1) (by omega)) rfl<|J.b rfl<|J.a7<|J.a6<|J.A<|J.a8 (qFX s p,n+1) (λη (hη:_∧s.length-η.1<s.length-p)=>hI0 η hη.1 hη.2) ⟨⟨by dsimp only;omega,by dsimp only;omega,by rw [←he,hrl,List.length_cons];dsimp only;omega⟩,by first|omega|(dsimp only;omega)⟩ ⟨rfl,rfl,trivial⟩ (λ_ h=>h)
 refine J.b4<|J.a1<|J.a1<|J.b5 ?_
 refine J.A (J.H hK2 ?_)
 refine J.u 2 ?_
 refine J.g λK6 hK6=>J.p 2 O<|J.c hK6<|J.u 2 ?_
 exact J.D<|J.M hw0 O () (by rw [←he,List.drop_of_length_le (by omega),qIG];rfl) trivial [0] rfl (by decide)
theorem qPf(F:Hp)(hT:qBx F)(s:List UInt8)(hs:s.length≤1000000):Ct prog 193 [Str (s)] [F] (λ_:Unit=> .tuple #[I ((if vld s=true then(rl s).length else 0:Nat):Int),.bool (vld s)]) (λ_=>True) (λ_=> [F]):=by
 refine Ct.walk func193 rfl ntmps193 rfl (λw0 hw0=>?_)
 change J _ [(0,_)] _ _ _
 refine J.g λK1 hK1=>J.p 2 O<|J.c hK1<|J.u 0 ?_
 refine J.j λK2 hK2=>J.g λK3 hK3=>J.b O<|J.k (qAA O O ent222 (Ct.use0 (λF' hF=>qPD F' (hT.mono (hF F (by simp))) s (by omega)))) rfl λg5 _=>J.f (qAt rfl rfl) rfl<|J.c hK3<|J.E 0 6 ?_
 refine J.d6 O (λh6=>?_) (λh6=>?_)
 ·
  refine J.g λK4 hK4=>J.p 2 O<|J.c hK4<|J.E 2 3 ?_
  exact J.D<|J.a4<|J.b2 hw0 (λ_ _ h=>h) (qB2 O O O) (qAn () (by rw [show vld s=false by simpa using h6];rfl) trivial [0] rfl (by decide))
 refine J.W hK2<|J.u 0 ?_
 refine J.g λK5 hK5=>J.b O<|J.k (qAA O O ent223 (Ct.use0 (λF' hF=>qM9 F' s (by omega)))) O λg8 _=>J.p 2 O<|J.c hK5<|J.E 2 3 ?_
 exact J.D<|J.b2 hw0 (λ_ _ h=>h) (qB2 O O O) (qAn () (by rw [show vld s=true by simpa using h6];rfl) trivial [0] rfl (by decide))
theorem qSJ(F:Hp)(r:Nat)(hr:Rn r):Ct prog 231 [.int .i32 ((r:Nat):Int)] [F] (λ_:Unit=>I (((enc r).length:Nat):Int)) (λ_=>True) (λ_=> [F]):=by
 obtain ⟨hr1,hr2⟩:=hr
 refine Ct.walk func231 rfl ntmps231 rfl (λw0 hw0=>?_)
 change J _ [(0,_)] _ _ _
 refine J.g λK1 hK1=>J.b O<|J.c hK1<|J.u 0 ?_
 refine J.j λK2 hK2=>J.V<|J.g λK3 hK3=>J.b O<|J.f (qAT O O O) O<|J.b O<|J.c hK3<|J.E 0 3 ?_
 refine J.a2 O (λh3=>?_) (λh3=>?_)
 ·
  refine J.g λK4 hK4=>J.b O<|J.c hK4<|J.u 2 ?_
  exact J.D<|J.b1<|J.a4<|J.M hw0 O () (by exfalso;omega) trivial [0] O (by decide)
 refine J.g λK5 hK5=>J.b O<|J.f (qB5 O O O) O<|J.b O<|J.c hK5<|J.E 0 6 ?_
 refine J.a2 O (λh6=>?_) (λh6=>?_)
 ·
  refine J.g λK6 hK6=>J.b O<|J.c hK6<|J.u 2 ?_
  exact J.D<|J.b1<|J.a4<|J.M hw0 O () (by rw [qB9 (by omega)];rfl) trivial [0] rfl (by decide)
 refine J.g λK7 hK7=>J.b O<|J.f (qB5 O O O) O<|J.b O<|J.c hK7<|J.E 0 9 ?_
 refine J.a2 O (λh9=>?_) (λh9=>?_)
 ·
  refine J.g λK8 hK8=>J.b O<|J.c hK8<|J.u 2 ?_
  exact J.D<|J.b1<|J.a4<|J.M hw0 O () (by unfold enc;rw [if_neg (by omega),if_pos (by omega)];rfl) trivial [0] rfl (by decide)
 refine J.g λK9 hK9=>J.b O<|J.f (qB5 O O O) O<|J.b O<|J.c4 (d:=15) O (λh15=>?_) (λh15=>?_)
 ·
  refine J.b O<|J.Z (qB5 O O O) O<|J.p 2 O<|J.c hK9<|J.E 0 12 ?_
  refine J.a2 O (λh12=>?_) (λh12=>?_)
  ·
   refine J.g λK10 hK10=>J.b O<|J.c hK10<|J.u 2 ?_
   exact J.D<|J.b1<|J.a4<|J.M hw0 O () (by exfalso;omega) trivial [0] O (by decide)
  refine J.g λK11 hK11=>J.b O<|J.f (qB5 O O O) O<|J.b O<|J.c hK11<|J.E 0 19 ?_
  refine J.a2 O (λh19=>?_) (λh19=>?_)
  ·
   refine J.g λK12 hK12=>J.b O<|J.c hK12<|J.u 2 ?_
   exact J.D<|J.b1<|J.a4<|J.M hw0 O () (by unfold enc;rw [if_neg (by omega),if_neg (by omega),if_pos (by omega)];rfl) trivial [0] rfl (by decide)
  refine J.g λK13 hK13=>J.b O<|J.f (qB5 O O O) O<|J.b O<|J.c hK13<|J.u 22 ?_
  refine J.a2 O (λh22=>?_) (λh22=>?_)
  ·
   refine J.g λK14 hK14=>J.b O<|J.c hK14<|J.u 2 ?_
   exact J.D<|J.b1<|J.a4<|J.M hw0 O () (by unfold enc;rw [if_neg (by omega),if_neg (by omega),if_neg (by omega)];rfl) trivial [0] rfl (by decide)
  refine J.b7<|J.a6<|J.A (J.H hK2 ?_)
  refine J.c3 [] trivial<|J.g λK15 hK15=>J.b O<|J.c hK15<|J.u 2 ?_
  exact J.D<|J.M hw0 O () (by exfalso;omega) trivial [0] O (by decide)
 refine J.p 4 O<|J.c hK9<|J.E 0 12 ?_
 refine J.a5 ?_
 refine J.g λK16 hK16=>J.b O<|J.f (qB5 O O O) O<|J.b O<|J.c hK16<|J.E 0 19 ?_
 refine J.a2 O (λh19=>?_) (λh19=>?_)
 ·
  refine J.g λK17 hK17=>J.b O<|J.c hK17<|J.u 2 ?_
  exact J.D<|J.b1<|J.a4<|J.M hw0 O () (by unfold enc;rw [if_neg (by omega),if_neg (by omega),if_pos (by omega)];rfl) trivial [0] rfl (by decide)
 refine J.g λK18 hK18=>J.b O<|J.f (qB5 O O O) O<|J.b O<|J.c hK18<|J.u 22 ?_
 refine J.a2 O (λh22=>?_) (λh22=>?_)
 ·
  refine J.g λK19 hK19=>J.b O<|J.c hK19<|J.u 2 ?_
  exact J.D<|J.b1<|J.a4<|J.M hw0 O () (by unfold enc;rw [if_neg (by omega),if_neg (by omega),if_neg (by omega)];rfl) trivial [0] rfl (by decide)
 refine J.b7<|J.a6<|J.A (J.H hK2 ?_)
 refine J.c3 [] trivial<|J.g λK20 hK20=>J.b O<|J.c hK20<|J.u 2 ?_
 exact J.D<|J.M hw0 O () (by exfalso;omega) trivial [0] O (by decide)
theorem qNs(F:Hp)(hT:qBx F)(s:List UInt8)(hs:s.length≤1000000):Ct prog 226 [Str (s)] [F] (λx:Option Addr×Nat×Hp=> .slice x.1 (spl [] s).length x.2.1) (λx=>Row x.2.2 9 1 x.1 (spl [] s).length x.2.1 (qAG (spl [] s))) (λx=> [F,x.2.2]):=by
 refine Ct.walk func226 rfl ntmps226 rfl (λw0 hw0=>?_)
 change J _ [(0,_)] _ _ _
 refine J.g λK1 hK1=>J.b O<|J.c hK1<|J.u 0 ?_
 refine J.g λK2 hK2=>J.k (qAF (l:= [.const ((Value.string (ByteArray.mk #[])))]) (xs:= [[Str ([])]]) O O O O qAe el9 O (by decide) (by decide) (by simp)) rfl λg7 _=>?_
 change J _ _ _ [F,blk g7 [Str ([])] 9] _
 refine J.b O<|J.c hK2<|J.E 0 3 ?_
 refine J.j λK3 hK3=>J.g λK4 hK4=>J.b O<|J.k (qDq O O u9_) O ?_
 rintro g9 _
 change J _ _ _ [_,_,itr g9 s 0] _
 refine J.c hK4<|J.G 0 3 9 ?_
 refine J.V<|J.b6 (X:=Nat×List (List UInt8)×List UInt8×Nat×Option Addr×Nat×Hp) (λζ=> [(0,Str (s)),(3,.slice ζ.2.2.2.2.1 ζ.2.2.2.1 ζ.2.2.2.2.2.1),(9,Ptr g9)]) (λζ=> [F,ζ.2.2.2.2.2.2,itr g9 s ζ.1]) (λζ=>ζ.1≤s.length∧ζ.2.2.2.1=ζ.2.1.length+1∧ζ.2.1.length≤ζ.1∧ζ.2.2.1.length≤ζ.1∧Row ζ.2.2.2.2.2.2 9 1 ζ.2.2.2.2.1 ζ.2.2.2.1 ζ.2.2.2.2.2.1 (qAG (ζ.2.1++ [ζ.2.2.1]))∧ζ.2.1++spl ζ.2.2.1 (s.drop ζ.1)=spl [] s) (λζ=>s.length-ζ.1) (0,[],[],1,_,_,_) (⟨by omega,O,by simp,by simp,qA4 (qAG [[]]) rfl (by simp [qAG]) rfl,rfl⟩) ⟨rfl,rfl,rfl,trivial⟩ (λ_ h=>h) ?_
 rintro⟨p,ds,cur,n,A,c,m⟩ ⟨hp,hn,hd,hc,hr,he⟩ I0 hI0
 dsimp only at hp hn hd hc hr he⊢
 obtain ⟨ga,rfl⟩:=hr.at (by omega)
 have hlen:=congrArg List.length he
 refine J.g λK5 hK5=>J.k (qEo (i:=2) O O O) O ?_
 rintro _ _
 change J _ _ _ [F,m,itr g9 s (qFX s p)] _
 refine J.f (qAa (v:= .bool (decide (p<s.length))) O O (qQD _ _)) O<|J.c hK5<|J.a0 0 3 9 10 11 ?_
 refine J.j λK6 hK6=>J.a2 O (λh11=>?_) (λh11=>?_)
 ·
  have hps:p<s.length:=h11
  have hnp:=qC3 hps
  have hdl:=qLG s p hps
  have hdr:=qE0 s p (by omega)
  have hdp:=qDc s p (by omega)
  have hrl:=qPl hps
  have hdn:=qFm hps
  have hdd:=qDJ (s:=s) (pos:=p) (by omega)
  refine J.W hK6<|J.O 0 3 9 10 ?_
  refine J.V<|J.g λK7 hK7=>J.f (qAa (v:=I ((p:Nat):Int)) O O (nxt_1 hps)) O<|J.f (qAa (v:= .int .i32 (((dec s p).1:Nat):Int)) O O (qSq hps)) O<|J.p 2 O<|J.c hK7<|J.a0 0 3 4 5 9 ?_
  refine J.g λK8 hK8=>J.b O<|J.k (qAA O O ent231 (Ct.use0 (λF' hF=>qSJ F' ((dec s p).1) (qUh hps)))) O λg15 _=>J.b O<|J.c hK8<|J.b8 0 3 4 5 6 9 ?_
  refine J.e8 (X:=Unit) (λζ=> [(0,Str (s)),(3,.slice (some ⟨ga,0,none⟩) n c),(4,I ((p:Nat):Int)),(5,.int .i32 (((dec s p).1:Nat):Int)),(6,I (((dec s p).2:Nat):Int)),(9,Ptr g9)]) (λζ=> [F,m,itr g9 s (qFX s p)]) (λζ=>True) (λK9 hK9=>?_) ?_
  ·
   refine J.g λK10 hK10=>J.b O<|J.f (qAY O O O) O<|J.c hK10<|J.c2 0 3 4 5 6 9 17 ?_
   refine J.a2 O (λh17=>?_) (λh17=>?_)
   ·
    exact J.L<|J.p 2 O<|J.f ((qA1 (a:=s) (l:=p) (h:=s.length) u9_ O O O O ⟨by first|omega|(simp only [List.length_append,List.length_cons,List.length_nil,List.length_take,List.length_drop] at*;omega),by first|omega|(simp only [List.length_append,List.length_cons,List.length_nil,List.length_take,List.length_drop] at*;omega)⟩).as (v':=Str (s.drop p)) (by rw [List.take_length])) rfl<|J.k (qAA rfl rfl ent230 (Ct.use0 (λF' hF=>qOT F' (hT.mono (hF F (by simp))) (s.drop p) (by assumption)))) rfl λg22 _=>J.p 4 rfl<|J.a7<|J.A<|J.a8 () hK9 (trivial) ⟨rfl,rfl,rfl,rfl,(by show some (I (((dec (s.drop p) 0).2:Nat):Int))=_;rw [←hdd]),rfl,trivial⟩ (λ_ h=>h)
   exact J.b7<|J.A<|J.a8 () hK9 (trivial) ⟨O,O,O,O,(by show some (I (((enc (dec s p).1).length:Nat):Int))=_;rw [qTT hps (by omega)]),rfl,trivial⟩ (λ_ h=>h)
  rintro _ _
  refine J.g λK11 hK11=>J.b O<|J.k (qAA O O ent225 (Ct.use0 (λF' hF=>qMx F' ((dec s p).1)))) O λg26 _=>J.c hK11<|J.b8 0 3 4 6 9 26 ?_
  refine J.d6 O (λh26=>?_) (λh26=>?_)
  ·
   refine J.L<|J.b O<|J.k (qAF (l:= [.const ((Value.string (ByteArray.mk #[])))]) (xs:= [[Str ([])]]) O O O O qAe el9 O (by decide) (by decide) (by simp)) rfl λg28 _=>?_
   change J _ _ _ [F,m,itr g9 s (qFX s p),blk g28 [Str ([])] 9] _
   refine J.k (qAW (i:=1) (xs:=qAG (ds++ [cur])) (m2:=blk g28 [Str ([])] 9) (ys:= [[Str ([])]]) O O O qAe qAe el9 O hr (by simp) ((qA4 (q:=True) (qAG [[]]) rfl (by simp [qAG]) rfl).sl) rfl (by first|omega|(simp only [List.length_append,List.length_cons,List.length_nil,List.length_take,List.length_drop] at*;omega)) (by first|omega|(simp only [List.length_append,List.length_cons,List.length_nil,List.length_take,List.length_drop] at*;omega))) rfl ?_
   rintro⟨A29,c29,m29⟩ h29
   try dsimp only at h29
   change J _ ((29,.slice A29 (n+1) c29)::_) _ [_,m29,_,_] _
   rw [←qBg] at h29
   exact J.b O<|J.a7<|J.a6<|J.A<|J.a8 (qFX s p,ds++ [cur],[],n+1,A29,c29,m29) (λη (hη:_∧s.length-η.1<s.length-p)=>hI0 η hη.1 hη.2) ⟨⟨by dsimp only;omega,by simp;omega,by simp;omega,by simp,h29,by rw [←he,qPR hps _ h26,List.append_assoc];rfl⟩,by first|omega|(dsimp only;omega)⟩ ⟨rfl,rfl,rfl,trivial⟩ (λ_ h=>h.pick [0,1,2] (by decide))
  refine J.c1 [F,m,itr g9 s (qFX s p)] [14] (.y 0 (.y 1 (.y 2 (.y 3 (.y 4 (.y 5 (.y 6 (.y 7 (.y 8 (.y 9 (.y 10 (.y 11 (.y 12 (.y 13 (.e 14 .nil))))))))))))))) Tryz.wide (by decide+kernel) (by simp) ?_
  refine J.T ?_
  refine J.T ?_
  refine J.q O (qAP qAe O O) O O<|J.q O ((qAw O O O (by omega)).nat (n-1) (by omega)) O O<|J.q O (qAm (i:=n-1) (j:=0+(n-1)*1) O O O qAe z9_ (by first|omega|(simp only [List.length_append,List.length_cons,List.length_nil,List.length_take,List.length_drop] at*;omega)) (by omega)) rfl rfl<|J.q rfl (qAJ rfl rfl b9_ (m:=m) (by simp) (hr.sl.cells (qAQ (qAc [] (by first|omega|(simp only [List.length_append,List.length_cons,List.length_nil,List.length_take,List.length_drop] at*;omega)))))) rfl rfl<|J.T ?_
  iterate 3 refine J.T ?_
  refine J.q O ((qAO O O O (by first|omega|(simp only [List.length_append,List.length_cons,List.length_nil,List.length_take,List.length_drop] at*;omega))).as (v':=I ((p+((dec s p).2):Nat):Int)) (congrArg I (by omega))) rfl rfl<|J.q rfl (qA1 (a:=s) (l:=p) (h:=(p+((dec s p).2))) u9_ rfl rfl rfl rfl ⟨by first|omega|(simp only [List.length_append,List.length_cons,List.length_nil,List.length_take,List.length_drop] at*;omega),by first|omega|(simp only [List.length_append,List.length_cons,List.length_nil,List.length_take,List.length_drop] at*;omega)⟩) rfl rfl ?_
  have hgl:((ds++ [cur]).getD (n-1) []).length≤p:=by rw [show n-1=ds.length by omega,qQR];exact hc
  refine J.q O (qA5 (a:=(ds++ [cur]).getD (n-1) []) (b:=(s.take (p+((dec s p).2))).drop p) O O O (by first|omega|(simp only [List.length_append,List.length_cons,List.length_nil,List.length_take,List.length_drop] at*;omega))) rfl rfl<|J.q rfl (qAm (i:=n-1) (j:=0+(n-1)*1) rfl rfl rfl qAe z9_ (by first|omega|(simp only [List.length_append,List.length_cons,List.length_nil,List.length_take,List.length_drop] at*;omega)) (by omega)) rfl rfl<|J.d3 rfl (qBI (i:=1) (k:=n-1) (off:=0) (b:= [Str (((ds++ [cur]).getD (n-1) [])++((s.take (p+((dec s p).2))).drop p))]) rfl rfl rfl rfl hr (vs:= [Str (((ds++ [cur]).getD (n-1) [])++((s.take (p+((dec s p).2))).drop p))]) rfl z9_ rfl (by omega) (qAQ (qAc [] (by first|omega|(simp only [List.length_append,List.length_cons,List.length_nil,List.length_take,List.length_drop] at*;omega)))) rfl (Nat.le_refl _)) rfl rfl rfl ?_
  rintro m10_1 hm10_1
  change J _ _ _ [F,m10_1,itr g9 s (qFX s p)] _
  rw [qC0] at hm10_1
  exact J.b9<|J.a6<|J.A<|J.a8 (qFX s p,ds,cur++(s.take (p+(dec s p).2)).drop p,n,some ⟨ga,0,none⟩,c,m10_1) (λη (hη:_∧s.length-η.1<s.length-p)=>hI0 η hη.1 hη.2) ⟨⟨by dsimp only;omega,by simp;omega,by dsimp only;omega,by simp;omega,by rw [qQP _ _ _ (by omega)] at hm10_1;exact hm10_1,by rw [←he,qF3 hps _ h26]⟩,by first|omega|(dsimp only;omega)⟩ ⟨rfl,rfl,rfl,trivial⟩ (λ_ h=>h)
 refine J.b4<|J.a1<|J.a1<|J.b5 ?_
 refine J.A (J.H hK3 ?_)
 refine J.u 3 ?_
 refine J.g λK12 hK12=>J.p 2 O<|J.c hK12<|J.u 2 ?_
 refine J.D ?_
 have he2:ds++ [cur]=spl [] s:=by rw [←he,List.drop_of_length_le (by omega)];rfl
 have hn2:n=(spl [] s).length:=by rw [←he2];simp;omega
 rw [he2,hn2] at hr
 exact J.M hw0 O (some ⟨ga,0,none⟩,c,m) (by rw [hn2]) hr [0,1] rfl (by decide)
theorem qP8: ∀b:Nat,b<8→IntKind.i64.wrap (((BitVec.ofInt 64 (b:Int))&&&BitVec.ofInt 64 ((b:Int)-1)).toNat:Int)=((b&&&(b-1):Nat):Int):=by decide
theorem qUH(F:Hp)(b:Nat)(hb:b<8):Ct prog 227 [I ((b:Nat):Int)] [F] (λ_:Unit=> .bool (good b)) (λ_=>True) (λ_=> [F]):=by
 refine Ct.walk func227 rfl ntmps227 rfl (λw0 hw0=>?_)
 change J _ [(0,_)] _ _ _
 refine J.g λK1 hK1=>J.b O<|J.c hK1<|J.u 0 ?_
 refine J.g λK2 hK2=>J.p 2 O<|J.f (qAw O O O (by omega)) O<|J.f (qSm O O O (qP8 b hb)) O<|J.f (qAY O O O) O<|J.b O<|J.c hK2<|J.u 2 ?_
 exact J.D<|J.M hw0 O () (congrArg Value.bool (Bool.eq_iff_iff.2 (by rw [decide_eq_true_eq,←qP7 b hb];exact Int.natCast_eq_zero))) trivial [0] rfl (by decide)
end Go.Proofs.YtllnfioplpipiaaGreatDoor
