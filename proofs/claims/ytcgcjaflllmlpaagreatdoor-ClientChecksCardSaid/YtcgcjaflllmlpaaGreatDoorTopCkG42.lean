/- A part of the proof. -/
import Derived.Test.YtcgcjaflllmlpaaGreatDoorTopCkG41
set_option maxRecDepth 100000
set_option maxHeartbeats 1000000
set_option linter.unusedSimpArgs false
set_option linter.unusedVariables false
namespace Go.Proofs.YtcgcjaflllmlpaaGreatDoor
open Go Go.Fw Go.Proofs.Tryz
theorem qRH{s:xA}(h:qJI s=true)(h0: ¬s= [0]):s.length=17:=by
 unfold qJI at h
 rcases of_decide_eq_true h with h|⟨h,_⟩
 · exact absurd h h0
 · exact h
theorem qBX{bs:List xA}{th:Bool}{pk pv k:xA}(hk:k.length=16)(hl:bs.length≤128)(hnd: ∀j,j<bs.length→qJI (bs.getD j [])=true)(hla:0<bs.length→bs.getD (bs.length-1) []≠ [0]∧(th=false→((bs.getD (bs.length-1) []).getD 0 0).toNat=2))(hno:th=false→pk= []∧pv= [])(hy:th=true→pk.length=16∧Sm.belowB pk k bs.length=true):qHb bs th pk pv k 0:=by
 refine⟨hk,xB,hnd,hla,hno,by rw [jX];exact hy,λs hs=>?_⟩
 obtain ⟨j,hj,rfl⟩:=zN hs
 have h:=hnd j hj
 rw [jB,jC hj] at h
 by_cases h0:bs[j]= [0]
 · rw [h0];decide
 · exact Nat.le_of_eq (qRH h h0)
theorem qNu(F:Hp)(A:Option Addr)(c:Nat)(bs:List xA)(hs:Sl F 1 A bs.length c (qAG bs))(hbl:bs.length≤1000000)(th:Bool)(pk pv k:xA)(hk:k.length=16):Ct prog 97 [.agg #[.slice A bs.length c,.bool (th),Str (pk),Str (pv)],Str k,I (0:Nat)] [F] (λb:Bool=> .bool b) (λb=>b=true→qHb bs th pk pv k 0) (λ_=> [F]):=by
 refine Ct.walk func97 O ntmps97 O (λw0 hw0=>?_)
 change J _ [(0,_),(1,_),(2,_)] _ _ _
 refine J.g λ_ j1=>J.p (qAZ (l:= [.slice A bs.length c,.bool (th),Str (pk),Str (pv)]) O O O) O λg3 _=>?_
 change J _ _ _ [F,blk g3 [.slice A bs.length c,.bool (th),Str (pk),Str (pv)] 53] _
 refine J.b O<|J.c j1<|J.g λ_ j2=>J.M 0 qCj qB1 O O O O O<|J.f (qAC 1 (v:= .slice A bs.length c) O O O qCC O) O<|J.f (qAR qAk O O) O<|J.b O<|J.c j2<|J.q λ_ j3=>J.g λ_ j4=>J.k 2 O<|J.p (qAa O O (λF' hF=>qGv F' k ((0:Nat):Int))) O λg16 _=>J.f ((qAt O O).as (v':= .bool false) (by rw [decide_eq_true (show k.length=16∧(0:Int)≤((0:Nat):Int)∧((0:Nat):Int)≤128 from⟨hk,xB,xB⟩)];rfl)) O<|J.k 3 O<|J.D (qA3 O O O xE) O<|J.D (qAz O O O) O<|J.b O<|J.c j4<|J.a0 O (λh23=>?_) (λh23=>?_)
 ·
  exact J.g λ_ j5=>J.b O<|J.c j5<|J.A<|J.W<|J.E hw0 O _ O (λe=>by first|cases e|exact qBX hk xB (λj hj=>hnd j xB) hla (λ_=>⟨by assumption,of_decide_eq_true e⟩) (λht=>by simp_all)|exact qBX hk xB (λj hj=>hnd j xB) hla (λht=>by simp_all) (λ_=>⟨xB,by rw [jX,jP,je xB] at e;exact e⟩)) [0] O xC
 refine J.T j3<|J.q λ_ j6=>J.g λ_ j7=>J.M 0 qCj qB1 O O O O O<|J.f (qAC 1 (v:= .slice A bs.length c) O O O qCC O) O<|J.f (qAR qAk O O) O<|J.b O<|J.c j7<|J.V<|J.b6 (X:=Nat) (λζ=> [(1,Str (k)),(2,I (0:Nat)),(3,Ptr g3),(7,I (bs.length:Nat)),(25,.slice A bs.length c),(26,I (bs.length:Nat)),(27,I (ζ:Nat))]) (λζ=> [F,blk g3 [.slice A bs.length c,.bool (th),Str (pk),Str (pv)] 53]) (λζ=>ζ≤bs.length∧ ∀j,j<ζ→qJI (bs.getD j [])=true) (λζ=>bs.length-ζ) 0 (⟨jG _,λj hj=>absurd hj (jy j)⟩) ⟨O,O,O,O,O,O,O,trivial⟩ (λ_ h=>h) ?_
 rintro i ⟨hi,hnd⟩ I0 hI0
 refine J.g λ_ j8=>J.f (qAS O O O) O<|J.c j8<|J.q λ_ j9=>J.a0 O (λh28=>?_) (λh28=>?_)
 ·
  refine J.T j9<|J.q λ_ j10=>J.V<|J.g λ_ j11=>J.f (qAF (i:=i) O O O qAk z9_ hs xE) O<|J.f (qAI O O b9_ (m:=F) xD (hs.elem (qAY (qAi [] xE)))) O<|J.b O<|J.c j11<|J.g λ_ j12=>J.b O<|J.p (qAa O O (λF' hF=>qNG F' (bs.getD i []))) O λg32 _=>J.f (qAt O O) O<|J.c j12<|J.c7 O (λh33=>?_) (λh33=>?_)
  ·
   exact J.g λ_ j13=>J.b O<|J.c j13<|J.A<|J.a8<|J.W<|J.W<|J.a8<|J.W<|J.E hw0 O _ O (λe=>by first|cases e|exact qBX hk xB (λj hj=>hnd j xB) hla (λ_=>⟨by assumption,of_decide_eq_true e⟩) (λht=>by simp_all)|exact qBX hk xB (λj hj=>hnd j xB) hla (λht=>by simp_all) (λ_=>⟨xB,by rw [jX,jP,je xB] at e;exact e⟩)) [0] O xC
  refine J.b5<|J.a3<|J.u (J.G j10 ?_)
  exact J.H<|J.f ((qAQ O O O xE).nat (i+1) xB) O<|J.b O<|J.a4<|J.u<|J.a5 (i+1) (λη (hη:_∧bs.length-η<bs.length-i)=>hI0 η hη.1 hη.2) ⟨⟨xB,λj hj=>by rcases Nat.lt_succ_iff_lt_or_eq.1 hj with h|h;exact hnd j h;rw [h];simpa using h33⟩,by first|omega|(dsimp only;omega)⟩ ⟨O,O,O,O,O,O,O,trivial⟩ (λ_ h=>h)
 refine J.b3<|J.a1<|J.a1<|J.b4 ?_
 refine J.u (J.G j6 ?_)
 refine J.d4 (X:=Unit) (λζ=> [(1,Str (k)),(2,I (0:Nat)),(3,Ptr g3),(7,I (bs.length:Nat))]) (λζ=> [F,blk g3 [.slice A bs.length c,.bool (th),Str (pk),Str (pv)] 53]) (λζ=>(0<bs.length→bs.getD (bs.length-1) []≠ [0]∧(th=false→((bs.getD (bs.length-1) []).getD 0 0).toNat=2))) (λ_ j14=>?_) ?_
 ·
  refine J.g λ_ j15=>J.b O<|J.f (qAz O O O) O<|J.c j15<|J.a0 O (λh36=>?_) (λh36=>?_)
  ·
   refine J.g λ_ j16=>J.M 0 qCj qB1 O O O O O<|J.f (qAC 1 (v:= .slice A bs.length c) O O O qCC O) O<|J.b O<|J.f ((qA3 O O O xB).nat (bs.length-1) xB) O<|J.f (qAF (i:=bs.length-1) O O O qAk z9_ hs xE) O<|J.f (qAI O O b9_ (m:=F) xD (hs.elem (qAY (qAi [] xE)))) O<|J.b O<|J.c j16<|J.g λ_ j17=>J.b O<|J.f (qBA O O O) O<|J.b O<|J.b9 (d:=45) O (λh45=>?_) (λh45=>?_)
   ·
    refine J.k 4 O<|J.c6 (Wan.un O O O O) O O ?_
    refine J.c6 (Wan.un O O O O) O O ?_
    refine J.c6 (Wan.un O O O O) O O ?_
    refine J.k 2 O<|J.c j17<|J.c3 ?_
    exact J.g λ_ j18=>J.b O<|J.c j18<|J.A<|J.W<|J.E hw0 O _ O (λe=>by first|cases e|exact qBX hk xB (λj hj=>hnd j xB) hla (λ_=>⟨by assumption,of_decide_eq_true e⟩) (λht=>by simp_all)|exact qBX hk xB (λj hj=>hnd j xB) hla (λht=>by simp_all) (λ_=>⟨xB,by rw [jX,jP,je xB] at e;exact e⟩)) [0] O xC
   refine J.D (qAA (j:=1) O O qCj O z4_ O) O<|J.D (qAC 1 (v:= .bool (th)) O O O b4_ O) O<|J.D (qAt O O) O<|J.b O<|J.e1 (d:=49) O (λh49=>?_) (λh49=>?_)
   ·
    refine J.b O ?_
    have hl3:=qRH (hnd (bs.length-1) xB) h45
    refine J.D (qBb (c:=(bs.getD (bs.length-1) []).getD 0 0) u9_ O O O (qAi 0 xE)) O<|J.D (qAe O O O) O<|J.k 2 O<|J.c j17<|J.a0 O (λh54=>?_) (λh54=>?_)
    ·
     exact J.g λ_ j19=>J.b O<|J.c j19<|J.A<|J.W<|J.E hw0 O _ O (λe=>by first|cases e|exact qBX hk xB (λj hj=>hnd j xB) hla (λ_=>⟨by assumption,of_decide_eq_true e⟩) (λht=>by simp_all)|exact qBX hk xB (λj hj=>hnd j xB) hla (λht=>by simp_all) (λ_=>⟨xB,by rw [jX,jP,je xB] at e;exact e⟩)) [0] O xC
    exact J.b5<|J.u<|J.a5 () j14 ((λ_=>⟨h45,λe=>by first|omega|simp_all⟩)) ⟨O,O,O,O,trivial⟩ (λ_ h=>h)
   refine J.k 5 O<|J.c j17<|J.a2 ?_
   exact J.b5<|J.u<|J.a5 () j14 ((λ_=>⟨h45,λe=>by first|omega|simp_all⟩)) ⟨O,O,O,O,trivial⟩ (λ_ h=>h)
  exact J.b5<|J.u<|J.a5 () j14 ((λh=>absurd h xB)) ⟨O,O,O,O,trivial⟩ (λ_ h=>h)
 rintro _ hla
 refine J.q λ_ j20=>J.g λ_ j21=>J.M 1 qCj z4_ O O O O O<|J.f (qAC 1 (v:= .bool (th)) O O O b4_ O) O<|J.f (qAt O O) O<|J.c j21<|J.c7 O (λh57=>?_) (λh57=>?_)
 ·
  refine J.g λ_ j22=>J.M 2 qCj z9_ O O O O O<|J.f (qAC 1 (v:=Str (pk)) O O O b9_ O) O<|J.f (qBA O O O) O<|J.b O<|J.b9 (d:=61) O (λh61=>?_) (λh61=>?_)
  ·
   exact J.D (qAA (j:=3) O O qCj O z9_ O) O<|J.D (qAC 1 (v:=Str (pv)) O O O b9_ O) O<|J.D (qBA O O O) O<|J.k 2 O<|J.c j22<|J.A<|J.W<|J.E hw0 O _ O (λe=>by first|cases e|exact qBX hk xB (λj hj=>hnd j xB) hla (λ_=>⟨by assumption,of_decide_eq_true e⟩) (λht=>by simp_all)|exact qBX hk xB (λj hj=>hnd j xB) hla (λht=>by simp_all) (λ_=>⟨xB,by rw [jX,jP,je xB] at e;exact e⟩)) [0] O xC
  exact J.k 5 O<|J.c j22<|J.A<|J.W<|J.E hw0 O _ O (λe=>by first|cases e|exact qBX hk xB (λj hj=>hnd j xB) hla (λ_=>⟨by assumption,of_decide_eq_true e⟩) (λht=>by simp_all)|exact qBX hk xB (λj hj=>hnd j xB) hla (λht=>by simp_all) (λ_=>⟨xB,by rw [jX,jP,je xB] at e;exact e⟩)) [0] O xC
 refine J.T j20<|J.g λ_ j23=>J.M 2 qCj z9_ O O O O O<|J.f (qAC 1 (v:=Str (pk)) O O O b9_ O) O<|J.f (qAs u9_ O O) O<|J.f (qAX O O O) O<|J.b O<|J.b9 (d:=70) O (λh70=>?_) (λh70=>?_)
 ·
  exact J.D (qAA (j:=2) O O qCj O z9_ O) O<|J.D (qAC 1 (v:=Str (pk)) O O O b9_ O) O<|J.k 3 O<|J.D ((qAQ O O O xE).nat (0+bs.length) xB) O<|J.c8 (qAa O O (λF' hF=>qES F' pk xB k xB ((0+bs.length:Nat):Int))) O λg77 _=>J.k 2 O<|J.c j23<|J.A<|J.E hw0 O _ O (λe=>by first|cases e|exact qBX hk xB (λj hj=>hnd j xB) hla (λ_=>⟨by assumption,of_decide_eq_true e⟩) (λht=>by simp_all)|exact qBX hk xB (λj hj=>hnd j xB) hla (λht=>by simp_all) (λ_=>⟨xB,by rw [jX,jP,je xB] at e;exact e⟩)) [0] O xC
 exact J.k 9 O<|J.c j23<|J.A<|J.E hw0 O _ O (λe=>by first|cases e|exact qBX hk xB (λj hj=>hnd j xB) hla (λ_=>⟨by assumption,of_decide_eq_true e⟩) (λht=>by simp_all)|exact qBX hk xB (λj hj=>hnd j xB) hla (λht=>by simp_all) (λ_=>⟨xB,by rw [jX,jP,je xB] at e;exact e⟩)) [0] O xC
theorem qX5(F:Hp)(hK:KF F)(A:Option Addr)(c:Nat)(bs:List xA)(hs:Sl F 1 A bs.length c (qAG bs))(hbl:bs.length≤1000000)(th:Bool)(pk pv k:xA)(hk:k.length=16)(hpv:pv.length≤1000000)(nd v:xA):Ct prog 44 [.agg #[.slice A bs.length c,.bool (th),Str (pk),Str (pv)],Str nd,Str k,Str v,I (0:Nat)] [F] (λb:Bool=> .bool b) (λb=>b=true→th=true∧pk=k∧pv=v) (λ_=> [F]):=by
 refine Ct.walk func44 O ntmps44 O (λw0 hw0=>?_)
 change J _ [(0,_),(1,_),(2,_),(3,_),(4,_)] _ _ _
 refine J.g λ_ j1=>J.p (qAZ (l:= [.slice A bs.length c,.bool (th),Str (pk),Str (pv)]) O O O) O λg5 _=>?_
 change J _ _ _ [F,blk g5 [.slice A bs.length c,.bool (th),Str (pk),Str (pv)] 53] _
 refine J.b O<|J.c j1<|J.g λ_ j2=>J.b8 1 qEb qB9 O O O O O<|J.k 2 O<|J.p (qAK O O ent (Ct.use (new:=λ_:Bool=> []) (λF' hF=>qNu F' A c bs (hs.mono (Fa hF)) hbl th pk pv k hk))) O ?_
 rintro b14 hb14
 refine J.b O<|J.e1 (d:=15) O (λh15=>?_) (λh15=>?_)
 ·
  refine J.D (qAA (j:=1) O O qCj O z4_ O) O<|J.D (qAC 1 (v:= .bool (th)) O O O b4_ O) O<|J.k 2 O<|J.e1 (d:=19) O (λh19=>?_) (λh19=>?_)
  ·
   refine J.D (qAA (j:=2) O O qCj O z9_ O) O<|J.D (qAC 1 (v:=Str (pk)) O O O b9_ O) O<|J.b O<|J.D (qBA O O O) O<|J.k 2 O<|J.b9 (d:=25) O (λh25=>?_) (λh25=>?_)
   ·
    refine J.D (qAA (j:=3) O O qCj O z9_ O) O<|J.D (qAC 1 (v:=Str (pv)) O O O b9_ O) O<|J.b O<|J.D (qBA O O O) O<|J.k 2 O<|J.b9 (d:=31) O (λh31=>?_) (λh31=>?_)
    ·
     exact J.D (qAW 1 O O O qEb qB9 O) O<|J.k 2 O<|J.c8 (qAa O O (λF' hF=>qEK F' (hK.mo hF) A c bs (hs.mono (Fa hF)) th pk pv k 0 (hb14 (by first|assumption|simp_all)) hpv)) O λg35 _=>J.b O<|J.D (qBA O O O) O<|J.k 2 O<|J.c j2<|J.A<|J.E hw0 O _ O (λe=>by simp_all) [0] O xC
    exact J.k 8 O<|J.c j2<|J.A<|J.E hw0 O _ O (λe=>by simp_all) [0] O xC
   exact J.k 14 O<|J.c j2<|J.A<|J.E hw0 O _ O (λe=>by simp_all) [0] O xC
  exact J.k 20 O<|J.c j2<|J.A<|J.E hw0 O _ O (λe=>by simp_all) [0] O xC
 exact J.k 24 O<|J.c j2<|J.A<|J.E hw0 O _ O (λe=>by simp_all) [0] O xC
theorem qRc(F:Hp)(hK:KF F)(A:Option Addr)(c:Nat)(bs:List xA)(hs:Sl F 1 A bs.length c (qAG bs))(hbl:bs.length≤1000000)(th:Bool)(pk pv k:xA)(hk:k.length=16)(hpv:pv.length≤1000000)(nd:xA):Ct prog 42 [.agg #[.slice A bs.length c,.bool (th),Str (pk),Str (pv)],Str nd,Str k,I (0:Nat)] [F] (λb:Bool=> .bool b) (λb=>b=true→th=false∨pk≠k) (λ_=> [F]):=by
 refine Ct.walk func42 O ntmps42 O (λw0 hw0=>?_)
 change J _ [(0,_),(1,_),(2,_),(3,_)] _ _ _
 refine J.g λ_ j1=>J.p (qAZ (l:= [.slice A bs.length c,.bool (th),Str (pk),Str (pv)]) O O O) O λg4 _=>?_
 change J _ _ _ [F,blk g4 [.slice A bs.length c,.bool (th),Str (pk),Str (pv)] 53] _
 refine J.b O<|J.c j1<|J.g λ_ j2=>J.b8 1 qEb qB9 O O O O O<|J.k 2 O<|J.p (qAK O O ent (Ct.use (new:=λ_:Bool=> []) (λF' hF=>qNu F' A c bs (hs.mono (Fa hF)) hbl th pk pv k hk))) O ?_
 rintro b12 hb12
 refine J.b O<|J.e1 (d:=13) O (λh13=>?_) (λh13=>?_)
 ·
  refine J.D (qAA (j:=1) O O qCj O z4_ O) O<|J.D (qAC 1 (v:= .bool (th)) O O O b4_ O) O<|J.D (qAt O O) O<|J.b O<|J.e1 (d:=17) O (λh17=>?_) (λh17=>?_)
  ·
   exact J.k 7 O<|J.D (qAW 1 O O O qEb qB9 O) O<|J.k 2 O<|J.c8 (qAa O O (λF' hF=>qEK F' (hK.mo hF) A c bs (hs.mono (Fa hF)) th pk pv k 0 (hb12 (by first|assumption|simp_all)) hpv)) O λg28 _=>J.b O<|J.D (qBA O O O) O<|J.k 2 O<|J.c j2<|J.A<|J.E hw0 O _ O (λe=>by simp_all) [0] O xC
  refine J.D (qAA (j:=2) O O qCj O z9_ O) O<|J.D (qAC 1 (v:=Str (pk)) O O O b9_ O) O<|J.b O<|J.D (qDv O O O) O<|J.k 3 O<|J.b9 (d:=24) O (λh24=>?_) (λh24=>?_)
  ·
   exact J.D (qAW 1 O O O qEb qB9 O) O<|J.k 2 O<|J.c8 (qAa O O (λF' hF=>qEK F' (hK.mo hF) A c bs (hs.mono (Fa hF)) th pk pv k 0 (hb12 (by first|assumption|simp_all)) hpv)) O λg28 _=>J.b O<|J.D (qBA O O O) O<|J.k 2 O<|J.c j2<|J.A<|J.E hw0 O _ O (λe=>by simp_all) [0] O xC
  exact J.k 8 O<|J.c j2<|J.A<|J.E hw0 O _ O (λe=>by simp_all) [0] O xC
 refine J.k 4 O<|J.c6 (Wan.un O O O O) O O ?_
 refine J.c6 (Wan.un O O O O) O O ?_
 refine J.c6 (Wan.un O O O O) O O ?_
 refine J.c6 (Wan.un O O O O) O O ?_
 exact J.k 11 O<|J.c j2<|J.A<|J.E hw0 O _ O (λe=>by simp_all) [0] O xC
def qB8(l:List En)(b:Bool):En×Bool×Int:=
 if l.length=0 then(if b=true then(zEn,false,0) else(zEn,false,18))
 else if En.hist l≠0 then(zEn,false,En.hist l)
 else if b=true then(l.getD (l.length-1) qA9,true,0) else(zEn,false,18)
theorem qWE{l:List En}(h:l.length=0):qB8 l true=(zEn,false,0):=by unfold qB8;rw [if_pos h];rfl
theorem qWD{l:List En}(h:l.length=0):qB8 l false=(zEn,false,18):=by unfold qB8;rw [if_pos h];rfl
theorem qWC{l:List En}{b:Bool}(h: ¬l.length=0)(h2:En.hist l≠0):qB8 l b=(zEn,false,En.hist l):=by unfold qB8;rw [if_neg h,if_pos h2]
theorem qWB{l:List En}(h: ¬l.length=0)(h2: ¬En.hist l≠0):qB8 l false=(zEn,false,18):=by unfold qB8;rw [if_neg h,if_neg h2];rfl
theorem qWA{l:List En}(h: ¬l.length=0)(h2: ¬En.hist l≠0):qB8 l true=(l.getD (l.length-1) qA9,true,0):=by unfold qB8;rw [if_neg h,if_neg h2];rfl
def chkI(l:List En)(th:Bool)(pk pv k:xA)(b:Bool):Prop:=b=true→(l.length=0→th=false∨pk≠k)∧(l.length≠0→En.hist l=0→th=true∧pk=k∧pv=(l.getD (l.length-1) qA9).val)
theorem qU4(F:Hp)(hK:KF F)(gc sl nd:Nat)(A:Option Addr)(n c:Nat)(l:List RhD)(hs:Sl F 5 A n c (qCk l))(h0:0<n)(hn:n≤1000000)(hC:qAM F ⟨gc,0,none⟩ [I (sl:Nat),I (nd:Nat),.slice A n c])(hg:(qA0 (l.getD (n-1) qAc)).good)(hxs:nsl F (l.getD (n-1) qAc))(hsm: ∀s∈(l.getD (n-1) qAc).ns,s.length≤1048576)(s:xA)(hsl:s.length≤1000000)(Ae:Option Addr)(ne ce:Nat)(le:List En)(hse:Sl F 5 Ae ne ce (qDD le))(hel: ∀x∈le,x.good)(hne:ne≤1000000)(Ab:Option Addr)(cb:Nat)(bs:List xA)(hsb:Sl F 1 Ab bs.length cb (qAG bs))(hbl:bs.length≤1000000)(th:Bool)(pk pv:xA)(hpv:pv.length≤1000000):Ct prog 14 [Ptr gc,.agg #[Str s,.slice Ae ne ce,.slice Ab bs.length cb,.bool th,Str pk,Str pv]] [F] (λb:Bool=> .tuple #[.agg #[N64 ((qB8 le b).1.v),Str ((qB8 le b).1.o),Str ((qB8 le b).1.r),I ((qB8 le b).1.h),Str ((qB8 le b).1.p)],.bool ((qB8 le b).2.1),I ((qB8 le b).2.2)]) (λb=>chkI le th pk pv (Sha.tagged 11 [s]) b) (λ_=> [F]):=by
 have hln:l.length=n:=by have:=hs.1;simpa [qCk] using this
 have hle:le.length=ne:=by have:=hse.1;simpa [qDD] using this
 refine Ct.walk func14 O ntmps14 O (λw0 hw0=>?_)
 change J _ [(0,_),(1,_)] _ _ _
 refine J.g λ_ j1=>J.p (qAZ (l:= [Str (s),.slice Ae ne ce,.slice Ab bs.length cb,.bool (th),Str (pk),Str (pv)]) O O O) O λg3 _=>?_
 change J _ _ _ [F,blk g3 [Str (s),.slice Ae ne ce,.slice Ab bs.length cb,.bool (th),Str (pk),Str (pv)] 55] _
 refine J.p (qAJ (l:= [.int .u64 0,Str [],Str [],I 0,Str []]) O qFh O) O λg4 _=>?_
 change J _ _ _ [_,_,blk g4 [.int .u64 0,Str [],Str [],I 0,Str []] 61] _
 refine J.k 2 O<|J.c j1<|J.q λ_ j2=>J.g λ_ j3=>J.b O<|J.f ((qA4 qTI O O O).as (v':= .bool false) O) O<|J.c j3<|J.a2 ?_
 refine J.T j2<|J.d4 (X:=Unit) (λζ=> [(3,Ptr g3),(4,Ptr g4),(7,Str ((qB0 (l.getD (n-1) qAc).ns (((l.getD (n-1) qAc).dep:Nat):Int)))),(8,Str ((Sha.tagged 11 [s])))]) (λζ=> [F,blk g3 [Str (s),.slice Ae ne ce,.slice Ab bs.length cb,.bool (th),Str (pk),Str (pv)] 55,blk g4 [.int .u64 0,Str [],Str [],I 0,Str []] 61]) (λζ=>True) (λ_ j4=>?_) ?_
 ·
  refine J.b1 [F,blk g3 [Str (s),.slice Ae ne ce,.slice Ab bs.length cb,.bool (th),Str (pk),Str (pv)] 55] [] (.y 0 (.y 3 (.y 4 (.e 1 (.e 2 (.e 5 (.y 6 (.y 7 .nil)))))))) Tryz.wide xF xD ?_
  refine J.L ?_
  refine J.j O (qAA (j:=0) O O qEX O z9_ O) O O<|J.j O (qAC 1 (v:=Str (s)) O O O b9_ O) O O<|J.Z O (qAa O O (λF' hF=>qJe F' gc sl nd A n c l (hs.mono (Fa hF)) h0 hn (hC.mono (Fa hF)))) O xD λg15 _=>J.Z O (qAa O O (λF' hF=>qGG F' (hK.mo hF) (qA0 (l.getD (n-1) qAc)) (l.getD (n-1) qAc).nsA (l.getD (n-1) qAc).nsc hg (hxs.mono (Fa hF)) hsm)) O xD λg16 _=>J.Z O (qAa O O (λF' hF=>qFG F' (hK.mo hF) s xB)) O xD λg19 _=>J.b7 ?_
  refine J.b7 ?_
  exact J.a9<|J.u<|J.a5 () j4 (trivial) ⟨O,O,O,O,trivial⟩ (λ_ h=>h)
 rintro _ _
 refine J.q λ_ j5=>J.g λ_ j6=>J.M 1 qEX qF5 O O O O O<|J.f (qAC 1 (v:= .slice Ae ne ce) O O O qLT O) O<|J.f (qAR qDJ O O) O<|J.f (qAX O O O) O<|J.c j6<|J.a0 O (λh23=>?_) (λh23=>?_)
 ·
  refine J.q λ_ j7=>J.g λ_ j8=>J.M 2 qEX qB9 O O O O O<|J.f (qAV (vs:= [.slice Ab bs.length cb,.bool (th),Str (pk),Str (pv)]) O O qEb qB9 (m:=blk g3 [Str (s),.slice Ae ne ce,.slice Ab bs.length cb,.bool (th),Str (pk),Str (pv)] 55) xD (qAM.blk0.sub 2 4) O) O<|J.k 2 O<|J.p (qAK O O ent (Ct.use (new:=λ_:Bool=> []) (λF' hF=>qRc F' (hK.mo hF) Ab cb bs (hsb.mono (Fa hF)) hbl th pk pv (Sha.tagged 11 [s]) (Sha.tagged_length _ _) hpv (qB0 (l.getD (n-1) qAc).ns (((l.getD (n-1) qAc).dep:Nat):Int))))) O ?_
  rintro b28 hb28
  refine J.f (qAt O O) O<|J.c j8<|J.c7 O (λh29=>?_) (λh29=>?_)
  ·
   refine J.g λ_ j9=>J.f (qAH (l:= []) (vs:= []) (places:= [(0,1),(1,3),(4,1)]) (r:= [.int .u64 0,Str [],Str [],I 0,Str []]) O O O qFQ qFh (λ_=>xI) O) O<|J.a6 (qAD (i:=2) (l:= [.int .u64 0,Str [],Str [],I 0,Str []]) (vs:= [.int .u64 0,Str [],Str [],I 0,Str []]) O O O O O qBY O O) O O λ_ _=>?_
   change J _ _ _ [F,blk g3 [Str (s),.slice Ae ne ce,.slice Ab bs.length cb,.bool (th),Str (pk),Str (pv)] 55,blk g4 [.int .u64 0,Str [],Str [],I 0,Str []] 61] _
   exact J.k 2 O<|J.c j9<|J.A<|J.W<|J.W<|J.b0 hw0 (λ_ _ h=>h) (rv3 O (RV.blkA 2 O O qC6 qBY) O O) (qAn false (by rw [qWD xB];rfl) (λe=>nomatch e) [0] O xC)
  refine J.T j7<|J.g λ_ j10=>J.f (qAH (l:= []) (vs:= []) (places:= [(0,1),(1,3),(4,1)]) (r:= [.int .u64 0,Str [],Str [],I 0,Str []]) O O O qFQ qFh (λ_=>xI) O) O<|J.a6 (qAD (i:=2) (l:= [.int .u64 0,Str [],Str [],I 0,Str []]) (vs:= [.int .u64 0,Str [],Str [],I 0,Str []]) O O O O O qBY O O) O O λ_ _=>?_
  change J _ _ _ [F,blk g3 [Str (s),.slice Ae ne ce,.slice Ab bs.length cb,.bool (th),Str (pk),Str (pv)] 55,blk g4 [.int .u64 0,Str [],Str [],I 0,Str []] 61] _
  exact J.k 2 O<|J.c j10<|J.A<|J.W<|J.b0 hw0 (λ_ _ h=>h) (rv3 O (RV.blkA 2 O O qC6 qBY) O O) (qAn true (by rw [qWE xB];rfl) (λ_=>⟨λ_=>hb28 (by simpa using h29),λh=>absurd (show le.length=0 by omega) h⟩) [0] O xC)
 refine J.T j5<|J.q λ_ j11=>J.g λ_ j12=>J.M 1 qEX qF5 O O O O O<|J.f (qAC 1 (v:= .slice Ae ne ce) O O O qLT O) O<|J.p (qAa O O (λF' hF=>qHQ F' (hK.mo hF) le hel Ae ne ce (hse.mono (Fa hF)) xB)) O λg34 _=>J.b O<|J.c j12<|J.g λ_ j13=>J.b O<|J.f (qAe O O O) O<|J.c j13<|J.a0 O (λh36=>?_) (λh36=>?_)
 ·
  refine J.g λ_ j14=>J.f (qAH (l:= []) (vs:= []) (places:= [(0,1),(1,3),(4,1)]) (r:= [.int .u64 0,Str [],Str [],I 0,Str []]) O O O qFQ qFh (λ_=>xI) O) O<|J.b O<|J.a6 (qAD (i:=2) (l:= [.int .u64 0,Str [],Str [],I 0,Str []]) (vs:= [.int .u64 0,Str [],Str [],I 0,Str []]) O O O O O qBY O O) O O λ_ _=>?_
  change J _ _ _ [F,blk g3 [Str (s),.slice Ae ne ce,.slice Ab bs.length cb,.bool (th),Str (pk),Str (pv)] 55,blk g4 [.int .u64 0,Str [],Str [],I 0,Str []] 61] _
  exact J.k 2 O<|J.c j14<|J.A<|J.W<|J.b0 hw0 (λ_ _ h=>h) (rv3 O (RV.blkA 2 O O qC6 qBY) O O) (qAn false (by rw [qWC xB h36];rfl) (λe=>nomatch e) [0] O xC)
 refine J.T j11<|J.q λ_ j15=>?_
 have hE:(le.getD (ne-1) qA9).good:=hel _ (by rw [jB,jC (show ne-1<le.length by omega)];exact ja _)
 refine J.H<|J.M 1 qEX qF5 O O O O O<|J.f (qAC 1 (v:= .slice Ae ne ce) O O O qLT O) O<|J.M 1 qEX qF5 O O O O O<|J.f (qAC 1 (v:= .slice Ae ne ce) O O O qLT O) O<|J.f (qAR qDJ O O) O<|J.f ((qA3 O O O xB).nat (ne-1) xB) O<|J.f (qAF (i:=ne-1) O O O qDJ qBY hse xE) O<|J.f (qAV (vs:= [N64 ((le.getD (ne-1) qA9).v),Str ((le.getD (ne-1) qA9).o),Str ((le.getD (ne-1) qA9).r),I ((le.getD (ne-1) qA9).h),Str ((le.getD (ne-1) qA9).p)]) O O qC6 qBY (m:=F) xD (hse.elem (qNy xE)) O) O<|J.p (qAJ (l:= [.int .u64 0,Str [],Str [],I 0,Str []]) O qFh O) O λg10 _=>?_
 change J _ _ _ [F,blk g3 [Str (s),.slice Ae ne ce,.slice Ab bs.length cb,.bool (th),Str (pk),Str (pv)] 55,blk g4 [.int .u64 0,Str [],Str [],I 0,Str []] 61,blk g10 [.int .u64 0,Str [],Str [],I 0,Str []] 61] _
 refine J.a6 (qAD (i:=3) (l:= [.int .u64 0,Str [],Str [],I 0,Str []]) (vs:= [N64 ((le.getD (ne-1) qA9).v),Str ((le.getD (ne-1) qA9).o),Str ((le.getD (ne-1) qA9).r),I ((le.getD (ne-1) qA9).h),Str ((le.getD (ne-1) qA9).p)]) O O O O O qBY O O) O O λ_ _=>?_
 change J _ _ _ [_,_,_,blk g10 [N64 ((le.getD (ne-1) qA9).v),Str ((le.getD (ne-1) qA9).o),Str ((le.getD (ne-1) qA9).r),I ((le.getD (ne-1) qA9).h),Str ((le.getD (ne-1) qA9).p)] 61] _
 refine J.c j15<|J.q λ_ j16=>J.q λ_ j17=>J.b1 [F,blk g3 [Str (s),.slice Ae ne ce,.slice Ab bs.length cb,.bool (th),Str (pk),Str (pv)] 55,blk g10 [N64 ((le.getD (ne-1) qA9).v),Str ((le.getD (ne-1) qA9).o),Str ((le.getD (ne-1) qA9).r),I ((le.getD (ne-1) qA9).h),Str ((le.getD (ne-1) qA9).p)] 61] [] (.y 0 (.y 1 (.y 2 (.y 3 (.y 4 (.e 5 (.e 6 (.y 7 .nil)))))))) Tryz.wide xF xD ?_
 refine J.j O (qAA (j:=2) O O qEX O qB9 O) O O<|J.j O (qAV (vs:= [.slice Ab bs.length cb,.bool (th),Str (pk),Str (pv)]) O O qEb qB9 (m:=blk g3 [Str (s),.slice Ae ne ce,.slice Ab bs.length cb,.bool (th),Str (pk),Str (pv)] 55) xD (qAM.blk0.sub 2 4) O) O O<|J.L ?_
 refine J.L ?_
 refine J.j O (qAW 2 O O O qC6 qBY O) O O<|J.Z O (qAa O O (λF' hF=>qDC F' (hK.mo hF) (le.getD (ne-1) qA9).v (le.getD (ne-1) qA9).o (le.getD (ne-1) qA9).r (le.getD (ne-1) qA9).h (le.getD (ne-1) qA9).p hE.1 hE.2.1 hE.2.2.1 hE.2.2.2)) O xD λg52 _=>J.Z O (qAK O O ent (Ct.use (new:=λ_:Bool=> []) (λF' hF=>qX5 F' (hK.mo hF) Ab cb bs (hsb.mono (Fa hF)) hbl th pk pv (Sha.tagged 11 [s]) (Sha.tagged_length _ _) hpv (qB0 (l.getD (n-1) qAc).ns (((l.getD (n-1) qAc).dep:Nat):Int)) (qCV (le.getD (ne-1) qA9).v (le.getD (ne-1) qA9).o (le.getD (ne-1) qA9).r (le.getD (ne-1) qA9).h (le.getD (ne-1) qA9).p)))) O xD ?_
 rintro b53 hb53
 refine J.j O (qAt O O) O O<|J.a9<|J.u (J.G j17 ?_)
 refine J.c7 O (λh54=>?_) (λh54=>?_)
 ·
  refine J.g λ_ j18=>J.f (qAH (l:= []) (vs:= []) (places:= [(0,1),(1,3),(4,1)]) (r:= [.int .u64 0,Str [],Str [],I 0,Str []]) O O O qFQ qFh (λ_=>xI) O) O<|J.a6 (qAD (i:=2) (l:= [.int .u64 0,Str [],Str [],I 0,Str []]) (vs:= [.int .u64 0,Str [],Str [],I 0,Str []]) O O O O O qBY O O) O O λ_ _=>?_
  change J _ _ _ [_,_,_,_] _
  exact J.k 2 O<|J.c j18<|J.A<|J.W<|J.b0 hw0 (λ_ _ h=>h) (rv3 O (RV.blkA 2 O O qC6 qBY) O O) (qAn false (by rw [qWB xB h36];rfl) (λe=>nomatch e) [0] O xC)
 refine J.T j16<|J.g λ_ j19=>J.b8 3 qC6 qBY O O O O O<|J.a6 (qAD (i:=2) (l:= [.int .u64 0,Str [],Str [],I 0,Str []]) (vs:= [N64 ((le.getD (ne-1) qA9).v),Str ((le.getD (ne-1) qA9).o),Str ((le.getD (ne-1) qA9).r),I ((le.getD (ne-1) qA9).h),Str ((le.getD (ne-1) qA9).p)]) O O O O O qBY O O) O O λ_ _=>?_
 change J _ _ _ [F,blk g3 [Str (s),.slice Ae ne ce,.slice Ab bs.length cb,.bool (th),Str (pk),Str (pv)] 55,blk g4 [N64 ((le.getD (ne-1) qA9).v),Str ((le.getD (ne-1) qA9).o),Str ((le.getD (ne-1) qA9).r),I ((le.getD (ne-1) qA9).h),Str ((le.getD (ne-1) qA9).p)] 61,blk g10 [N64 ((le.getD (ne-1) qA9).v),Str ((le.getD (ne-1) qA9).o),Str ((le.getD (ne-1) qA9).r),I ((le.getD (ne-1) qA9).h),Str ((le.getD (ne-1) qA9).p)] 61] _
 exact J.k 2 O<|J.c j19<|J.A<|J.b0 hw0 (λ_ _ h=>h) (rv3 O (RV.blkA 2 O O qC6 qBY) O O) (qAn true (by rw [qWA xB h36,hle]) (λ_=>⟨λh=>absurd h xB,λ_ _=>by rw [hle];exact hb53 (by simpa using h54)⟩) [0] O xC)
theorem qN3(F:Hp)(h:RhD)(hg:(qA0 h).good)(hns:nsl F h)(sl nd:Nat)(hgen:(qA0 h).gen≠0):Cz prog 7 [.agg #[N64 (h.ep),Str (h.par),I (h.dep:Nat),I (h.aud:Nat),.slice h.nsA h.ns.length h.nsc],.agg #[I (sl:Nat),I (nd:Nat)]] F (.tuple #[.pointer none,I ((qA0 h).gen)]):=by
 refine Ct.walk func7 O ntmps7 O (λw0 hw0=>?_)
 change J _ [(0,_),(1,_)] _ _ _
 refine J.g λ_ j1=>J.p (qAZ (l:= [N64 (h.ep),Str (h.par),I (h.dep:Nat),I (h.aud:Nat),.slice h.nsA h.ns.length h.nsc]) O O O) O λg2 _=>?_
 change J _ _ _ [F,blk g2 [N64 (h.ep),Str (h.par),I (h.dep:Nat),I (h.aud:Nat),.slice h.nsA h.ns.length h.nsc] 34] _
 refine J.p (qAZ (l:= [I (sl:Nat),I (nd:Nat)]) O O O) O λg3 _=>?_
 change J _ _ _ [_,_,blk g3 [I (sl:Nat),I (nd:Nat)] 26] _
 refine J.k 2 O<|J.c j1<|J.q λ_ j2=>J.g λ_ j3=>J.b8 1 qDF qBv O O O O O<|J.p (qAa O O (λF' hF=>(by have:=qDX F' (qA0 h) h.nsA h.nsc hg (hns.mono (Fa hF));exact this))) O λg8 _=>J.b O<|J.c j3<|J.g λ_ j4=>J.b O<|J.f ((qAe O O O).yes (hgen)) O<|J.c j4<|J.c3 ?_
 exact J.g λ_ j5=>J.k 3 O<|J.c j5<|J.A<|J.W<|J.b0 hw0 (λ_ _ h=>h) (qCK O O O) (qAn () O trivial [0] O xC)
theorem qN5(F:Hp)(h:RhD)(hg:(qA0 h).good)(hns:nsl F h)(sl nd:Nat)(hgen:(qA0 h).gen=0)(h1:nd<1):Cz prog 7 [.agg #[N64 (h.ep),Str (h.par),I (h.dep:Nat),I (h.aud:Nat),.slice h.nsA h.ns.length h.nsc],.agg #[I (sl:Nat),I (nd:Nat)]] F (.tuple #[.pointer none,I 1]):=by
 refine Ct.walk func7 O ntmps7 O (λw0 hw0=>?_)
 change J _ [(0,_),(1,_)] _ _ _
 refine J.g λ_ j1=>J.p (qAZ (l:= [N64 (h.ep),Str (h.par),I (h.dep:Nat),I (h.aud:Nat),.slice h.nsA h.ns.length h.nsc]) O O O) O λg2 _=>?_
 change J _ _ _ [F,blk g2 [N64 (h.ep),Str (h.par),I (h.dep:Nat),I (h.aud:Nat),.slice h.nsA h.ns.length h.nsc] 34] _
 refine J.p (qAZ (l:= [I (sl:Nat),I (nd:Nat)]) O O O) O λg3 _=>?_
 change J _ _ _ [_,_,blk g3 [I (sl:Nat),I (nd:Nat)] 26] _
 refine J.k 2 O<|J.c j1<|J.q λ_ j2=>J.g λ_ j3=>J.b8 1 qDF qBv O O O O O<|J.p (qAa O O (λF' hF=>(by have:=qDX F' (qA0 h) h.nsA h.nsc hg (hns.mono (Fa hF));rw [hgen] at this;exact this))) O λg8 _=>J.b O<|J.c j3<|J.g λ_ j4=>J.b O<|J.f ((qAe O O O).no xC) O<|J.c j4<|J.a2 ?_
 refine J.T j2<|J.q λ_ j5=>J.V<|J.g λ_ j6=>J.M 1 qHx z3_ O O O O O<|J.f (qAC 2 (v:=I (nd:Nat)) O O O b3_ O) O<|J.f ((qAS O O O).yes xB) O<|J.k 8 O<|J.c j6<|J.c3 ?_
 exact J.g λ_ j7=>J.k 2 O<|J.c j7<|J.A<|J.a8<|J.W<|J.b0 hw0 (λ_ _ h=>h) (qCK O O O) (qAn () O trivial [0] O xC)
theorem qN4(F:Hp)(h:RhD)(hg:(qA0 h).good)(hns:nsl F h)(sl nd:Nat)(hgen:(qA0 h).gen=0)(h1:1≤nd)(h2:nd≤sl)(h3:h.aud<sl):Cz prog 7 [.agg #[N64 (h.ep),Str (h.par),I (h.dep:Nat),I (h.aud:Nat),.slice h.nsA h.ns.length h.nsc],.agg #[I (sl:Nat),I (nd:Nat)]] F (.tuple #[.pointer none,I 22]):=by
 refine Ct.walk func7 O ntmps7 O (λw0 hw0=>?_)
 change J _ [(0,_),(1,_)] _ _ _
 refine J.g λ_ j1=>J.p (qAZ (l:= [N64 (h.ep),Str (h.par),I (h.dep:Nat),I (h.aud:Nat),.slice h.nsA h.ns.length h.nsc]) O O O) O λg2 _=>?_
 change J _ _ _ [F,blk g2 [N64 (h.ep),Str (h.par),I (h.dep:Nat),I (h.aud:Nat),.slice h.nsA h.ns.length h.nsc] 34] _
 refine J.p (qAZ (l:= [I (sl:Nat),I (nd:Nat)]) O O O) O λg3 _=>?_
 change J _ _ _ [_,_,blk g3 [I (sl:Nat),I (nd:Nat)] 26] _
 refine J.k 2 O<|J.c j1<|J.q λ_ j2=>J.g λ_ j3=>J.b8 1 qDF qBv O O O O O<|J.p (qAa O O (λF' hF=>(by have:=qDX F' (qA0 h) h.nsA h.nsc hg (hns.mono (Fa hF));rw [hgen] at this;exact this))) O λg8 _=>J.b O<|J.c j3<|J.g λ_ j4=>J.b O<|J.f ((qAe O O O).no xC) O<|J.c j4<|J.a2 ?_
 refine J.T j2<|J.q λ_ j5=>J.V<|J.g λ_ j6=>J.M 1 qHx z3_ O O O O O<|J.f (qAC 2 (v:=I (nd:Nat)) O O O b3_ O) O<|J.f ((qAS O O O).no xB) O<|J.b O<|J.D (qAA (j:=1) O O qHx O z3_ O) O<|J.D (qAC 2 (v:=I (nd:Nat)) O O O b3_ O) O<|J.D (qAA (j:=0) O O qHx O z3_ O) O<|J.D (qAC 2 (v:=I (sl:Nat)) O O O b3_ O) O<|J.D ((qAz O O O).no xB) O<|J.k 2 O<|J.c j6<|J.a2 ?_
 refine J.g λ_ j7=>J.M 3 qDn z3_ O O O O O<|J.f (qAC 1 (v:=I (h.aud:Nat)) O O O b3_ O) O<|J.M 0 qHx z3_ O O O O O<|J.f (qAC 2 (v:=I (sl:Nat)) O O O b3_ O) O<|J.f ((qAS O O O).yes xB) O<|J.b O<|J.c j7<|J.c3 ?_
 exact J.g λ_ j8=>J.k 2 O<|J.c j8<|J.A<|J.a8<|J.W<|J.b0 hw0 (λ_ _ h=>h) (qCK O O O) (qAn () O trivial [0] O xC)
theorem qOA(F:Hp):Cz prog 16 [.pointer none] F (I (0:Nat)):=by
 refine Ct.walk func16 O ntmps16 O (λw0 hw0=>?_)
 change J _ [(0,_)] _ _ _
 refine J.g λ_ j1=>J.b O<|J.c j1<|J.q λ_ j2=>J.g λ_ j3=>J.b O<|J.f (((qA4 qTI O O O).as (v':= .bool true) O)) O<|J.c j3<|J.c3 ?_
 exact J.g λ_ j4=>J.b O<|J.c j4<|J.A<|J.W<|J.E hw0 O () O trivial [0] O xC
theorem qK8(F:Hp):Cz prog 17 [.pointer none] F (.slice none 0 0):=by
 refine Ct.walk func17 O ntmps17 O (λw0 hw0=>?_)
 change J _ [(0,_)] _ _ _
 refine J.g λ_ j1=>J.b O<|J.c j1<|J.q λ_ j2=>J.g λ_ j3=>J.b O<|J.f (((qA4 qTI O O O).as (v':= .bool true) O)) O<|J.c j3<|J.c3 ?_
 exact J.g λ_ j4=>J.b O<|J.c j4<|J.A<|J.W<|J.E hw0 O () O trivial [0] O xC
theorem qOB(F:Hp)(v0 v1 v2 v3 v4 v5:Value):Cz prog 11 [.pointer none,.agg #[v0,v1,v2,v3,v4,v5]] F (I (1)):=by
 refine Ct.walk func11 O ntmps11 O (λw0 hw0=>?_)
 change J _ [(0,_),(1,_)] _ _ _
 refine J.g λ_ j1=>J.p (qAZ (l:= [v0,v1,v2,v3,v4,v5]) O O O) O λg3 _=>?_
 change J _ _ _ [F,blk g3 [v0,v1,v2,v3,v4,v5] 50] _
 refine J.b O<|J.c j1<|J.q λ_ j2=>J.g λ_ j3=>J.b O<|J.f (((qA4 qTI O O O).as (v':= .bool true) O)) O<|J.c j3<|J.c3 ?_
 exact J.g λ_ j4=>J.b O<|J.c j4<|J.A<|J.W<|J.E hw0 O () O trivial [0] O xC
theorem qN9(F:Hp)(v0 v1 v2 v3 v4 v5:Value):Cz prog 14 [.pointer none,.agg #[v0,v1,v2,v3,v4,v5]] F (.tuple #[.agg #[N64 (0),Str [],Str [],I 0,Str []],.bool false,I (1)]):=by
 refine Ct.walk func14 O ntmps14 O (λw0 hw0=>?_)
 change J _ [(0,_),(1,_)] _ _ _
 refine J.g λ_ j1=>J.p (qAZ (l:= [v0,v1,v2,v3,v4,v5]) O O O) O λg3 _=>?_
 change J _ _ _ [F,blk g3 [v0,v1,v2,v3,v4,v5] 55] _
 refine J.p (qAJ (l:= [.int .u64 0,Str [],Str [],I 0,Str []]) O qFh O) O λg4 _=>?_
 change J _ _ _ [_,_,blk g4 [.int .u64 0,Str [],Str [],I 0,Str []] 61] _
 refine J.k 2 O<|J.c j1<|J.q λ_ j2=>J.g λ_ j3=>J.b O<|J.f (((qA4 qTI O O O).as (v':= .bool true) O)) O<|J.c j3<|J.c3 ?_
 refine J.g λ_ j4=>J.f (qAH (l:= []) (vs:= []) (places:= [(0,1),(1,3),(4,1)]) (r:= [.int .u64 0,Str [],Str [],I 0,Str []]) O O O qFQ qFh (λ_=>xI) O) O<|J.a6 (qAD (i:=2) (l:= [.int .u64 0,Str [],Str [],I 0,Str []]) (vs:= [.int .u64 0,Str [],Str [],I 0,Str []]) O O O O O qBY O O) O O λ_ _=>?_
 change J _ _ _ [_,_,_] _
 exact J.k 2 O<|J.c j4<|J.A<|J.W<|J.b0 hw0 (λ_ _ h=>h) (rv3 O (RV.blkA 2 O O qC6 qBY) O O) (qAn () O trivial [0] O xC)
def leS(j:Nat):List En:=if j<2 then [enO] else []
def exS(j:Nat):En:=if j<2 then enO else zEn
def okS(j:Nat):Bool:=decide (j<2)
def qVT(jl:Nat)(le:List En)(th:Bool)(pk pv:xA):Prop:= ∀b,chkI le th pk pv (nmD jl) b→(qB8 le b).2.2=0→(qB8 le b).1=exS jl∧(qB8 le b).2.1=okS jl
structure Own (j:Nat) (th:Bool) (pk pv:xA):Prop where
 th:th=true
 pk:pk=nmD (j%2)
 pv:j<2→pv=enO.val
theorem qGJ{jl:Nat}{th:Bool}{pk pv:xA}(h: ¬jl<2∨(th=true∧pk=nmD jl)):qVT jl [] th pk pv:=λb hb hf=>by
  cases b with
  |false=>rw [qWD rfl] at hf;cases hf
  |true=>
    rw [qWE rfl]
    rcases h with h|⟨h1,h2⟩
    · unfold exS okS;rw [if_neg h,decide_eq_false h];exact⟨O,O⟩
    · rcases(hb rfl).1 rfl with e|e
      · rw [h1] at e;cases e
      · exact absurd h2 e
theorem qCR{jl:Nat}{le:List En}{th:Bool}{pk pv:xA}(h0: ¬le.length=0)(h:En.hist le≠0∨(jl<2∧le.getD (le.length-1) qA9=enO)∨ ¬(th=true∧pk=nmD jl∧pv=(le.getD (le.length-1) qA9).val)):qVT jl le th pk pv:=λb hb hf=>by
  by_cases hh:En.hist le≠0
  · rw [qWC h0 hh] at hf;exact absurd hf hh
  · cases b with
    |false=>rw [qWB h0 hh] at hf;cases hf
    |true=>
      rw [qWA h0 hh]
      rcases h with h|⟨h1,h2⟩|h
      · exact absurd h hh
      · unfold exS okS;rw [if_pos h1,decide_eq_true h1];exact⟨h2,O⟩
      · exact absurd ((hb O).2 h0 (Decidable.not_not.1 hh)) h
theorem fair0{j:Nat}(hj:j<3){th:Bool}{pk pv:xA}(ho:Own j th pk pv):qVT ((j+1)%3) (leS j) th pk pv:=by
 match j,hj with
 |0,_=>exact qCR xC (.inr (.inr λh=>qHB (i:=0) (j:=1) xC xC xC (ho.pk.symm.trans h.2.1)))
 |1,_=>exact qCR xC (.inr (.inr λh=>qHB (i:=1) (j:=2) xC xC xC (ho.pk.symm.trans h.2.1)))
 |2,_=>exact qGJ (.inr ⟨ho.th,ho.pk⟩)
theorem fair1{j:Nat}(hj:j<3)(th:Bool)(pk pv:xA):qVT j (leS j) th pk pv:=by
 by_cases h:j<2
 · unfold leS;rw [if_pos h];exact qCR (by show¬1=0;decide) (.inr (.inl ⟨h,O⟩))
 · unfold leS;rw [if_neg h];exact qGJ (.inl h)
theorem fair2{j:Nat}(hj:j<3){th:Bool}{pk pv:xA}(ho:Own j th pk pv):qVT j (leS ((j+1)%3)) th pk pv:=by
 match j,hj with
 |0,_=>exact qCR xC (.inr (.inl ⟨xC,O⟩))
 |1,_=>exact qGJ (.inr ⟨ho.th,ho.pk⟩)
 |2,_=>exact qCR xC (.inr (.inr λh=>qHB (i:=0) (j:=2) xC xC xC (ho.pk.symm.trans h.2.1)))
theorem fair3{j:Nat}{th:Bool}{pk pv:xA}(ho:Own j th pk pv)(h:j<2):qVT j [enX 1 5 qAh] th pk pv:=qCR (by show¬1=0;decide) (.inr (.inr λe=>qWR (e.2.2.symm.trans (ho.pv h))))
theorem qZi{j:Nat}(hj:j<3){th:Bool}{pk pv:xA}(ho:Own j th pk pv):qVT j [] th pk pv:=qGJ (by
 by_cases h:j<2
 · exact .inr ⟨ho.th,by rw [ho.pk,jb h]⟩
 · exact .inl h)
theorem fair5{j:Nat}{th:Bool}{pk pv:xA}(ho:Own j th pk pv):qVT j (leS j++ [⟨2,(exS j).o,(exS j).r,(exS j).h,(exS j).val⟩]) th pk pv:=by
  by_cases h:j<2
  · unfold leS exS;rw [if_pos h,if_pos h]
    exact qCR (by show¬2=0;decide) (.inr (.inr λe=>qWS (e.2.2.symm.trans (ho.pv h))))
  · unfold leS exS;rw [if_neg h,if_neg h]
    exact qCR (by show¬1=0;decide) (.inl (by rw [jq,En.hist13 _ (by show¬2=1;decide)];decide))
def kv6:List Sm.PR:=Sm.putP (Sm.putP (qAN 2) (nmD 0) enO.val) (nmD 1) enO.val
theorem qRf:kv6= [(qBq 0,qCF 0),(qBq 1,qCF 1),(nmD 0,enO.val),(nmD 1,enO.val)]:=by
 have h0: ∀i j,i<3→j<2→ ¬qBq j=nmD i:=λi j hi hj e=>qVr hi hj e.symm
 have h1: ¬nmD 0=nmD 1:=qHB xC xC xC
 show Sm.putP (Sm.putP [(qBq 0,qCF 0),(qBq 1,qCF 1)] (nmD 0) enO.val) (nmD 1) enO.val=_
 simp only [Sm.putP,h0 0 0 xC xC,h0 0 1 xC xC,h0 1 0 xC xC,h0 1 1 xC xC,h1,if_false]
theorem qMK{j:Nat}(hj:j<3):Sm.getP kv6 (nmD j)=if j<2 then some enO.val else none:=by
 have h0: ∀i,i<2→ ¬qBq i=nmD j:=λi hi e=>qVr hj hi e.symm
 rw [qRf]
 simp only [Sm.getP,h0 0 xC,h0 1 xC,if_false]
 match j,hj with
 |0,_=>rw [if_pos rfl];rfl
 |1,_=>rw [if_neg (qHB xC xC xC),if_pos rfl];rfl
 |2,_=>rw [if_neg (qHB xC xC xC),if_neg (qHB xC xC xC)];rfl
theorem bitD(j:Fin 3):Sm.bit (nmD j.val) 0=([1,0,1]:List Nat).getD j.val 0:=by
 rw [qSb (qJK j) (qHC _)]
 revert j;decide
theorem bitP(i:Fin 2):Sm.bit (qBq i.val) 0=0:=by
 rw [qSb (qVk i.isLt) (Sha.tagged_length _ _)]
 revert i;decide
theorem qOE(q k:xA):Sm.belowB q k 1=decide (Sm.bit q 0=Sm.bit k 0):=by
 rw [Sm.belowB_succ]
 exact Bool.true_and _
theorem cur6:cur kv6 (nmD 2) 1= [(nmD 0,enO.val)]:=by
 unfold cur Sm.bel
 have e0:Sm.bit (nmD 0) 0=1:=bitD 0
 have e1:Sm.bit (nmD 1) 0=0:=bitD 1
 have e2:Sm.bit (nmD 2) 0=1:=bitD 2
 have p0:Sm.bit (qBq 0) 0=0:=bitP 0
 have p1:Sm.bit (qBq 1) 0=0:=bitP 1
 rw [qRf,List.filter_cons_of_neg (by dsimp only;rw [qOE,p0,e2];decide),List.filter_cons_of_neg (by dsimp only;rw [qOE,p1,e2];decide),yN (by dsimp only;rw [qOE,e0,e2];decide),List.filter_cons_of_neg (by dsimp only;rw [qOE,e1,e2];decide),zj]
theorem stop6:qGR kv6 (nmD 2) 0 1:=⟨xC,xC,by rw [cur6];exact jK _,λe _ h=>by
 obtain rfl:e=0:=by omega
 unfold cur
 rw [Sm.bel_zero,qRf];decide⟩
theorem own6(hf:qCE kv6){j s:Nat}(hj:j<3)(hst:qGR kv6 (nmD j) 0 s):Own j (qAm kv6 (nmD j) s) (qBm kv6 (nmD j) s) (qBs kv6 (nmD j) s):=by
  by_cases h:j<2
  · have e:=qGu hf (qHC j) hst
    rw [qMK hj,if_pos h] at e
    unfold qNs at e
    rw [show(some enO.val).isSome=true from rfl,jS,jS,jS] at e
    exact⟨e.1,by rw [jb h];exact of_decide_eq_true e.2.1,λ_=>of_decide_eq_true e.2.2.1⟩
  · obtain rfl:j=2:=by omega
    obtain rfl:=hst.uniq stop6
    have hl:(kd kv6 (nmD 2) 1).length=1:=by rw [qHJ hf.once,cur6];rfl
    have hc:=qHV hf.once hl
    rw [cur6] at hc
    injection hc with hc _
    exact⟨decide_eq_true hl,(congrArg Prod.fst hc).symm,λh=>absurd h xC⟩
theorem chk6(hf:qCE kv6){j s a:Nat}(hj:j<3)(hst:qGR kv6 (nmD j) 0 s){yl:RhD}(hy:qA0 yl=hdN a 0 kv6):qIS (qB0 yl.ns ((yl.dep:Nat):Int)) (nmD j) (leS j) (bsd kv6 (nmD j) 0 (s-0)) (qAm kv6 (nmD j) s) (qBm kv6 (nmD j) s) (qBs kv6 (nmD j) s)=(exS j,okS j,0):=by
  by_cases h:j<2
  · unfold leS exS okS
    rw [if_pos h,if_pos h,decide_eq_true h]
    exact qN7 hf (qHC j) hst hy (by rw [qMK hj,if_pos h])
  · have e1:yl.ns=qAq kv6 0:=congrArg Hd.nodes hy
    have e2:yl.dep=0:=yE (congrArg Hd.dep hy)
    unfold leS exS okS
    rw [if_neg h,if_neg h,decide_eq_false h]
    refine qZw O ?_
    have e:=qLt hf (qHC j) hst
    rw [qMK hj,if_neg h,Sm.ndB_zero] at e
    rw [e1,e2,(qGD hf (d:=0) xC).2]
    exact e
abbrev SvR.two(x:SvR)(y1 y2:SbR):SvR:=(x.put [97,108,105,99,101] qD9 y1).put [98,111,98] qD9 y2
theorem qWV{x:SvR}(h:qPV 2 0 x){y1 y2:SbR}(hI:SvI (x.two y1 y2))(r:StR×WrR):((x.two y1 y2).pub r).kvL=kv6:=by
 rw [SvR.pub_kvL _ r hI.tk]
 have hc:(x.two y1 y2).cl= [⟨nmD 0,enO.val⟩,⟨nmD 1,enO.val⟩]:=by show(x.cl++ [_])++ [_]=_;rw [h.cl];rfl
 have hb:qCu [(⟨nmD 0,enO.val⟩:Chg),⟨nmD 1,enO.val⟩] 0 0= [⟨nmD 0,enO.val⟩,⟨nmD 1,enO.val⟩]:=by
  unfold qCu
  rw [yN (by rw [qXf];rfl),yN (by rw [qXf];rfl)];rfl
 have hl:(x.two y1 y2).kvL=qAN 2:=by show x.kv.getD (x.tg.length-1) []=_;rw [h.tg1];exact h.k0
 rw [hc,show(x.two y1 y2).dp=0 from h.dp,hl]
 show kvC _ (qCu _ 0 0)=_
 rw [hb];rfl
theorem qWU{x:SvR}(h:qPV 2 0 x){y1 y2:SbR}(hI:SvI (x.two y1 y2)){m G G2:Hp}{r:StR×WrR}(hp:PbP m G G2 (x.two y1 y2) r){j:Nat}(hj:j<3):qDf (lbE ((x.two y1 y2).pub r).now) (nmS j)=leS j:=by
 refine(qQc hp hI _).trans ?_
 show qDf (lbE ((x.nxt++ [_])++ [_])) (nmS j)=_
 rw [h.nxt]
 match j,hj with
 |0,_=>exact if_pos O
 |1,_=>exact(if_neg (show¬nmS 0=nmS 1 by decide)).trans (if_pos O)
 |2,_=>exact(if_neg (show¬nmS 0=nmS 2 by decide)).trans (if_neg (show¬nmS 1=nmS 2 by decide))
theorem qTJ{x:SvR}(h:qPV 2 0 x)(y1 y2:SbR):(x.two y1 y2).bk.e+qCd ((x.two y1 y2).no++ [cmB (x.two y1 y2).no.length (x.two y1 y2).hd.length])≤(x.two y1 y2).bk.size:=by
 show x.bk.e+qCd (((x.no++ [_])++ [_])++ [cmB _ _])≤x.bk.size
 rw [qBz,qN6,qBz,qBz,h.no,h.e0,h.sz]
 have:=qGq [97,108,105,99,101] qD9 xC
 have:=qGq [98,111,98] qD9 xC
 show 0+(qCd []+_+_+1)≤150
 have e:qCd []=0:=rfl
 rw [e];omega
theorem qZJ{x:SvR}(h:qPV 2 0 x)(y:SbR):(x.put [97,108,105,99,101] qD9 y).no.length<256∧qCp (x.put [97,108,105,99,101] qD9 y).nxt [98,111,98]=none∧qDf (lbE (x.put [97,108,105,99,101] qD9 y).now) [98,111,98]= []:=by
 refine⟨?_,?_,?_⟩
 · show(x.no++ [_]).length<256;rw [h.no];decide
 · show qCp (x.nxt++ [_]) _=none;rw [h.nxt];exact if_neg (show¬nmS 0=nmS 1 by decide)
 · show qDf (lbE x.now) _= [];rw [h.now];rfl
theorem qPQ:normal [98,111,98]=([98,111,98],0):=qDA (l:= [98,111,98]) xC xC xC
theorem qJJ{j:Nat}(hj:j<3):(nmS j).length≤5:=by
 match j,hj with
 |0,_=>decide
 |1,_=>decide
 |2,_=>decide
theorem qCf(j:Nat): ∀z∈leS j,z.good:=λz hz=>by
 unfold leS at hz
 split at hz
 · rw [List.mem_singleton.1 hz];exact⟨by show 1<18446744073709551616;decide,by show(Wo.opn qD9).length≤1048576;rw [Wo.opn_length];decide,by show(Xm.root qD9 0).length≤1048576;rw [show(Xm.root qD9 0).length=16 from Mk.root_16 _ _];decide,by show qAh.length≤1048576;decide⟩
 · cases hz
structure AnR where
 A:Option Addr
 c:Nat
 m:Hp
 bA:Option Addr
 bc:Nat
 mb:Hp
 bs:List xA
 th:Bool
 pk:xA
 pv:xA
structure AnP (L:Nat) (r:AnR):Prop where
 ro:Row r.m 61 5 r.A (leS L).length r.c (qDD (leS L))
 rb:Row r.mb 9 1 r.bA r.bs.length r.bc (qAG r.bs)
 own:Own L r.th r.pk r.pv
 bl:r.bs.length≤128
 pl:r.pv.length≤1000000
 good:qHb r.bs r.th r.pk r.pv (nmD L) 0
 chk: ∀(yl:RhD) (a:Nat),qA0 yl=hdN a 0 kv6→qIS (qB0 yl.ns ((yl.dep:Nat):Int)) (nmD L) (leS L) r.bs r.th r.pk r.pv=(exS L,okS L,0)
theorem qEP(F ms G:Hp)(hK:KF F){X:SvR}(hS:Srv ms G X)(hm:Le ms F)(hG:Le G F)(hkv:X.kvL=kv6)(hnow: ∀j,j<3→qDf (lbE X.now) (nmS j)=leS j)(L:Nat)(hL:L<3):Ct prog 13 [Ptr X.gs,Str (nmS L)] [F] (λr:AnR=> .tuple #[.agg #[Str (nmS L),.slice r.A (leS L).length r.c,.slice r.bA r.bs.length r.bc,.bool r.th,Str r.pk,Str r.pv],I (0:Nat)]) (AnP L) (λr=> [F,r.mb,r.m]):=λw0 w hw=>
 (qIq F hK X hS.i (hS.cells.mono hm) (hS.tsl.mono hm) (hS.tree.mono hG) (hS.p.nw.mono hG) (hS.p.nl.mono hG) (nmS L) (jZ (qJJ hL) xC) w0 w hw).mono λe w' ⟨r,he,hp,hs⟩=>by
  have hf:qCE kv6:=hkv▸hS.i.kf
  have hro:=hp.ro
  have hrb:=hp.rb
  have hst:=hp.st
  rw [hnow L hL] at hro he
  rw [hkv] at hrb hst he
  have hg:=qEG hf (qHC L) hst
  refine⟨⟨r.A,r.c,r.m,r.bA,r.bc,r.mb,bsd kv6 (nmD L) 0 (r.s-0),qAm kv6 (nmD L) r.s,qBm kv6 (nmD L) r.s,qBs kv6 (nmD L) r.s⟩,he,⟨hro,hrb,own6 hf hL hst,by have:=hg.le;show(bsd kv6 (nmD L) 0 (r.s-0)).length≤128;omega,qEJ hf _ _,hg,λyl a hy=>chk6 hf hL hst hy⟩,hs⟩
theorem el74:qCt prog 74 [.int .u64 0,.int .i64 0,Str [],.int .i64 0,.int .i64 0,.slice none 0 0,.slice none 0 0,Str [],Str [],Str [],.int .i64 0,.slice none 0 0,.bool false,Str [],Str []] 216:=qCt.of xI O
attribute [local irreducible] Sha.tagged Wo.pub Wo.publicOf Wo.signs Wo.ends Wo.digs Wo.walk Wo.opn Mk.root Mk.path Mk.climb Xm.root sgC sgP qBj qAN
theorem qJv(F mu m:Hp)(hK:KF F)(a d sl nd:Nat)(h1:1≤nd)(h2:nd≤sl)(h3:sl≤a)(ha:a≤3)(hd:d≤0)(x:SvR)(hS:Srv m F x)(hm:Le m F)(hx:Pub6 a d x)(gw:Nat)(gs:List Nat)(kA:Option Addr)(kc gu uc:Nat)(us:List Nat)(hW:Wld a us F mu gw x gs kA kc gu uc)(B:Nat)(hB:B≤100)(hub: ∀j,us.getD j 0≤B)(y:RhD)(hgy:(qA0 y).good)(hsy:nsl F y)(hye:y.ep≤4294967295)(hyd:(qA0 y).dig.length=16)(p:RhD)(hp:x.hd.getD 0 qAc=p):Ct prog 12 [Ptr gw,I (a:Nat),.agg #[I (sl:Nat),I (nd:Nat)],.agg #[N64 (y.ep),Str (y.par),I (y.dep:Nat),I (y.aud:Nat),.slice y.nsA y.ns.length y.nsc]] [mu,F] (λr:VtsR=> .slice r.A r.V.length r.c) (VtsP B a d sl (qA0 y) (qBj a d sl) gu uc us) (λr=> [r.mu,F,r.m,r.G]):=by
 have hgl:=hW.gl
 have hpW:qA0 p=pW a d:=by rw [←hp];exact hx.h0
 have hpe:p.ep=0:=congrArg Hd.ep hpW
 have hpd:p.dep=d:=by have:=congrArg Hd.dep hpW;exact yE this
 have hpa:p.aud=a:=by have:=congrArg Hd.aud hpW;exact yE this
 have hpg:(qA0 p).good:=by rw [hpW];exact qLv a hd
 have hperr:(qA0 p).err=0:=by rw [hpW];exact qMR ha hd
 have hpn:nsl F p:=by have:=hS.p.hn 0 (by rw [hx.hd2];decide);rw [hp] at this;exact this
 have hdr:qMh (qA0 p).dig (2^d) a sl (qBj a d sl):=by rw [hpW];exact qMV ha hd xB h3
 have hhd:=hx.hd2
 have hpw:2^d≤2:=jZ (jh xC hd) xC
 refine Ct.walk func12 O ntmps12 O (λw0 hw0=>?_)
 refine J.g λ_ j1=>J.p (qAZ O O O) O λg6 _=>J.p (qAZ O O O) O λg7 _=>J.b O<|J.c j1<|J.g λ_ j2=>J.b O<|J.f (qAB O O) O<|J.M 0 qEt qJl O O O O O<|J.f (qAI O O qLU (m:=F) xD (hW.w.at (i:=0) O)) O<|J.p (qBr O O (λF' hF=>qDR F' x (hS.cells.mono (hm.trans (Fa hF))) (hS.hsl.mono (hm.trans (Fa hF))) xB)) O ?_
 rintro⟨A25,c25,m25⟩ h25
 try dsimp only at h25
 refine J.b O<|J.c j2<|J.g λ_ j3=>J.k 2 O<|J.f (qAR qEY O O) O<|J.f ((qA3 O O O xB).nat (0) xB) O<|J.f (qAF O O O qEY qBv h25.sl xB) O<|J.f (qAV O O qDF qBv (m:=m25) xD (by have:=h25.sl.elem (qB3 (l:=x.hd) (k:=0) xB);rw [hp] at this;exact this) O) O<|J.p (qAJ O qUv O) O λg10 _=>J.a6 (qAD (i:=5) (l:= [.int .u64 0,Str [],I 0,I 0,.slice none 0 0]) (vs:= [N64 (p.ep),Str (p.par),I (p.dep:Nat),I (p.aud:Nat),.slice p.nsA p.ns.length p.nsc]) O O O O O qBv O O) O O λ_ _=>J.c j3<|J.g λ_ j4=>J.b8 5 qDF qBv O O O O O<|J.b O<|J.b8 2 qS2 qON O O O O O<|J.p (qBr O O (λF' hF=>qHv F' (hK.mo hF) (qA0 p) p.nsA p.nsc hpg (hpn.mono (Fa hF)) d a sl nd xB (congrArg (λn:Nat=>(n:Int)) hpd) hperr h1 h2 h3 xB (qBj a d sl) hdr)) O ?_
 rintro r36 hw36
 refine J.k 5 O<|J.c j4<|J.g λ_ j5=>J.b O<|J.c j5<|J.q λ_ j6=>J.g λ_ j7=>J.b O<|J.c j7<|J.V<|J.b6 (X:=Nat×List VtD×List Nat×Option Addr×Nat×Hp×Hp×Hp) (λζ=> [(0,Ptr gw),(7,Ptr g7),(10,Ptr g10),(11,.slice r36.A r36.ws.length r36.c),(13,.slice ζ.2.2.2.1 ζ.2.1.length ζ.2.2.2.2.1),(14,I (ζ.1:Nat))]) (λζ=> [ζ.2.2.2.2.2.2.1,ζ.2.2.2.2.2.2.2,ζ.2.2.2.2.2.1,F,blk g6 [I (sl:Nat),I (nd:Nat)] 26,blk g7 [N64 (y.ep),Str (y.par),I (y.dep:Nat),I (y.aud:Nat),.slice y.nsA y.ns.length y.nsc] 34,m25,blk g10 [N64 (p.ep),Str (p.par),I (p.dep:Nat),I (p.aud:Nat),.slice p.nsA p.ns.length p.nsc] 34,r36.mr,r36.G]) (λζ=>ζ.1≤r36.ws.length∧ζ.2.1.length=ζ.1*sl∧Row ζ.2.2.2.2.2.1 74 15 ζ.2.2.2.1 ζ.2.1.length ζ.2.2.2.2.1 (qOT ζ.2.1)∧qOL ζ.2.2.2.2.2.2.2 a d sl (qA0 y) (qBj a d sl) ζ.2.1∧ζ.2.2.1.length=a∧(∀j,ζ.2.2.1.getD j 0≤B+ζ.2.1.length)∧Row ζ.2.2.2.2.2.2.1 3 1 (some ⟨gu,0,none⟩) a uc (qBP ζ.2.2.1)) (λζ=>r36.ws.length-ζ.1) (0,[],us,none,0,(λ_=>none),mu,(λ_=>none)) (⟨jG _,by rw [yJ];rfl,qBh.nil,qOL.nil _ _ _ _ _ _,hW.ul,hub,hW.ur⟩) ⟨O,O,O,O,O,O,trivial⟩ (λ_ h=>h.empty.empty.pick [0,8,9,1,2,3,4,5,6,7] xC) ?_
 rintro⟨b,V,us2,AV,cV,mV,mu2,G⟩ ⟨hb,hVl,hrV,hhon,hul2,hub2,hur2⟩ I0 hI0
 dsimp only at hb hVl hrV hhon hul2 hub2 hur2⊢
 have hsl5:b*sl≤2*5:=Nat.mul_le_mul (by have:=hw36.len;omega) xB
 have hV10:V.length≤10:=xB
 refine J.q λ_ j8=>J.g λ_ j9=>J.k 2 O<|J.f (qAR qIl O O) O<|J.f (qAS O O O) O<|J.c j9<|J.a0 O (λh42=>?_) (λh42=>?_)
 ·
  refine J.T j8<|J.q λ_ j10=>J.V<|J.g λ_ j11=>J.b O<|J.c j11<|J.V<|J.b6 (X:=Nat×List VtD×List Nat×Option Addr×Nat×Hp×Hp×Hp) (λζ=> [(0,Ptr gw),(7,Ptr g7),(10,Ptr g10),(11,.slice r36.A r36.ws.length r36.c),(13,.slice ζ.2.2.2.1 ζ.2.1.length ζ.2.2.2.2.1),(14,I (b:Nat)),(15,I (ζ.1:Nat))]) (λζ=> [ζ.2.2.2.2.2.2.1,ζ.2.2.2.2.2.2.2,ζ.2.2.2.2.2.1,F,blk g6 [I (sl:Nat),I (nd:Nat)] 26,blk g7 [N64 (y.ep),Str (y.par),I (y.dep:Nat),I (y.aud:Nat),.slice y.nsA y.ns.length y.nsc] 34,m25,blk g10 [N64 (p.ep),Str (p.par),I (p.dep:Nat),I (p.aud:Nat),.slice p.nsA p.ns.length p.nsc] 34,r36.mr,r36.G]) (λζ=>ζ.1≤sl∧ζ.2.1.length=b*sl+ζ.1∧Row ζ.2.2.2.2.2.1 74 15 ζ.2.2.2.1 ζ.2.1.length ζ.2.2.2.2.1 (qOT ζ.2.1)∧qOL ζ.2.2.2.2.2.2.2 a d sl (qA0 y) (qBj a d sl) ζ.2.1∧ζ.2.2.1.length=a∧(∀j,ζ.2.2.1.getD j 0≤B+ζ.2.1.length)∧Row ζ.2.2.2.2.2.2.1 3 1 (some ⟨gu,0,none⟩) a uc (qBP ζ.2.2.1)) (λζ=>sl-ζ.1) (0,V,us2,AV,cV,mV,mu2,G) (⟨jG _,hVl,hrV,hhon,hul2,hub2,hur2⟩) ⟨O,O,O,O,O,O,O,trivial⟩ (λ_ h=>h) ?_
  rintro⟨i,V,us2,AV,cV,mV,mu2,G⟩ ⟨hi,hVl,hrV,hhon,hul2,hub2,hur2⟩ I2 hI2
  dsimp only at hi hVl hrV hhon hul2 hub2 hur2⊢
  have hsl6:b*sl≤1*5:=Nat.mul_le_mul (by have:=hw36.len;omega) xB
  refine J.q λ_ j12=>J.q λ_ j13=>?_
  have hwlen:=hw36.len
  have hbw:b<2^d:=xB
  have hwb:=hw36.ok b xB
  have hwl:=hwb.1
  have hwl2:=hwb.2.1
  have hwk:=qIg ha hd (show 1≤sl by omega) h3 hbw
  refine J.H<|J.k 3 O<|J.f (qAF O O O qIl qPW hw36.row.sl xB) O<|J.f (qAI O O isAgg38 (m:=r36.mr) xD (hw36.row.sl.part (qIf xB) 0 1)) O<|J.f (qAR qDM O O) O<|J.f (qAS O O O) O<|J.c j13<|J.a0 O (λh51=>?_) (λh51=>?_)
  ·
   refine J.T j12<|J.q λ_ j14=>J.V<|J.g λ_ j15=>J.k 2 O<|J.f (qAF O O O qIl qPW hw36.row.sl xB) O<|J.f (qAI O O isAgg38 (m:=r36.mr) xD (hw36.row.sl.part (qIf xB) 0 1)) O<|J.b O<|J.f (qAF O O O qDM z3_ (hw36.ok b (by have:=hw36.len;omega)).2.2 xB) O<|J.f (qAI O O b3_ (m:=r36.G) xD (((hw36.ok b (by have:=hw36.len;omega)).2.2).elem (qPH xB))) O ?_
   obtain ⟨nm,hnm0⟩:=zh (hwk.2.2 i xB).1
   have hnm:nm<a:=by have:=(hwk.2.2 i xB).2;omega
   have hli:((r36.ws.getD b qDz).l).getD i 0=((nm:Nat):Int):=by
    rw [hwl,jB,zF,if_pos xB,←jB];exact hnm0
   rw [hli]
   have hkp:x.kv.getD p.ep []=qAN a:=by rw [hpe];exact hx.k0
   have hu1:=hub2 nm
   refine J.b O<|J.c j15<|J.d4 (X:=Nat) (λζ=> [(0,Ptr gw),(7,Ptr g7),(10,Ptr g10),(11,.slice r36.A r36.ws.length r36.c),(13,.slice AV V.length cV),(14,I (b:Nat)),(15,I (i:Nat)),(16,I (nm:Nat)),(17,Ptr ζ)]) (λζ=> [mu2,G,mV,F,blk g6 [I (sl:Nat),I (nd:Nat)] 26,blk g7 [N64 (y.ep),Str (y.par),I (y.dep:Nat),I (y.aud:Nat),.slice y.nsA y.ns.length y.nsc] 34,m25,blk g10 [N64 (p.ep),Str (p.par),I (p.dep:Nat),I (p.aud:Nat),.slice p.nsA p.ns.length p.nsc] 34,r36.mr,r36.G,blk ζ [N64 (y.ep),I (b:Nat),Str ((qA0 y).dig),I (nm:Nat),I 0,.slice none 0 0,.slice none 0 0] 70]) (λζ=>True) (λ_ j16=>?_) ?_
   ·
    refine J.b1 [blk g7 [N64 (y.ep),Str (y.par),I (y.dep:Nat),I (y.aud:Nat),.slice y.nsA y.ns.length y.nsc] 34,F] [8] (.y 0 (.y 1 (.y 2 (.y 3 (.y 5 (.br (.e 4 (.y 6 (.e 7 (.e 8 .nil)))) (.e 7 (.e 4 (.y 6 (.e 8 .nil)))))))))) Tryz.wide xF xD ?_
    refine J.j O (qAA O O qDn O qEW O) O O<|J.j O (qAC 0 O O O qFM O) O O<|J.L ?_
    refine J.j O (qAW 0 O O O qDF qBv O) O O<|J.L ?_
    refine J.d5 ?_ ?_
    ·
     exact J.Z O (qAa O O (λF' hF=>qCl F' (hK.mo hF) (qA0 y) y.nsA y.nsc hgy (hsy.mono (Fa hF)))) O xD λg65 _=>J.j O (qAH (places:= [(0,1),(1,1),(2,1),(3,1),(4,3)]) (r:= [N64 (y.ep),I (b:Nat),Str ((qA0 y).dig),I (nm:Nat),I 0,.slice none 0 0,.slice none 0 0]) O O O qF6 zeroValue70 (λ_=>xI) xI) O O<|J.Z O (qAJ O zeroValue70 O) O xD λg17 _=>J.c1 O (qAD (i:=10) (l:= [.int .u64 0,I 0,Str [],I 0,I 0,.slice none 0 0,.slice none 0 0]) (vs:= [N64 (y.ep),I (b:Nat),Str ((qA0 y).dig),I (nm:Nat),I 0,.slice none 0 0,.slice none 0 0]) O O O O O qHp O O) O O O λ_ _=>J.a9<|J.u<|J.a5 (g17) j16 (trivial) ⟨O,O,O,O,O,O,O,O,O,trivial⟩ (λ_ h=>h)
    exact J.Z O (qAJ O zeroValue70 O) O xD λg17 _=>J.Z O (qAa O O (λF' hF=>qCl F' (hK.mo hF) (qA0 y) y.nsA y.nsc hgy (hsy.mono (Fa hF)))) O xD λg65 _=>J.j O (qAH (places:= [(0,1),(1,1),(2,1),(3,1),(4,3)]) (r:= [N64 (y.ep),I (b:Nat),Str ((qA0 y).dig),I (nm:Nat),I 0,.slice none 0 0,.slice none 0 0]) O O O qF6 zeroValue70 (λ_=>xI) xI) O O<|J.c1 O (qAD (i:=10) (l:= [.int .u64 0,I 0,Str [],I 0,I 0,.slice none 0 0,.slice none 0 0]) (vs:= [N64 (y.ep),I (b:Nat),Str ((qA0 y).dig),I (nm:Nat),I 0,.slice none 0 0,.slice none 0 0]) O O O O O qHp O O) O O O λ_ _=>J.a9<|J.u<|J.a5 (g17) j16 (trivial) ⟨O,O,O,O,O,O,O,O,O,trivial⟩ (λ_ h=>h)
   rintro g17 _
   refine J.q λ_ j17=>J.b1 [F,blk g17 [N64 (y.ep),I (b:Nat),Str ((qA0 y).dig),I (nm:Nat),I 0,.slice none 0 0,.slice none 0 0] 70,mu2] [22,100020] (.y 0 (.y 1 (.y 2 (.y 3 (.y 4 (.y 5 (.y 6 (.y 7 (.y 8 (.y 9 (.y 10 (.y 11 (.y 12 (.y 13 (.y 14 (.y 15 (.e 16 (.e 17 (.y 18 (.y 19 (.y 20 (.y 21 (.e 22 .nil))))))))))))))))))))))) Tryz.wide xF xD ?_
   refine J.L ?_
   refine J.j O (qAB O O) O O<|J.j O (qAA O O qEt O qVX O) O O<|J.j O (qAI O O isAgg37 (m:=F) xD (hW.w.at (i:=1) O)) O O<|J.L ?_
   refine J.j O (qAF O O O qTH sizeOf77 hW.kr xB) O O<|J.j O (qAI O O isAgg77 (m:=F) xD (hW.kr.elem (qGs xB))) O O<|J.L ?_
   refine J.j O (qAB O O) O O<|J.j O (qAA O O qEt O qPW O) O O<|J.j O (qAI (v:= .slice (some ⟨gu,0,none⟩) a uc) O O isAgg38 (m:=F) xD (hW.w.at (i:=2) O)) O O<|J.L ?_
   refine J.j O (qAj (i:=nm) (j:=0+nm*1) O O O qDM z3_ xB xB) O O<|J.j O (qAI O O b3_ (m:=mu2) xD (hur2.sl.cells (qCQ xB))) O O<|J.j O ((qNR 2 O O O xC xC).nat (us2.getD nm 0%4) xB) O O<|J.j O (qAW 1 O O O isAgg70 qHp O) O O<|J.Z O (qAa O O (λF' hF=>qHZ F' (hK.mo hF) y.ep b nm (qA0 y).dig 0 none none 0 0 0 0 hye xB xB hyd)) O xD λg85 _=>J.Z O (qBr O O (λF' hF=>qJq F' (hK.mo hF) (gs.getD nm 0) (qAP nm) 2 ((hW.ks nm (by have:=hW.gl;omega)).mono (Fa hF)) (jm O) xC (us2.getD nm 0%4) (Nat.mod_lt _ xC) (atM y.ep b nm (qA0 y).dig) (by rw [qSh];decide))) O xD ?_
   rintro⟨⟨A1,c1,m1⟩,A2,c2,m2⟩ ⟨hs1,hs2⟩
   refine J.L ?_
   refine J.c2 (.agg #[I ((us2.getD nm 0%4):Nat),.slice A1 (sgC (qAP nm) (us2.getD nm 0%4) (atM y.ep b nm (qA0 y).dig)).length c1,.slice A2 (sgP (qAP nm) 2 (us2.getD nm 0%4)).length c2]) ?_
   refine J.d3 O (qAb O O O) O O O ?_
   refine J.j O (qAA O O qF6 O qLO O) O O<|J.c1 O (qAT (i:=10) O O O O O qLO O xD) O O O λ_ _=>J.a9<|J.u (J.G j17 ?_)
   refine J.g λ_ j18=>J.b O<|J.f (qAB O O) O<|J.M 2 qEt qPW O O O O O<|J.f (qAI (v:= .slice (some ⟨gu,0,none⟩) a uc) O O isAgg38 (m:=F) xD (hW.w.at (i:=2) O)) O<|J.b O<|J.f (qAj (i:=nm) (j:=0+nm*1) O O O qDM z3_ xB xB) O<|J.f (qAI O O b3_ (m:=mu2) xD (hur2.sl.cells (qCQ xB))) O<|J.f ((qAQ O O O xB).nat (us2.getD nm 0+1) xB) O<|J.f (qAj (i:=nm) (j:=0+nm*1) O O O qDM z3_ xB xB) O<|J.a6 (qBK (i:=0) (k:=nm) (off:=0) (b:= [I (us2.getD nm 0+1:Nat)]) O O O O hur2 (vs:= [I (us2.getD nm 0+1:Nat)]) O z3_ O xB (qCQ xB) O (jK _)) O O ?_
   rintro m14_1 hm14_1
   rw [qKe] at hm14_1
   refine J.c j18<|J.d4 (X:=MbR×Nat×Nat) (λζ=> [(0,Ptr gw),(7,Ptr g7),(10,Ptr g10),(11,.slice r36.A r36.ws.length r36.c),(13,.slice AV V.length cV),(14,I (b:Nat)),(15,I (i:Nat)),(17,Ptr g17),(18,Ptr ζ.2.1),(19,Ptr ζ.2.2)]) (λζ=> [m14_1,G,mV,F,blk g6 [I (sl:Nat),I (nd:Nat)] 26,blk g7 [N64 (y.ep),Str (y.par),I (y.dep:Nat),I (y.aud:Nat),.slice y.nsA y.ns.length y.nsc] 34,m25,blk g10 [N64 (p.ep),Str (p.par),I (p.dep:Nat),I (p.aud:Nat),.slice p.nsA p.ns.length p.nsc] 34,r36.mr,r36.G,blk g17 [N64 (y.ep),I (b:Nat),Str ((qA0 y).dig),I (nm:Nat),I ((us2.getD nm 0%4):Nat),.slice A1 (sgC (qAP nm) (us2.getD nm 0%4) (atM y.ep b nm (qA0 y).dig)).length c1,.slice A2 (sgP (qAP nm) 2 (us2.getD nm 0%4)).length c2] 70,m1,m2,ζ.1.m,blk ζ.2.1 [Str (wN nm),Str (Wo.opn (qAP nm)),Str (Xm.root (qAP nm) 2),I (2:Nat)] 72,blk ζ.2.2 [.slice ζ.1.A (bsd (qAN a) (qAL nm) 0 (ζ.1.s-0)).length ζ.1.c,.bool (qAm (qAN a) (qAL nm) ζ.1.s),Str (qBm (qAN a) (qAL nm) ζ.1.s),Str (qBs (qAN a) (qAL nm) ζ.1.s)] 53]) (λζ=>MbP x p.ep nm ζ.1) (λ_ j19=>?_) ?_
   ·
    refine J.b1 [F,blk g10 [N64 (p.ep),Str (p.par),I (p.dep:Nat),I (p.aud:Nat),.slice p.nsA p.ns.length p.nsc] 34] [] (.y 0 (.y 1 (.y 2 (.y 3 (.y 4 (.y 5 (.y 6 (.br (.e 7 (.y 8 (.y 9 (.y 10 (.y 11 (.br (.e 12 (.e 13 (.e 14 (.e 15 (.y 16 .nil))))) (.e 13 (.e 12 (.e 14 (.e 15 (.y 16 .nil))))))))))) (.br (.e 12 (.br (.e 7 (.y 8 (.y 9 (.y 10 (.y 11 (.e 13 (.e 14 (.e 15 (.y 16 .nil))))))))) (.e 13 (.e 7 (.y 8 (.y 9 (.y 10 (.y 11 (.e 14 (.e 15 (.y 16 .nil))))))))))) (.e 13 (.br (.e 7 (.y 8 (.y 9 (.y 10 (.y 11 (.e 12 (.e 14 (.e 15 (.y 16 .nil))))))))) (.e 12 (.e 7 (.y 8 (.y 9 (.y 10 (.y 11 (.e 14 (.e 15 (.y 16 .nil)))))))))))))))))))) Tryz.wide xF xD ?_
    refine J.L ?_
    refine J.j O (qAB O O) O O<|J.j O (qAA O O qEt O qJl O) O O<|J.j O (qAI O O qLU (m:=F) xD (hW.w.at (i:=0) O)) O O<|J.j O (qAA O O qDn O qEW O) O O<|J.j O (qAC 1 O O O qFM O) O O<|J.L ?_
    refine J.d5 ?_ ?_
    ·
     refine J.Z O (qBr O O (λF' hF=>by have:=qGk F' (hK.mo hF) x (hS.cells.mono (hm.trans (Fa hF))) (hS.tsl.mono (hm.trans (Fa hF))) (hS.hsl.mono (hm.trans (Fa hF))) xB (hS.p.ra.mono (Fa hF)) p.ep nm xB (by rw [hx.tg2];omega) (by rw [hpe,hp];omega) (by rw [hx.au,qCA];exact hnm) (by rw [hx.au,qCA];omega) (by rw [hpe];exact(hS.p.tr 0 (by rw [hx.tg2];decide)).mono (Fa hF)) (by rw [hkp];exact qD2 ha);rw [hkp,hx.au,qGc hnm] at this;exact this)) O xD ?_
     rintro q hq
     refine J.L ?_
     refine J.c2 (.agg #[Str (wN nm),Str (Wo.opn (qAP nm)),Str (Xm.root (qAP nm) 2),I (2:Nat)]) ?_
     refine J.c2 (.agg #[.slice q.A (bsd (qAN a) (qAL nm) 0 (q.s-0)).length q.c,.bool (qAm (qAN a) (qAL nm) q.s),Str (qBm (qAN a) (qAL nm) q.s),Str (qBs (qAN a) (qAL nm) q.s)]) ?_
     refine J.c2 (I (0:Nat)) ?_
     refine J.d5 ?_ ?_
     ·
      refine J.Z O (qAJ O qPa O) O xD λg18 _=>J.Z O (qAJ O qPN O) O xD λg19 _=>J.d2 O (qAD (i:=14) (l:= [Str [],Str [],Str [],I 0]) (vs:= [Str (wN nm),Str (Wo.opn (qAP nm)),Str (Xm.root (qAP nm) 2),I (2:Nat)]) O O O O O qDk O O) O O xD λ_ _=>J.d2 O (qAD (i:=15) (l:= [.slice none 0 0,.bool false,Str [],Str []]) (vs:= [.slice q.A (bsd (qAN a) (qAL nm) 0 (q.s-0)).length q.c,.bool (qAm (qAN a) (qAL nm) q.s),Str (qBm (qAN a) (qAL nm) q.s),Str (qBs (qAN a) (qAL nm) q.s)]) O O O O O qB9 O O) O O xD λ_ _=>J.b7 ?_
      exact J.a9<|J.u<|J.a5 (q,g18,g19) j19 (hq) ⟨O,O,O,O,O,O,O,O,O,O,trivial⟩ (λ_ h=>h)
     refine J.Z O (qAJ O qPN O) O xD λg19 _=>J.Z O (qAJ O qPa O) O xD λg18 _=>J.d2 O (qAD (i:=15) (l:= [Str [],Str [],Str [],I 0]) (vs:= [Str (wN nm),Str (Wo.opn (qAP nm)),Str (Xm.root (qAP nm) 2),I (2:Nat)]) O O O O O qDk O O) O O xD λ_ _=>J.d2 O (qAD (i:=14) (l:= [.slice none 0 0,.bool false,Str [],Str []]) (vs:= [.slice q.A (bsd (qAN a) (qAL nm) 0 (q.s-0)).length q.c,.bool (qAm (qAN a) (qAL nm) q.s),Str (qBm (qAN a) (qAL nm) q.s),Str (qBs (qAN a) (qAL nm) q.s)]) O O O O O qB9 O O) O O xD λ_ _=>J.b7 ?_
     exact J.a9<|J.u<|J.a5 (q,g18,g19) j19 (hq) ⟨O,O,O,O,O,O,O,O,O,O,trivial⟩ (λ_ h=>h.pick [0,1,2,3,4,5,6,7,8,9,10,11,12,13,15,14] xC)
    refine J.d5 ?_ ?_
    ·
     refine J.Z O (qAJ O qPa O) O xD λg18 _=>J.d5 ?_ ?_
     ·
      refine J.Z O (qBr O O (λF' hF=>by have:=qGk F' (hK.mo hF) x (hS.cells.mono (hm.trans (Fa hF))) (hS.tsl.mono (hm.trans (Fa hF))) (hS.hsl.mono (hm.trans (Fa hF))) xB (hS.p.ra.mono (Fa hF)) p.ep nm xB (by rw [hx.tg2];omega) (by rw [hpe,hp];omega) (by rw [hx.au,qCA];exact hnm) (by rw [hx.au,qCA];omega) (by rw [hpe];exact(hS.p.tr 0 (by rw [hx.tg2];decide)).mono (Fa hF)) (by rw [hkp];exact qD2 ha);rw [hkp,hx.au,qGc hnm] at this;exact this)) O xD ?_
      rintro q hq
      refine J.L ?_
      refine J.c2 (.agg #[Str (wN nm),Str (Wo.opn (qAP nm)),Str (Xm.root (qAP nm) 2),I (2:Nat)]) ?_
      refine J.c2 (.agg #[.slice q.A (bsd (qAN a) (qAL nm) 0 (q.s-0)).length q.c,.bool (qAm (qAN a) (qAL nm) q.s),Str (qBm (qAN a) (qAL nm) q.s),Str (qBs (qAN a) (qAL nm) q.s)]) ?_
      refine J.c2 (I (0:Nat)) ?_
      refine J.Z O (qAJ O qPN O) O xD λg19 _=>J.d2 O (qAD (i:=13) (l:= [Str [],Str [],Str [],I 0]) (vs:= [Str (wN nm),Str (Wo.opn (qAP nm)),Str (Xm.root (qAP nm) 2),I (2:Nat)]) O O O O O qDk O O) O O xD λ_ _=>J.d2 O (qAD (i:=15) (l:= [.slice none 0 0,.bool false,Str [],Str []]) (vs:= [.slice q.A (bsd (qAN a) (qAL nm) 0 (q.s-0)).length q.c,.bool (qAm (qAN a) (qAL nm) q.s),Str (qBm (qAN a) (qAL nm) q.s),Str (qBs (qAN a) (qAL nm) q.s)]) O O O O O qB9 O O) O O xD λ_ _=>J.b7 ?_
      exact J.a9<|J.u<|J.a5 (q,g18,g19) j19 (hq) ⟨O,O,O,O,O,O,O,O,O,O,trivial⟩ (λ_ h=>h.pick [0,1,2,3,4,5,6,7,8,9,10,11,12,14,13,15] xC)
     refine J.Z O (qAJ O qPN O) O xD λg19 _=>J.Z O (qBr O O (λF' hF=>by have:=qGk F' (hK.mo hF) x (hS.cells.mono (hm.trans (Fa hF))) (hS.tsl.mono (hm.trans (Fa hF))) (hS.hsl.mono (hm.trans (Fa hF))) xB (hS.p.ra.mono (Fa hF)) p.ep nm xB (by rw [hx.tg2];omega) (by rw [hpe,hp];omega) (by rw [hx.au,qCA];exact hnm) (by rw [hx.au,qCA];omega) (by rw [hpe];exact(hS.p.tr 0 (by rw [hx.tg2];decide)).mono (Fa hF)) (by rw [hkp];exact qD2 ha);rw [hkp,hx.au,qGc hnm] at this;exact this)) O xD ?_
     rintro q hq
     refine J.L ?_
     refine J.c2 (.agg #[Str (wN nm),Str (Wo.opn (qAP nm)),Str (Xm.root (qAP nm) 2),I (2:Nat)]) ?_
     refine J.c2 (.agg #[.slice q.A (bsd (qAN a) (qAL nm) 0 (q.s-0)).length q.c,.bool (qAm (qAN a) (qAL nm) q.s),Str (qBm (qAN a) (qAL nm) q.s),Str (qBs (qAN a) (qAL nm) q.s)]) ?_
     refine J.c2 (I (0:Nat)) ?_
     refine J.d2 O (qAD (i:=13) (l:= [Str [],Str [],Str [],I 0]) (vs:= [Str (wN nm),Str (Wo.opn (qAP nm)),Str (Xm.root (qAP nm) 2),I (2:Nat)]) O O O O O qDk O O) O O xD λ_ _=>J.d2 O (qAD (i:=14) (l:= [.slice none 0 0,.bool false,Str [],Str []]) (vs:= [.slice q.A (bsd (qAN a) (qAL nm) 0 (q.s-0)).length q.c,.bool (qAm (qAN a) (qAL nm) q.s),Str (qBm (qAN a) (qAL nm) q.s),Str (qBs (qAN a) (qAL nm) q.s)]) O O O O O qB9 O O) O O xD λ_ _=>J.b7 ?_
     exact J.a9<|J.u<|J.a5 (q,g18,g19) j19 (hq) ⟨O,O,O,O,O,O,O,O,O,O,trivial⟩ (λ_ h=>h.pick [0,1,2,3,4,5,6,7,8,9,10,11,12,15,13,14] xC)
    refine J.Z O (qAJ O qPN O) O xD λg19 _=>J.d5 ?_ ?_
    ·
     refine J.Z O (qBr O O (λF' hF=>by have:=qGk F' (hK.mo hF) x (hS.cells.mono (hm.trans (Fa hF))) (hS.tsl.mono (hm.trans (Fa hF))) (hS.hsl.mono (hm.trans (Fa hF))) xB (hS.p.ra.mono (Fa hF)) p.ep nm xB (by rw [hx.tg2];omega) (by rw [hpe,hp];omega) (by rw [hx.au,qCA];exact hnm) (by rw [hx.au,qCA];omega) (by rw [hpe];exact(hS.p.tr 0 (by rw [hx.tg2];decide)).mono (Fa hF)) (by rw [hkp];exact qD2 ha);rw [hkp,hx.au,qGc hnm] at this;exact this)) O xD ?_
     rintro q hq
     refine J.L ?_
     refine J.c2 (.agg #[Str (wN nm),Str (Wo.opn (qAP nm)),Str (Xm.root (qAP nm) 2),I (2:Nat)]) ?_
     refine J.c2 (.agg #[.slice q.A (bsd (qAN a) (qAL nm) 0 (q.s-0)).length q.c,.bool (qAm (qAN a) (qAL nm) q.s),Str (qBm (qAN a) (qAL nm) q.s),Str (qBs (qAN a) (qAL nm) q.s)]) ?_
     refine J.c2 (I (0:Nat)) ?_
     refine J.Z O (qAJ O qPa O) O xD λg18 _=>J.d2 O (qAD (i:=15) (l:= [Str [],Str [],Str [],I 0]) (vs:= [Str (wN nm),Str (Wo.opn (qAP nm)),Str (Xm.root (qAP nm) 2),I (2:Nat)]) O O O O O qDk O O) O O xD λ_ _=>J.d2 O (qAD (i:=13) (l:= [.slice none 0 0,.bool false,Str [],Str []]) (vs:= [.slice q.A (bsd (qAN a) (qAL nm) 0 (q.s-0)).length q.c,.bool (qAm (qAN a) (qAL nm) q.s),Str (qBm (qAN a) (qAL nm) q.s),Str (qBs (qAN a) (qAL nm) q.s)]) O O O O O qB9 O O) O O xD λ_ _=>J.b7 ?_
     exact J.a9<|J.u<|J.a5 (q,g18,g19) j19 (hq) ⟨O,O,O,O,O,O,O,O,O,O,trivial⟩ (λ_ h=>h.pick [0,1,2,3,4,5,6,7,8,9,10,11,12,14,15,13] xC)
    refine J.Z O (qAJ O qPa O) O xD λg18 _=>J.Z O (qBr O O (λF' hF=>by have:=qGk F' (hK.mo hF) x (hS.cells.mono (hm.trans (Fa hF))) (hS.tsl.mono (hm.trans (Fa hF))) (hS.hsl.mono (hm.trans (Fa hF))) xB (hS.p.ra.mono (Fa hF)) p.ep nm xB (by rw [hx.tg2];omega) (by rw [hpe,hp];omega) (by rw [hx.au,qCA];exact hnm) (by rw [hx.au,qCA];omega) (by rw [hpe];exact(hS.p.tr 0 (by rw [hx.tg2];decide)).mono (Fa hF)) (by rw [hkp];exact qD2 ha);rw [hkp,hx.au,qGc hnm] at this;exact this)) O xD ?_
    rintro q hq
    refine J.L ?_
    refine J.c2 (.agg #[Str (wN nm),Str (Wo.opn (qAP nm)),Str (Xm.root (qAP nm) 2),I (2:Nat)]) ?_
    refine J.c2 (.agg #[.slice q.A (bsd (qAN a) (qAL nm) 0 (q.s-0)).length q.c,.bool (qAm (qAN a) (qAL nm) q.s),Str (qBm (qAN a) (qAL nm) q.s),Str (qBs (qAN a) (qAL nm) q.s)]) ?_
    refine J.c2 (I (0:Nat)) ?_
    refine J.d2 O (qAD (i:=14) (l:= [Str [],Str [],Str [],I 0]) (vs:= [Str (wN nm),Str (Wo.opn (qAP nm)),Str (Xm.root (qAP nm) 2),I (2:Nat)]) O O O O O qDk O O) O O xD λ_ _=>J.d2 O (qAD (i:=13) (l:= [.slice none 0 0,.bool false,Str [],Str []]) (vs:= [.slice q.A (bsd (qAN a) (qAL nm) 0 (q.s-0)).length q.c,.bool (qAm (qAN a) (qAL nm) q.s),Str (qBm (qAN a) (qAL nm) q.s),Str (qBs (qAN a) (qAL nm) q.s)]) O O O O O qB9 O O) O O xD λ_ _=>J.b7 ?_
    exact J.a9<|J.u<|J.a5 (q,g18,g19) j19 (hq) ⟨O,O,O,O,O,O,O,O,O,O,trivial⟩ (λ_ h=>h.pick [0,1,2,3,4,5,6,7,8,9,10,11,12,15,14,13] xC)
   rintro⟨q,g18,g19⟩ hq
   dsimp only at hq⊢
   obtain ⟨vx,hvx⟩: ∃v:VtD,v=(vtY a (qA0 y) b nm (us2.getD nm 0%4) A1 c1 A2 c2 q.s q.A q.c):=⟨_,rfl⟩
   refine J.H<|J.b O<|J.b8 10 isAgg70 qHp O O O O O<|J.b8 14 qLE qDk O O O O O<|J.b8 15 qEb qB9 O O O O O<|J.f (qAH (places:= [(0,7),(7,4),(11,4)]) (r:= [N64 (y.ep),I (b:Nat),Str ((qA0 y).dig),I (nm:Nat),I ((us2.getD nm 0%4):Nat),.slice A1 (sgC (qAP nm) (us2.getD nm 0%4) (atM y.ep b nm (qA0 y).dig)).length c1,.slice A2 (sgP (qAP nm) 2 (us2.getD nm 0%4)).length c2,Str (wN nm),Str (Wo.opn (qAP nm)),Str (Xm.root (qAP nm) 2),I (2:Nat),.slice q.A (bsd (qAN a) (qAL nm) 0 (q.s-0)).length q.c,.bool (qAm (qAN a) (qAL nm) q.s),Str (qBm (qAN a) (qAL nm) q.s),Str (qBs (qAN a) (qAL nm) q.s)]) O O O qLe zeroValue74 (λ_=>xI) xI) O<|J.p (qAE (l:= [.tmp 115]) (xs:= [[N64 (y.ep),I (b:Nat),Str ((qA0 y).dig),I (nm:Nat),I ((us2.getD nm 0%4):Nat),.slice A1 (sgC (qAP nm) (us2.getD nm 0%4) (atM y.ep b nm (qA0 y).dig)).length c1,.slice A2 (sgP (qAP nm) 2 (us2.getD nm 0%4)).length c2,Str (wN nm),Str (Wo.opn (qAP nm)),Str (Xm.root (qAP nm) 2),I (2:Nat),.slice q.A (bsd (qAN a) (qAL nm) 0 (q.s-0)).length q.c,.bool (qAm (qAN a) (qAL nm) q.s),Str (qBm (qAN a) (qAL nm) q.s),Str (qBs (qAN a) (qAL nm) q.s)]]) O O O O qYx el74 O xC xC xD) O λg116 _=>J.p (qAU (i:=2) (m2:=blk g116 [N64 (y.ep),I (b:Nat),Str ((qA0 y).dig),I (nm:Nat),I ((us2.getD nm 0%4):Nat),.slice A1 (sgC (qAP nm) (us2.getD nm 0%4) (atM y.ep b nm (qA0 y).dig)).length c1,.slice A2 (sgP (qAP nm) 2 (us2.getD nm 0%4)).length c2,Str (wN nm),Str (Wo.opn (qAP nm)),Str (Xm.root (qAP nm) 2),I (2:Nat),.slice q.A (bsd (qAN a) (qAL nm) 0 (q.s-0)).length q.c,.bool (qAm (qAN a) (qAL nm) q.s),Str (qBm (qAN a) (qAL nm) q.s),Str (qBs (qAN a) (qAL nm) q.s)] 74) O O O qYx qYx el74 O hrV xD ((qAl (q:=True) (xs:=qOT [(⟨y.ep,b,(qA0 y).dig,nm,(us2.getD nm 0%4),A1,c1,(sgC (qAP nm) (us2.getD nm 0%4) (atM y.ep b nm (qA0 y).dig)),A2,c2,(sgP (qAP nm) 2 (us2.getD nm 0%4)),wN nm,Wo.opn (qAP nm),Xm.root (qAP nm) 2,2,q.A,q.c,(bsd (qAN a) (qAL nm) 0 (q.s-0)),qAm (qAN a) (qAL nm) q.s,qBm (qAN a) (qAL nm) q.s,qBs (qAN a) (qAL nm) q.s⟩:VtD)]) O (by intro x hx;rw [List.mem_singleton.1 hx];rfl)).sl) O xB xB) O ?_
   rintro⟨A117,c117,m117⟩ h117
   try dsimp only at h117
   replace h117:Row m117 74 15 A117 (V.length+1) c117 (qOT (V++ [vx])):=by rw [qPq,hvx];exact h117
   rw [show V.length+1=(V++ [vx]).length by rw [jA];rfl] at h117⊢
   refine J.b O<|J.c5 [1,11,12,13,0,2,3,4,5,6,7,8,9] [G,m1,m2,q.m,m14_1,m117,F,blk g6 [I (sl:Nat),I (nd:Nat)] 26,blk g7 [N64 (y.ep),Str (y.par),I (y.dep:Nat),I (y.aud:Nat),.slice y.nsA y.ns.length y.nsc] 34,m25,blk g10 [N64 (p.ep),Str (p.par),I (p.dep:Nat),I (p.aud:Nat),.slice p.nsA p.ns.length p.nsc] 34,r36.mr,r36.G] O xC<|J.d6 (λhj1=>?_)
   refine J.d6 (λhj2=>?_)
   refine J.d6 (λhj3=>?_)
   refine J.a4<|J.a3<|J.u (J.G j14 ?_)
   exact J.H<|J.b O<|J.f ((qAQ O O O xB).nat (i+1) xB) O<|J.b O<|J.a4<|J.u<|J.a5 (i+1,V++ [vx],us2.set nm (us2.getD nm 0+1),A117,c117,m117,m14_1,U [U [U [G,m1],m2],q.m]) (λη (hη:_∧sl-η.1<sl-i)=>hI2 η hη.1 hη.2) ⟨⟨by dsimp only;omega,by dsimp only;rw [jA,jI];omega,h117,(hhon.mono ((qHE hj1).trans ((qHE hj2).trans (qHE hj3)))).snoc (k:=i) (b:=b) xB (by have:=hw36.len;omega) xB hnm0 (by rw [hvx];exact qZc ha hd hnm xB hye hyd (Nat.mod_lt _ xC) (by have:=hq.st;rw [hkp] at this;exact this) (hs1.sl.mono ((qSy hj1).trans ((qHE hj2).trans (qHE hj3)))) (hs2.sl.mono ((qSy hj2).trans (qHE hj3))) (by have:=hq.rb.sl.mono (qSy hj3);rw [hkp] at this;exact this)),by dsimp only;rw [jo];exact hul2,λj=>by dsimp only;rw [jA,jI];exact qWT hub2 j,hm14_1⟩,by first|omega|(dsimp only;omega)⟩ ⟨O,O,O,O,O,O,O,trivial⟩ (λ_ h=>h.pick [1,0,2,3,4,5,6,7,8,9] xC)
  refine J.b3<|J.a1<|J.a1<|J.b4 ?_
  refine J.a3<|J.u (J.G j10 ?_)
  exact J.H<|J.b O<|J.f ((qAQ O O O xB).nat (b+1) xB) O<|J.b O<|J.a4<|J.u<|J.a5 (b+1,V,us2,AV,cV,mV,mu2,G) (λη (hη:_∧r36.ws.length-η.1<r36.ws.length-b)=>hI0 η hη.1 hη.2) ⟨⟨by dsimp only;omega,by dsimp only;rw [hVl,zl,Nat.one_mul];omega,hrV,hhon,hul2,hub2,hur2⟩,by first|omega|(dsimp only;omega)⟩ ⟨O,O,O,O,O,O,trivial⟩ (λ_ h=>h)
 refine J.b3<|J.a1<|J.a1<|J.b4 ?_
 refine J.u (J.G j6 ?_)
 exact J.g λ_ j20=>J.k 2 O<|J.c j20<|J.A<|J.E hw0 O (⟨V,us2,AV,cV,mV,mu2,G⟩:VtsR) O ⟨hrV,by rw [hVl,show b=2^d by have:=hw36.len;omega],hhon,hul2,λj=>by have:=hub2 j;show us2.getD j 0≤B+10;omega,hur2⟩ [0,3,2,1] O xC
end Go.Proofs.YtcgcjaflllmlpaaGreatDoor