/- A part of the proof. -/
import Derived.Test.YtcgcjaflllmlpaaGreatDoorTopCkG27
set_option maxRecDepth 100000
set_option maxHeartbeats 1000000
set_option linter.unusedSimpArgs false
set_option linter.unusedVariables false
namespace Go.Proofs.YtcgcjaflllmlpaaGreatDoor
open Go Go.Fw Go.Proofs.Tryz
theorem qGv(F:Hp)(k:xA)(z:Int):Cz prog 87 [Str (k),I (z)] F (.bool (decide (k.length=16∧0≤z∧z≤128))):=by
 refine Ct.walk func87 O ntmps87 O (λw0 hw0=>?_)
 refine J.g λ_ j1=>J.b O<|J.c j1<|J.g λ_ j2=>J.b O<|J.f (qAs u9_ O O) O<|J.f (qAX O O O) O<|J.b O<|J.b9 (d:=8) O (λh8=>?_) (λh8=>?_)
 ·
  refine J.b O<|J.D (qBL O O O) O<|J.k 2 O<|J.b9 (d:=12) O (λh12=>?_) (λh12=>?_)
  ·
   exact J.b O<|J.D (qCY O O O) O<|J.k 2 O<|J.c j2<|J.A<|J.E hw0 O () (by first|rw [decide_eq_false xB]|rw [decide_eq_true xB]|exact congrArg Value.bool (decide_eq_decide.2 xB)) trivial [0] O xC
  exact J.k 4 O<|J.c j2<|J.A<|J.E hw0 O () (by first|rw [decide_eq_false xB]|rw [decide_eq_true xB]|exact congrArg Value.bool (decide_eq_decide.2 xB)) trivial [0] O xC
 exact J.k 8 O<|J.c j2<|J.A<|J.E hw0 O () (by first|rw [decide_eq_false xB]|rw [decide_eq_true xB]|exact congrArg Value.bool (decide_eq_decide.2 xB)) trivial [0] O xC
theorem qP4(F:Hp)(k:xA)(hk:k.length=16)(d:Nat)(hd:d<128):Cz prog 94 [Str (k),I (d:Nat)] F (Str (turn k d)):=by
 refine Ct.walk func94 O ntmps94 O (λw0 hw0=>?_)
 refine J.g λ_ j1=>J.b O<|J.c j1<|J.g λ_ j2=>J.b O<|J.p (qH9 O O u9_ qBt u5_) O ?_
 rintro⟨g7,c7,m7⟩ h7
 try dsimp only at h7
 change J _ ((7,.slice (some ⟨g7,0,none⟩) k.length c7)::_) _ [F,m7] _
 refine J.b O<|J.c j2<|J.q λ_ j3=>J.b1 [F,m7] [11] (.y 0 (.y 1 (.y 2 (.y 3 (.y 4 (.y 5 (.y 6 (.y 7 (.y 8 (.y 9 (.y 10 (.e 11 .nil)))))))))))) Tryz.wide xF xD ?_
 refine J.L ?_
 refine J.L ?_
 refine J.j O ((qIA O O O xE).nat (d/8) xB) O O<|J.j O (qAj (i:=d/8) (j:=0+(d/8)*1) O O O qBt z5_ xE xB) O O<|J.j O (qAI O O b5_ (m:=m7) xD (h7.sl.cells (qBp (qAi 0 xE)))) O O<|J.L ?_
 refine J.j O ((qG5 O O O xE).nat (d%8) xB) O O<|J.j O ((qA3 O O O xB).nat (7-d%8) xB) O O<|J.j O ((qXU (a:=1) (m:=7-d%8) O O O).as (v':=B8 (UInt8.ofNat (1*2^(7-d%8)))) (by rw [je xB];rfl)) O O<|J.j O (qXR O O O) O O<|J.j O (qAj (i:=d/8) (j:=0+(d/8)*1) O O O qBt z5_ xE xB) O O<|J.c1 O (qBK (i:=1) (k:=d/8) (off:=0) (b:= [B8 (k.getD (d/8) 0^^^UInt8.ofNat (1*2^(7-d%8)))]) O O O O h7 (vs:= [B8 (k.getD (d/8) 0^^^UInt8.ofNat (1*2^(7-d%8)))]) O z5_ O xB (qBp (qAi 0 xE)) O (jK _)) O O O ?_
 rintro m2_1 hm2_1
 rw [qFl] at hm2_1
 refine J.a9<|J.u (J.G j3 ?_)
 exact J.g λ_ j4=>J.b O<|J.f (qBn O O qBt u5_ u9_ (m:=m2_1) xD hm2_1.sl) O<|J.b O<|J.c j4<|J.A<|J.E hw0 O () (by unfold turn;rfl) trivial [0] O xC
theorem qNG(F:Hp)(s:xA):Cz prog 156 [Str (s)] F (.bool (qJI s)):=by
 refine Ct.walk func156 O ntmps156 O (λw0 hw0=>?_)
 refine J.g λ_ j1=>J.b O<|J.c j1<|J.g λ_ j2=>J.b O<|J.f (qBA O O O) O<|J.b O<|J.b9 (d:=5) O (λh5=>?_) (λh5=>?_)
 ·
  refine J.k 4 O<|J.c6 (Wan.un O O O O) O O ?_
  refine J.c6 (Wan.un O O O O) O O ?_
  refine J.c6 (Wan.un O O O O) O O ?_
  refine J.c6 (Wan.un O O O O) O O ?_
  refine J.c6 (Wan.un O O O O) O O ?_
  refine J.c6 (Wan.un O O O O) O O ?_
  refine J.c6 (Wan.un O O O O) O O ?_
  refine J.c6 (Wan.un O O O O) O O ?_
  exact J.k 3 O<|J.c j2<|J.A<|J.E hw0 O () (by first|rw [qNY xG]|rw [qFu xB xB]|rw [qDy xG xB]|(by_cases q:(s.getD 0 0).toNat=2;rw [qFu xB (.inr q),decide_eq_true xB];rw [qDy xG xB,decide_eq_false xB])) trivial [0] O xC
 refine J.b O<|J.D (qAs u9_ O O) O<|J.D (qAX O O O) O<|J.b O<|J.b9 (d:=9) O (λh9=>?_) (λh9=>?_)
 ·
  refine J.b O<|J.D (qBb (c:=s.getD 0 0) u9_ O O O (qAi 0 xE)) O<|J.D (qAX O O O) O<|J.b O<|J.b9 (d:=13) O (λh13=>?_) (λh13=>?_)
  ·
   exact J.k 7 O<|J.c j2<|J.A<|J.E hw0 O () (by first|rw [qNY xG]|rw [qFu xB xB]|rw [qDy xG xB]|(by_cases q:(s.getD 0 0).toNat=2;rw [qFu xB (.inr q),decide_eq_true xB];rw [qDy xG xB,decide_eq_false xB])) trivial [0] O xC
  exact J.b O<|J.D (qBb (c:=s.getD 0 0) u9_ O O O (qAi 0 xE)) O<|J.D (qAX O O O) O<|J.k 4 O<|J.c j2<|J.A<|J.E hw0 O () (by first|rw [qNY xG]|rw [qFu xB xB]|rw [qDy xG xB]|(by_cases q:(s.getD 0 0).toNat=2;rw [qFu xB (.inr q),decide_eq_true xB];rw [qDy xG xB,decide_eq_false xB])) trivial [0] O xC
 refine J.k 4 O<|J.c6 (Wan.un O O O O) O O ?_
 refine J.c6 (Wan.un O O O O) O O ?_
 refine J.c6 (Wan.un O O O O) O O ?_
 exact J.k 4 O<|J.c j2<|J.A<|J.E hw0 O () (by first|rw [qNY xG]|rw [qFu xB xB]|rw [qDy xG xB]|(by_cases q:(s.getD 0 0).toNat=2;rw [qFu xB (.inr q),decide_eq_true xB];rw [qDy xG xB,decide_eq_false xB])) trivial [0] O xC
theorem qMM(F:Hp)(A:Option Addr)(c:Nat)(bs:List xA)(hs:Sl F 1 A bs.length c (qAG bs))(th:Bool)(pk pv k:xA)(d:Nat)(hg:qHb bs th pk pv k d):Cz prog 97 [.agg #[.slice A bs.length c,.bool (th),Str (pk),Str (pv)],Str (k),I (d:Nat)] F (.bool true):=by
 have hle:=hg.le
 have hk16:=hg.k16
 refine Ct.walk func97 O ntmps97 O (λw0 hw0=>?_)
 refine J.g λ_ j1=>J.p (qAZ O O O) O λg3 _=>J.b O<|J.c j1<|J.g λ_ j2=>J.M 0 qCj qB1 O O O O O<|J.a7 1 qCC O O O O O<|J.f (qAR qAk O O) O<|J.b O<|J.c j2<|J.q λ_ j3=>J.g λ_ j4=>J.k 2 O<|J.p (qAa O O (λF' hF=>qGv F' k ((d:Nat):Int))) O λg16 _=>J.f ((qAt O O).as (v':= .bool false) (by rw [decide_eq_true (show k.length=16∧(0:Int)≤((d:Nat):Int)∧((d:Nat):Int)≤128 from⟨hk16,xB,xB⟩)];rfl)) O<|J.k 3 O<|J.D (qA3 O O O xE) O<|J.D ((qAz O O O).no xB) O<|J.b O<|J.c j4<|J.a2 ?_
 refine J.T j3<|J.q λ_ j5=>J.g λ_ j6=>J.M 0 qCj qB1 O O O O O<|J.a7 1 qCC O O O O O<|J.f (qAR qAk O O) O<|J.b O<|J.c j6<|J.V<|J.b6 (X:=Nat) (λζ=> [(1,Str (k)),(2,I (d:Nat)),(3,Ptr g3),(7,I (bs.length:Nat)),(25,.slice A bs.length c),(26,I (bs.length:Nat)),(27,I (ζ:Nat))]) (λζ=> [F,blk g3 [.slice A bs.length c,.bool (th),Str (pk),Str (pv)] 53]) (λζ=>ζ≤bs.length) (λζ=>bs.length-ζ) 0 (jG _) ⟨O,O,O,O,O,O,O,trivial⟩ (λ_ h=>h) ?_
 rintro i hi I0 hI0
 refine J.g λ_ j7=>J.f (qAS O O O) O<|J.c j7<|J.q λ_ j8=>J.a0 O (λh28=>?_) (λh28=>?_)
 ·
  refine J.T j8<|J.q λ_ j9=>J.V<|J.g λ_ j10=>J.f (qAF O O O qAk z9_ hs xE) O<|J.f (qAI O O b9_ (m:=F) xD (hs.elem (qAY (qAi [] xE)))) O<|J.b O<|J.c j10<|J.g λ_ j11=>J.b O<|J.p (qAa O O (λF' hF=>qNG F' (bs.getD i []))) O λg32 _=>J.f ((qAt O O).as (v':= .bool false) (by rw [hg.nodes i xB];rfl)) O<|J.c j11<|J.a2 ?_
  refine J.b5<|J.a3<|J.u (J.G j9 ?_)
  exact J.H<|J.f ((qAQ O O O xE).nat (i+1) xB) O<|J.b O<|J.a4<|J.u<|J.a5 (i+1) (λη (hη:_∧bs.length-η<bs.length-i)=>hI0 η hη.1 hη.2) ⟨xB,by first|omega|(dsimp only;omega)⟩ ⟨O,O,O,O,O,O,O,trivial⟩ (λ_ h=>h)
 refine J.b3<|J.a1<|J.a1<|J.b4 ?_
 refine J.u (J.G j5 ?_)
 refine J.q λ_ j12=>J.g λ_ j13=>J.b O<|J.f (qAz O O O) O<|J.c j13<|J.a0 O (λh36=>?_) (λh36=>?_)
 ·
  obtain ⟨hl1,hl2⟩:=hg.last xB
  refine J.g λ_ j14=>J.M 0 qCj qB1 O O O O O<|J.a7 1 qCC O O O O O<|J.b O<|J.f ((qA3 O O O xB).nat (bs.length-1) xB) O<|J.f (qAF O O O qAk z9_ hs xE) O<|J.f (qAI O O b9_ (m:=F) xD (hs.elem (qAY (qAi [] xE)))) O<|J.b O<|J.c j14<|J.g λ_ j15=>J.b O<|J.f ((qBA O O O).no (hl1)) O<|J.b O<|J.D (qAA O O qCj O z4_ O) O<|J.D (qAC 1 O O O b4_ O) O<|J.D (qAt O O) O<|J.b O<|J.e1 (d:=49) O (λh49=>?_) (λh49=>?_)
  ·
   refine J.b O ?_
   have hl3:=qUY (hl2 (by simpa using h49))
   refine J.D (qBb (c:=(bs.getD (bs.length-1) []).getD 0 0) u9_ O O O (qAi 0 xE)) O<|J.D ((qAe O O O).no (by have:=hl2 (by simpa using h49);omega)) O<|J.k 2 O<|J.c j15<|J.a2 ?_
   refine J.T j12<|J.q λ_ j16=>J.g λ_ j17=>J.M 1 qCj z4_ O O O O O<|J.a7 1 b4_ O O O O O<|J.f (qAt O O) O<|J.c j17<|J.c7 O (λh57=>?_) (λh57=>?_)
   ·
    exact J.g λ_ j18=>J.M 2 qCj z9_ O O O O O<|J.a7 1 b9_ O O O O O<|J.f ((qBA O O O).yes ((hg.no (by simpa using h57)).1)) O<|J.b O<|J.D (qAA O O qCj O z9_ O) O<|J.D (qAC 1 O O O b9_ O) O<|J.D ((qBA O O O).yes ((hg.no (by simpa using h57)).2)) O<|J.k 2 O<|J.c j18<|J.A<|J.W<|J.E hw0 O () (by first|rfl|(rw [jP,je xB,(hg.yes (by simpa using h57)).2])) trivial [0] O xC
   refine J.T j16<|J.g λ_ j19=>J.M 2 qCj z9_ O O O O O<|J.a7 1 b9_ O O O O O<|J.f (qAs u9_ O O) O<|J.f ((qAX O O O).yes (by have:=(hg.yes (by simpa using h57)).1;omega)) O<|J.b O<|J.D (qAA O O qCj O z9_ O) O<|J.D (qAC 1 O O O b9_ O) O<|J.k 3 O<|J.D ((qAQ O O O xE).nat (d+bs.length) xB) O ?_
   have hpl:=(hg.yes (by simpa using h57)).1
   exact J.c8 (qAa O O (λF' hF=>qES F' pk xB k xB ((d+bs.length:Nat):Int))) O λg77 _=>J.k 2 O<|J.c j19<|J.A<|J.E hw0 O () (by first|rfl|(rw [jP,je xB,(hg.yes (by simpa using h57)).2])) trivial [0] O xC
  refine J.k 5 O<|J.c j15<|J.a2 ?_
  refine J.T j12<|J.q λ_ j20=>J.g λ_ j21=>J.M 1 qCj z4_ O O O O O<|J.a7 1 b4_ O O O O O<|J.f (qAt O O) O<|J.c j21<|J.c7 O (λh57=>?_) (λh57=>?_)
  ·
   exact J.g λ_ j22=>J.M 2 qCj z9_ O O O O O<|J.a7 1 b9_ O O O O O<|J.f ((qBA O O O).yes ((hg.no (by simpa using h57)).1)) O<|J.b O<|J.D (qAA O O qCj O z9_ O) O<|J.D (qAC 1 O O O b9_ O) O<|J.D ((qBA O O O).yes ((hg.no (by simpa using h57)).2)) O<|J.k 2 O<|J.c j22<|J.A<|J.W<|J.E hw0 O () (by first|rfl|(rw [jP,je xB,(hg.yes (by simpa using h57)).2])) trivial [0] O xC
  refine J.T j20<|J.g λ_ j23=>J.M 2 qCj z9_ O O O O O<|J.a7 1 b9_ O O O O O<|J.f (qAs u9_ O O) O<|J.f ((qAX O O O).yes (by have:=(hg.yes (by simpa using h57)).1;omega)) O<|J.b O<|J.D (qAA O O qCj O z9_ O) O<|J.D (qAC 1 O O O b9_ O) O<|J.k 3 O<|J.D ((qAQ O O O xE).nat (d+bs.length) xB) O ?_
  have hpl:=(hg.yes (by simpa using h57)).1
  exact J.c8 (qAa O O (λF' hF=>qES F' pk xB k xB ((d+bs.length:Nat):Int))) O λg77 _=>J.k 2 O<|J.c j23<|J.A<|J.E hw0 O () (by first|rfl|(rw [jP,je xB,(hg.yes (by simpa using h57)).2])) trivial [0] O xC
 refine J.T j12<|J.q λ_ j24=>J.g λ_ j25=>J.M 1 qCj z4_ O O O O O<|J.a7 1 b4_ O O O O O<|J.f (qAt O O) O<|J.c j25<|J.c7 O (λh57=>?_) (λh57=>?_)
 ·
  exact J.g λ_ j26=>J.M 2 qCj z9_ O O O O O<|J.a7 1 b9_ O O O O O<|J.f ((qBA O O O).yes ((hg.no (by simpa using h57)).1)) O<|J.b O<|J.D (qAA O O qCj O z9_ O) O<|J.D (qAC 1 O O O b9_ O) O<|J.D ((qBA O O O).yes ((hg.no (by simpa using h57)).2)) O<|J.k 2 O<|J.c j26<|J.A<|J.W<|J.E hw0 O () (by first|rfl|(rw [jP,je xB,(hg.yes (by simpa using h57)).2])) trivial [0] O xC
 refine J.T j24<|J.g λ_ j27=>J.M 2 qCj z9_ O O O O O<|J.a7 1 b9_ O O O O O<|J.f (qAs u9_ O O) O<|J.f ((qAX O O O).yes (by have:=(hg.yes (by simpa using h57)).1;omega)) O<|J.b O<|J.D (qAA O O qCj O z9_ O) O<|J.D (qAC 1 O O O b9_ O) O<|J.k 3 O<|J.D ((qAQ O O O xE).nat (d+bs.length) xB) O ?_
 have hpl:=(hg.yes (by simpa using h57)).1
 exact J.c8 (qAa O O (λF' hF=>qES F' pk xB k xB ((d+bs.length:Nat):Int))) O λg77 _=>J.k 2 O<|J.c j27<|J.A<|J.E hw0 O () (by first|rfl|(rw [jP,je xB,(hg.yes (by simpa using h57)).2])) trivial [0] O xC
theorem qVD(F:Hp)(B:Option Addr)(n e:Nat):Ct prog 195 [.slice B n e] [F] (λx:Nat=> .func (.func 220) #[] #[Ptr x]) (λ_=>True) (λx=> [F,blk x [.slice B n e] 32]):=by
 refine Ct.walk func195 O ntmps195 O (λw0 hw0=>?_)
 exact J.g λ_ j1=>J.p (qAZ O O O) O λg1 _=>J.b O<|J.c j1<|J.g λ_ j2=>J.f (qBk O O) O<|J.b O<|J.c j2<|J.A<|J.E hw0 O g1 O trivial [0,1] O xC
theorem qSf(Fr:Hp)(gB:Nat)(B:Option Addr)(W:List xA)(e:Nat)(hn2:W.length≤1073741824)(ha:qAM Fr ⟨gB,0,none⟩ [.slice B W.length e])(hs:Sl Fr 1 B W.length e (qAG W)):
    qJi prog 220 [Ptr gB] Fr (λi=> [I (W.length-1-i:Nat),Str (W.getD (W.length-1-i) [])]) W.length:=by
  refine qJi.walk func220 O ntmps220 O (λ{X} M IY S l x0 w0 hw0 h0 hY=>?_)
  refine J.g λ_ j1=>J.f (qAI O O qCC (m:=Fr) xD (ha)) O<|J.f (qAR qAk O O) O<|J.f ((qA3 O O O xB).as (v':=I ((W.length:Int)-1-((0:Nat):Int))) (congrArg I xB)) O<|J.b O<|J.c j1<|J.V<|J.b6 (X:=Nat×X) (λy=> [(0,.func (.yield l) #[] #[]),(1,Ptr gB),(3,I ((W.length:Int)-1-(y.1:Int)))]) (λy=> [Fr,M y.2]) (λy=>y.1≤W.length∧IY y.1 y.2) (λy=>W.length-y.1) (0,x0) (⟨jG _,h0⟩) ⟨O,O,O,trivial⟩ (λ_ h=>h) ?_
  rintro⟨i,x⟩ ⟨hi,hI⟩ I0 hI0
  dsimp only at hi hI⊢
  refine J.q λ_ j2=>J.g λ_ j3=>J.b O<|J.f (qBL O O O) O<|J.c j3<|J.a0 O (λh8=>?_) (λh8=>?_)
  ·
    refine J.T j2<|J.q λ_ j4=>J.V<|J.q λ_ j5=>J.f6 ?_
    refine J.c9 (qA2 O O) O O O ?_
    refine J.c9 ((qA2 O O).nat (W.length-1-i) xB) O O O ?_
    refine J.c9 (qAI O O qCC (m:=Fr) xD (ha)) O O O ?_
    refine J.c9 ((qA2 O O).nat (W.length-1-i) xB) O O O ?_
    refine J.c9 (qAF O O O qAk z9_ hs xE) O O O ?_
    refine J.c9 (qAI O O b9_ (m:=Fr) xD (hs.elem (qAY (qAi [] xE)))) O O O ?_
    refine J.f7 (ex:= []) O O O O O O (hY i x xB hI) ?_
    rintro x' b hb1 hb2
    cases b
    ·
      have hyb:=hb2 O
      refine J.c9 (qAt O O) O O O ?_
      refine J.e3 ?_
      refine J.u (J.G j5 ?_)
      refine J.c3 ?_
      exact J.A<|J.a8<|J.W<|J.W<|J.a8<|J.b0 hw0 (λ_ _ h=>h) (qJn O) (λw hs=>⟨x',⟨_,O⟩,.inr hyb,hs⟩)
    have hyb:=hb1 O
    refine J.c9 (qAt O O) O O O ?_
    refine J.e3 ?_
    refine J.u (J.G j5 ?_)
    refine J.a2 ?_
    refine J.b5<|J.a3<|J.u (J.G j4 ?_)
    exact J.H<|J.b O<|J.f ((qA3 O O O xB).as (v':=I ((W.length:Int)-1-((i+1:Nat):Int))) (congrArg I xB)) O<|J.b O<|J.a4<|J.u<|J.a5 (i+1,x') (λy (hy:_∧W.length-y.1<W.length-i)=>hI0 y hy.1 hy.2) ⟨⟨by dsimp only;omega,hyb⟩,by dsimp only;omega⟩ ⟨O,O,O,trivial⟩ (λ_ h=>h)
  refine J.b3<|J.a1<|J.a1<|J.b4 ?_
  exact J.d8 hw0 (λ_ _ h=>h) (qJn O) (λw hs=>⟨x,⟨_,O⟩,.inl (by rw [show W.length=i by omega];exact hI),hs⟩)
theorem qKO(F:Hp)(hK:KF F)(A:Option Addr)(c:Nat)(bs:List xA)(hs:Sl F 1 A bs.length c (qAG bs))(th:Bool)(pk pv xx k:xA)(d:Nat)(hle:d+bs.length≤128)(hk16:k.length=16)(hsm: ∀s∈bs,s.length≤17)(hx:xx.length≤17):
    Cz prog 158 [.agg #[.slice A bs.length c,.bool (th),Str (pk),Str (pv)],Str xx,Str k,I (d:Nat)] F (Str (clm k d bs xx bs.length)):=by
  refine Ct.walk func158 O ntmps158 O (λw0 hw0=>?_)
  refine J.g λ_ j1=>J.p (qAZ O O O) O λg4 _=>J.p (qAZ O O O) O λg5 _=>J.p (qAZ O O O) O λg6 _=>J.p (qAZ O O O) O λg7 _=>J.b O<|J.c j1<|J.q λ_ j2=>J.g λ_ j3=>J.M 0 qCj qB1 O O O O O<|J.a7 1 qCC O O O O O<|J.p (qBr O O (λF' _=>qVD F' A bs.length c)) O ?_
  rintro gB _
  refine J.c j3<|J.V<|J.c5 [2,0,1,3,4,5] [blk g5 [Str (xx)] 9,F,blk g4 [.slice A bs.length c,.bool (th),Str (pk),Str (pv)] 53,blk g6 [Str (k)] 9,blk g7 [I (d:Nat)] 3,blk gB [.slice A bs.length c] 32] O xC<|J.f9 (λx:xA=> [blk g5 [Str (x)] 9]) [F,blk g4 [.slice A bs.length c,.bool (th),Str (pk),Str (pv)] 53,blk g6 [Str (k)] 9,blk g7 [I (d:Nat)] 3,blk gB [.slice A bs.length c] 32] (λi x=>x=clm k d bs xx i) (λ_ _=>False) xx O ent (λFr hF=>qSf Fr gB A bs c xB (qAM.blk0.mono (hF (blk gB [.slice A bs.length c] 32) xD)) (hs.mono (Fa hF))) (λ_ _=>rfl) O (O) ?_ ?_ ?_
  ·
    intro i x l wa wb hi hI K4 Post4 j4 hN4 hR4 hE4
    subst hI
    obtain ⟨y,hy⟩: ∃y,y=clm k d bs xx i:=⟨_,rfl⟩
    obtain ⟨s,hsd⟩: ∃s,s=bs.getD (bs.length-1-i) []:=⟨_,rfl⟩
    have hyl:y.length≤17:=by rw [hy];exact qK6 hsm hx i
    have hsl:s.length≤17:=by rw [hsd,jB,jC (show bs.length-1-i<bs.length by omega)];exact hsm _ (ja _)
    rw [←hy,←hsd]
    refine J.f4 (λ_ j5=>?_)
    refine J.d9 ?_
    refine J.b O<|J.e0 ?_
    refine J.u (J.G j5 ?_)
    refine J.d9 ?_
    refine J.b O<|J.e0 ?_
    refine J.u (j4 _ _ ?_)
    refine J.f5 ?_
    refine J.f4 (λ_ j6=>?_)
    refine J.d9 ?_
    refine J.a7 3 b9_ O O O O O<|J.a7 4 b3_ O O O O O<|J.b O<|J.f ((qAQ O O O xB).nat (d+(bs.length-1-i)) xB) O<|J.p (qAa O O (λF' hF=>qLD F' k xB (d+(bs.length-1-i)) xB)) O λg20 _=>J.f (qAX O O O) O<|J.e0 ?_
    refine J.u (J.G j6 ?_)
    refine J.g5 O (λh21=>?_) (λh21=>?_)
    ·
      refine J.d9 ?_
      refine J.a7 0 b9_ O O O O O<|J.b O<|J.p (qAa O O (λF' hF=>qF8 F' (hK.mo hF) y s xB xB)) O λg24 _=>J.a6 (qAD (l:= [Str (y)]) (i:=0) (vs:= [Str (Sb.join y s)]) O O O O O z9_ O O) O O λ_ _=>J.e0 ?_
      refine J.a3 ?_
      exact hN4 _ (Sb.join y s) (by rw [clm,up,if_pos xB,←hy,←hsd])
    refine J.d9 ?_
    refine J.b O<|J.a7 0 b9_ O O O O O<|J.p (qAa O O (λF' hF=>qF8 F' (hK.mo hF) s y xB xB)) O λg27 _=>J.a6 (qAD (l:= [Str (y)]) (i:=0) (vs:= [Str (Sb.join s y)]) O O O O O z9_ O O) O O λ_ _=>J.e0 ?_
    refine J.a3 ?_
    exact hN4 _ (Sb.join s y) (by rw [clm,up,if_neg xB,←hy,←hsd])
  ·
    intro w4 x hx4 hI
    subst hI
    refine J.a3<|J.u (J.G j2 ?_)
    exact J.g λ_ j7=>J.a7 0 b9_ O O O O O<|J.b O<|J.c j7<|J.A<|J.e9 hw0 hx4 (λ_ _ h=>h) (qKI O O) (qAn () O trivial [1] O xC)
  intro w4 x c hx4 hS
  exact hS.elim
def qFq(bs:List xA)(th:Bool)(pk pv k:xA)(d:Nat):xA:=clm k d bs (if th=true then Sb.leafN pk pv else [0]) bs.length
def qNs(bs:List xA)(th:Bool)(pk pv nd k v:xA)(d:Nat):Bool:=th&&(decide (pk=k)&&(decide (pv=v)&&decide (qFq bs th pk pv k d=nd)))
def qFD(bs:List xA)(th:Bool)(pk pv nd k:xA)(d:Nat):Bool:=(!th||decide (pk≠k))&&decide (qFq bs th pk pv k d=nd)
theorem qNi(k v:xA):(Sb.leafN k v).length≤17:=by unfold Sb.leafN;rw [jD,Sha.tagged_length];exact jK _
theorem qEK(F:Hp)(hK:KF F)(A:Option Addr)(c:Nat)(bs:List xA)(hs:Sl F 1 A bs.length c (qAG bs))(th:Bool)(pk pv k:xA)(d:Nat)(hg:qHb bs th pk pv k d)(hpv:pv.length≤1000000):Cz prog 98 [.agg #[.slice A bs.length c,.bool (th),Str (pk),Str (pv)],Str (k),I (d:Nat)] F (Str (qFq bs th pk pv k d)):=by
 have hle:=hg.le
 have hk16:=hg.k16
 have hsm:=hg.small
 refine Ct.walk func98 O ntmps98 O (λw0 hw0=>?_)
 refine J.g λ_ j1=>J.p (qAZ O O O) O λg3 _=>J.b O<|J.c j1 ?_
 refine J.q λ_ j2=>J.g λ_ j3=>J.b8 1 qEb qB9 O O O O O<|J.k 2 O<|J.p (qAa O O (λF' hF=>qMM F' A c bs (hs.mono (Fa hF)) th pk pv k d xG)) O λg11 _=>J.f (qAt O O) O<|J.c j3 ?_
 refine J.a2 ?_
 refine J.T j2 ?_
 refine J.g λ_ j4=>J.b O<|J.c j4 ?_
 refine J.q λ_ j5=>J.g λ_ j6=>J.M 1 qCj z4_ O O O O O<|J.a7 1 b4_ O O O O O<|J.c j6 ?_
 refine J.c7 O (λh14=>?_) (λh14=>?_)
 ·
  have hpl:=(hg.yes h14).1
  refine J.H<|J.M 2 qCj z9_ O O O O O<|J.a7 1 b9_ O O O O O<|J.M 3 qCj z9_ O O O O O<|J.a7 1 b9_ O O O O O<|J.p (qAa O O (λF' hF=>qM4 F' (hK.mo hF) pk pv (by first|omega|exact jm O) (by first|omega|exact jm O))) O λg19 _=>J.b O<|J.c j5 ?_
  refine J.g λ_ j7=>J.b8 1 qEb qB9 O O O O O<|J.k 3 O<|J.p (qAa O O (λF' hF=>qKO F' (hK.mo hF) A c bs (hs.mono (Fa hF)) th pk pv (Sb.leafN pk pv) k d xG xG xG (by first|assumption|exact qNi _ _|exact jm O))) O λg24 _=>J.b O<|J.c j7 ?_
  exact J.A<|J.E hw0 O () (by unfold qFq;first|rw [if_pos xG]|rw [if_neg (by simp [*])]) trivial [0] O xC
 refine J.T j5 ?_
 refine J.g λ_ j8=>J.b8 1 qEb qB9 O O O O O<|J.k 3 O<|J.p (qAa O O (λF' hF=>qKO F' (hK.mo hF) A c bs (hs.mono (Fa hF)) th pk pv ([0]) k d xG xG xG (by first|assumption|exact qNi _ _|exact jm O))) O λg24 _=>J.b O<|J.c j8 ?_
 exact J.A<|J.E hw0 O () (by unfold qFq;first|rw [if_pos xG]|rw [if_neg (by simp [*])]) trivial [0] O xC
theorem qNt(F:Hp)(hK:KF F)(A:Option Addr)(c:Nat)(bs:List xA)(hs:Sl F 1 A bs.length c (qAG bs))(th:Bool)(pk pv k:xA)(d:Nat)(hg:qHb bs th pk pv k d)(nd v:xA)(hpv:pv.length≤1000000):Cz prog 44 [.agg #[.slice A bs.length c,.bool (th),Str (pk),Str (pv)],Str (nd),Str (k),Str (v),I (d:Nat)] F (.bool (qNs bs th pk pv nd k v d)):=by
 have hle:=hg.le
 have hk16:=hg.k16
 have hsm:=hg.small
 refine Ct.walk func44 O ntmps44 O (λw0 hw0=>?_)
 refine J.g λ_ j1=>J.p (qAZ O O O) O λg5 _=>J.b O<|J.c j1 ?_
 refine J.g λ_ j2=>J.b8 1 qEb qB9 O O O O O<|J.k 2 O<|J.p (qAa O O (λF' hF=>qMM F' A c bs (hs.mono (Fa hF)) th pk pv k d xG)) O λg14 _=>J.b O<|J.D (qAA O O qCj O z4_ O) O<|J.D (qAC 1 O O O b4_ O) O<|J.k 2 O<|J.e1 (d:=19) O (λh19=>?_) (λh19=>?_)
 ·
  refine J.D (qAA O O qCj O z9_ O) O<|J.D (qAC 1 O O O b9_ O) O<|J.b O<|J.D (qBA O O O) O<|J.k 2 O<|J.b9 (d:=25) O (λh25=>?_) (λh25=>?_)
  ·
   refine J.D (qAA O O qCj O z9_ O) O<|J.D (qAC 1 O O O b9_ O) O<|J.b O<|J.D (qBA O O O) O<|J.k 2 O<|J.b9 (d:=31) O (λh31=>?_) (λh31=>?_)
   ·
    refine J.D (qAW 1 O O O qEb qB9 O) O<|J.k 2 O<|J.c8 (qAa O O (λF' hF=>qEK F' (hK.mo hF) A c bs (hs.mono (Fa hF)) th pk pv k d xG xG)) O λg35 _=>J.b O<|J.D (qBA O O O) O<|J.k 2 O<|J.c j2 ?_
    exact J.A<|J.E hw0 O () (by unfold qNs;simp [*]) trivial [0] O xC
   refine J.k 8 O<|J.c j2 ?_
   exact J.A<|J.E hw0 O () (by unfold qNs;simp [*]) trivial [0] O xC
  refine J.k 14 O<|J.c j2 ?_
  exact J.A<|J.E hw0 O () (by unfold qNs;simp [*]) trivial [0] O xC
 refine J.k 20 O<|J.c j2 ?_
 exact J.A<|J.E hw0 O () (by unfold qNs;simp [*]) trivial [0] O xC
theorem qPC(F:Hp)(hK:KF F)(A:Option Addr)(c:Nat)(bs:List xA)(hs:Sl F 1 A bs.length c (qAG bs))(th:Bool)(pk pv k:xA)(d:Nat)(hg:qHb bs th pk pv k d)(nd:xA)(hpv:pv.length≤1000000):Cz prog 42 [.agg #[.slice A bs.length c,.bool (th),Str (pk),Str (pv)],Str (nd),Str (k),I (d:Nat)] F (.bool (qFD bs th pk pv nd k d)):=by
 have hle:=hg.le
 have hk16:=hg.k16
 have hsm:=hg.small
 refine Ct.walk func42 O ntmps42 O (λw0 hw0=>?_)
 refine J.g λ_ j1=>J.p (qAZ O O O) O λg4 _=>J.b O<|J.c j1 ?_
 refine J.g λ_ j2=>J.b8 1 qEb qB9 O O O O O<|J.k 2 O<|J.p (qAa O O (λF' hF=>qMM F' A c bs (hs.mono (Fa hF)) th pk pv k d xG)) O λg12 _=>J.b O<|J.D (qAA O O qCj O z4_ O) O<|J.D (qAC 1 O O O b4_ O) O<|J.D (qAt O O) O<|J.b O<|J.e1 (d:=17) O (λh17=>?_) (λh17=>?_)
 ·
  refine J.k 7 O<|J.D (qAW 1 O O O qEb qB9 O) O<|J.k 2 O<|J.c8 (qAa O O (λF' hF=>qEK F' (hK.mo hF) A c bs (hs.mono (Fa hF)) th pk pv k d xG xG)) O λg28 _=>J.b O<|J.D (qBA O O O) O<|J.k 2 O<|J.c j2 ?_
  exact J.A<|J.E hw0 O () (by unfold qFD;simp [*]) trivial [0] O xC
 refine J.D (qAA O O qCj O z9_ O) O<|J.D (qAC 1 O O O b9_ O) O<|J.b O<|J.D (qDv O O O) O<|J.k 3 O<|J.b9 (d:=24) O (λh24=>?_) (λh24=>?_)
 ·
  refine J.D (qAW 1 O O O qEb qB9 O) O<|J.k 2 O<|J.c8 (qAa O O (λF' hF=>qEK F' (hK.mo hF) A c bs (hs.mono (Fa hF)) th pk pv k d xG xG)) O λg28 _=>J.b O<|J.D (qBA O O O) O<|J.k 2 O<|J.c j2 ?_
  exact J.A<|J.E hw0 O () (by unfold qFD;simp [*]) trivial [0] O xC
 refine J.k 8 O<|J.c j2 ?_
 exact J.A<|J.E hw0 O () (by unfold qFD;simp [*]) trivial [0] O xC
theorem qKa(F:Hp)(k:xA)(hk:k.length≤1000000)(pb pd:Nat)(b:xA)(d:Int)(hpb:qAM F ⟨pb,0,none⟩ [Str b])(hpd:qAM F ⟨pd,0,none⟩ [I d])(hb:b.length≤1000000):Cz prog 91 [Str (k),Ptr pb,Ptr pd] F (.bool (nbl b d k)):=by
 refine Ct.walk func91 O ntmps91 O (λw0 hw0=>?_)
 refine J.g λ_ j1=>J.b O<|J.c j1 ?_
 refine J.g λ_ j2=>J.b O<|J.f (qAI O O b9_ (m:=F) xD (hpb)) O<|J.f (qAI O O b3_ (m:=F) xD (hpd)) O<|J.p (qAa O O (λF' hF=>qES F' k xB b xB d)) O λg8 _=>J.f (qAt O O) O<|J.b O<|J.c j2 ?_
 exact J.A<|J.E hw0 O () (by unfold nbl;rfl) trivial [0] O xC
theorem qTe(F:Hp)(A:Option Addr)(n c:Nat)(ks:List xA)(hs:Sl F 1 A n c (qAG ks))(hn:n≤1000000)(hsm: ∀k:Nat,(ks.getD k []).length≤1000000)(pb pd:Nat)(b:xA)(d:Int)(hpb:qAM F ⟨pb,0,none⟩ [Str b])(hpd:qAM F ⟨pd,0,none⟩ [I d])(hb:b.length≤1000000):Cz prog 150 [.slice A n c,.func (.func 91) #[] #[Ptr pb,Ptr pd]] F (I (ixS (nbl b d) ks)):=by
 have hkn:ks.length=n:=by have:=hs.1;simpa [qAG] using this
 refine Ct.walk func150 O ntmps150 O (λw0 hw0=>?_)
 refine J.g λ_ j1=>J.b O<|J.c j1 ?_
 refine J.q λ_ j2=>J.g λ_ j3=>J.b O<|J.f (qAR qAk O O) O<|J.b O<|J.c j3 ?_
 refine J.V<|J.b6 (X:=Nat) (λζ=> [(0,.slice A n c),(1,.func (.func 91) #[] #[Ptr pb,Ptr pd]),(7,I (n:Nat)),(8,I (ζ:Nat))]) (λζ=> [F]) (λζ=>ζ≤n∧ ∀j<ζ,nbl b d (ks.getD j [])=false) (λζ=>n-ζ) 0 (⟨jG _,λj h=>absurd h (jy j)⟩) ⟨O,O,O,O,trivial⟩ (λ_ h=>h) ?_
 rintro k ⟨hk,hno⟩ I0 hI0
 refine J.g λ_ j4=>J.f (qAS O O O) O<|J.c j4 ?_
 refine J.q λ_ j5=>J.a0 O (λh9=>?_) (λh9=>?_)
 ·
  refine J.T j5 ?_
  refine J.q λ_ j6=>J.V<|J.g λ_ j7=>J.k 2 O<|J.c j7 ?_
  refine J.g λ_ j8=>J.k 3 O<|J.f (qAF O O O qAk z9_ hs xB) O<|J.f (qAI O O b9_ (m:=F) xD (hs.elem (qAY (qAi [] xB)))) O<|J.p (qDV O O O ent (Ct.use0 (λF' hF=>qKa F' (ks.getD k []) (by first|omega|(exact hsm _)) pb pd b d (hpb.mono (Fa hF)) (hpd.mono (Fa hF)) xB))) O λg16 _=>J.c j8 ?_
  refine J.c7 O (λh16=>?_) (λh16=>?_)
  ·
   refine J.g λ_ j9=>J.k 2 O<|J.c j9 ?_
   exact J.A<|J.a8<|J.W<|J.W<|J.a8<|J.W<|J.E hw0 O () (by rw [qV5 (k:=k) xB (by simpa using h16) hno]) trivial [0] O xC
  refine J.b5<|J.a3<|J.u (J.G j6 ?_)
  exact J.H<|J.f ((qAQ O O O xB).nat (k+1) xB) O<|J.b O<|J.a4<|J.u<|J.a5 (k+1) (λη (hη:_∧n-η<n-k)=>hI0 η hη.1 hη.2) ⟨⟨xB,λj hj=>by rcases Nat.lt_succ_iff_lt_or_eq.1 hj with h|rfl;exact hno j h;simpa using h16⟩,by first|omega|(dsimp only;omega)⟩ ⟨O,O,O,O,trivial⟩ (λ_ h=>h)
 refine J.b3<|J.a1<|J.a1<|J.b4 ?_
 refine J.u (J.G j2 ?_)
 refine J.g λ_ j10=>J.b O<|J.c j10 ?_
 exact J.A<|J.E hw0 O () (by rw [qV3 (λj hj=>hno j xB)]) trivial [0] O xC
theorem qTi(F m:Hp)(A:Option Addr)(n c:Nat)(ks:List xA)(hr:Row m 9 1 A n c (qAG ks))(hn:n≤1000000)(hsm: ∀k:Nat,(ks.getD k []).length≤1000000)(pb pd:Nat)(b:xA)(d:Int)(hpb:qAM F ⟨pb,0,none⟩ [Str b])(hpd:qAM F ⟨pd,0,none⟩ [I d])(hb:b.length≤1000000):
    Ct prog 90 [.slice A n c,.func (.func 91) #[] #[Ptr pb,Ptr pd]] [m,F] (λ_:Hp=> .slice A (ks.filter λk=>!nbl b d k).length c) (λm'=>Row m' 9 1 A (ks.filter λk=>!nbl b d k).length c (qAG (ks.filter λk=>!nbl b d k))) (λm'=> [m',F]):=by
  have hkn:ks.length=n:=by have:=hr.len;simpa [qAG] using this
  have hnc:=hr.2.2.1
  refine Ct.walk func90 O ntmps90 O (λw0 hw0=>?_)
  change J _ [(0,_),(1,_)] _ _ _
  refine J.g λ_ j1=>J.b O<|J.c j1 ?_
  refine J.g λ_ j2=>J.k 2 O<|J.p (qAa O O (λF' hF=>qTe F' A n c ks (hr.sl.mono (Fa hF)) xB (hsm) pb pd b d (hpb.mono (Fa hF)) (hpd.mono (Fa hF)) xB)) O λg10 _=>J.b O<|J.c j2 ?_
  refine J.q λ_ j3=>J.g λ_ j4=>J.b O<|J.f (qAX O O O) O<|J.c j4 ?_
  refine J.a0 O (λh12=>?_) (λh12=>?_)
  ·
    refine J.g λ_ j5=>J.k 2 O<|J.c j5 ?_
    refine J.A<|J.W ?_
    have hf:(ks.filter λk=>!nbl b d k)=ks:=qNo h12
    exact J.E hw0 O m (by rw [hf,hkn]) (by rw [hf,hkn];exact hr) [0,1] O xC
  refine J.T j3 ?_
  refine J.q λ_ j6=>J.q λ_ j7=>?_
  obtain ⟨i0,h5,hi0,hf0⟩:=qV4 h12
  obtain ⟨ga,rfl⟩:=hr.at xB
  rw [h5]
  refine J.H<|J.b O<|J.f ((qAQ O O O xB).nat (i0+1) xB) O<|J.b O<|J.c j7 ?_
  refine J.V<|J.b6 (X:=Nat×Nat×List xA×Hp) (λζ=> [(0,.slice (some ⟨ga,0,none⟩) n c),(1,.func (.func 91) #[] #[Ptr pb,Ptr pd]),(5,I (ζ.1:Nat)),(6,I (ζ.2.1:Nat))]) (λζ=> [ζ.2.2.2,F]) (λζ=>ζ.1<ζ.2.1∧ζ.2.1≤n∧ζ.2.2.1.length=n∧ζ.2.2.1.take ζ.1=(ks.take ζ.2.1).filter (λk=>!nbl b d k)∧ζ.2.2.1.drop ζ.2.1=ks.drop ζ.2.1∧Row ζ.2.2.2 9 1 (some ⟨ga,0,none⟩) n c (qAG ζ.2.2.1)) (λζ=>n-ζ.2.1) (i0,i0+1,ks,m) (⟨by dsimp only;omega,by dsimp only;omega,hkn,hf0,O,hr⟩) ⟨O,O,O,O,trivial⟩ (λ_ h=>h) ?_
  rintro⟨w,j,L,m⟩ ⟨hw,hj,hL,hA,hB,hr⟩ I0 hI0
  dsimp only at hw hj hL hA hB hr⊢
  refine J.q λ_ j8=>J.g λ_ j9=>J.k 2 O<|J.f (qAR qAk O O) O<|J.f (qAS O O O) O<|J.c j9 ?_
  refine J.a0 O (λh19=>?_) (λh19=>?_)
  ·
    refine J.T j8 ?_
    refine J.q λ_ j10=>J.V<|J.g λ_ j11=>J.k 2 O<|J.f (qAj (i:=j) (j:=0+j*1) O O O qAk z9_ xB xB) O ?_
    have hnw:w<j:=hw
    refine J.f (qAI O O b9_ (m:=m) xD (hr.sl.cells (qAY (qAi [] xB)))) O<|J.b O<|J.c j11 ?_
    refine J.q λ_ j12=>?_
    have hgj:(L.getD j []).length≤1000000:=by
      have e0:=congrArg (λz=>z.getD 0 []) hB
      have e1:L.getD j []=ks.getD j []:=by simpa [jB,jv] using e0
      rw [e1];exact hsm j
    refine J.H<|J.k 2 O<|J.p (qDV O O O ent (Ct.use0 (λF' hF=>qKa F' (L.getD j []) (by first|omega|(exact hsm _)) pb pd b d (hpb.mono (Fa hF)) (hpd.mono (Fa hF)) xB))) O λg28 _=>J.f (qAt O O) O<|J.c j12 ?_
    refine J.c7 O (λh29=>?_) (λh29=>?_)
    ·
      refine J.g λ_ j13=>J.k 3 O<|J.f (qAj (i:=w) (j:=0+w*1) O O O qAk z9_ xB xB) O<|J.a6 (qBK (i:=0) (k:=w) (off:=0) (b:= [Str (L.getD j [])]) O O O O hr (vs:= [Str (L.getD j [])]) O z9_ O xB (qAY (qAi [] xB)) O (jK _)) O O ?_
      rintro m9_1 hm9_1
      rw [qDq] at hm9_1
      refine J.c j13 ?_
      refine J.H<|J.b O<|J.f ((qAQ O O O xB).nat (w+1) xB) O<|J.b O<|J.a4<|J.a3<|J.u (J.G j10 ?_)
      exact J.H<|J.b O<|J.f ((qAQ O O O xB).nat (j+1) xB) O<|J.b O<|J.a4<|J.u<|J.a5 (w+1,j+1,L.set w (L.getD j []),m9_1) (λη (hη:_∧n-η.2.1<n-j)=>hI0 η hη.1 hη.2) ⟨⟨by dsimp only;omega,by dsimp only;omega,by dsimp only;rw [jo];exact hL,(qGL hw xB xB hA hB (by simpa using h29)).1,(qGL hw xB xB hA hB (by simpa using h29)).2,by assumption⟩,by first|omega|(dsimp only;omega)⟩ ⟨O,O,O,O,trivial⟩ (λ_ h=>h)
    refine J.b5<|J.a3<|J.u (J.G j10 ?_)
    exact J.H<|J.b O<|J.f ((qAQ O O O xB).nat (j+1) xB) O<|J.b O<|J.a4<|J.u<|J.a5 (w,j+1,L,m) (λη (hη:_∧n-η.2.1<n-j)=>hI0 η hη.1 hη.2) ⟨⟨by dsimp only;omega,by dsimp only;omega,hL,(qGM xB hA hB (by simpa using h29)).1,(qGM xB hA hB (by simpa using h29)).2,hr⟩,by first|omega|(dsimp only;omega)⟩ ⟨O,O,O,O,trivial⟩ (λ_ h=>h)
  refine J.b3<|J.a1<|J.a1<|J.b4 ?_
  refine J.u (J.G j6 ?_)
  refine J.g λ_ j14=>J.k 2 O<|J.f (qDT O O qAk z9_ O O xB) O<|J.a6 (qE9 (i:=0) (l:=w) (h:=n) O O (by split<;>simp [Addr.add_lit]) qAk el9 O O O (hr.shrink xB) O xB xB) O O ?_
  rintro mc hmc
  refine J.c j14 ?_
  refine J.g λ_ j15=>J.k 2 O<|J.f (qEL O O qAk z9_ O xB) O<|J.b O<|J.c j15 ?_
  refine J.A ?_
  have hfl:(ks.filter λk=>!nbl b d k)=L.take w:=by rw [hA,jf xB]
  have hfw:(ks.filter λk=>!nbl b d k).length=w:=by rw [hfl,jF];omega
  rw [qED,←hfl] at hmc
  exact J.E hw0 O mc (by rw [hfw]) (by rw [hfw];exact hmc) [0,1] O xC
theorem qJc(F:Hp)(A:Option Addr)(n c:Nat)(ks:List xA)(hs:Sl F 1 A n c (qAG ks))(hn:n≤1000000):Ct prog 31 [.slice A n c] [F] (λx:Option Addr×Nat×Hp=> .slice x.1 (ks).length x.2.1) (λx=>Row x.2.2 9 1 x.1 (ks).length x.2.1 (qAG ks)) (λx=> [F,x.2.2]):=by
 have hkn:ks.length=n:=by have:=hs.1;simpa [qAG] using this
 refine Ct.walk func31 O ntmps31 O (λw0 hw0=>?_)
 refine J.g λ_ j1=>J.b O<|J.c j1 ?_
 refine J.q λ_ j2=>J.g λ_ j3=>J.b O<|J.f ((qE4 qAk O O O).as (v':= .bool (decide (A.isNone=true))) (congrArg Value.bool (by cases A<;>rfl))) O<|J.c j3 ?_
 refine J.a0 O (λh4=>?_) (λh4=>?_)
 ·
  refine J.g λ_ j4=>J.b O<|J.c j4 ?_
  refine J.A<|J.W ?_
  have hk0:ks= []:=by
   refine jU ?_
   rcases yR n with h|h
   · omega
   · obtain ⟨g,o,rfl⟩:=hs.at h;cases h4
  exact J.d0 [0,1] [F,(λ_=>none)] O xC<|J.E hw0 O (none,0,(λ_=>none)) (by rw [hk0];rfl) (by rw [hk0];exact qBh.nil) [0,1] O xC
 refine J.T j2 ?_
 refine J.g λ_ j5=>J.p (qBV O qAk el9) O λg5 _=>J.b O<|J.p (qAU (i:=1) (m2:=F) O O O qAk qAk el9 O (qAl (q:=True) (xs:=qAG ([])) O (by intro x hx;first|exact absurd hx (jz)|(rw [List.mem_singleton.1 hx];rfl))) xD (hs) (qCy _) xB xB) O ?_
 rintro⟨A7,c7,m7⟩ h7
 try dsimp only at h7
 replace h7:Row m7 9 1 A7 (0+n) c7 (qAG (ks)):=h7
 refine J.b O<|J.c j5 ?_
 refine J.A ?_
 rw [show 0+n=ks.length by omega] at h7
 exact J.E hw0 O (A7,c7,m7) (by rw [←hkn,jX]) h7 [0,1] O xC
theorem qKJ(F:Hp)(d:Int)(p9 p4:Nat)(A:Option Addr)(n c:Nat)(ks:List xA)(hs:Sl F 1 A n c (qAG ks))(h9:qAM F ⟨p9,0,none⟩ [.slice A n c])(b:xA)(h4:qAM F ⟨p4,0,none⟩ [Str b])(hn:n≤1000000)(hb:b.length≤1000000)(hsm: ∀k:Nat,(ks.getD k []).length≤1000000):Ct prog 89 [I (d),Ptr p9,Ptr p4] [F] (λx:Option Addr×Nat×Hp=> .slice x.1 (ks.filter (λq=>!nbl b d q)).length x.2.1) (λx=>Row x.2.2 9 1 x.1 (ks.filter (λq=>!nbl b d q)).length x.2.1 (qAG (ks.filter (λq=>!nbl b d q)))) (λx=> [F,x.2.2]):=by
 have hkn:ks.length=n:=by have:=hs.1;simpa [qAG] using this
 refine Ct.walk func89 O ntmps89 O (λw0 hw0=>?_)
 refine J.g λ_ j1=>J.p (qAZ O O O) O λg3 _=>J.b O<|J.c j1 ?_
 refine J.g λ_ j2=>J.f (qAI O O qCC (m:=F) xD (h9)) O<|J.p (qBr O O (λF' hF=>qJc F' A n c ks (hs.mono (Fa hF)) xB)) O ?_
 rintro⟨A6,c6,m6⟩ h6
 try dsimp only at h6
 refine J.f (qBk O O) O<|J.p (qAK O O ent (Ct.use1 2 O (λF' hF=>qTi F' m6 A6 ks.length c6 ks h6 xB hsm p4 g3 b d (h4.mono (Fa hF)) (qAM.blk0.mono (hF (blk g3 [I (d)] 3) xD)) hb))) O ?_
 rintro m8 h8
 refine J.b O<|J.c j2 ?_
 exact J.A<|J.E hw0 O (A6,c6,m8) O h8 [0,2] O xC
theorem qZf(l:List Sm.PR)(k:xA){d:Nat}(hd:d≤128):(Sm.keysS l).filter (λq=>!nbl k ((d:Nat):Int) q)=kd l k d:=by
 unfold kd nbl
 refine zw λq _=>?_
 rw [Bool.not_not,jP,je hd]
theorem qYA(l:List Sm.PR)(k:xA){d:Nat}(hd:d+1≤128):(kd l k d).filter (λq=>!nbl k ((d+1:Nat):Int) q)=kd l k (d+1):=by
 rw [←qX0]
 refine zw λq _=>?_
 unfold nbl
 rw [Bool.not_not,jP,je hd]
theorem qUf{l:List Sm.PR}(hf:qCE l)(k:xA)(d j:Nat):((kd l k d).getD j []).length≤1000000:=by
  by_cases hj:j<(kd l k d).length
  · rw [jB,jC hj]
    obtain ⟨⟨v,hv⟩,_⟩:=qV2 (ja hj)
    show((kd l k d)[j]).length≤1000000
    rw [show(kd l k d)[j].length=16 from hf.k16 _ hv];decide
  · rw [jB,ji xB];decide
theorem qZX(l:List Sm.PR)(k:xA)(d:Nat):(kd l k d).length≤l.length:=by
 have:=yB (λq=>Sm.belowB q k d) (Sm.keysS l)
 rw [Sm.keysS_len] at this;exact this
theorem qE0(F:Hp)(hK:KF F)(g:Nat)(l:List Sm.PR)(hT:qCh F g l)(hf:qCE l)(k:xA)(hk:k.length=16)(d:Nat)(hd:d≤128):
    Ct prog 37 [Ptr g,Str k,I (d:Nat)] [F] (λx:Nat×Option Addr×Nat×Hp=> .tuple #[.agg #[.slice x.2.1 (bsd l k d (x.1-d)).length x.2.2.1,.bool (qAm l k x.1),Str (qBm l k x.1),Str (qBs l k x.1)],I 0]) (λx=>qGR l k d x.1∧Row x.2.2.2 9 1 x.2.1 (bsd l k d (x.1-d)).length x.2.2.1 (qAG (bsd l k d (x.1-d)))) (λx=> [F,x.2.2.2]):=by
  have hln:=hf.few
  have hkl:=Sm.keysS_len l
  have hsm:=qHH hf.k16
  have hk0:=qZf l k hd
  have hkd0:=qZX l k d
  refine Ct.walk func37 O ntmps37 O (λw0 hw0=>?_)
  refine J.g λ_ j1=>J.p (qAZ O O O) O λg4 _=>J.p (qAJ O qPN O) O λg6 _=>J.b O<|J.c j1 ?_
  refine J.q λ_ j2=>J.g λ_ j3=>J.a7 1 b9_ O O O O O<|J.b O<|J.p (qAa O O (λF' hF=>qGv F' k ((d:Nat):Int))) O λg14 _=>J.f ((qAt O O).as (v':= .bool false) (by rw [decide_eq_true (show k.length=16∧(0:Int)≤((d:Nat):Int)∧((d:Nat):Int)≤128 from⟨hk,xB,xB⟩)];rfl)) O<|J.c j3 ?_
  refine J.a2 ?_
  refine J.T j2 ?_
  refine J.g λ_ j4=>J.p (qAJ O qPN O) O λg8 _=>J.c j4 ?_
  refine J.g λ_ j5=>J.b O<|J.p (qBr O O (λF' hF=>qMs F' g l (hT.mono (Fa hF)) xB)) O ?_
  rintro⟨A18,c18,m18⟩ h18
  try dsimp only at h18
  refine J.p (qAJ O zeroValue32 O) O λg9 _=>J.a6 (qAD (i:=5) (l:= [.slice none 0 0]) (vs:= [.slice A18 ((Sm.keysS l).length) c18]) O O O O O qB1 O O) O O λ_ _=>J.c j5 ?_
  refine J.g λ_ j6=>J.f (qBk O O) O<|J.b O<|J.c j6 ?_
  refine J.g λ_ j7=>J.k 2 O<|J.p (qDV O O O ent (Ct.use (λF' hF=>qKJ F' ((d:Nat):Int) g9 g4 A18 ((Sm.keysS l).length) c18 (Sm.keysS l) (h18.sl.mono (Fa hF)) (qAM.blk0.mono (hF (blk g9 [.slice A18 ((Sm.keysS l).length) c18] 32) xD)) k (qAM.blk0.mono (hF (blk g4 [Str (k)] 9) xD)) xB xB xG))) O ?_
  rintro⟨A22,c22,m22⟩ h22
  try dsimp only at h22
  rw [hk0] at h22⊢
  refine J.a6 (qAD (i:=5) (l:= [.slice A18 ((Sm.keysS l).length) c18]) (vs:= [.slice A22 ((kd l k (d)).length) c22]) O O O O O qB1 O O) O O λ_ _=>J.c j7 ?_
  refine J.q λ_ j8=>J.g λ_ j9=>J.k 2 O<|J.c j9 ?_
  refine J.V<|J.b6 (X:=Nat×Option Addr×Nat×Hp×Option Addr×Nat×Hp) (λζ=> [(0,Ptr g),(4,Ptr g4),(6,Ptr g6),(8,Ptr g8),(9,Ptr g9),(10,.func (.func 89) #[] #[Ptr g9,Ptr g4]),(11,I (d+ζ.1:Nat))]) (λζ=> [F,blk g4 [Str (k)] 9,blk g6 [.slice none 0 0,.bool false,Str [],Str []] 53,blk g8 [.slice ζ.2.2.2.2.1 (bsd l k d (ζ.1)).length ζ.2.2.2.2.2.1,.bool false,Str [],Str []] 53,blk g9 [.slice ζ.2.1 (kd l k (d+ζ.1)).length ζ.2.2.1] 32,ζ.2.2.2.1,ζ.2.2.2.2.2.2]) (λζ=>d+ζ.1≤128∧(∀x,d≤x→x<d+ζ.1→2≤(cur l k x).length)∧Row ζ.2.2.2.1 9 1 ζ.2.1 (kd l k (d+ζ.1)).length ζ.2.2.1 (qAG (kd l k (d+ζ.1)))∧Row ζ.2.2.2.2.2.2 9 1 ζ.2.2.2.2.1 (bsd l k d (ζ.1)).length ζ.2.2.2.2.2.1 (qAG (bsd l k d (ζ.1)))) (λζ=>128-(d+ζ.1)) (0,A22,c22,m22,none,0,(λ_=>none)) (⟨hd,λx h1 h2=>absurd h2 xB,h22,qBh.nil⟩) ⟨O,O,O,O,O,O,O,trivial⟩ (λ_ h=>h.empty.pick [0,1,2,3,5,6,7] xC) ?_
  rintro⟨n,A9,c9,m9,Ab,cb,mb⟩ ⟨he,htw,hr9,hrb⟩ I0 hI0
  dsimp only at he htw hr9 hrb⊢
  have hbl:=qCr l k d n
  refine J.q λ_ j10=>J.g λ_ j11=>J.a7 4 qCC O O O O O<|J.f (qAR qAk O O) O<|J.f (qAz O O O) O<|J.c j11 ?_
  refine J.a0 O (λh26=>?_) (λh26=>?_)
  ·
    have hcl:=qHJ hf.once k (d+n)
    have hlt:d+n<128:=by
      rcases zq (d+n) 128 with h|h
      · exact h
      · have hct:=qYH hf hk
        rw [show d+n=128 by omega] at h26 hcl
        omega
    have htl:(turn k (d+n)).length=16:=(qCJ k _).trans hk
    have hmn:min (((d+n+1:Nat):Int)).toNat 128=d+n+1:=by rw [jP];omega
    have hsmk:=qUf hf k (d+n)
    have hkdl:=qZX l k (d+n)
    refine J.T j10 ?_
    refine J.q λ_ j12=>J.V<|J.q λ_ j13=>J.b1 [blk g8 [.slice Ab (bsd l k d (n)).length cb,.bool false,Str [],Str []] 53,blk g4 [Str (k)] 9] [12] (.y 0 (.y 1 (.y 2 (.y 3 (.y 4 (.y 6 (.y 7 (.e 5 (.e 8 (.e 9 (.e 10 (.y 11 (.e 12 .nil))))))))))))) Tryz.wide xF xD ?_
    refine J.j O (qAA O O qCj O qB1 O) O O<|J.j O (qAC 0 O O O qCC O) O O<|J.L ?_
    refine J.j O (qAC 1 O O O b9_ O) O O<|J.L ?_
    refine J.L ?_
    refine J.j O ((qAQ O O O xB).nat (d+n+1) xB) O O<|J.Z O (qAa O O (λF' hF=>qP4 F' k xG (d+n) xB)) O xD λg34 _=>J.Z O (qAa O O (λF' hF=>qF7 F' (hK.mo hF) g l (hT.mono (Fa hF)) xG (turn k (d+n)) xN ((d+n+1:Nat):Int) (by first|assumption|exact qIh xG|exact qMn xG xG))) O xD λg37 _=>J.Z O (qAE (l:= [.tmp 37]) (xs:= [[Str (Sm.ndB l (turn k (d+n)) (min ((d+n+1:Nat):Int).toNat 128))]]) O O O O qAk el9 O xC xC xD) O xD λg38 _=>?_
    change J _ _ _ [F,blk g4 [Str (k)] 9,blk g6 [.slice none 0 0,.bool false,Str [],Str []] 53,blk g8 [.slice Ab (bsd l k d (n)).length cb,.bool false,Str [],Str []] 53,blk g9 [.slice A9 (kd l k (d+n)).length c9] 32,m9,mb,blk g38 [Str (Sm.ndB l (turn k (d+n)) (min ((d+n+1:Nat):Int).toNat 128))] 9] _
    refine J.Z O (qAU (i:=6) (xs:=qAG (bsd l k d (n))) (m2:=blk g38 [Str (Sm.ndB l (turn k (d+n)) (min ((d+n+1:Nat):Int).toNat 128))] 9) (ys:= [[Str (Sm.ndB l (turn k (d+n)) (min ((d+n+1:Nat):Int).toNat 128))]]) O O O qAk qAk el9 O hrb xD ((qA7 (q:=True) (qAG [Sm.ndB l (turn k (d+n)) (min ((d+n+1:Nat):Int).toNat 128)]) O (by simp [qAG]) O).sl) O xB xB) O xD ?_
    rintro⟨A39,c39,m39⟩ h39
    try dsimp only at h39
    change J _ ((39,.slice A39 (((bsd l k d (n)).length)+1) c39)::_) _ [_,_,_,_,_,_,m39,_] _
    rw [←qCG,hmn,←qU6] at h39
    rw [show(bsd l k d (n)).length+1=(bsd l k d (n+1)).length by rw [qCr,qCr]] at h39⊢
    refine J.j O (qAA O O qCj O qB1 O) O O<|J.c1 O (qAT (i:=3) O O O O O qB1 O xD) O O O λ_ _=>J.a9<|J.u (J.G j13 ?_)
    refine J.H<|J.k 2 O<|J.f ((qAQ O O O xB).nat (d+n+1) xB) O<|J.p (qDV O O O ent (Ct.use (λF' hF=>qKJ F' ((d+n+1:Nat):Int) g9 g4 A9 ((kd l k (d+n)).length) c9 (kd l k (d+n)) (hr9.sl.mono (Fa hF)) (qAM.blk0.mono (hF (blk g9 [.slice A9 (kd l k (d+n)).length c9] 32) xD)) k (qAM.blk0.mono (hF (blk g4 [Str (k)] 9) xD)) xB xB xG))) O ?_
    rintro⟨A44,c44,m44⟩ h44
    try dsimp only at h44
    rw [qYA l k xB] at h44⊢
    refine J.a6 (qAD (i:=4) (l:= [.slice A9 (kd l k (d+n)).length c9]) (vs:= [.slice A44 ((kd l k (d+n+1)).length) c44]) O O O O O qB1 O O) O O λ_ _=>J.a4<|J.a3<|J.u (J.G j12 ?_)
    exact J.H<|J.b O<|J.f ((qAQ O O O xB).nat (d+n+1) xB) O<|J.b O<|J.a4<|J.u<|J.a5 (n+1,A44,c44,m44,A39,c39,m39) (λη (hη:_∧128-(d+η.1)<128-(d+n))=>hI0 η hη.1 hη.2) ⟨⟨by dsimp only;omega,λx h1 h2=>by rcases zq x (d+n) with h|h;exact htw x h1 h;rw [show x=d+n by dsimp only at h2;omega,←hcl];omega,h44,h39⟩,by dsimp only;omega⟩ ⟨O,O,O,O,O,O,O,trivial⟩ (λ_ h=>h.pick [0,1,2,3,4,8,6] xC)
  have hst:qGR l k d (d+n):=⟨xB,he,by rw [←qHJ hf.once];omega,λx h1 h2=>htw x h1 h2⟩
  have hdn:d+n-d=n:=xB
  refine J.b3<|J.a1<|J.a1<|J.b4 ?_
  refine J.u (J.G j8 ?_)
  refine J.q λ_ j14=>J.g λ_ j15=>J.a7 4 qCC O O O O O<|J.f (qAR qAk O O) O<|J.f (qAX O O O) O<|J.c j15 ?_
  refine J.a0 O (λh47=>?_) (λh47=>?_)
  ·
    refine J.q λ_ j16=>J.b1 [blk g9 [.slice A9 (kd l k (d+n)).length c9] 32,m9] [] (.y 0 (.y 1 (.y 2 (.y 3 (.e 4 (.y 5 (.e 6 .nil))))))) Tryz.wide xF xD ?_
    refine J.j O (qAC 0 (v:= .slice A9 (kd l k (d+n)).length c9) O O O qCC O) O O<|J.j O (qAF (i:=0) O O O qAk z9_ hr9.sl xB) O O<|J.j O (qAI O O b9_ (m:=m9) xD (hr9.sl.elem (qAY (qAi [] xB)))) O O<|J.j O (qAA O O qCj O z4_ O) O O<|J.d2 O (qAT (i:=3) O O O O O z4_ O xD) O O xD λ_ _=>J.j O (qAA O O qCj O z9_ O) O O<|J.d2 O (qAT (i:=3) (l:= [.slice Ab (bsd l k d (n)).length cb,.bool true,Str [],Str []]) (vs:= [Str ((kd l k (d+n)).getD 0 [])]) O O O O O z9_ O xD) O O xD λ_ _=>J.a9<|J.u (J.G j16 ?_)
    refine J.H<|J.b O<|J.M 2 qCj z9_ O O O O O<|J.a7 3 b9_ O O O O O<|J.p (qAa O O (λF' hF=>qWb F' g l (hT.mono (Fa hF)) ((kd l k (d+n)).getD 0 []))) O λg57 _=>J.k 3 O<|J.M 3 qCj z9_ O O O O O<|J.a6 (qAT (i:=3) (l:= [.slice Ab (bsd l k d (n)).length cb,.bool true,Str ((kd l k (d+n)).getD 0 []),Str []]) (vs:= [Str ((Sm.getP l ((kd l k (d+n)).getD 0 [])).getD [])]) O O O O O z9_ O xD) O O λ_ _=>J.c j14 ?_
    refine J.g λ_ j17=>J.b8 3 qEb qB9 O O O O O<|J.a6 (qAD (i:=2) (l:= [.slice none 0 0,.bool false,Str [],Str []]) (vs:= [.slice Ab (bsd l k d (n)).length cb,.bool true,Str ((kd l k (d+n)).getD 0 []),Str ((Sm.getP l ((kd l k (d+n)).getD 0 [])).getD [])]) O O O O O qB9 O O) O O λ_ _=>J.b O<|J.c j17 ?_
    exact J.A<|J.b0 hw0 (λ_ _ h=>h) (rv2 O (RV.blkA 2 O O qEb qB9) O) (qAn (d+n,Ab,cb,mb) (by dsimp only;rw [hdn];unfold qAm qBm qBs;rw [if_pos xB,if_pos xB,decide_eq_true xB]) ⟨hst,by dsimp only;rw [hdn];exact hrb⟩ [0,6] O xC)
  refine J.T j14 ?_
  refine J.g λ_ j18=>J.b8 3 qEb qB9 O O O O O<|J.a6 (qAD (i:=2) (l:= [.slice none 0 0,.bool false,Str [],Str []]) (vs:= [.slice Ab (bsd l k d (n)).length cb,.bool false,Str [],Str []]) O O O O O qB9 O O) O O λ_ _=>J.b O<|J.c j18 ?_
  exact J.A<|J.b0 hw0 (λ_ _ h=>h) (rv2 O (RV.blkA 2 O O qEb qB9) O) (qAn (d+n,Ab,cb,mb) (by dsimp only;rw [hdn];unfold qAm qBm qBs;rw [if_neg xB,if_neg xB,decide_eq_false xB]) ⟨hst,by dsimp only;rw [hdn];exact hrb⟩ [0,6] O xC)
structure Pz where
 a:UInt8
 b:UInt8
 v:xA
 deriving DecidableEq
def Pz.cells(x:Pz):List Value:= [B8 (x.a),B8 (x.b),Str (x.v)]
theorem qFX{kv:List Sm.PR}(hf:qCE kv){k:xA}(hk:k.length=16){d s:Nat}(h:qGR kv k d s):qFq (bsd kv k d (s-d)) (qAm kv k s) (qBm kv k s) (qBs kv k s) k d=Sm.ndB kv k d:=by
 have h1:=h.le
 have h2:=h.ge
 have h3:=qJd hf hk (d:=d) (n:=s-d) xB (s-d) (jK _)
 rw [show d+(s-d)=s by omega,show s-(s-d)=d by omega] at h3
 unfold qFq
 rw [qUu hf h,qCr]
 exact h3
theorem qGu{kv:List Sm.PR}(hf:qCE kv){k:xA}(hk:k.length=16){d s:Nat}(h:qGR kv k d s):
    qNs (bsd kv k d (s-d)) (qAm kv k s) (qBm kv k s) (qBs kv k s) (Sm.ndB kv k d) k ((Sm.getP kv k).getD []) d=(Sm.getP kv k).isSome:=by
  obtain ⟨t1,t2⟩:=qYz hf h
  unfold qNs
  rw [qFX hf hk h,decide_eq_true rfl,Bool.and_true,t1]
  cases ht:qAm kv k s with
  |false=>rfl
  |true=>
    by_cases hkk:qBm kv k s=k
    · rw [t2 ht hkk,decide_eq_true hkk];simp
    · rw [decide_eq_false hkk];rfl
theorem qLt{kv:List Sm.PR}(hf:qCE kv){k:xA}(hk:k.length=16){d s:Nat}(h:qGR kv k d s):
    qFD (bsd kv k d (s-d)) (qAm kv k s) (qBm kv k s) (qBs kv k s) (Sm.ndB kv k d) k d=!(Sm.getP kv k).isSome:=by
  obtain ⟨t1,_⟩:=qYz hf h
  unfold qFD
  rw [qFX hf hk h,decide_eq_true rfl,Bool.and_true,t1]
  cases qAm kv k s<;>by_cases hkk:qBm kv k s=k<;>simp [hkk]
theorem qEJ{kv:List Sm.PR}(hf:qCE kv)(k:xA)(s:Nat):(qBs kv k s).length≤1000000:=by
 unfold qBs
 split
 · exact qIM hf.small _
 · exact jG _
theorem qND{kv:List Sm.PR}(ho:Sm.Once kv){k v:xA}{p:Sm.PR}:p∈Sm.putP kv k v↔(p∈kv∧p.1≠k)∨p=(k,v):=by
 rw [(Sm.putP_perm k v ho).mem_iff]
 unfold Sm.setP
 rw [List.mem_append,List.mem_filter,decide_eq_true_eq,jT]
theorem qCE.put{kv:List Sm.PR}(hf:qCE kv){k v:xA}(hk:k.length=16)(hv:v.length≤1000000)(hl:kv.length≤100000):qCE (Sm.putP kv k v):=by
  refine⟨(Sm.setP_once k v hf.once).perm (Sm.putP_perm k v hf.once).symm,λp q=>?_,λp q=>?_,jZ (Sm.putP_len kv k v) xB⟩
  · rcases(qND hf.once).1 q with ⟨q,_⟩|rfl
    · exact hf.k16 p q
    · exact hk
  · rcases(qND hf.once).1 q with ⟨q,_⟩|rfl
    · exact hf.small p q
    · exact hv
theorem qOq{kv:List Sm.PR}(hf:qCE kv){k v:xA}(hk:k.length=16){b:xA}(hb:b.length=16){d:Nat}(hd:d≤128)(hn:Sm.belowB k b d=false)(hv:v.length≤1000000)(hl:kv.length≤100000):
    Sm.ndB (Sm.putP kv k v) b d=Sm.ndB kv b d:=by
  have hf':=hf.put hk hv hl
  have h1:Sm.ndB (Sm.putP kv k v) b d=Sm.ndB (Sm.setP kv k v) b d:=Sm.ndB_perm hf'.once hf'.k16 (Sm.putP_perm k v hf.once) hb hd
  rw [h1]
  unfold Sm.ndB Sm.bel Sm.setP
  rw [zG,jn,if_neg (by rw [hn];decide),zj,jR,zm]
  congr 1
  refine zw λp hp=>?_
  by_cases h:p.1=k
  · rw [h,hn];rfl
  · rw [decide_eq_true h,Bool.and_true]
theorem qYU{kv:List Sm.PR}(hf:qCE kv){k v:xA}(hk:k.length=16)(hv:v.length≤1000000)(hl:kv.length≤100000){d n:Nat}(hd:d+n≤128):bsd (Sm.putP kv k v) k d n=bsd kv k d n:=by
 unfold bsd
 refine yL λi hi=>?_
 have:=List.mem_range.1 hi
 have hb:=Sm.bit_le k (d+i)
 refine qOq hf hk ((qCJ _ _).trans hk) xB (Sm.belowB_no (i:=d+i) xB ?_) hv hl
 rw [qEv hk xB xB,if_pos rfl]
 omega
theorem qXH{kv:List Sm.PR}(hf:qCE kv){k v:xA}(hk:k.length=16)(hv:v.length≤1000000)(hl:kv.length≤100000){s:Nat}(hs:s≤128)(ho: ∀p∈cur kv k s,p.1=k):Sm.ndB (Sm.putP kv k v) k s=Sb.leafN k v:=by
 have hf':=hf.put hk hv hl
 have h1:Sm.ndB (Sm.putP kv k v) k s=Sm.ndB (Sm.setP kv k v) k s:=Sm.ndB_perm hf'.once hf'.k16 (Sm.putP_perm k v hf.once) hk hs
 have hself:Sm.belowB k k s=true:=Sm.belowB_yes λ_ _=>rfl
 rw [h1]
 unfold Sm.ndB Sm.bel Sm.setP
 rw [zG,jn,if_pos hself,zj,zm,List.filter_eq_nil_iff.2 (λp hp=>by
  intro q
  rw [jS,decide_eq_true_eq] at q
  exact q.2 (ho p (List.mem_filter.2 ⟨hp,q.1⟩))),jq,Sm.nd_one]
theorem qT1{kv:List Sm.PR}(hf:qCE kv){k v q w:xA}(hk:k.length=16)(hv:v.length≤1000000)(hl:kv.length≤100000){s:Nat}(hs:s≤128)(hc:cur kv k s= [(q,w)])(hq:q≠k):Sm.ndB (Sm.putP kv k v) k s=Sm.ndB [(k,v),(q,w)] k s:=by
 have hf':=hf.put hk hv hl
 have h1:Sm.ndB (Sm.putP kv k v) k s=Sm.ndB (Sm.setP kv k v) k s:=Sm.ndB_perm hf'.once hf'.k16 (Sm.putP_perm k v hf.once) hk hs
 have hself:Sm.belowB k k s=true:=Sm.belowB_yes λ_ _=>rfl
 have hqb:Sm.belowB q k s=true:=(List.mem_filter.1 (show(q,w)∈cur kv k s by rw [hc];exact .head _)).2
 have e1:Sm.bel (Sm.setP kv k v) k s= [(q,w),(k,v)]:=by
  unfold Sm.bel Sm.setP
  rw [zG,jn,if_pos hself,zj,zm]
  have e2:kv.filter (λp=>Sm.belowB p.1 k s&&decide (p.1≠k))=(cur kv k s).filter (λp=>decide (p.1≠k)):=by
   show _=(kv.filter λp=>Sm.belowB p.1 k s).filter (λp=>decide (p.1≠k))
   rw [zm]
   refine zw λp _=>?_
   rw [Bool.and_comm]
  rw [e2,hc,jn,if_pos (decide_eq_true hq),zj];rfl
 have e3:Sm.bel [(k,v),(q,w)] k s= [(k,v),(q,w)]:=by unfold Sm.bel;rw [jn,if_pos hself,jn,if_pos hqb,zj]
 have hw:Sm.WF (128-s) (Sm.bel (Sm.setP kv k v) k s):=(Sm.bel_wf hf'.once hf'.k16 hk hs).perm ((Sm.putP_perm k v hf.once).filter _)
 rw [h1]
 unfold Sm.ndB
 rw [e3]
 exact Sm.nd_perm _ hw (show(Sm.bel (Sm.setP kv k v) k s).Perm [(k,v),(q,w)] by rw [e1];exact List.Perm.swap _ _ _)
structure Two (k q:xA) (a:Nat):Prop where
 k16:k.length=16
 q16:q.length=16
 lt:a<128
 same: ∀i,i<a→Sm.bit k i=Sm.bit q i
 differ:Sm.bit k a≠Sm.bit q a
theorem Two.ne{k q:xA}{a:Nat}(h:Two k q a):q≠k:=λe=>h.differ (by rw [e])
theorem Two.fine{k q v w:xA}{a:Nat}(h:Two k q a)(hv:v.length≤1000000)(hw:w.length≤1000000):qCE [(k,v),(q,w)]:=by
  refine⟨?_,λp hp=>?_,λp hp=>?_,by simp⟩
  · unfold Sm.Once
    rw [ju]
    exact⟨λp hp=>by rw [List.mem_singleton.1 hp];exact λe=>h.ne e.symm,by simp⟩
  · rcases List.mem_cons.1 hp with rfl|hp
    · exact h.k16
    · rw [List.mem_singleton.1 hp];exact h.q16
  · rcases List.mem_cons.1 hp with rfl|hp
    · exact hv
    · rw [List.mem_singleton.1 hp];exact hw
theorem Two.top{k q v w:xA}{a:Nat}(h:Two k q a)(hv:v.length≤1000000)(hw:w.length≤1000000):Sm.ndB [(k,v),(q,w)] k a=up k a (Sb.leafN k v) (Sb.leafN q w):=by
 rw [←qP0 (h.fine hv hw) h.k16 h.lt]
 have hb:=Sm.bit_le k a
 have hb2:=Sm.bit_le q a
 have hd:=h.differ
 have h1:Sm.belowB k k (a+1)=true:=Sm.belowB_yes λ_ _=>rfl
 have h2:Sm.belowB q k (a+1)=false:=Sm.belowB_no (i:=a) xB λe=>h.differ e.symm
 have h3:Sm.belowB k (turn k a) (a+1)=false:=Sm.belowB_no (i:=a) xB (by rw [qEv h.k16 h.lt h.lt,if_pos rfl];omega)
 have h4:Sm.belowB q (turn k a) (a+1)=true:=Sm.belowB_yes λi hi=>by
  have hlt:=h.lt
  rw [qEv h.k16 h.lt xB]
  by_cases hia:i=a
  · rw [if_pos hia,hia];omega
  · rw [if_neg hia];exact(h.same i xB).symm
 unfold Sm.ndB
 have e1:Sm.bel [(k,v),(q,w)] k (a+1)= [(k,v)]:=by unfold Sm.bel;rw [jn,if_pos h1,jn,if_neg (by rw [h2];decide),zj]
 have e2:Sm.bel [(k,v),(q,w)] (turn k a) (a+1)= [(q,w)]:=by unfold Sm.bel;rw [jn,if_neg (by rw [h3];decide),jn,if_pos h4,zj]
 rw [e1,e2,Sm.nd_one,Sm.nd_one]
theorem Two.le{k q:xA}{a s:Nat}(h:Two k q a)(hs:Sm.belowB q k s=true):s≤a:=by
  rcases zq a s with h1|h1
  · have:=List.all_eq_true.1 hs a (List.mem_range.2 h1)
    exact absurd (of_decide_eq_true this).symm h.differ
  · exact h1
def qWI(bs:List xA)(th:Bool)(pk pv k v:xA)(d:Nat):xA:=if th=true∧pk≠k then Sm.ndB [(k,v),(pk,pv)] k (d+bs.length) else Sb.leafN k v
def qSn(bs:List xA)(th:Bool)(pk pv k v:xA)(d:Nat):xA:=clm k d bs (qWI bs th pk pv k v d) bs.length
theorem qLu{kv:List Sm.PR}(hf:qCE kv){k v:xA}(hk:k.length=16)(hv:v.length≤1000000)(hl:kv.length≤100000){d s:Nat}(h:qGR kv k d s):
    qSn (bsd kv k d (s-d)) (qAm kv k s) (qBm kv k s) (qBs kv k s) k v d=Sm.ndB (Sm.putP kv k v) k d:=by
  have h1:=h.le
  have h2:=h.ge
  have hone:=h.one
  have hf':=hf.put hk hv hl
  have h3:=qJd hf' hk (d:=d) (n:=s-d) xB (s-d) (jK _)
  rw [show d+(s-d)=s by omega,show s-(s-d)=d by omega,qYU hf hk hv hl xB] at h3
  unfold qSn
  rw [qCr,←h3]
  congr 1
  unfold qWI
  rw [qCr,show d+(s-d)=s by omega]
  split
  · rename_i hc
    have hc1:(kd kv k s).length=1:=of_decide_eq_true hc.1
    exact(qT1 hf hk hv hl h1 (qHV hf.once hc1) hc.2).symm
  · rename_i hc
    refine(qXH hf hk hv hl h1 λp hp=>?_).symm
    have hc1:(kd kv k s).length=1:=by
      rw [qHJ hf.once]
      have:=List.length_pos_of_mem hp
      omega
    have ht:qAm kv k s=true:=decide_eq_true hc1
    rw [qHV hf.once hc1,jT] at hp
    rw [hp]
    exact Decidable.by_contra λq=>hc ⟨ht,q⟩
theorem xor_eq{x y:UInt8}(h:(x^^^y).toNat=0):x=y:=by
 have:x^^^y=0:=UInt8.toNat_inj.1 h
 exact UInt8.xor_eq_zero_iff.1 this
end Go.Proofs.YtcgcjaflllmlpaaGreatDoor