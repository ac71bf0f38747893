/- A part of the proof. -/
import Derived.Test.YtmemgokiolfdoaaGreatDoorTopMsG44
import Derived.Test.YtmemgokiolfdoaaGreatDoorTopMsG10
set_option maxRecDepth 100000
set_option maxHeartbeats 1000000
set_option linter.unusedSimpArgs false
set_option linter.unusedVariables false
namespace Go.Proofs.YtmemgokiolfdoaaGreatDoor
open Go Go.Fw Go.Proofs.Tryz
theorem el66:qCY prog 66 [.nilIface] 16:=qCY.of xI O
def qB0(l:List Value):List (List Value):=l.map λv=> [v]
theorem qH6{l:List Value}{k:Nat}(h:k<l.length):(qB0 l)[k]?=some [l.getD k .nilIface]:=by
 unfold qB0
 rw [jN,jC h,jB,jC h];rfl
theorem qON(a:List Value)(x:Value):qB0 (a++ [x])=qB0 a++ [[x]]:=by simp [qB0]
theorem qUH{l:List Value}(h: ∀v∈l,isI v):(qB0 l).all (λx=>x.all Value.oneCell')=true:=by
 simp only [qB0,List.all_map,List.all_eq_true,Function.comp]
 intro v hv
 have:=h v hv
 cases v with
 |iface t u=>simp [Value.oneCell']
 |nilIface=>simp [Value.oneCell']
 |_=>exact this.elim
abbrev iN(k:Int):Value:= .iface 2 (I k)
abbrev iS(s:xA):Value:= .iface 9 (Str s)
theorem qRs(F:Hp)(k:Int):Cz prog 20 [I (k)] F (iN (k)):=by
 refine Ct.walk func20 O ntmps20 O (λw0 hw0=>?_)
 exact J.f λ_ j1=>J.b O<|J.c j1<|J.f λ_ j2=>J.b O<|J.g (qJI O O xI) O<|J.b O<|J.c j2<|J.A<|J.E hw0 O () O trivial [0] O xC
theorem qUv(F:Hp)(s:xA):Cz prog 21 [Str (s)] F (iS (s)):=by
 refine Ct.walk func21 O ntmps21 O (λw0 hw0=>?_)
 exact J.f λ_ j1=>J.b O<|J.c j1<|J.f λ_ j2=>J.b O<|J.g (qJI O O xI) O<|J.b O<|J.c j2<|J.A<|J.E hw0 O () O trivial [0] O xC
theorem qNv(F:Hp)(A:Option Addr)(n c:Nat)(l:List Value)(hs:Sl F 1 A n c (qB0 l))(hI: ∀v∈l,isI v)(hnb:n≤1000000):Ct prog 22 [.slice A n c] [F] (λx:Option Addr×Nat×Hp=> .iface 177 (.slice x.1 n x.2.1)) (λx=>Row x.2.2 66 1 x.1 n x.2.1 (qB0 l)) (λx=> [F,x.2.2]):=by
 have hln:l.length=n:=by have:=hs.1;simpa [qB0] using this
 refine Ct.walk func22 O ntmps22 O (λw0 hw0=>?_)
 refine J.f λ_ j1=>J.b O<|J.c j1<|J.f λ_ j2=>J.b O<|J.c6 [0,1] [F,(λ_=>none)] O xC<|J.q (qAX (i:=1) (m2:=F) O O O qHq qYu el66 O (qBZ.nil (q:=True)) xD (hs) (qUH (by first|assumption|simp [isI])) xB xB) O ?_
 rintro⟨A4,c4,m4⟩ h4
 try dsimp only at h4
 rw [jj] at h4⊢
 exact J.g (qJI O O xI) O<|J.b O<|J.c j2<|J.A<|J.E hw0 O (A4,c4,m4) O h4 [0,1] O xC
theorem qXy(F:Hp)(A:Option Addr)(n c:Nat)(l:List Value)(hs:Sl F 1 A n c (qB0 l))(hnb:n≤1000000):Cz prog 84 [.iface 177 (.slice A n c)] F (.tuple #[I (n:Nat),.bool true]):=by
 have hln:l.length=n:=by have:=hs.1;simpa [qB0] using this
 refine Ct.walk func84 O ntmps84 O (λw0 hw0=>?_)
 exact J.f λ_ j1=>J.p 2 O<|J.c j1<|J.f λ_ j2=>J.b O<|J.g ((qDa (v:= .iface 177 (.slice A n c)) O O qHq O zeroValue177 trivial).as (v':= .tuple #[.slice A n c,.bool true]) O) O<|J.p 5 O<|J.c j2<|J.f λ_ j3=>J.b O<|J.g (qAO qHq O O) O<|J.p 3 O<|J.c j3<|J.A<|J.a9 hw0 (λ_ _ h=>h) (qBw O O O) (qAg () O trivial [0] O xC)
theorem qRu(F:Hp)(A:Option Addr)(n c:Nat)(l:List Value)(hs:Sl F 1 A n c (qB0 l))(hnb:n≤1000000)(i:Nat)(hib:i≤1000000):Cz prog 85 [.iface 177 (.slice A n c),I (i:Nat)] F (.tuple #[(l.getD i .nilIface),.bool (decide (i<n))]):=by
 have hln:l.length=n:=by have:=hs.1;simpa [qB0] using this
 refine Ct.walk func85 O ntmps85 O (λw0 hw0=>?_)
 refine J.f λ_ j1=>J.p 2 O<|J.c j1<|J.f λ_ j2=>J.b O<|J.g ((qDa (v:= .iface 177 (.slice A n c)) O O qHq O zeroValue177 trivial).as (v':= .tuple #[.slice A n c,.bool true]) O) O<|J.p 5 O<|J.c j2<|J.k λ_ j3=>J.f λ_ j4=>J.b O<|J.g ((qAS O O O).no xB) O<|J.p 3 O<|J.G (qAO qHq O O) O<|J.G (qBI O O O) O<|J.b O<|J.c j4<|J.Z O (λh20=>?_) (λh20=>?_)
 ·
  exact J.f λ_ j5=>J.p 2 O<|J.c j5<|J.A<|J.V<|J.a9 hw0 (λ_ _ h=>h) (qBw O O O) (qAg () (by rw [jB,jd xB,decide_eq_false xB];rfl) trivial [0] O xC)
 exact J.M j3<|J.f λ_ j6=>J.p 2 O<|J.g (qAF O O O qHq sizeOf66 hs xB) O<|J.g (qAI O O isAgg66 (m:=F) xD (hs.elem (qH6 xB))) O<|J.p 2 O<|J.c j6<|J.A<|J.a9 hw0 (λ_ _ h=>h) (qBw O O O) (qAg () (by rw [decide_eq_true xB]) trivial [0] O xC)
theorem qPA(F:Hp)(v:Value)(hv:isI v):Cz prog 86 [v] F (.tuple #[(asV 9 (Str []) v).1,.bool ((asV 9 (Str []) v).2)]):=by
 refine Ct.walk func86 O ntmps86 O (λw0 hw0=>?_)
 exact J.f λ_ j1=>J.p 2 O<|J.c j1<|J.f λ_ j2=>J.b O<|J.g (qDa O O u9_ O e9_ hv) O<|J.p 5 O<|J.c j2<|J.f λ_ j3=>J.p 4 O<|J.c j3<|J.A<|J.a9 hw0 (λ_ _ h=>h) (qBw O O O) (qAg () O trivial [0] O xC)
theorem qRv(F:Hp)(v:Value)(hv:isI v):Cz prog 87 [v] F (.tuple #[(asV 2 (I 0) v).1,.bool ((asV 2 (I 0) v).2)]):=by
 refine Ct.walk func87 O ntmps87 O (λw0 hw0=>?_)
 exact J.f λ_ j1=>J.p 2 O<|J.c j1<|J.f λ_ j2=>J.b O<|J.g (qDa O O u2_ O zeroValue2 hv) O<|J.p 5 O<|J.c j2<|J.f λ_ j3=>J.p 4 O<|J.c j3<|J.A<|J.a9 hw0 (λ_ _ h=>h) (qBw O O O) (qAg () O trivial [0] O xC)
end Go.Proofs.YtmemgokiolfdoaaGreatDoor