/- A part of the proof. -/
import Derived.Test.YtmemgokiolfdoaaGreatDoorTopMfG44
import Derived.Test.YtmemgokiolfdoaaGreatDoorTopMfG10
set_option maxRecDepth 100000
set_option maxHeartbeats 1000000
set_option linter.unusedSimpArgs false
set_option linter.unusedVariables false
namespace Go.Proofs.YtmemgokiolfdoaaGreatDoor
open Go Go.Fw Go.Proofs.Tryz
theorem el66:qCe prog 66 [.nilIface] 16:=qCe.of xH O
def qDt(l:List Value):List (List Value):=l.map λv=> [v]
theorem qH9{l:List Value}{k:Nat}(h:k<l.length):(qDt l)[k]?=some [l.getD k .nilIface]:=by
 unfold qDt
 rw [jO,jC h,jB,jC h];rfl
theorem qTo{l:List Value}(h: ∀v∈l,isI v):(qDt l).all (λx=>x.all Value.oneCell')=true:=by
 simp only [qDt,List.all_map,List.all_eq_true,Function.comp]
 intro v hv
 have:=h v hv
 cases v with
 |iface t u=>simp [Value.oneCell']
 |nilIface=>simp [Value.oneCell']
 |_=>exact this.elim
abbrev iN(k:Int):Value:= .iface 2 (I k)
theorem qUR(F:Hp)(A:Option Addr)(n c:Nat)(l:List Value)(hs:Sl F 1 A n c (qDt l))(hI: ∀v∈l,isI v)(hnb:n≤1000000):Ct prog 22 [.slice A n c] [F] (λx:Option Addr×Nat×Hp=> .iface 177 (.slice x.1 n x.2.1)) (λx=>Row x.2.2 66 1 x.1 n x.2.1 (qDt l)) (λx=> [F,x.2.2]):=by
 have hln:l.length=n:=by have:=hs.1;simpa [qDt] using this
 refine Ct.walk func22 O ntmps22 O (λw0 hw0=>?_)
 refine J.f λ_ j1=>J.b O<|J.c j1<|J.f λ_ j2=>J.b O<|J.c7 [0,1] [F,(λ_=>none)] O xC<|J.k (qAc (i:=1) (m2:=F) O O O qHs underlying65 el66 O (qBc.nil (q:=True)) xD (hs) (qTo (by first|assumption|simp [isI])) xB xB) O ?_
 rintro⟨A4,c4,m4⟩ h4
 try dsimp only at h4
 rw [jj] at h4⊢
 exact J.g (qTk O O xH) O<|J.b O<|J.c j2<|J.A<|J.E hw0 O (A4,c4,m4) O h4 [0,1] O xC
theorem qXX(F:Hp)(A:Option Addr)(n c:Nat)(l:List Value)(hs:Sl F 1 A n c (qDt l))(hnb:n≤1000000):Cz prog 84 [.iface 177 (.slice A n c)] F (.tuple #[I (n:Nat),.bool true]):=by
 have hln:l.length=n:=by have:=hs.1;simpa [qDt] using this
 refine Ct.walk func84 O ntmps84 O (λw0 hw0=>?_)
 exact J.f λ_ j1=>J.j 2 O<|J.c j1<|J.f λ_ j2=>J.b O<|J.g ((qDZ (v:= .iface 177 (.slice A n c)) O O qHs O zeroValue177 trivial).as (v':= .tuple #[.slice A n c,.bool true]) O) O<|J.j 5 O<|J.c j2<|J.f λ_ j3=>J.b O<|J.g (qAQ qHs O O) O<|J.j 3 O<|J.c j3<|J.A<|J.a9 hw0 (λ_ _ h=>h) (qBs O O O) (qAi () O trivial [0] O xC)
theorem qRX(F:Hp)(A:Option Addr)(n c:Nat)(l:List Value)(hs:Sl F 1 A n c (qDt l))(hnb:n≤1000000)(i:Nat)(hib:i≤1000000):Cz prog 85 [.iface 177 (.slice A n c),I (i:Nat)] F (.tuple #[(l.getD i .nilIface),.bool (decide (i<n))]):=by
 have hln:l.length=n:=by have:=hs.1;simpa [qDt] using this
 refine Ct.walk func85 O ntmps85 O (λw0 hw0=>?_)
 refine J.f λ_ j1=>J.j 2 O<|J.c j1<|J.f λ_ j2=>J.b O<|J.g ((qDZ (v:= .iface 177 (.slice A n c)) O O qHs O zeroValue177 trivial).as (v':= .tuple #[.slice A n c,.bool true]) O) O<|J.j 5 O<|J.c j2<|J.q λ_ j3=>J.f λ_ j4=>J.b O<|J.g ((qAS O O O).no xB) O<|J.j 3 O<|J.H (qAQ qHs O O) O<|J.H (qBI O O O) O<|J.b O<|J.c j4<|J.Z O (λh20=>?_) (λh20=>?_)
 ·
  exact J.f λ_ j5=>J.j 2 O<|J.c j5<|J.A<|J.W<|J.a9 hw0 (λ_ _ h=>h) (qBs O O O) (qAi () (by rw [jB,jd xB,decide_eq_false xB];rfl) trivial [0] O xC)
 exact J.M j3<|J.f λ_ j6=>J.j 2 O<|J.g (qAE O O O qHs sizeOf66 hs xB) O<|J.g (qAL O O isAgg66 (m:=F) xD (hs.elem (qH9 xB))) O<|J.j 2 O<|J.c j6<|J.A<|J.a9 hw0 (λ_ _ h=>h) (qBs O O O) (qAi () (by rw [decide_eq_true xB]) trivial [0] O xC)
theorem qO3(F:Hp)(v:Value)(hv:isI v):Cz prog 86 [v] F (.tuple #[(asV 9 (Str []) v).1,.bool ((asV 9 (Str []) v).2)]):=by
 refine Ct.walk func86 O ntmps86 O (λw0 hw0=>?_)
 exact J.f λ_ j1=>J.j 2 O<|J.c j1<|J.f λ_ j2=>J.b O<|J.g (qDZ O O u9_ O e9_ hv) O<|J.j 5 O<|J.c j2<|J.f λ_ j3=>J.j 4 O<|J.c j3<|J.A<|J.a9 hw0 (λ_ _ h=>h) (qBs O O O) (qAi () O trivial [0] O xC)
theorem qRY(F:Hp)(v:Value)(hv:isI v):Cz prog 87 [v] F (.tuple #[(asV 2 (I 0) v).1,.bool ((asV 2 (I 0) v).2)]):=by
 refine Ct.walk func87 O ntmps87 O (λw0 hw0=>?_)
 exact J.f λ_ j1=>J.j 2 O<|J.c j1<|J.f λ_ j2=>J.b O<|J.g (qDZ O O u2_ O zeroValue2 hv) O<|J.j 5 O<|J.c j2<|J.f λ_ j3=>J.j 4 O<|J.c j3<|J.A<|J.a9 hw0 (λ_ _ h=>h) (qBs O O O) (qAi () O trivial [0] O xC)
end Go.Proofs.YtmemgokiolfdoaaGreatDoor