/- A part of the proof. -/
import Derived.Test.YtcgcjaflllmlpaaGreatDoorTopCfG8
import Derived.Test.YtcgcjaflllmlpaaGreatDoorTopCfG21
import Derived.Test.YtcgcjaflllmlpaaGreatDoorTopCfG17
import Derived.Test.YtcgcjaflllmlpaaGreatDoorTopCfG20
set_option linter.unusedSimpArgs false
set_option linter.unusedVariables false
namespace Go.Proofs.YtcgcjaflllmlpaaGreatDoor
open Go Go.Fw Go.Proofs.Tryz
set_option maxRecDepth 100000
set_option maxHeartbeats 1000000
theorem ent115:qAD prog 115:=qAD.of func115 rfl (by kernel_rfl)
theorem ent116:qAD prog 116:=qAD.of func116 rfl (by kernel_rfl)
theorem ent117:qAD prog 117:=qAD.of func117 rfl (by kernel_rfl)
theorem ent122:qAD prog 122:=qAD.of func122 rfl (by kernel_rfl)
theorem ent170:qAD prog 170:=qAD.of func170 rfl (by kernel_rfl)
theorem el72:qCe prog 72 [Str [],Str [],Str [],.int .i64 0] 56:=qCe.of (by kernel_rfl) rfl
theorem qYp(d:Nat)(o r:List UInt8)(h:Int)(o' r':List UInt8)(h':Int)(w:World):(Op.equalIn (d+2) 59 (.agg #[Str o,Str r,I h]) (.agg #[Str o',Str r',I h'])).run prog w= .ok (decide (o=o'∧r=r'∧h=h')) w:=eqPub d o r o' r' h h' w
structure Aud where
 nm:List UInt8
 op:List UInt8
 rt:List UInt8
 ht:Int
 deriving DecidableEq
def Aud.cells(x:Aud):List Value:= [Str (x.nm),Str (x.op),Str (x.rt),I (x.ht)]
def qAs:Aud:=⟨[],[],[],0⟩
def qBX(l:List Aud):List (List Value):=l.map Aud.cells
theorem qEx{l:List Aud}{k:Nat}(h:k<l.length):(qBX l)[k]?=some (l.getD k qAs).cells:=by
 unfold qBX
 rw [jO,qAj qAs h];rfl
theorem qDp(l:List Aud):(qBX l).length=l.length:=by simp [qBX]
theorem qFO(a:List Aud)(x:Aud):qBX (a++ [x])=qBX a++ [x.cells]:=by simp [qBX]
theorem qTZ(a:List Aud):(qBX a).all (λx=>x.all Value.oneCell')=true:=qLf Aud.cells (λ_=>rfl) a
structure Lau where
 nm:List UInt8
 key:UInt8
 ht:Int
 deriving DecidableEq
def Lau.cells(x:Lau):List Value:= [Str (x.nm),B8 (x.key),I (x.ht)]
def qSP(m:Hp)(g:Nat)(l:List Aud):Prop:= ∃A n c mr,m=U [blk g [.slice A n c] 207,mr]∧Dj (blk g [.slice A n c] 207) mr∧Row mr 72 4 A n c (qBX l)
def qFd(s:List UInt8):Nat:=if(normal s).2≠0 then(normal s).2 else if(normal s).1≠s then 4 else 0
def qTn(nm o r:List UInt8)(h:Int):Int:=if qFd nm≠0 then((qFd nm:Nat):Int) else qBH o r h
def same(nm o r:List UInt8)(h:Int)(x:Aud):Bool:=decide (x.nm=nm)||decide (x.op=o∧x.rt=r∧x.ht=h)
def qNj(l:List Aud)(nm o r:List UInt8)(h:Int):Int:=if qTn nm o r h≠0 then qTn nm o r h else if l.any (same nm o r h)=true then 19 else if 64≤l.length then 9 else 0
def qR9(l:List Aud)(nm o r:List UInt8)(h:Int):List Aud:=if qNj l nm o r h=0 then l++ [⟨nm,o,r,h⟩] else l
def qHL(l:List Aud)(nm o r:List UInt8)(h:Int):Int:=if qNj l nm o r h=0 then((l.length:Nat):Int) else 0
def ixA(p:Aud→Bool)(l:List Aud):Int:=if l.any p=true then((l.findIdx p:Nat):Int) else-1
theorem qYg{p:Aud→Bool}{l:List Aud}{k:Nat}(h:k<l.length)(hp:p (l.getD k qAs)=true)(hn: ∀j<k,p (l.getD j qAs)=false):ixA p l=((k:Nat):Int):=by
 have hk:l.getD k qAs=l[k]:=by rw [jB,jC h];rfl
 unfold ixA
 rw [if_pos (List.any_eq_true.2 ⟨l[k],jX h,hk▸hp⟩)]
 congr 1
 rw [List.findIdx_eq h]
 refine⟨hk▸hp,λj hj=>?_⟩
 have:=hn j hj
 rw [jB,jC (by omega)] at this
 exact this
theorem qYe{p:Aud→Bool}{l:List Aud}(hn: ∀j<l.length,p (l.getD j qAs)=false):ixA p l= -1:=by
 unfold ixA
 rw [if_neg]
 intro h
 obtain ⟨x,hx,hp⟩:=List.any_eq_true.1 h
 obtain ⟨j,hj,rfl⟩:=zW hx
 have:=hn j hj
 rw [jB,jC hj] at this
 rw [show(some l[j]).getD qAs=l[j] from rfl,hp] at this
 cases this
theorem qYf(p:Aud→Bool)(l:List Aud):decide (ixA p l≥0)=l.any p:=by
 unfold ixA
 by_cases h:l.any p=true
 · rw [if_pos h,h,decide_eq_true (by omega)]
 · rw [if_neg h,Bool.eq_false_iff.2 h];rfl
theorem qXn(F:Hp)(a b c:List UInt8)(d:Int)(nm op rt:List UInt8)(ht:Int)(p:Nat)(hp:qAR F ⟨p,0,none⟩ [Str nm,Str op,Str rt,I ht]):Cz prog 117 [.agg #[Str (a),Str (b),Str (c),I (d)],Ptr p] F (.bool (same nm op rt ht ⟨a,b,c,d⟩)):=by
 refine Ct.walk func117 rfl ntmps117 rfl (λw0 hw0=>?_)
 refine J.f λ_ j1=>J.p (qAd O O O) O λg2 _=>J.b O<|J.c j1 ?_
 refine J.f λ_ j2=>J.T 0 qNv z9_ O O O O O<|J.a5 1 b9_ O O O O O<|J.T 0 qNv z9_ O O O O O<|J.g (qAJ O O b9_ (m:=F) (by simp) (hp.at (i:=0) rfl)) rfl<|J.g (qBS rfl rfl rfl) rfl<|J.b rfl<|J.b9 (d:=9) rfl (λh9=>?_) (λh9=>?_)
 ·
  refine J.q 7 O<|J.c j2 ?_
  exact J.A<|J.E hw0 O () (by unfold same;dsimp only;first|rw [decide_eq_true h9,Bool.true_or]|rw [decide_eq_false h9,Bool.false_or]) trivial [0] rfl (by decide)
 refine J.G (qAA O O qNv O qET O) O<|J.G (qAX O O qNh qET (m:=blk g2 [Str (a),Str (b),Str (c),I (d)] 72) (by simp) (qAR.blk0.sub 1 3) rfl) rfl<|J.G (qAA rfl rfl qNv rfl qET rfl) rfl<|J.G (qAX rfl rfl qNh qET (m:=F) (by simp) (hp.sub 1 3) rfl) rfl<|J.G (qYP rfl rfl rfl (by kernel_rfl) (λw=>qYp 9998 b c d op rt ht w)) rfl<|J.q 2 rfl<|J.c j2 ?_
 exact J.A<|J.E hw0 O () (by unfold same;dsimp only;first|rw [decide_eq_true h9,Bool.true_or]|rw [decide_eq_false h9,Bool.false_or]) trivial [0] rfl (by decide)
theorem qR7(F:Hp)(A:Option Addr)(n c:Nat)(l:List Aud)(hs:Sl F 4 A n c (qBX l))(hnb:n≤1073741824)(nm op rt:List UInt8)(ht:Int)(p:Nat)(hp:qAR F ⟨p,0,none⟩ [Str nm,Str op,Str rt,I ht]):Cz prog 170 [.slice A n c,.func (.func 117) #[] #[Ptr p]] F (I (ixA (same nm op rt ht) l)):=by
 have hn:l.length=n:=by have:=hs.1;simpa [qBX] using this
 refine Ct.walk func170 rfl ntmps170 rfl (λw0 hw0=>?_)
 refine J.f λ_ j1=>J.b O<|J.c j1 ?_
 refine J.k λ_ j2=>J.f λ_ j3=>J.b O<|J.g (qAU qGF O O) O<|J.b O<|J.c j3 ?_
 refine J.O<|J.b4 (X:=Nat) (λζ=> [(0,.slice A n c),(1,.func (.func 117) #[] #[Ptr p]),(7,I ((n:Nat):Int)),(8,I ((ζ:Nat):Int))]) (λζ=> [F]) (λζ=>ζ≤n∧ ∀j<ζ,same nm op rt ht (l.getD j qAs)=false) (λζ=>n-ζ) 0 (⟨jG _,λj h=>absurd h (zA j)⟩) ⟨O,O,O,O,trivial⟩ (λ_ h=>h) ?_
 rintro k ⟨hk,hno⟩ I0 hI0
 refine J.f λ_ j4=>J.g (qAT O O O) O<|J.c j4 ?_
 refine J.k λ_ j5=>J.W O (λh9=>?_) (λh9=>?_)
 ·
  refine J.M j5 ?_
  refine J.k λ_ j6=>J.O<|J.f λ_ j7=>J.q 2 O<|J.c j7 ?_
  refine J.f λ_ j8=>J.q 3 O<|J.g (qAH O O O qGF qDV hs (by omega)) O<|J.g (qAX O O qKq qDV (m:=F) (by simp) (hs.elem (qEx (by omega))) rfl) rfl<|J.p (qDF rfl rfl rfl ent117 (Ct.use0 (λF' hF=>qXn F' ((l.getD k qAs).nm) ((l.getD k qAs).op) ((l.getD k qAs).rt) ((l.getD k qAs).ht) nm op rt ht p (hp.mono (Fa hF))))) rfl λg16 _=>J.c j8 ?_
  refine J.c6 O (λh16=>?_) (λh16=>?_)
  ·
   refine J.f λ_ j9=>J.q 2 O<|J.c j9 ?_
   exact J.A<|J.a7<|J.V<|J.V<|J.a7<|J.V<|J.E hw0 O () (by rw [qYg (k:=k) (by omega) (by simpa using h16) hno]) trivial [0] rfl (by decide)
  refine J.b5<|J.a2<|J.u (J.D j6 ?_)
  exact J.H<|J.g ((qAS O O O (by omega)).nat (k+1) (by omega)) O<|J.b O<|J.a3<|J.u<|J.a4 (k+1) (λη (hη:_∧n-η<n-k)=>hI0 η hη.1 hη.2) ⟨⟨by omega,λj hj=>by rcases Nat.lt_succ_iff_lt_or_eq.1 hj with h|rfl;exact hno j h;simpa using h16⟩,by first|omega|(dsimp only;omega)⟩ ⟨rfl,rfl,rfl,rfl,trivial⟩ (λ_ h=>h)
 refine J.b2<|J.a0<|J.a0<|J.b3 ?_
 refine J.u (J.D j2 ?_)
 refine J.f λ_ j10=>J.b O<|J.c j10 ?_
 exact J.A<|J.E hw0 O () (by rw [qYe (λj hj=>hno j (by omega))]) trivial [0] rfl (by decide)
theorem qKt(F:Hp)(A:Option Addr)(n c:Nat)(l:List Aud)(hs:Sl F 4 A n c (qBX l))(hnb:n≤1073741824)(nm op rt:List UInt8)(ht:Int)(p:Nat)(hp:qAR F ⟨p,0,none⟩ [Str nm,Str op,Str rt,I ht]):Cz prog 116 [.slice A n c,.func (.func 117) #[] #[Ptr p]] F (.bool (l.any (same nm op rt ht))):=by
 refine Ct.walk func116 rfl ntmps116 rfl (λw0 hw0=>?_)
 refine J.f λ_ j1=>J.b O<|J.c j1 ?_
 refine J.f λ_ j2=>J.q 2 O<|J.p (qAB O O ent170 (Ct.use0 (λF' hF=>qR7 F' A n c l (hs.mono (Fa hF)) (by omega) nm op rt ht p (hp.mono (Fa hF))))) O λg7 _=>J.g (qBA O O O) O<|J.b O<|J.c j2 ?_
 exact J.A<|J.E hw0 O () (by rw [qYf]) trivial [0] rfl (by decide)
theorem qTD(F:Hp)(hA:qAR F ⟨2,0,none⟩ qBY)(hT:qB5 F)(nm op rt:List UInt8)(ht:Int)(h1:nm.length≤1000000)(h2:op.length≤1048576)(h3:rt.length≤1048576):Cz prog 115 [.agg #[Str (nm),Str (op),Str (rt),I (ht)]] F (I (qTn nm op rt ht)):=by
 refine Ct.walk func115 rfl ntmps115 rfl (λw0 hw0=>?_)
 refine J.f λ_ j1=>J.p (qAd O O O) O λg1 _=>J.b O<|J.c j1 ?_
 refine J.f λ_ j2=>J.T 0 qNv z9_ O O O O O<|J.a5 1 b9_ O O O O O<|J.p (qAB O O ent169 (Ct.use0 (λF' hF=>qKB F' (hA.mono (Fa hF)) (hT.mono (Fa hF)) nm (by first|omega|decide)))) O λg8 _=>J.q 5 O<|J.c j2 ?_
 refine J.k λ_ j3=>J.O<|J.f λ_ j4=>J.b O<|J.g (qAe O O O) O<|J.b O<|J.c j4 ?_
 refine J.W O (λh11=>?_) (λh11=>?_)
 ·
  refine J.f λ_ j5=>J.q 2 O<|J.c j5 ?_
  exact J.A<|J.a7<|J.V<|J.E hw0 O () (by unfold qTn qFd;rw [if_pos (show(normal nm).2≠0 by omega),if_pos (by omega)]) trivial [0] rfl (by decide)
 refine J.f λ_ j6=>J.b O<|J.T 0 qNv z9_ O O O O O<|J.a5 1 b9_ O O O O O<|J.g (qEC O O O) O<|J.b O<|J.c j6 ?_
 refine J.W O (λh15=>?_) (λh15=>?_)
 ·
  refine J.f λ_ j7=>J.b O<|J.c j7 ?_
  exact J.A<|J.a7<|J.V<|J.E hw0 O () (by unfold qTn qFd;rw [if_neg (show¬(normal nm).2≠0 by omega),if_pos h15];rfl) trivial [0] rfl (by decide)
 refine J.b5<|J.a2<|J.u (J.D j3 ?_)
 refine J.f λ_ j8=>J.T 1 qNv qET O O O O O<|J.g (qAX O O qNh qET (m:=blk g1 [Str (nm),Str (op),Str (rt),I (ht)] 72) (by simp) (qAR.blk0.sub 1 3) rfl) rfl<|J.p (qAB rfl rfl ent100 (Ct.use0 (λF' hF=>qDy F' op rt ht (by omega) (by omega)))) rfl λg23 _=>J.q 4 rfl<|J.c j8 ?_
 refine J.f λ_ j9=>J.q 2 O<|J.c j9 ?_
 exact J.A<|J.E hw0 O () (by unfold qTn qFd;rw [if_neg (show¬(normal nm).2≠0 by omega),if_neg h15];rfl) trivial [0] rfl (by decide)
theorem qWC(F:Hp):Ct prog 52 [] [F] (λx:Nat×Hp=>Ptr x.1) (λx=>qSP x.2 x.1 ([])) (λx=> [x.2,F]):=by
 refine Ct.walk func52 rfl ntmps52 rfl (λw0 hw0=>?_)
 refine J.f λ_ j1=>J.b O<|J.c j1 ?_
 refine J.f λ_ j2=>J.g (qAK (places:= [(0,1)]) (r:= [.slice none 0 0]) O O O qGG zeroValue207 (λ_=>by kernel_rfl) O) O<|J.p (qAd O O O) O λg2 _=>J.b O<|J.c j2 ?_
 exact J.A<|J.c7 [1,2,0] [blk g2 [.slice none 0 0] 207,(λ_=>none),F] O (by decide)<|J.a9 hw0 (λ_ _ h=>h) (qJv O O) (qCL (g2,U [blk g2 [.slice none 0 0] 207,(λ_=>none)]) (O) (λhd=>⟨none,0,0,(λ_=>none),O,hd,qBb.nil⟩) [0,1,2] O O (by decide))
theorem qWP(F m:Hp)(g:Nat)(l:List Aud)(hb:qSP m g l)(hA:qAR F ⟨2,0,none⟩ qBY)(hT:qB5 F)(nm op rt:List UInt8)(ht:Int)(h1:nm.length≤1000000)(h2:op.length≤1048576)(h3:rt.length≤1048576)(hl:l.length≤1000000):Ct prog 53 [Ptr g,.agg #[Str (nm),Str (op),Str (rt),I (ht)]] [m,F] (λ_:Hp=> .tuple #[I (qHL l nm op rt ht),I (qNj l nm op rt ht)]) (λm'=>qSP m' g (qR9 l nm op rt ht)) (λm'=> [m',F]):=by
 obtain ⟨A,n,c,mr,rfl,hd,hr⟩:=hb
 have hn:l.length=n:=by have:=hr.len;simpa [qBX] using this
 have hnc:=hr.2.2.1
 refine Ct.walk func53 rfl ntmps53 rfl (λw0 hw0=>?_)
 refine J.e6 hd ?_
 refine J.f λ_ j1=>J.p (qAd O O O) O λg3 _=>J.q 2 O<|J.c j1 ?_
 refine J.k λ_ j2=>J.f λ_ j3=>J.b O<|J.g (qA6 underlying93 O O O) O<|J.c j3 ?_
 refine J.a1 ?_
 refine J.M j2 ?_
 refine J.k λ_ j4=>J.f λ_ j5=>J.b7 3 qKq qDV O O O O O<|J.p (qAB O O ent115 (Ct.use0 (λF' hF=>qTD F' (hA.mono (Fa hF)) (hT.mono (Fa hF)) nm op rt ht (by omega) (by omega) (by omega)))) O λg10 _=>J.b O<|J.c j5 ?_
 refine J.f λ_ j6=>J.b O<|J.g (qAe O O O) O<|J.c j6 ?_
 refine J.W O (λh12=>?_) (λh12=>?_)
 ·
  refine J.f λ_ j7=>J.q 3 O<|J.c j7 ?_
  refine J.A<|J.V ?_
  have hE:qNj l nm op rt ht=qTn nm op rt ht:=by unfold qNj;rw [if_pos h12]
  have hL:qR9 l nm op rt ht=l:=by unfold qR9;rw [hE,if_neg h12]
  have hN:qHL l nm op rt ht=0:=by unfold qHL;rw [hE,if_neg h12]
  exact J.a9 hw0 (λ_ _ h=>h) (qCG O O O) (qCL (U [blk g [.slice A n c] 207,mr]) (by rw [hE,hN]) (λhd=>by rw [hL];exact⟨A,n,c,mr,rfl,hd,hr⟩) [0,1,2] rfl rfl (by decide))
 refine J.M j4 ?_
 refine J.k λ_ j8=>J.O<|J.f λ_ j9=>J.b O<|J.g (qAC O O) O<|J.T 0 qGG qSH O O O O O<|J.a5 0 isAgg76 O O O O O<|J.g (qBg O O) O<|J.p (qAB O O ent116 (Ct.use0 (λF' hF=>qKt F' A n c l (hr.sl.mono (Fa hF)) (by omega) nm op rt ht g3 (qAR.blk0.mono (hF (blk g3 [Str (nm),Str (op),Str (rt),I (ht)] 72) (by simp)))))) rfl λg20 _=>J.b rfl<|J.c j9 ?_
 refine J.c6 O (λh14=>?_) (λh14=>?_)
 ·
  refine J.k λ_ j10=>?_
  have hE:qNj l nm op rt ht=19:=by unfold qNj;rw [if_neg h12,if_pos h14]
  have hL:qR9 l nm op rt ht=l:=by unfold qR9;rw [hE];rfl
  have hN:qHL l nm op rt ht=0:=by unfold qHL;rw [hE];rfl
  refine J.H<|J.q 2 O<|J.c j10 ?_
  exact J.A<|J.a7<|J.V<|J.a9 hw0 (λ_ _ h=>h) (qCG O O O) (qCL (U [blk g [.slice A n c] 207,mr]) (by rw [hE,hN]) (λhd=>by rw [hL];exact⟨A,n,c,mr,rfl,hd,hr⟩) [0,1,2] rfl rfl (by decide))
 refine J.f λ_ j11=>J.b O<|J.g (qAC O O) O<|J.T 0 qGG qSH O O O O O<|J.a5 0 isAgg76 O O O O O<|J.g (qAU qGF O O) O<|J.g (qBA O O O) O<|J.b O<|J.c j11 ?_
 refine J.W O (λh21=>?_) (λh21=>?_)
 ·
  refine J.k λ_ j12=>?_
  have hE:qNj l nm op rt ht=9:=by unfold qNj;rw [if_neg h12,if_neg (by simpa using h14),if_pos (by omega)]
  have hL:qR9 l nm op rt ht=l:=by unfold qR9;rw [hE];rfl
  have hN:qHL l nm op rt ht=0:=by unfold qHL;rw [hE];rfl
  refine J.H<|J.q 2 O<|J.c j12 ?_
  exact J.A<|J.a7<|J.V<|J.a9 hw0 (λ_ _ h=>h) (qCG O O O) (qCL (U [blk g [.slice A n c] 207,mr]) (by rw [hE,hN]) (λhd=>by rw [hL];exact⟨A,n,c,mr,rfl,hd,hr⟩) [0,1,2] rfl rfl (by decide))
 refine J.b5<|J.a2<|J.u (J.D j8 ?_)
 refine J.k λ_ j13=>?_
 have hE:qNj l nm op rt ht=0:=by unfold qNj;rw [if_neg h12,if_neg (by simpa using h14),if_neg (by omega)]
 have hL:qR9 l nm op rt ht=l++ [⟨nm,op,rt,ht⟩]:=by unfold qR9;rw [hE];rfl
 have hN:qHL l nm op rt ht=((l.length:Nat):Int):=by unfold qHL;rw [hE];rfl
 refine J.b0 [blk g [.slice A n c] 207,blk g3 [Str (nm),Str (op),Str (rt),I (ht)] 72] [10] (.y 0 (.y 1 (.y 2 (.y 3 (.y 4 (.y 5 (.e 6 (.e 7 (.y 8 (.y 9 (.e 10 .nil))))))))))) Tryz.wide (by decide+kernel) (by simp) ?_
 refine J.L ?_
 refine J.L ?_
 refine J.j O (qAC O O) O O<|J.j O (qAA O O qGG O qSH O) O O<|J.j O (qAE 0 O O O isAgg76 O) O O<|J.j O (qAY 1 O O O qKq qDV O) O O<|J.Z O (qAG (l:= [.tmp 33]) (xs:= [[Str (nm),Str (op),Str (rt),I (ht)]]) O O O O qGF el72 O (by decide) (by decide) (by simp)) rfl (by simp) λg34 _=>J.Z rfl (qAV (i:=1) (m2:=blk g34 [Str (nm),Str (op),Str (rt),I (ht)] 72) rfl rfl rfl qGF qGF el72 rfl hr (by simp) ((qAl (q:=True) (xs:=qBX [(⟨nm,op,rt,ht⟩:Aud)]) rfl (by intro x hx;rw [List.mem_singleton.1 hx];rfl)).sl) rfl (by omega) (by omega)) rfl (by simp) ?_
 rintro⟨A35,c35,m35⟩ h35
 try dsimp only at h35
 replace h35:Row m35 72 4 A35 (n+1) c35 (qBX (l++([(⟨nm,op,rt,ht⟩:Aud)]))):=by rw [qFO];exact h35
 refine J.j O (qAC O O) O O<|J.j O (qAA O O qGG O qSH O) O O<|J.c2 O (qAF (i:=0) (l:= [.slice A n c]) (vs:= [.slice A35 (n+1) c35]) O O O O O qSH O O) O O O λ_ _=>J.a8<|J.u (J.D j13 ?_)
 refine J.f λ_ j14=>J.b O<|J.g (qAC O O) O<|J.T 0 qGG qSH O O O O O<|J.a5 0 isAgg76 O O O O O<|J.g (qAU qGF O O) O<|J.g (qA4 O O O (by omega)) O<|J.q 2 O<|J.c j14 ?_
 exact J.A<|J.a9 hw0 (λ_ _ h=>h) (qCG O O O) (qCL (U [blk g [.slice A35 (n+1) c35] 207,m35]) (by rw [hE,hN,hn,show((n+1:Nat):Int)-1=((n:Nat):Int) by omega]) (λhd=>by rw [hL];exact⟨A35,n+1,c35,m35,rfl,hd,h35⟩) [0,1,2] rfl rfl (by decide))
theorem qMh(F:Hp)(g:Nat)(A:Option Addr)(n c:Nat)(hp:qAR F ⟨g,0,none⟩ [.slice A n c]):Cz prog 122 [Ptr g] F (I ((n:Nat):Int)):=by
 refine Ct.walk func122 rfl ntmps122 rfl (λw0 hw0=>?_)
 refine J.f λ_ j1=>J.b O<|J.c j1 ?_
 refine J.k λ_ j2=>J.f λ_ j3=>J.b O<|J.g ((qA6 underlying93 O O O).as (v':= .bool false) O) O<|J.c j3 ?_
 refine J.a1 ?_
 refine J.M j2 ?_
 refine J.f λ_ j4=>J.b O<|J.g (qAC O O) O<|J.T 0 qGG qSH O O O O O<|J.g (qAJ O O isAgg76 (m:=F) (by simp) (hp)) rfl<|J.g (qAU qGF rfl rfl) rfl<|J.b rfl<|J.c j4 ?_
 exact J.A<|J.E hw0 O () O trivial [0] O (by decide)
def hit(x y:Lau):Bool:=decide (y.nm=x.nm∨y.key=x.key∧y.ht=x.ht)
end Go.Proofs.YtcgcjaflllmlpaaGreatDoor
