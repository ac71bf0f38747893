/- A part of the proof. -/
import Derived.Test.YtmemgokiolfdoaaGreatDoorTopMsG24
import Derived.Test.YtmemgokiolfdoaaGreatDoorTopMsG10
set_option maxRecDepth 100000
set_option maxHeartbeats 1000000
set_option linter.unusedSimpArgs false
set_option linter.unusedVariables false
namespace Go.Proofs.YtmemgokiolfdoaaGreatDoor
open Go Go.Fw Go.Proofs.Tryz
theorem el34:qCY prog 34 [Str [],Str [],Str [],.int .i64 0] 56:=qCY.of xI O
theorem qV8(d:Nat)(o r:xA)(h:Int)(o' r':xA)(h':Int)(w:World):(Op.equalIn (d+2) 32 (.agg #[Str o,Str r,I h]) (.agg #[Str o',Str r',I h'])).run prog w= .ok (decide (o=o'∧r=r'∧h=h')) w:=qZn d o r o' r' h h' w
structure Aud where
 nm:xA
 op:xA
 rt:xA
 ht:Int
 deriving DecidableEq
def Aud.cells(x:Aud):List Value:= [Str (x.nm),Str (x.op),Str (x.rt),I (x.ht)]
def qAt:Aud:=⟨[],[],[],0⟩
def qBr(l:List Aud):List (List Value):=l.map Aud.cells
theorem qFT{l:List Aud}{k:Nat}(h:k<l.length):(qBr l)[k]?=some (l.getD k qAt).cells:=by
 unfold qBr
 rw [jN,qAi qAt h];rfl
theorem qEF(l:List Aud):(qBr l).length=l.length:=by simp [qBr]
theorem qPO(a:List Aud)(x:Aud):qBr (a++ [x])=qBr a++ [x.cells]:=by simp [qBr]
theorem qUK(a:List Aud):(qBr a).all (λx=>x.all Value.oneCell')=true:=qMK Aud.cells (λ_=>rfl) a
structure Lau where
 nm:xA
 key:UInt8
 ht:Int
 deriving DecidableEq
def Lau.cells(x:Lau):List Value:= [Str (x.nm),B8 (x.key),I (x.ht)]
def qS1(m:Hp)(g:Nat)(l:List Aud):Prop:= ∃A n c mr,m=U [blk g [.slice A n c] 232,mr]∧Dj (blk g [.slice A n c] 232) mr∧Row mr 34 4 A n c (qBr l)
def qMj(s:xA):Nat:=if(normal s).2≠0 then(normal s).2 else if(normal s).1≠s then 4 else 0
def qUW(nm o r:xA)(h:Int):Int:=if qMj nm≠0 then((qMj nm:Nat):Int) else qBN o r h
def same(nm o r:xA)(h:Int)(x:Aud):Bool:=decide (x.nm=nm)||decide (x.op=o∧x.rt=r∧x.ht=h)
def qOF(l:List Aud)(nm o r:xA)(h:Int):Int:=if qUW nm o r h≠0 then qUW nm o r h else if l.any (same nm o r h)=true then 19 else if 64≤l.length then 9 else 0
def qSp(l:List Aud)(nm o r:xA)(h:Int):List Aud:=if qOF l nm o r h=0 then l++ [⟨nm,o,r,h⟩] else l
def qHz(l:List Aud)(nm o r:xA)(h:Int):Int:=if qOF l nm o r h=0 then((l.length:Nat):Int) else 0
def ixA(p:Aud→Bool)(l:List Aud):Int:=if l.any p=true then((l.findIdx p:Nat):Int) else-1
theorem qZe{p:Aud→Bool}{l:List Aud}{k:Nat}(h:k<l.length)(hp:p (l.getD k qAt)=true)(hn: ∀j<k,p (l.getD j qAt)=false):ixA p l=((k:Nat):Int):=by
 have hk:l.getD k qAt=l[k]:=by rw [jB,jC h];rfl
 unfold ixA
 rw [if_pos (List.any_eq_true.2 ⟨l[k],jQ h,hk▸hp⟩)]
 congr 1
 rw [List.findIdx_eq h]
 refine⟨hk▸hp,λj hj=>?_⟩
 have:=hn j hj
 rw [jB,jC xB] at this
 exact this
theorem qZc{p:Aud→Bool}{l:List Aud}(hn: ∀j<l.length,p (l.getD j qAt)=false):ixA p l= -1:=by
 unfold ixA
 rw [if_neg]
 intro h
 obtain ⟨x,hx,hp⟩:=List.any_eq_true.1 h
 obtain ⟨j,hj,rfl⟩:=zL hx
 have:=hn j hj
 rw [jB,jC hj] at this
 rw [show(some l[j]).getD qAt=l[j] from rfl,hp] at this
 cases this
theorem qZd(p:Aud→Bool)(l:List Aud):decide (ixA p l≥0)=l.any p:=by
 unfold ixA
 by_cases h:l.any p=true
 · rw [if_pos h,h,decide_eq_true xB]
 · rw [if_neg h,Bool.eq_false_iff.2 h];rfl
theorem qYX(F:Hp)(a b c:xA)(d:Int)(nm op rt:xA)(ht:Int)(p:Nat)(hp:qAG F ⟨p,0,none⟩ [Str nm,Str op,Str rt,I ht]):Cz prog 116 [.agg #[Str (a),Str (b),Str (c),I (d)],Ptr p] F (.bool (same nm op rt ht ⟨a,b,c,d⟩)):=by
 refine Ct.walk func116 O ntmps116 O (λw0 hw0=>?_)
 refine J.f λ_ j1=>J.q (qAb O O O) O λg2 _=>J.b O<|J.c j1 ?_
 refine J.f λ_ j2=>J.W 0 qPT z9_ O O O O O<|J.a6 1 b9_ O O O O O<|J.W 0 qPT z9_ O O O O O<|J.g (qAI O O b9_ (m:=F) xD (hp.at (i:=0) O)) O<|J.g (qBY O O O) O<|J.b O<|J.b9 (d:=9) O (λh9=>?_) (λh9=>?_)
 ·
  refine J.p 7 O<|J.c j2 ?_
  exact J.A<|J.E hw0 O () (by unfold same;dsimp only;first|rw [decide_eq_true h9,Bool.true_or]|rw [decide_eq_false h9,Bool.false_or]) trivial [0] O xC
 refine J.G (qAA O O qPT O qCT O) O<|J.G (qAP O O qGb qCT (m:=blk g2 [Str (a),Str (b),Str (c),I (d)] 34) xD (qAG.blk0.sub 1 3) O) O<|J.G (qAA O O qPT O qCT O) O<|J.G (qAP O O qGb qCT (m:=F) xD (hp.sub 1 3) O) O<|J.G (qZK O O O xI (λw=>qV8 9998 b c d op rt ht w)) O<|J.p 2 O<|J.c j2 ?_
 exact J.A<|J.E hw0 O () (by unfold same;dsimp only;first|rw [decide_eq_true h9,Bool.true_or]|rw [decide_eq_false h9,Bool.false_or]) trivial [0] O xC
theorem qSn(F:Hp)(A:Option Addr)(n c:Nat)(l:List Aud)(hs:Sl F 4 A n c (qBr l))(hnb:n≤1073741824)(nm op rt:xA)(ht:Int)(p:Nat)(hp:qAG F ⟨p,0,none⟩ [Str nm,Str op,Str rt,I ht]):Cz prog 196 [.slice A n c,.func (.func 116) #[] #[Ptr p]] F (I (ixA (same nm op rt ht) l)):=by
 have hn:l.length=n:=by have:=hs.1;simpa [qBr] using this
 refine Ct.walk func196 O ntmps196 O (λw0 hw0=>?_)
 refine J.f λ_ j1=>J.b O<|J.c j1 ?_
 refine J.k λ_ j2=>J.f λ_ j3=>J.b O<|J.g (qAO qDm O O) O<|J.b O<|J.c j3 ?_
 refine J.T<|J.b5 (X:=Nat) (λζ=> [(0,.slice A n c),(1,.func (.func 116) #[] #[Ptr p]),(7,I (n:Nat)),(8,I (ζ:Nat))]) (λζ=> [F]) (λζ=>ζ≤n∧ ∀j<ζ,same nm op rt ht (l.getD j qAt)=false) (λζ=>n-ζ) 0 (⟨jE _,λj h=>absurd h (jy j)⟩) ⟨O,O,O,O,trivial⟩ (λ_ h=>h) ?_
 rintro k ⟨hk,hno⟩ I0 hI0
 refine J.f λ_ j4=>J.g (qAS O O O) O<|J.c j4 ?_
 refine J.k λ_ j5=>J.Z O (λh9=>?_) (λh9=>?_)
 ·
  refine J.M j5 ?_
  refine J.k λ_ j6=>J.T<|J.f λ_ j7=>J.p 2 O<|J.c j7 ?_
  refine J.f λ_ j8=>J.p 3 O<|J.g (qAF O O O qDm qDq hs xB) O<|J.g (qAP O O qLY qDq (m:=F) xD (hs.elem (qFT xB)) O) O<|J.q (qCg O O O ent (Ct.use0 (λF' hF=>qYX F' ((l.getD k qAt).nm) ((l.getD k qAt).op) ((l.getD k qAt).rt) ((l.getD k qAt).ht) nm op rt ht p (hp.mono (Fa hF))))) O λg16 _=>J.c j8 ?_
  refine J.c5 O (λh16=>?_) (λh16=>?_)
  ·
   refine J.f λ_ j9=>J.p 2 O<|J.c j9 ?_
   exact J.A<|J.a5<|J.V<|J.V<|J.a5<|J.V<|J.E hw0 O () (by rw [qZe (k:=k) xB (by simpa using h16) hno]) trivial [0] O xC
  refine J.b2<|J.a2<|J.u (J.D j6 ?_)
  exact J.H<|J.g ((qAR O O O xB).nat (k+1) xB) O<|J.b O<|J.a4<|J.u<|J.a8 (k+1) (λη (hη:_∧n-η<n-k)=>hI0 η hη.1 hη.2) ⟨⟨xB,λj hj=>by rcases Nat.lt_succ_iff_lt_or_eq.1 hj with h|rfl;exact hno j h;simpa using h16⟩,by first|omega|(dsimp only;omega)⟩ ⟨O,O,O,O,trivial⟩ (λ_ h=>h)
 refine J.b3<|J.a0<|J.a0<|J.b4 ?_
 refine J.u (J.D j2 ?_)
 refine J.f λ_ j10=>J.b O<|J.c j10 ?_
 exact J.A<|J.E hw0 O () (by rw [qZc (λj hj=>hno j xB)]) trivial [0] O xC
theorem qLb(F:Hp)(A:Option Addr)(n c:Nat)(l:List Aud)(hs:Sl F 4 A n c (qBr l))(hnb:n≤1073741824)(nm op rt:xA)(ht:Int)(p:Nat)(hp:qAG F ⟨p,0,none⟩ [Str nm,Str op,Str rt,I ht]):Cz prog 115 [.slice A n c,.func (.func 116) #[] #[Ptr p]] F (.bool (l.any (same nm op rt ht))):=by
 refine Ct.walk func115 O ntmps115 O (λw0 hw0=>?_)
 refine J.f λ_ j1=>J.b O<|J.c j1 ?_
 refine J.f λ_ j2=>J.p 2 O<|J.q (qAZ O O (λF' hF=>qSn F' A n c l (hs.mono (Fa hF)) xB nm op rt ht p (hp.mono (Fa hF)))) O λg7 _=>J.g (qBI O O O) O<|J.b O<|J.c j2 ?_
 exact J.A<|J.E hw0 O () (by rw [qZd]) trivial [0] O xC
theorem qTu(F:Hp)(hA:qAG F ⟨0,0,none⟩ qBT)(hT:qBv F)(nm op rt:xA)(ht:Int)(h1:nm.length≤1000000)(h2:op.length≤1048576)(h3:rt.length≤1048576):Cz prog 114 [.agg #[Str (nm),Str (op),Str (rt),I (ht)]] F (I (qUW nm op rt ht)):=by
 refine Ct.walk func114 O ntmps114 O (λw0 hw0=>?_)
 refine J.f λ_ j1=>J.q (qAb O O O) O λg1 _=>J.b O<|J.c j1 ?_
 refine J.f λ_ j2=>J.W 0 qPT z9_ O O O O O<|J.a6 1 b9_ O O O O O<|J.q (qAZ O O (λF' hF=>qHE F' (hA.mono (Fa hF)) (hT.mono (Fa hF)) nm xN)) O λg8 _=>J.p 5 O<|J.c j2 ?_
 refine J.k λ_ j3=>J.T<|J.f λ_ j4=>J.b O<|J.g (qAV O O O) O<|J.b O<|J.c j4 ?_
 refine J.Z O (λh11=>?_) (λh11=>?_)
 ·
  refine J.f λ_ j5=>J.p 2 O<|J.c j5 ?_
  exact J.A<|J.a5<|J.V<|J.E hw0 O () (by unfold qUW qMj;rw [if_pos (show(normal nm).2≠0 by omega),if_pos xB]) trivial [0] O xC
 refine J.f λ_ j6=>J.b O<|J.W 0 qPT z9_ O O O O O<|J.a6 1 b9_ O O O O O<|J.g (qDH O O O) O<|J.b O<|J.c j6 ?_
 refine J.Z O (λh15=>?_) (λh15=>?_)
 ·
  refine J.f λ_ j7=>J.b O<|J.c j7 ?_
  exact J.A<|J.a5<|J.V<|J.E hw0 O () (by unfold qUW qMj;rw [if_neg (show¬(normal nm).2≠0 by omega),if_pos h15];rfl) trivial [0] O xC
 refine J.b2<|J.a2<|J.u (J.D j3 ?_)
 refine J.f λ_ j8=>J.W 1 qPT qCT O O O O O<|J.g (qAP O O qGb qCT (m:=blk g1 [Str (nm),Str (op),Str (rt),I (ht)] 34) xD (qAG.blk0.sub 1 3) O) O<|J.q (qAZ O O (λF' hF=>qEP F' op rt ht xB xB)) O λg23 _=>J.p 4 O<|J.c j8 ?_
 refine J.f λ_ j9=>J.p 2 O<|J.c j9 ?_
 exact J.A<|J.E hw0 O () (by unfold qUW qMj;rw [if_neg (show¬(normal nm).2≠0 by omega),if_neg h15];rfl) trivial [0] O xC
theorem qWv(F:Hp):Ct prog 45 [] [F] (λx:Nat×Hp=>Ptr x.1) (λx=>qS1 x.2 x.1 ([])) (λx=> [x.2,F]):=by
 refine Ct.walk func45 O ntmps45 O (λw0 hw0=>?_)
 refine J.f λ_ j1=>J.b O<|J.c j1 ?_
 refine J.f λ_ j2=>J.g (qAL (places:= [(0,1)]) (r:= [.slice none 0 0]) O O O qGm zeroValue232 (λ_=>xI) O) O<|J.q (qAb O O O) O λg2 _=>J.b O<|J.c j2 ?_
 exact J.A<|J.c6 [1,2,0] [blk g2 [.slice none 0 0] 232,(λ_=>none),F] O xC<|J.a9 hw0 (λ_ _ h=>h) (qKV O O) (qCa (g2,U [blk g2 [.slice none 0 0] 232,(λ_=>none)]) (O) (λhd=>⟨none,0,0,(λ_=>none),O,hd,qBZ.nil⟩) [0,1,2] O O xC)
theorem qW8(F m:Hp)(g:Nat)(l:List Aud)(hb:qS1 m g l)(hA:qAG F ⟨0,0,none⟩ qBT)(hT:qBv F)(nm op rt:xA)(ht:Int)(h1:nm.length≤1000000)(h2:op.length≤1048576)(h3:rt.length≤1048576)(hl:l.length≤1000000):Ct prog 46 [Ptr g,.agg #[Str (nm),Str (op),Str (rt),I (ht)]] [m,F] (λ_:Hp=> .tuple #[I (qHz l nm op rt ht),I (qOF l nm op rt ht)]) (λm'=>qS1 m' g (qSp l nm op rt ht)) (λm'=> [m',F]):=by
 obtain ⟨A,n,c,mr,rfl,hd,hr⟩:=hb
 have hn:l.length=n:=by have:=hr.len;simpa [qBr] using this
 have hnc:=hr.2.2.1
 refine Ct.walk func46 O ntmps46 O (λw0 hw0=>?_)
 refine J.e7 hd ?_
 refine J.f λ_ j1=>J.q (qAb O O O) O λg3 _=>J.p 2 O<|J.c j1 ?_
 refine J.k λ_ j2=>J.f λ_ j3=>J.b O<|J.g (qA6 underlying121 O O O) O<|J.c j3 ?_
 refine J.a3 ?_
 refine J.M j2 ?_
 refine J.k λ_ j4=>J.f λ_ j5=>J.c0 3 qLY qDq O O O O O<|J.q (qAZ O O (λF' hF=>qTu F' (hA.mono (Fa hF)) (hT.mono (Fa hF)) nm op rt ht xB xB xB)) O λg10 _=>J.b O<|J.c j5 ?_
 refine J.f λ_ j6=>J.b O<|J.g (qAV O O O) O<|J.c j6 ?_
 refine J.Z O (λh12=>?_) (λh12=>?_)
 ·
  refine J.f λ_ j7=>J.p 3 O<|J.c j7 ?_
  refine J.A<|J.V ?_
  have hE:qOF l nm op rt ht=qUW nm op rt ht:=by unfold qOF;rw [if_pos h12]
  have hL:qSp l nm op rt ht=l:=by unfold qSp;rw [hE,if_neg h12]
  have hN:qHz l nm op rt ht=0:=by unfold qHz;rw [hE,if_neg h12]
  exact J.a9 hw0 (λ_ _ h=>h) (qBw O O O) (qCa (U [blk g [.slice A n c] 232,mr]) (by rw [hE,hN]) (λhd=>by rw [hL];exact⟨A,n,c,mr,O,hd,hr⟩) [0,1,2] O O xC)
 refine J.M j4 ?_
 refine J.k λ_ j8=>J.T<|J.f λ_ j9=>J.b O<|J.g (qAB O O) O<|J.W 0 qGm qHk O O O O O<|J.a6 0 isAgg118 O O O O O<|J.g (qBM O O) O<|J.q (qAZ O O (λF' hF=>qLb F' A n c l (hr.sl.mono (Fa hF)) xB nm op rt ht g3 (qAG.blk0.mono (hF (blk g3 [Str (nm),Str (op),Str (rt),I (ht)] 34) xD)))) O λg20 _=>J.b O<|J.c j9 ?_
 refine J.c5 O (λh14=>?_) (λh14=>?_)
 ·
  refine J.k λ_ j10=>?_
  have hE:qOF l nm op rt ht=19:=by unfold qOF;rw [if_neg h12,if_pos h14]
  have hL:qSp l nm op rt ht=l:=by unfold qSp;rw [hE];rfl
  have hN:qHz l nm op rt ht=0:=by unfold qHz;rw [hE];rfl
  refine J.H<|J.p 2 O<|J.c j10 ?_
  exact J.A<|J.a5<|J.V<|J.a9 hw0 (λ_ _ h=>h) (qBw O O O) (qCa (U [blk g [.slice A n c] 232,mr]) (by rw [hE,hN]) (λhd=>by rw [hL];exact⟨A,n,c,mr,O,hd,hr⟩) [0,1,2] O O xC)
 refine J.f λ_ j11=>J.b O<|J.g (qAB O O) O<|J.W 0 qGm qHk O O O O O<|J.a6 0 isAgg118 O O O O O<|J.g (qAO qDm O O) O<|J.g (qBI O O O) O<|J.b O<|J.c j11 ?_
 refine J.Z O (λh21=>?_) (λh21=>?_)
 ·
  refine J.k λ_ j12=>?_
  have hE:qOF l nm op rt ht=9:=by unfold qOF;rw [if_neg h12,if_neg (by simpa using h14),if_pos xB]
  have hL:qSp l nm op rt ht=l:=by unfold qSp;rw [hE];rfl
  have hN:qHz l nm op rt ht=0:=by unfold qHz;rw [hE];rfl
  refine J.H<|J.p 2 O<|J.c j12 ?_
  exact J.A<|J.a5<|J.V<|J.a9 hw0 (λ_ _ h=>h) (qBw O O O) (qCa (U [blk g [.slice A n c] 232,mr]) (by rw [hE,hN]) (λhd=>by rw [hL];exact⟨A,n,c,mr,O,hd,hr⟩) [0,1,2] O O xC)
 refine J.b2<|J.a2<|J.u (J.D j8 ?_)
 refine J.k λ_ j13=>?_
 have hE:qOF l nm op rt ht=0:=by unfold qOF;rw [if_neg h12,if_neg (by simpa using h14),if_neg xB]
 have hL:qSp l nm op rt ht=l++ [⟨nm,op,rt,ht⟩]:=by unfold qSp;rw [hE];rfl
 have hN:qHz l nm op rt ht=((l.length:Nat):Int):=by unfold qHz;rw [hE];rfl
 refine J.b1 [blk g [.slice A n c] 232,blk g3 [Str (nm),Str (op),Str (rt),I (ht)] 34] [10] (.y 0 (.y 1 (.y 2 (.y 3 (.y 4 (.y 5 (.e 6 (.e 7 (.y 8 (.y 9 (.e 10 .nil))))))))))) Tryz.wide xF xD ?_
 refine J.L ?_
 refine J.L ?_
 refine J.j O (qAB O O) O O<|J.j O (qAA O O qGm O qHk O) O O<|J.j O (qAD 0 O O O isAgg118 O) O O<|J.j O (qAU 1 O O O qLY qDq O) O O<|J.a1 O (qAE (l:= [.tmp 33]) (xs:= [[Str (nm),Str (op),Str (rt),I (ht)]]) O O O O qDm el34 O xC xC xD) O xD λg34 _=>J.a1 O (qAX (i:=1) (m2:=blk g34 [Str (nm),Str (op),Str (rt),I (ht)] 34) O O O qDm qDm el34 O hr xD ((qAm (q:=True) (xs:=qBr [(⟨nm,op,rt,ht⟩:Aud)]) O (by intro x hx;rw [List.mem_singleton.1 hx];rfl)).sl) O xB xB) O xD ?_
 rintro⟨A35,c35,m35⟩ h35
 try dsimp only at h35
 replace h35:Row m35 34 4 A35 (n+1) c35 (qBr (l++([(⟨nm,op,rt,ht⟩:Aud)]))):=by rw [qPO];exact h35
 refine J.j O (qAB O O) O O<|J.j O (qAA O O qGm O qHk O) O O<|J.c1 O (qAC (i:=0) (l:= [.slice A n c]) (vs:= [.slice A35 (n+1) c35]) O O O O O qHk O O) O O O λ_ _=>J.b0<|J.u (J.D j13 ?_)
 refine J.f λ_ j14=>J.b O<|J.g (qAB O O) O<|J.W 0 qGm qHk O O O O O<|J.a6 0 isAgg118 O O O O O<|J.g (qAO qDm O O) O<|J.g (qA4 O O O xB) O<|J.p 2 O<|J.c j14 ?_
 exact J.A<|J.a9 hw0 (λ_ _ h=>h) (qBw O O O) (qCa (U [blk g [.slice A35 (n+1) c35] 232,m35]) (by rw [hE,hN,hn,show((n+1:Nat):Int)-1=((n:Nat):Int) by omega]) (λhd=>by rw [hL];exact⟨A35,n+1,c35,m35,O,hd,h35⟩) [0,1,2] O O xC)
theorem qND(F:Hp)(g:Nat)(A:Option Addr)(n c:Nat)(hp:qAG F ⟨g,0,none⟩ [.slice A n c]):Cz prog 119 [Ptr g] F (I (n:Nat)):=by
 refine Ct.walk func119 O ntmps119 O (λw0 hw0=>?_)
 refine J.f λ_ j1=>J.b O<|J.c j1 ?_
 refine J.k λ_ j2=>J.f λ_ j3=>J.b O<|J.g ((qA6 underlying121 O O O).as (v':= .bool false) O) O<|J.c j3 ?_
 refine J.a3 ?_
 refine J.M j2 ?_
 refine J.f λ_ j4=>J.b O<|J.g (qAB O O) O<|J.W 0 qGm qHk O O O O O<|J.g (qAI O O isAgg118 (m:=F) xD (hp)) O<|J.g (qAO qDm O O) O<|J.b O<|J.c j4 ?_
 exact J.A<|J.E hw0 O () O trivial [0] O xC
def hit(x y:Lau):Bool:=decide (y.nm=x.nm∨y.key=x.key∧y.ht=x.ht)
end Go.Proofs.YtmemgokiolfdoaaGreatDoor