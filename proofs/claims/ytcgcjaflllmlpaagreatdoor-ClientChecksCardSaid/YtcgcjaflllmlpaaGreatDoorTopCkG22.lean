/- A part of the proof. -/
import Derived.Test.YtcgcjaflllmlpaaGreatDoorTopCkG20
import Derived.Test.YtcgcjaflllmlpaaGreatDoorTopCkG21
set_option maxRecDepth 100000
set_option maxHeartbeats 1000000
set_option linter.unusedSimpArgs false
set_option linter.unusedVariables false
namespace Go.Proofs.YtcgcjaflllmlpaaGreatDoor
open Go Go.Fw Go.Proofs.Tryz
theorem el72:qCt prog 72 [Str [],Str [],Str [],.int .i64 0] 56:=qCt.of xI O
theorem qZl(d:Nat)(o r:xA)(h:Int)(o' r':xA)(h':Int)(w:World):(Op.equalIn (d+2) 59 (.agg #[Str o,Str r,I h]) (.agg #[Str o',Str r',I h'])).run prog w= .ok (decide (o=o'∧r=r'∧h=h')) w:=qZm d o r o' r' h h' w
structure Aud where
 nm:xA
 op:xA
 rt:xA
 ht:Int
 deriving DecidableEq
def Aud.cells(x:Aud):List Value:= [Str (x.nm),Str (x.op),Str (x.rt),I (x.ht)]
def qAu:Aud:=⟨[],[],[],0⟩
def qBc(l:List Aud):List (List Value):=l.map Aud.cells
theorem qFN{l:List Aud}{k:Nat}(h:k<l.length):(qBc l)[k]?=some (l.getD k qAu).cells:=by
 unfold qBc
 rw [jN,qAi qAu h];rfl
theorem qD7(l:List Aud):(qBc l).length=l.length:=by simp [qBc]
theorem qFn(a:List Aud)(x:Aud):qBc (a++ [x])=qBc a++ [x.cells]:=by simp [qBc]
theorem qUC(a:List Aud):(qBc a).all (λx=>x.all Value.oneCell')=true:=qL3 Aud.cells (λ_=>rfl) a
structure Lau where
 nm:xA
 key:UInt8
 ht:Int
 deriving DecidableEq
def Lau.cells(x:Lau):List Value:= [Str (x.nm),B8 (x.key),I (x.ht)]
def qS3(m:Hp)(g:Nat)(l:List Aud):Prop:= ∃A n c mr,m=U [blk g [.slice A n c] 207,mr]∧Dj (blk g [.slice A n c] 207) mr∧Row mr 72 4 A n c (qBc l)
def qF1(s:xA):Nat:=if(normal s).2≠0 then(normal s).2 else if(normal s).1≠s then 4 else 0
def qUQ(nm o r:xA)(h:Int):Int:=if qF1 nm≠0 then((qF1 nm:Nat):Int) else qBJ o r h
def same(nm o r:xA)(h:Int)(x:Aud):Bool:=decide (x.nm=nm)||decide (x.op=o∧x.rt=r∧x.ht=h)
def qOJ(l:List Aud)(nm o r:xA)(h:Int):Int:=if qUQ nm o r h≠0 then qUQ nm o r h else if l.any (same nm o r h)=true then 19 else if 64≤l.length then 9 else 0
def qSo(l:List Aud)(nm o r:xA)(h:Int):List Aud:=if qOJ l nm o r h=0 then l++ [⟨nm,o,r,h⟩] else l
def qHn(l:List Aud)(nm o r:xA)(h:Int):Int:=if qOJ l nm o r h=0 then((l.length:Nat):Int) else 0
def ixA(p:Aud→Bool)(l:List Aud):Int:=if l.any p=true then((l.findIdx p:Nat):Int) else-1
theorem qZa{p:Aud→Bool}{l:List Aud}{k:Nat}(h:k<l.length)(hp:p (l.getD k qAu)=true)(hn: ∀j<k,p (l.getD j qAu)=false):ixA p l=((k:Nat):Int):=by
 have hk:l.getD k qAu=l[k]:=by rw [jB,jC h];rfl
 unfold ixA
 rw [if_pos (List.any_eq_true.2 ⟨l[k],ja h,hk▸hp⟩)]
 congr 1
 rw [List.findIdx_eq h]
 refine⟨hk▸hp,λj hj=>?_⟩
 have:=hn j hj
 rw [jB,jC xB] at this
 exact this
theorem qZY{p:Aud→Bool}{l:List Aud}(hn: ∀j<l.length,p (l.getD j qAu)=false):ixA p l= -1:=by
 unfold ixA
 rw [if_neg]
 intro h
 obtain ⟨x,hx,hp⟩:=List.any_eq_true.1 h
 obtain ⟨j,hj,rfl⟩:=zN hx
 have:=hn j hj
 rw [jB,jC hj] at this
 rw [show(some l[j]).getD qAu=l[j] from rfl,hp] at this
 cases this
theorem qZZ(p:Aud→Bool)(l:List Aud):decide (ixA p l≥0)=l.any p:=by
 unfold ixA
 by_cases h:l.any p=true
 · rw [if_pos h,h,decide_eq_true xB]
 · rw [if_neg h,Bool.eq_false_iff.2 h];rfl
theorem qYc(F:Hp)(a b c:xA)(d:Int)(nm op rt:xA)(ht:Int)(p:Nat)(hp:qAM F ⟨p,0,none⟩ [Str nm,Str op,Str rt,I ht]):Cz prog 117 [.agg #[Str (a),Str (b),Str (c),I (d)],Ptr p] F (.bool (same nm op rt ht ⟨a,b,c,d⟩)):=by
 refine Ct.walk func117 O ntmps117 O (λw0 hw0=>?_)
 refine J.g λ_ j1=>J.p (qAZ O O O) O λg2 _=>J.b O<|J.c j1 ?_
 refine J.g λ_ j2=>J.M 0 qOW z9_ O O O O O<|J.a7 1 b9_ O O O O O<|J.M 0 qOW z9_ O O O O O<|J.f (qAI O O b9_ (m:=F) xD (hp.at (i:=0) O)) O<|J.f (qBA O O O) O<|J.b O<|J.b9 (d:=9) O (λh9=>?_) (λh9=>?_)
 ·
  refine J.k 7 O<|J.c j2 ?_
  exact J.A<|J.E hw0 O () (by unfold same;dsimp only;first|rw [decide_eq_true h9,Bool.true_or]|rw [decide_eq_false h9,Bool.false_or]) trivial [0] O xC
 refine J.D (qAA O O qOW O qEA O) O<|J.D (qAV O O qLS qEA (m:=blk g2 [Str (a),Str (b),Str (c),I (d)] 72) xD (qAM.blk0.sub 1 3) O) O<|J.D (qAA O O qOW O qEA O) O<|J.D (qAV O O qLS qEA (m:=F) xD (hp.sub 1 3) O) O<|J.D (qZI O O O xI (λw=>qZl 9998 b c d op rt ht w)) O<|J.k 2 O<|J.c j2 ?_
 exact J.A<|J.E hw0 O () (by unfold same;dsimp only;first|rw [decide_eq_true h9,Bool.true_or]|rw [decide_eq_false h9,Bool.false_or]) trivial [0] O xC
theorem qSm(F:Hp)(A:Option Addr)(n c:Nat)(l:List Aud)(hs:Sl F 4 A n c (qBc l))(hnb:n≤1073741824)(nm op rt:xA)(ht:Int)(p:Nat)(hp:qAM F ⟨p,0,none⟩ [Str nm,Str op,Str rt,I ht]):Cz prog 170 [.slice A n c,.func (.func 117) #[] #[Ptr p]] F (I (ixA (same nm op rt ht) l)):=by
 have hn:l.length=n:=by have:=hs.1;simpa [qBc] using this
 refine Ct.walk func170 O ntmps170 O (λw0 hw0=>?_)
 refine J.g λ_ j1=>J.b O<|J.c j1 ?_
 refine J.q λ_ j2=>J.g λ_ j3=>J.b O<|J.f (qAR qGd O O) O<|J.b O<|J.c j3 ?_
 refine J.V<|J.b6 (X:=Nat) (λζ=> [(0,.slice A n c),(1,.func (.func 117) #[] #[Ptr p]),(7,I (n:Nat)),(8,I (ζ:Nat))]) (λζ=> [F]) (λζ=>ζ≤n∧ ∀j<ζ,same nm op rt ht (l.getD j qAu)=false) (λζ=>n-ζ) 0 (⟨jG _,λj h=>absurd h (jy j)⟩) ⟨O,O,O,O,trivial⟩ (λ_ h=>h) ?_
 rintro k ⟨hk,hno⟩ I0 hI0
 refine J.g λ_ j4=>J.f (qAS O O O) O<|J.c j4 ?_
 refine J.q λ_ j5=>J.a0 O (λh9=>?_) (λh9=>?_)
 ·
  refine J.T j5 ?_
  refine J.q λ_ j6=>J.V<|J.g λ_ j7=>J.k 2 O<|J.c j7 ?_
  refine J.g λ_ j8=>J.k 3 O<|J.f (qAF O O O qGd qDk hs xB) O<|J.f (qAV O O qLE qDk (m:=F) xD (hs.elem (qFN xB)) O) O<|J.p (qDV O O O ent (Ct.use0 (λF' hF=>qYc F' ((l.getD k qAu).nm) ((l.getD k qAu).op) ((l.getD k qAu).rt) ((l.getD k qAu).ht) nm op rt ht p (hp.mono (Fa hF))))) O λg16 _=>J.c j8 ?_
  refine J.c7 O (λh16=>?_) (λh16=>?_)
  ·
   refine J.g λ_ j9=>J.k 2 O<|J.c j9 ?_
   exact J.A<|J.a8<|J.W<|J.W<|J.a8<|J.W<|J.E hw0 O () (by rw [qZa (k:=k) xB (by simpa using h16) hno]) trivial [0] O xC
  refine J.b5<|J.a3<|J.u (J.G j6 ?_)
  exact J.H<|J.f ((qAQ O O O xB).nat (k+1) xB) O<|J.b O<|J.a4<|J.u<|J.a5 (k+1) (λη (hη:_∧n-η<n-k)=>hI0 η hη.1 hη.2) ⟨⟨xB,λj hj=>by rcases Nat.lt_succ_iff_lt_or_eq.1 hj with h|rfl;exact hno j h;simpa using h16⟩,by first|omega|(dsimp only;omega)⟩ ⟨O,O,O,O,trivial⟩ (λ_ h=>h)
 refine J.b3<|J.a1<|J.a1<|J.b4 ?_
 refine J.u (J.G j2 ?_)
 refine J.g λ_ j10=>J.b O<|J.c j10 ?_
 exact J.A<|J.E hw0 O () (by rw [qZY (λj hj=>hno j xB)]) trivial [0] O xC
theorem qLH(F:Hp)(A:Option Addr)(n c:Nat)(l:List Aud)(hs:Sl F 4 A n c (qBc l))(hnb:n≤1073741824)(nm op rt:xA)(ht:Int)(p:Nat)(hp:qAM F ⟨p,0,none⟩ [Str nm,Str op,Str rt,I ht]):Cz prog 116 [.slice A n c,.func (.func 117) #[] #[Ptr p]] F (.bool (l.any (same nm op rt ht))):=by
 refine Ct.walk func116 O ntmps116 O (λw0 hw0=>?_)
 refine J.g λ_ j1=>J.b O<|J.c j1 ?_
 refine J.g λ_ j2=>J.k 2 O<|J.p (qAa O O (λF' hF=>qSm F' A n c l (hs.mono (Fa hF)) xB nm op rt ht p (hp.mono (Fa hF)))) O λg7 _=>J.f (qBL O O O) O<|J.b O<|J.c j2 ?_
 exact J.A<|J.E hw0 O () (by rw [qZZ]) trivial [0] O xC
theorem qTr(F:Hp)(hA:qAM F ⟨2,0,none⟩ qBd)(hT:qCI F)(nm op rt:xA)(ht:Int)(h1:nm.length≤1000000)(h2:op.length≤1048576)(h3:rt.length≤1048576):Cz prog 115 [.agg #[Str (nm),Str (op),Str (rt),I (ht)]] F (I (qUQ nm op rt ht)):=by
 refine Ct.walk func115 O ntmps115 O (λw0 hw0=>?_)
 refine J.g λ_ j1=>J.p (qAZ O O O) O λg1 _=>J.b O<|J.c j1 ?_
 refine J.g λ_ j2=>J.M 0 qOW z9_ O O O O O<|J.a7 1 b9_ O O O O O<|J.p (qAa O O (λF' hF=>qKX F' (hA.mono (Fa hF)) (hT.mono (Fa hF)) nm xN)) O λg8 _=>J.k 5 O<|J.c j2 ?_
 refine J.q λ_ j3=>J.V<|J.g λ_ j4=>J.b O<|J.f (qAe O O O) O<|J.b O<|J.c j4 ?_
 refine J.a0 O (λh11=>?_) (λh11=>?_)
 ·
  refine J.g λ_ j5=>J.k 2 O<|J.c j5 ?_
  exact J.A<|J.a8<|J.W<|J.E hw0 O () (by unfold qUQ qF1;rw [if_pos (show(normal nm).2≠0 by omega),if_pos xB]) trivial [0] O xC
 refine J.g λ_ j6=>J.b O<|J.M 0 qOW z9_ O O O O O<|J.a7 1 b9_ O O O O O<|J.f (qDv O O O) O<|J.b O<|J.c j6 ?_
 refine J.a0 O (λh15=>?_) (λh15=>?_)
 ·
  refine J.g λ_ j7=>J.b O<|J.c j7 ?_
  exact J.A<|J.a8<|J.W<|J.E hw0 O () (by unfold qUQ qF1;rw [if_neg (show¬(normal nm).2≠0 by omega),if_pos h15];rfl) trivial [0] O xC
 refine J.b5<|J.a3<|J.u (J.G j3 ?_)
 refine J.g λ_ j8=>J.M 1 qOW qEA O O O O O<|J.f (qAV O O qLS qEA (m:=blk g1 [Str (nm),Str (op),Str (rt),I (ht)] 72) xD (qAM.blk0.sub 1 3) O) O<|J.p (qAa O O (λF' hF=>qEI F' op rt ht xB xB)) O λg23 _=>J.k 4 O<|J.c j8 ?_
 refine J.g λ_ j9=>J.k 2 O<|J.c j9 ?_
 exact J.A<|J.E hw0 O () (by unfold qUQ qF1;rw [if_neg (show¬(normal nm).2≠0 by omega),if_neg h15];rfl) trivial [0] O xC
theorem qW3(F:Hp):Ct prog 52 [] [F] (λx:Nat×Hp=>Ptr x.1) (λx=>qS3 x.2 x.1 ([])) (λx=> [x.2,F]):=by
 refine Ct.walk func52 O ntmps52 O (λw0 hw0=>?_)
 refine J.g λ_ j1=>J.b O<|J.c j1 ?_
 refine J.g λ_ j2=>J.f (qAH (places:= [(0,1)]) (r:= [.slice none 0 0]) O O O qGe zeroValue207 (λ_=>xI) O) O<|J.p (qAZ O O O) O λg2 _=>J.b O<|J.c j2 ?_
 exact J.A<|J.d0 [1,2,0] [blk g2 [.slice none 0 0] 207,(λ_=>none),F] O xC<|J.b0 hw0 (λ_ _ h=>h) (qKI O O) (qCX (g2,U [blk g2 [.slice none 0 0] 207,(λ_=>none)]) (O) (λhd=>⟨none,0,0,(λ_=>none),O,hd,qBh.nil⟩) [0,1,2] O O xC)
theorem qXG(F m:Hp)(g:Nat)(l:List Aud)(hb:qS3 m g l)(hA:qAM F ⟨2,0,none⟩ qBd)(hT:qCI F)(nm op rt:xA)(ht:Int)(h1:nm.length≤1000000)(h2:op.length≤1048576)(h3:rt.length≤1048576)(hl:l.length≤1000000):Ct prog 53 [Ptr g,.agg #[Str (nm),Str (op),Str (rt),I (ht)]] [m,F] (λ_:Hp=> .tuple #[I (qHn l nm op rt ht),I (qOJ l nm op rt ht)]) (λm'=>qS3 m' g (qSo l nm op rt ht)) (λm'=> [m',F]):=by
 obtain ⟨A,n,c,mr,rfl,hd,hr⟩:=hb
 have hn:l.length=n:=by have:=hr.len;simpa [qBc] using this
 have hnc:=hr.2.2.1
 refine Ct.walk func53 O ntmps53 O (λw0 hw0=>?_)
 refine J.e8 hd ?_
 refine J.g λ_ j1=>J.p (qAZ O O O) O λg3 _=>J.k 2 O<|J.c j1 ?_
 refine J.q λ_ j2=>J.g λ_ j3=>J.b O<|J.f (qA4 underlying93 O O O) O<|J.c j3 ?_
 refine J.a2 ?_
 refine J.T j2 ?_
 refine J.q λ_ j4=>J.g λ_ j5=>J.b8 3 qLE qDk O O O O O<|J.p (qAa O O (λF' hF=>qTr F' (hA.mono (Fa hF)) (hT.mono (Fa hF)) nm op rt ht xB xB xB)) O λg10 _=>J.b O<|J.c j5 ?_
 refine J.g λ_ j6=>J.b O<|J.f (qAe O O O) O<|J.c j6 ?_
 refine J.a0 O (λh12=>?_) (λh12=>?_)
 ·
  refine J.g λ_ j7=>J.k 3 O<|J.c j7 ?_
  refine J.A<|J.W ?_
  have hE:qOJ l nm op rt ht=qUQ nm op rt ht:=by unfold qOJ;rw [if_pos h12]
  have hL:qSo l nm op rt ht=l:=by unfold qSo;rw [hE,if_neg h12]
  have hN:qHn l nm op rt ht=0:=by unfold qHn;rw [hE,if_neg h12]
  exact J.b0 hw0 (λ_ _ h=>h) (qCK O O O) (qCX (U [blk g [.slice A n c] 207,mr]) (by rw [hE,hN]) (λhd=>by rw [hL];exact⟨A,n,c,mr,O,hd,hr⟩) [0,1,2] O O xC)
 refine J.T j4 ?_
 refine J.q λ_ j8=>J.V<|J.g λ_ j9=>J.b O<|J.f (qAB O O) O<|J.M 0 qGe qSv O O O O O<|J.a7 0 isAgg76 O O O O O<|J.f (qBk O O) O<|J.p (qAa O O (λF' hF=>qLH F' A n c l (hr.sl.mono (Fa hF)) xB nm op rt ht g3 (qAM.blk0.mono (hF (blk g3 [Str (nm),Str (op),Str (rt),I (ht)] 72) xD)))) O λg20 _=>J.b O<|J.c j9 ?_
 refine J.c7 O (λh14=>?_) (λh14=>?_)
 ·
  refine J.q λ_ j10=>?_
  have hE:qOJ l nm op rt ht=19:=by unfold qOJ;rw [if_neg h12,if_pos h14]
  have hL:qSo l nm op rt ht=l:=by unfold qSo;rw [hE];rfl
  have hN:qHn l nm op rt ht=0:=by unfold qHn;rw [hE];rfl
  refine J.H<|J.k 2 O<|J.c j10 ?_
  exact J.A<|J.a8<|J.W<|J.b0 hw0 (λ_ _ h=>h) (qCK O O O) (qCX (U [blk g [.slice A n c] 207,mr]) (by rw [hE,hN]) (λhd=>by rw [hL];exact⟨A,n,c,mr,O,hd,hr⟩) [0,1,2] O O xC)
 refine J.g λ_ j11=>J.b O<|J.f (qAB O O) O<|J.M 0 qGe qSv O O O O O<|J.a7 0 isAgg76 O O O O O<|J.f (qAR qGd O O) O<|J.f (qBL O O O) O<|J.b O<|J.c j11 ?_
 refine J.a0 O (λh21=>?_) (λh21=>?_)
 ·
  refine J.q λ_ j12=>?_
  have hE:qOJ l nm op rt ht=9:=by unfold qOJ;rw [if_neg h12,if_neg (by simpa using h14),if_pos xB]
  have hL:qSo l nm op rt ht=l:=by unfold qSo;rw [hE];rfl
  have hN:qHn l nm op rt ht=0:=by unfold qHn;rw [hE];rfl
  refine J.H<|J.k 2 O<|J.c j12 ?_
  exact J.A<|J.a8<|J.W<|J.b0 hw0 (λ_ _ h=>h) (qCK O O O) (qCX (U [blk g [.slice A n c] 207,mr]) (by rw [hE,hN]) (λhd=>by rw [hL];exact⟨A,n,c,mr,O,hd,hr⟩) [0,1,2] O O xC)
 refine J.b5<|J.a3<|J.u (J.G j8 ?_)
 refine J.q λ_ j13=>?_
 have hE:qOJ l nm op rt ht=0:=by unfold qOJ;rw [if_neg h12,if_neg (by simpa using h14),if_neg xB]
 have hL:qSo l nm op rt ht=l++ [⟨nm,op,rt,ht⟩]:=by unfold qSo;rw [hE];rfl
 have hN:qHn l nm op rt ht=((l.length:Nat):Int):=by unfold qHn;rw [hE];rfl
 refine J.b1 [blk g [.slice A n c] 207,blk g3 [Str (nm),Str (op),Str (rt),I (ht)] 72] [10] (.y 0 (.y 1 (.y 2 (.y 3 (.y 4 (.y 5 (.e 6 (.e 7 (.y 8 (.y 9 (.e 10 .nil))))))))))) Tryz.wide xF xD ?_
 refine J.L ?_
 refine J.L ?_
 refine J.j O (qAB O O) O O<|J.j O (qAA O O qGe O qSv O) O O<|J.j O (qAC 0 O O O isAgg76 O) O O<|J.j O (qAW 1 O O O qLE qDk O) O O<|J.Z O (qAE (l:= [.tmp 33]) (xs:= [[Str (nm),Str (op),Str (rt),I (ht)]]) O O O O qGd el72 O xC xC xD) O xD λg34 _=>J.Z O (qAU (i:=1) (m2:=blk g34 [Str (nm),Str (op),Str (rt),I (ht)] 72) O O O qGd qGd el72 O hr xD ((qAl (q:=True) (xs:=qBc [(⟨nm,op,rt,ht⟩:Aud)]) O (by intro x hx;rw [List.mem_singleton.1 hx];rfl)).sl) O xB xB) O xD ?_
 rintro⟨A35,c35,m35⟩ h35
 try dsimp only at h35
 replace h35:Row m35 72 4 A35 (n+1) c35 (qBc (l++([(⟨nm,op,rt,ht⟩:Aud)]))):=by rw [qFn];exact h35
 refine J.j O (qAB O O) O O<|J.j O (qAA O O qGe O qSv O) O O<|J.c1 O (qAD (i:=0) (l:= [.slice A n c]) (vs:= [.slice A35 (n+1) c35]) O O O O O qSv O O) O O O λ_ _=>J.a9<|J.u (J.G j13 ?_)
 refine J.g λ_ j14=>J.b O<|J.f (qAB O O) O<|J.M 0 qGe qSv O O O O O<|J.a7 0 isAgg76 O O O O O<|J.f (qAR qGd O O) O<|J.f (qA3 O O O xB) O<|J.k 2 O<|J.c j14 ?_
 exact J.A<|J.b0 hw0 (λ_ _ h=>h) (qCK O O O) (qCX (U [blk g [.slice A35 (n+1) c35] 207,m35]) (by rw [hE,hN,hn,show((n+1:Nat):Int)-1=((n:Nat):Int) by omega]) (λhd=>by rw [hL];exact⟨A35,n+1,c35,m35,O,hd,h35⟩) [0,1,2] O O xC)
theorem qM7(F:Hp)(g:Nat)(A:Option Addr)(n c:Nat)(hp:qAM F ⟨g,0,none⟩ [.slice A n c]):Cz prog 122 [Ptr g] F (I (n:Nat)):=by
 refine Ct.walk func122 O ntmps122 O (λw0 hw0=>?_)
 refine J.g λ_ j1=>J.b O<|J.c j1 ?_
 refine J.q λ_ j2=>J.g λ_ j3=>J.b O<|J.f ((qA4 underlying93 O O O).as (v':= .bool false) O) O<|J.c j3 ?_
 refine J.a2 ?_
 refine J.T j2 ?_
 refine J.g λ_ j4=>J.b O<|J.f (qAB O O) O<|J.M 0 qGe qSv O O O O O<|J.f (qAI O O isAgg76 (m:=F) xD (hp)) O<|J.f (qAR qGd O O) O<|J.b O<|J.c j4 ?_
 exact J.A<|J.E hw0 O () O trivial [0] O xC
def hit(x y:Lau):Bool:=decide (y.nm=x.nm∨y.key=x.key∧y.ht=x.ht)
end Go.Proofs.YtcgcjaflllmlpaaGreatDoor