/- A part of the proof. -/
import Derived.Test.YtmemgokiolfdoaaGreatDoorTopSpG21
import Derived.Test.YtmemgokiolfdoaaGreatDoorTopSpG10
set_option maxRecDepth 100000
set_option maxHeartbeats 1000000
set_option linter.unusedSimpArgs false
set_option linter.unusedVariables false
namespace Go.Proofs.YtmemgokiolfdoaaGreatDoor
open Go Go.Fw Go.Proofs.Tryz
theorem el34:qCx prog 34 [Str [],Str [],Str [],.int .i64 0] 56:=qCx.of xH O
theorem qaS(d:Nat)(o r:xA)(h:Int)(o' r':xA)(h':Int)(w:World):(Op.equalIn (d+2) 32 (.agg #[Str o,Str r,I h]) (.agg #[Str o',Str r',I h'])).run prog w= .ok (decide (o=o'/\r=r'/\h=h')) w:=eqPub d o r o' r' h h' w
structure Aud where
 nm:xA
 op:xA
 rt:xA
 ht:Int
 deriving DecidableEq
def Aud.cells(x:Aud):yU:= [Str (x.nm),Str (x.op),Str (x.rt),I (x.ht)]
def qBc:Aud:=⟨[],[],[],0⟩
def qBn(l:List Aud):List yU:=l.map Aud.cells
theorem qIA{l:List Aud}{k:Nat}(h:k<l.length):(qBn l)[k]?=some (l.getD k qBc).cells:=by
 unfold qBn
 rw [jO,qAc qBc h];rfl
theorem qDh(l:List Aud):(qBn l).length=l.length:=by simp [qBn]
theorem qPl(a:List Aud)(x:Aud):qBn (a++ [x])=qBn a++ [x.cells]:=by simp [qBn]
theorem qUs(a:List Aud):(qBn a).all (λx=>x.all Value.oneCell')=true:=qMY Aud.cells (λ_=>rfl) a
structure Lau where
 nm:xA
 key:UInt8
 ht:Int
 deriving DecidableEq
def Lau.cells(x:Lau):yU:= [Str (x.nm),B8 (x.key),I (x.ht)]
def qTJ(m:Hp)(g:Nat)(l:List Aud):Prop:= ∃A n c mr,m=U [blk g [.slice A n c] 232,mr]/\Dj (blk g [.slice A n c] 232) mr/\Row mr 34 4 A n c (qBn l)
def qLl(s:xA):Nat:=if(normal s).2≠0 then(normal s).2 else if(normal s).1≠s then 4 else 0
def qR0(nm o r:xA)(h:Int):Int:=if qLl nm≠0 then((qLl nm:Nat):Int) else qBT o r h
def same(nm o r:xA)(h:Int)(x:Aud):Bool:=decide (x.nm=nm)||decide (x.op=o/\x.rt=r/\x.ht=h)
def qIB(l:List Aud)(nm o r:xA)(h:Int):Int:=if qR0 nm o r h≠0 then qR0 nm o r h else if l.any (same nm o r h)=true then 19 else if 64<=l.length then 9 else 0
def qPp(l:List Aud)(nm o r:xA)(h:Int):List Aud:=if qIB l nm o r h=0 then l++ [⟨nm,o,r,h⟩] else l
def qGf(l:List Aud)(nm o r:xA)(h:Int):Int:=if qIB l nm o r h=0 then((l.length:Nat):Int) else 0
def ixA(p:Aud->Bool)(l:List Aud):Int:=if l.any p=true then((l.findIdx p:Nat):Int) else-1
theorem qaJ{p:Aud->Bool}{l:List Aud}{k:Nat}(h:k<l.length)(hp:p (l.getD k qBc)=true)(hn: ∀j<k,p (l.getD j qBc)=false):ixA p l=((k:Nat):Int):=by
 have hk:l.getD k qBc=l[k]:=by rw [jB,jD h];rfl
 unfold ixA
 rw [yX (List.any_eq_true.2 ⟨l[k],jU h,hk▸hp⟩)]
 congr 1
 rw [List.findIdx_eq h]
 refine⟨hk▸hp,λj hj=>?_⟩
 have:=hn j hj
 rw [jB,jD xB] at this
 exact this
theorem qaH{p:Aud->Bool}{l:List Aud}(hn: ∀j<l.length,p (l.getD j qBc)=false):ixA p l= -1:=by
 unfold ixA
 rw [yW]
 intro h
 obtain ⟨x,hx,hp⟩:=List.any_eq_true.1 h
 obtain ⟨j,hj,rfl⟩:=zp hx
 have:=hn j hj
 rw [jB,jD hj] at this
 rw [show(some l[j]).getD qBc=l[j] from rfl,hp] at this
 cases this
theorem qaI(p:Aud->Bool)(l:List Aud):decide (ixA p l>=0)=l.any p:=by
 unfold ixA
 by_cases h:l.any p=true
 . rw [yX h,h,ya xB]
 . rw [yW h,Bool.eq_false_iff.2 h];rfl
theorem qZO(F:Hp)(a b c:xA)(d:Int)(nm op rt:xA)(ht:Int)(p:Nat)(hp:qAI F ⟨p,0,none⟩ [Str nm,Str op,Str rt,I ht]):Cz prog 116 [.agg #[Str (a),Str (b),Str (c),I (d)],Ptr p] F (.bool (same nm op rt ht ⟨a,b,c,d⟩)):=by
 refine y7 func116 O ntmps116 O (λw0 hw0=>?_)
 refine yl λ_ C1=>yp (qAi O O O) O λg2 _=>yh O<|yi C1 ?_
 refine yl λ_ C2=>vA 0 qKd z9_ O O O O O<|vF 1 b9_ O O O O O<|vA 0 qKd z9_ O O O O O<|yj (qAH O O b9_ (m:=F) xD (hp.at (i:=0) O)) O<|yj (qBP O O O) O<|yh O<|vO (d:=9) O (λh9=>?_) (λh9=>?_)
 .
  refine yn 7 O<|yi C2 ?_
  exact yr<|yw hw0 O () (by unfold same;dsimp only;first|rw [ya h9,Bool.true_or]|rw [yb h9,Bool.false_or]) yd [0] O xC
 refine yv (qAA O O qKd O qDF O) O<|yv (qAb O O qKM qDF (m:=blk g2 [Str (a),Str (b),Str (c),I (d)] 34) xD (qAI.blk0.sub 1 3) O) O<|yv (qAA O O qKd O qDF O) O<|yv (qAb O O qKM qDF (m:=F) xD (hp.sub 1 3) O) O<|yv (qZu O O O xH (λw=>qaS 9998 b c d op rt ht w)) O<|yn 2 O<|yi C2 ?_
 exact yr<|yw hw0 O () (by unfold same;dsimp only;first|rw [ya h9,Bool.true_or]|rw [yb h9,Bool.false_or]) yd [0] O xC
theorem qTF(F:Hp)(A:yS)(n c:Nat)(l:List Aud)(hs:Sl F 4 A n c (qBn l))(hnb:n<=1073741824)(nm op rt:xA)(ht:Int)(p:Nat)(hp:qAI F ⟨p,0,none⟩ [Str nm,Str op,Str rt,I ht]):Cz prog 196 [.slice A n c,.func (.func 116) #[] #[Ptr p]] F (I (ixA (same nm op rt ht) l)):=by
 have hn:l.length=n:=by have:=hs.1;simpa [qBn] using this
 refine y7 func196 O ntmps196 O (λw0 hw0=>?_)
 refine yl λ_ C1=>yh O<|yi C1 ?_
 refine ym λ_ C2=>yl λ_ C3=>yh O<|yj (qAN qDl O O) O<|yh O<|yi C3 ?_
 refine yz<|vN (X:=Nat) (λζ=> [(0,.slice A n c),(1,.func (.func 116) #[] #[Ptr p]),(7,I (n:Nat)),(8,I (ζ:Nat))]) (λζ=> [F]) (λζ=>ζ<=n/\ ∀j<ζ,same nm op rt ht (l.getD j qBc)=false) (λζ=>n-ζ) 0 (⟨jH _,λj h=>absurd h (jz j)⟩) (Sub.of O) (λ_ h=>h) ?_
 rintro k ⟨hk,hno⟩ I0 hI0
 refine yl λ_ C4=>yj (qAP O O O) O<|yi C4 ?_
 refine ym λ_ C5=>y1 O (λh9=>?_) (λh9=>?_)
 .
  refine yy C5 ?_
  refine ym λ_ C6=>yz<|yl λ_ C7=>yn 2 O<|yi C7 ?_
  refine yl λ_ C8=>yn 3 O<|yj (qAC O O O qDl qIV hs xB) O<|yj (qAb O O qPu qIV (m:=F) xD (hs.elem (qIA xB)) O) O<|yp (qDv O O O ent (Ct.use0 (λF' hF=>qZO F' ((l.getD k qBc).nm) ((l.getD k qBc).op) ((l.getD k qBc).rt) ((l.getD k qBc).ht) nm op rt ht p (hp.mono (Fa hF))))) O λg16 _=>yi C8 ?_
  refine vf O (λh16=>?_) (λh16=>?_)
  .
   refine yl λ_ C9=>yn 2 O<|yi C9 ?_
   exact yr<|vI<|y5<|y5<|vI<|y5<|yw hw0 O () (by rw [qaJ (k:=k) xB (by simpa using h16) hno]) yd [0] O xC
  refine vP<|vB<|yq (yu C6 ?_)
  exact yt<|yj ((qAM O O O xB).nat (k+1) xB) O<|yh O<|y8<|yq<|vE (k+1) hI0 ⟨xB,λj hj=>by rcases Nat.lt_succ_iff_lt_or_eq.1 hj with h|rfl;exact hno j h;simpa using h16⟩ (Sub.of O) (λ_ h=>h)
 refine vK<|y6<|y6<|vL ?_
 refine yq (yu C2 ?_)
 refine yl λ_ C10=>yh O<|yi C10 ?_
 exact yr<|yw hw0 O () (by rw [qaH (λj hj=>hno j xB)]) yd [0] O xC
theorem qLy(F:Hp)(A:yS)(n c:Nat)(l:List Aud)(hs:Sl F 4 A n c (qBn l))(hnb:n<=1073741824)(nm op rt:xA)(ht:Int)(p:Nat)(hp:qAI F ⟨p,0,none⟩ [Str nm,Str op,Str rt,I ht]):Cz prog 115 [.slice A n c,.func (.func 116) #[] #[Ptr p]] F (.bool (l.any (same nm op rt ht))):=by
 refine y7 func115 O ntmps115 O (λw0 hw0=>?_)
 refine yl λ_ C1=>yh O<|yi C1 ?_
 refine yl λ_ C2=>yn 2 O<|yp (qAZ O O (λF' hF=>qTF F' A n c l (hs.mono (Fa hF)) xB nm op rt ht p (hp.mono (Fa hF)))) O λg7 _=>yj (qA1 O O O) O<|yh O<|yi C2 ?_
 exact yr<|yw hw0 O () (by rw [qaI]) yd [0] O xC
theorem qUG(F:Hp)(hA:yg F)(hT:qBl F)(nm op rt:xA)(ht:Int)(h1:nm.length<=1000000)(h2:op.length<=1048576)(h3:rt.length<=1048576):Cz prog 114 [.agg #[Str (nm),Str (op),Str (rt),I (ht)]] F (I (qR0 nm op rt ht)):=by
 refine y7 func114 O ntmps114 O (λw0 hw0=>?_)
 refine yl λ_ C1=>yp (qAi O O O) O λg1 _=>yh O<|yi C1 ?_
 refine yl λ_ C2=>vA 0 qKd z9_ O O O O O<|vF 1 b9_ O O O O O<|yp (qAZ O O (λF' hF=>qHi F' (hA.mono (Fa hF)) (hT.mono (Fa hF)) nm xM)) O λg8 _=>yn 5 O<|yi C2 ?_
 refine ym λ_ C3=>yz<|yl λ_ C4=>yh O<|yj (qAQ O O O) O<|yh O<|yi C4 ?_
 refine y1 O (λh11=>?_) (λh11=>?_)
 .
  refine yl λ_ C5=>yn 2 O<|yi C5 ?_
  exact yr<|vI<|y5<|yw hw0 O () (by unfold qR0 qLl;rw [yX (show(normal nm).2≠0 by omega),yX xB]) yd [0] O xC
 refine yl λ_ C6=>yh O<|vA 0 qKd z9_ O O O O O<|vF 1 b9_ O O O O O<|yj (qB9 O O O) O<|yh O<|yi C6 ?_
 refine y1 O (λh15=>?_) (λh15=>?_)
 .
  refine yl λ_ C7=>yh O<|yi C7 ?_
  exact yr<|vI<|y5<|yw hw0 O () (by unfold qR0 qLl;rw [yW (show¬(normal nm).2≠0 by omega),yX h15];rfl) yd [0] O xC
 refine vP<|vB<|yq (yu C3 ?_)
 refine yl λ_ C8=>vA 1 qKd qDF O O O O O<|yj (qAb O O qKM qDF (m:=blk g1 [Str (nm),Str (op),Str (rt),I (ht)] 34) xD (qAI.blk0.sub 1 3) O) O<|yp (qAZ O O (λF' hF=>qCr F' op rt ht xB xB)) O λg23 _=>yn 4 O<|yi C8 ?_
 refine yl λ_ C9=>yn 2 O<|yi C9 ?_
 exact yr<|yw hw0 O () (by unfold qR0 qLl;rw [yW (show¬(normal nm).2≠0 by omega),yW h15];rfl) yd [0] O xC
theorem qXl(F:Hp):Ct prog 45 [] [F] (λx:Nat×Hp=>Ptr x.1) (λx=>qTJ x.2 x.1 ([])) (λx=> [x.2,F]):=by
 refine y7 func45 O ntmps45 O (λw0 hw0=>?_)
 refine yl λ_ C1=>yh O<|yi C1 ?_
 refine yl λ_ C2=>yj (qAK (places:= [(0,1)]) (r:= [.slice none 0 0]) O O O qII zeroValue232 (λ_=>xH) O) O<|yp (qAi O O O) O λg2 _=>yh O<|yi C2 ?_
 exact yr<|ve [1,2,0] [blk g2 [.slice none 0 0] 232,(λ_=>none),F] O xC<|vH hw0 (λ_ _ h=>h) (qIM O O) (qCf (g2,U [blk g2 [.slice none 0 0] 232,(λ_=>none)]) (O) (λhd=>⟨none,0,0,(λ_=>none),O,hd,qBf.nil⟩) [0,1,2] O O xC)
theorem qMR(F m:Hp)(g:Nat)(l:List Aud)(hb:qTJ m g l)(hA:yg F)(hT:qBl F)(nm op rt:xA)(ht:Int)(h1:nm.length<=1000000)(h2:op.length<=1048576)(h3:rt.length<=1048576)(hl:l.length<=1000000):Ct prog 46 [Ptr g,.agg #[Str (nm),Str (op),Str (rt),I (ht)]] [m,F] (λ_:Hp=> .tuple #[I (qGf l nm op rt ht),I (qIB l nm op rt ht)]) (λm'=>qTJ m' g (qPp l nm op rt ht)) (λm'=> [m',F]):=by
 obtain ⟨A,n,c,mr,rfl,hd,hr⟩:=hb
 have hn:l.length=n:=by have:=hr.len;simpa [qBn] using this
 have hnc:=hr.2.2.1
 refine y7 func46 O ntmps46 O (λw0 hw0=>?_)
 refine wF hd ?_
 refine yl λ_ C1=>yp (qAi O O O) O λg3 _=>yn 2 O<|yi C1 ?_
 refine ym λ_ C2=>yl λ_ C3=>yh O<|yj (qBL underlying121 O O O) O<|yi C3 ?_
 refine vC ?_
 refine yy C2 ?_
 refine ym λ_ C4=>yl λ_ C5=>vT 3 qPu qIV O O O O O<|yp (qAZ O O (λF' hF=>qUG F' (hA.mono (Fa hF)) (hT.mono (Fa hF)) nm op rt ht xB xB xB)) O λg10 _=>yh O<|yi C5 ?_
 refine yl λ_ C6=>yh O<|yj (qAQ O O O) O<|yi C6 ?_
 refine y1 O (λh12=>?_) (λh12=>?_)
 .
  refine yl λ_ C7=>yn 3 O<|yi C7 ?_
  refine yr<|y5 ?_
  have hE:qIB l nm op rt ht=qR0 nm op rt ht:=by unfold qIB;rw [yX h12]
  have hL:qPp l nm op rt ht=l:=by unfold qPp;rw [hE,yW h12]
  have hN:qGf l nm op rt ht=0:=by unfold qGf;rw [hE,yW h12]
  exact vH hw0 (λ_ _ h=>h) (qB5 O O O) (qCf (U [blk g [.slice A n c] 232,mr]) (by rw [hE,hN]) (λhd=>by rw [hL];exact⟨A,n,c,mr,O,hd,hr⟩) [0,1,2] O O xC)
 refine yy C4 ?_
 refine ym λ_ C8=>yz<|yl λ_ C9=>yh O<|yj (qAB O O) O<|vA 0 qII qJN O O O O O<|vF 0 isAgg118 O O O O O<|yj (qBt O O) O<|yp (qAZ O O (λF' hF=>qLy F' A n c l (hr.sl.mono (Fa hF)) xB nm op rt ht g3 (qAI.blk0.mono (hF (blk g3 [Str (nm),Str (op),Str (rt),I (ht)] 34) xD)))) O λg20 _=>yh O<|yi C9 ?_
 refine vf O (λh14=>?_) (λh14=>?_)
 .
  refine ym λ_ C10=>?_
  have hE:qIB l nm op rt ht=19:=by unfold qIB;rw [yW h12,yX h14]
  have hL:qPp l nm op rt ht=l:=by unfold qPp;rw [hE];rfl
  have hN:qGf l nm op rt ht=0:=by unfold qGf;rw [hE];rfl
  refine yt<|yn 2 O<|yi C10 ?_
  exact yr<|vI<|y5<|vH hw0 (λ_ _ h=>h) (qB5 O O O) (qCf (U [blk g [.slice A n c] 232,mr]) (by rw [hE,hN]) (λhd=>by rw [hL];exact⟨A,n,c,mr,O,hd,hr⟩) [0,1,2] O O xC)
 refine yl λ_ C11=>yh O<|yj (qAB O O) O<|vA 0 qII qJN O O O O O<|vF 0 isAgg118 O O O O O<|yj (qAN qDl O O) O<|yj (qA1 O O O) O<|yh O<|yi C11 ?_
 refine y1 O (λh21=>?_) (λh21=>?_)
 .
  refine ym λ_ C12=>?_
  have hE:qIB l nm op rt ht=9:=by unfold qIB;rw [yW h12,yW (by simpa using h14),yX xB]
  have hL:qPp l nm op rt ht=l:=by unfold qPp;rw [hE];rfl
  have hN:qGf l nm op rt ht=0:=by unfold qGf;rw [hE];rfl
  refine yt<|yn 2 O<|yi C12 ?_
  exact yr<|vI<|y5<|vH hw0 (λ_ _ h=>h) (qB5 O O O) (qCf (U [blk g [.slice A n c] 232,mr]) (by rw [hE,hN]) (λhd=>by rw [hL];exact⟨A,n,c,mr,O,hd,hr⟩) [0,1,2] O O xC)
 refine vP<|vB<|yq (yu C8 ?_)
 refine ym λ_ C13=>?_
 have hE:qIB l nm op rt ht=0:=by unfold qIB;rw [yW h12,yW (by simpa using h14),yW xB]
 have hL:qPp l nm op rt ht=l++ [⟨nm,op,rt,ht⟩]:=by unfold qPp;rw [hE];rfl
 have hN:qGf l nm op rt ht=((l.length:Nat):Int):=by unfold qGf;rw [hE];rfl
 refine vQ [blk g [.slice A n c] 232,blk g3 [Str (nm),Str (op),Str (rt),I (ht)] 34] [10] (.y 0 (.y 1 (.y 2 (.y 3 (.y 4 (.y 5 (.e 6 (.e 7 (.y 8 (.y 9 (.e 10 .nil))))))))))) ye xF xD ?_
 refine yx ?_
 refine yx ?_
 refine yo O (qAB O O) O O<|yo O (qAA O O qII O qJN O) O O<|yo O (qAD 0 O O O isAgg118 O) O O<|yo O (qAx 1 O O O qPu qIV O) O O<|vD O (qAE (l:= [.tmp 33]) (xs:= [[Str (nm),Str (op),Str (rt),I (ht)]]) O O O O qDl el34 O xC xC xD) O xD λg34 _=>vD O (qAV (i:=1) (m2:=blk g34 [Str (nm),Str (op),Str (rt),I (ht)] 34) O O O qDl qDl el34 O hr xD ((qAj (q:=True) (xs:=qBn [(⟨nm,op,rt,ht⟩:Aud)]) O (by intro x hx;rw [List.mem_singleton.1 hx];rfl)).sl) O xB xB) O xD ?_
 rintro⟨A35,c35,m35⟩ h35
 try dsimp only at h35
 replace h35:Row m35 34 4 A35 (n+1) c35 (qBn (l++([(⟨nm,op,rt,ht⟩:Aud)]))):=by rw [qPl];exact h35
 refine yo O (qAB O O) O O<|yo O (qAA O O qII O qJN O) O O<|vZ O (qAF (i:=0) (l:= [.slice A n c]) (vs:= [.slice A35 (n+1) c35]) O O O O O qJN O O) O O O λ_ _=>vM<|yq (yu C13 ?_)
 refine yl λ_ C14=>yh O<|yj (qAB O O) O<|vA 0 qII qJN O O O O O<|vF 0 isAgg118 O O O O O<|yj (qAN qDl O O) O<|yj (qAm O O O xB) O<|yn 2 O<|yi C14 ?_
 exact yr<|vH hw0 (λ_ _ h=>h) (qB5 O O O) (qCf (U [blk g [.slice A35 (n+1) c35] 232,m35]) (by rw [hE,hN,hn,show((n+1:Nat):Int)-1=((n:Nat):Int) by omega]) (λhd=>by rw [hL];exact⟨A35,n+1,c35,m35,O,hd,h35⟩) [0,1,2] O O xC)
theorem qUJ(F:Hp)(g:Nat)(A:yS)(n c:Nat)(hp:qAI F ⟨g,0,none⟩ [.slice A n c]):Cz prog 119 [Ptr g] F (I (n:Nat)):=by
 refine y7 func119 O ntmps119 O (λw0 hw0=>?_)
 refine yl λ_ C1=>yh O<|yi C1 ?_
 refine ym λ_ C2=>yl λ_ C3=>yh O<|yj ((qBL underlying121 O O O).as (v':= .bool false) O) O<|yi C3 ?_
 refine vC ?_
 refine yy C2 ?_
 refine yl λ_ C4=>yh O<|yj (qAB O O) O<|vA 0 qII qJN O O O O O<|yj (qAH O O isAgg118 (m:=F) xD (hp)) O<|yj (qAN qDl O O) O<|yh O<|yi C4 ?_
 exact yr<|yw hw0 O () O yd [0] O xC
def z16:xA:= [0,0,0,0,0,0,0,0,0,0,0,0,0,0,0,0]
def qYf(n:UInt8):xA:=n:: [0,0,0,0,0,0,0,0,0,0,0,0,0,0,0]
theorem qYe(k:UInt8)(h:Int):qBT (qYf k) z16 h=if h<0\/6<h then 10 else 0:=by
 unfold qBT
 by_cases hh:h<0\/6<h
 . rw [yW (show¬qE3 (qYf k) z16 h from λq=>by unfold qE3 at q;omega),yX hh]
 . rw [yX (show qE3 (qYf k) z16 h from⟨xB,xB,O,O⟩),yW hh]
def hit(x y:Lau):Bool:=decide (y.nm=x.nm\/y.key=x.key/\y.ht=x.ht)
end Go.Proofs.YtmemgokiolfdoaaGreatDoor