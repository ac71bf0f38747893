/- A part of the proof. -/
import Derived.Test.YtllnfioplpipiaaGreatDoorTopOrG8
import Derived.Test.YtllnfioplpipiaaGreatDoorTopOrG28
import Derived.Test.YtllnfioplpipiaaGreatDoorTopOrG21
import Derived.Test.YtllnfioplpipiaaGreatDoorTopOrG27
set_option linter.unusedSimpArgs false
set_option linter.unusedVariables false
namespace Go.Proofs.YtllnfioplpipiaaGreatDoor
open Go Go.Fw Go.Proofs.Tryz
set_option maxRecDepth 100000
set_option maxHeartbeats 1000000
theorem ent83:qAD prog 83:=qAD.of func83 rfl (by kernel_rfl)
theorem ent84:qAD prog 84:=qAD.of func84 rfl (by kernel_rfl)
theorem ent85:qAD prog 85:=qAD.of func85 rfl (by kernel_rfl)
theorem ent149:qAD prog 149:=qAD.of func149 rfl (by kernel_rfl)
theorem el34:qCQ prog 34 [Str [],Str [],Str [],.int .i64 0] 56:=qCQ.of (by kernel_rfl) rfl
theorem qUa(d:Nat)(o r:List UInt8)(h:Int)(o' r':List UInt8)(h':Int)(w:World):(Op.equalIn (d+2) 32 (.agg #[Str o,Str r,I h]) (.agg #[Str o',Str r',I h'])).run prog w= .ok (decide (o=o'∧r=r'∧h=h')) w:=eqPub d o r o' r' h h' w
structure Aud where
 nm:List UInt8
 op:List UInt8
 rt:List UInt8
 ht:Int
 deriving DecidableEq
def Aud.cells(x:Aud):List Value:= [Str (x.nm),Str (x.op),Str (x.rt),I (x.ht)]
def qAq:Aud:=⟨[],[],[],0⟩
def qBK(l:List Aud):List (List Value):=l.map Aud.cells
theorem qFu{l:List Aud}{k:Nat}(h:k<l.length):(qBK l)[k]?=some (l.getD k qAq).cells:=by
 unfold qBK
 rw [List.getElem?_map,qAc qAq h];rfl
theorem qFt(l:List Aud):(qBK l).length=l.length:=by simp [qBK]
theorem qME(a:List Aud)(x:Aud):qBK (a++ [x])=qBK a++ [x.cells]:=by simp [qBK]
theorem qP9(a:List Aud):(qBK a).all (λx=>x.all Value.oneCell')=true:=qNc Aud.cells (λ_=>rfl) a
structure Lau where
 nm:List UInt8
 key:UInt8
 ht:Int
 deriving DecidableEq
def Lau.cells(x:Lau):List Value:= [Str (x.nm),B8 (x.key),I (x.ht)]
def qO2(m:Hp)(g:Nat)(l:List Aud):Prop:= ∃A n c mr,m=U [blk g [.slice A n c] 171,mr]∧Dj (blk g [.slice A n c] 171) mr∧Row mr 34 4 A n c (qBK l)
def qIz(s:List UInt8):Nat:=if(normal s).2≠0 then(normal s).2 else if(normal s).1≠s then 4 else 0
def qQK(nm o r:List UInt8)(h:Int):Int:=if qIz nm≠0 then((qIz nm:Nat):Int) else qA9 o r h
def same(nm o r:List UInt8)(h:Int)(x:Aud):Bool:=decide (x.nm=nm)||decide (x.op=o∧x.rt=r∧x.ht=h)
def qKH(l:List Aud)(nm o r:List UInt8)(h:Int):Int:=if qQK nm o r h≠0 then qQK nm o r h else if l.any (same nm o r h)=true then 19 else if 64≤l.length then 9 else 0
def qOr(l:List Aud)(nm o r:List UInt8)(h:Int):List Aud:=if qKH l nm o r h=0 then l++ [⟨nm,o,r,h⟩] else l
def qFv(l:List Aud)(nm o r:List UInt8)(h:Int):Int:=if qKH l nm o r h=0 then((l.length:Nat):Int) else 0
def ixA(p:Aud→Bool)(l:List Aud):Int:=if l.any p=true then((l.findIdx p:Nat):Int) else-1
theorem qUS{p:Aud→Bool}{l:List Aud}{k:Nat}(h:k<l.length)(hp:p (l.getD k qAq)=true)(hn: ∀j<k,p (l.getD j qAq)=false):ixA p l=((k:Nat):Int):=by
 have hk:l.getD k qAq=l[k]:=by rw [List.getD_eq_getElem?_getD,List.getElem?_eq_getElem h];rfl
 unfold ixA
 rw [if_pos (List.any_eq_true.2 ⟨l[k],List.getElem_mem h,hk▸hp⟩)]
 congr 1
 rw [List.findIdx_eq h]
 refine⟨hk▸hp,λj hj=>?_⟩
 have:=hn j hj
 rw [List.getD_eq_getElem?_getD,List.getElem?_eq_getElem (by omega)] at this
 exact this
theorem qUQ{p:Aud→Bool}{l:List Aud}(hn: ∀j<l.length,p (l.getD j qAq)=false):ixA p l= -1:=by
 unfold ixA
 rw [if_neg]
 intro h
 obtain ⟨x,hx,hp⟩:=List.any_eq_true.1 h
 obtain ⟨j,hj,rfl⟩:=List.getElem_of_mem hx
 have:=hn j hj
 rw [List.getD_eq_getElem?_getD,List.getElem?_eq_getElem hj] at this
 rw [show(some l[j]).getD qAq=l[j] from rfl,hp] at this
 cases this
theorem qUR(p:Aud→Bool)(l:List Aud):decide (ixA p l≥0)=l.any p:=by
 unfold ixA
 by_cases h:l.any p=true
 · rw [if_pos h,h,decide_eq_true (by omega)]
 · rw [if_neg h,Bool.eq_false_iff.2 h];rfl
theorem qTm(F:Hp)(a b c:List UInt8)(d:Int)(nm op rt:List UInt8)(ht:Int)(p:Nat)(hp:qAL F ⟨p,0,none⟩ [Str nm,Str op,Str rt,I ht]):Ct prog 85 [.agg #[Str (a),Str (b),Str (c),I (d)],Ptr p] [F] (λ_:Unit=> .bool (same nm op rt ht ⟨a,b,c,d⟩)) (λ_=>True) (λ_=> [F]):=by
 refine Ct.walk func85 rfl ntmps85 rfl (λw0 hw0=>?_)
 change J _ [(0,_),(1,_)] _ _ _
 refine J.g λK1 hK1=>J.k (qAi (l:= [Str (a),Str (b),Str (c),I (d)]) O O O) O λg2 _=>?_
 change J _ _ _ [F,blk g2 [Str (a),Str (b),Str (c),I (d)] 34] _
 refine J.b O<|J.c hK1<|J.E 1 2 ?_
 refine J.g λK2 hK2=>J.a3 0 qMI z9_ O O O O O<|J.f (qAE 1 (v:=Str (a)) O O O b9_ O) O<|J.a3 0 qMI z9_ O O O O O<|J.f (qAJ (v:=Str (nm)) O O b9_ (m:=F) (by simp) (hp.at (i:=0) rfl)) rfl<|J.f (qBQ rfl rfl rfl) rfl<|J.b rfl<|J.c4 (d:=9) rfl (λh9=>?_) (λh9=>?_)
 ·
  refine J.p 7 O<|J.c hK2<|J.u 3 ?_
  exact J.D<|J.M hw0 O () (by unfold same;dsimp only;first|rw [decide_eq_true h9,Bool.true_or]|rw [decide_eq_false h9,Bool.false_or]) trivial [0] rfl (by decide)
 refine J.Z (qAB (j:=1) O O qMI O qD3 O) O<|J.Z (qAd (vs:= [Str (b),Str (c),I (d)]) O O qMM qD3 (m:=blk g2 [Str (a),Str (b),Str (c),I (d)] 34) (by simp) (qAL.blk0.sub 1 3) rfl) rfl<|J.Z (qAB (j:=1) rfl rfl qMI rfl qD3 rfl) rfl<|J.Z (qAd (vs:= [Str (op),Str (rt),I (ht)]) rfl rfl qMM qD3 (m:=F) (by simp) (hp.sub 1 3) rfl) rfl<|J.Z (qUG rfl rfl rfl (by kernel_rfl) (λw=>qUa 9998 b c d op rt ht w)) rfl<|J.p 2 rfl<|J.c hK2<|J.u 3 ?_
 exact J.D<|J.M hw0 O () (by unfold same;dsimp only;first|rw [decide_eq_true h9,Bool.true_or]|rw [decide_eq_false h9,Bool.false_or]) trivial [0] rfl (by decide)
theorem qOp(F:Hp)(A:Option Addr)(n c:Nat)(l:List Aud)(hs:Sl F 4 A n c (qBK l))(hnb:n≤1073741824)(nm op rt:List UInt8)(ht:Int)(p:Nat)(hp:qAL F ⟨p,0,none⟩ [Str nm,Str op,Str rt,I ht]):Ct prog 149 [.slice A n c,.func (.func 85) #[] #[Ptr p]] [F] (λ_:Unit=>I (ixA (same nm op rt ht) l)) (λ_=>True) (λ_=> [F]):=by
 have hn:l.length=n:=by have:=hs.1;simpa [qBK] using this
 refine Ct.walk func149 rfl ntmps149 rfl (λw0 hw0=>?_)
 change J _ [(0,_),(1,_)] _ _ _
 refine J.g λK1 hK1=>J.b O<|J.c hK1<|J.E 0 1 ?_
 refine J.j λK2 hK2=>J.g λK3 hK3=>J.b O<|J.f (qAP qGw O O) O<|J.b O<|J.c hK3<|J.O 0 1 7 8 ?_
 refine J.V<|J.b6 (X:=Nat) (λζ=> [(0,.slice A n c),(1,.func (.func 85) #[] #[Ptr p]),(7,I ((n:Nat):Int)),(8,I ((ζ:Nat):Int))]) (λζ=> [F]) (λζ=>ζ≤n∧ ∀j<ζ,same nm op rt ht (l.getD j qAq)=false) (λζ=>n-ζ) 0 (⟨Nat.zero_le _,λj h=>absurd h (Nat.not_lt_zero j)⟩) ⟨O,O,O,O,trivial⟩ (λ_ h=>h) ?_
 rintro k ⟨hk,hno⟩ I0 hI0
 refine J.g λK4 hK4=>J.f (qAT O O O) O<|J.c hK4<|J.a0 0 1 7 8 9 ?_
 refine J.j λK5 hK5=>J.a2 O (λh9=>?_) (λh9=>?_)
 ·
  refine J.W hK5<|J.O 0 1 7 8 ?_
  refine J.j λK6 hK6=>J.V<|J.g λK7 hK7=>J.p 2 O<|J.c hK7<|J.a0 0 1 5 7 8 ?_
  refine J.g λK8 hK8=>J.p 3 O<|J.f (qAH (i:=k) O O O qGw qJJ hs (by omega)) O<|J.f (qAd (vs:= [Str ((l.getD k qAq).nm),Str ((l.getD k qAq).op),Str ((l.getD k qAq).rt),I ((l.getD k qAq).ht)]) O O isAgg34 qJJ (m:=F) (by simp) (hs.elem (qFu (by omega))) rfl) rfl<|J.k (qCh rfl rfl rfl ent85 (Ct.use0 (λF' hF=>qTm F' ((l.getD k qAq).nm) ((l.getD k qAq).op) ((l.getD k qAq).rt) ((l.getD k qAq).ht) nm op rt ht p (hp.mono (hF F (by simp)))))) rfl λg16 _=>J.c hK8<|J.b8 0 1 5 7 8 16 ?_
  refine J.d6 O (λh16=>?_) (λh16=>?_)
  ·
   refine J.g λK9 hK9=>J.p 2 O<|J.c hK9<|J.u 4 ?_
   exact J.D<|J.b1<|J.a4<|J.a4<|J.b1<|J.a4<|J.M hw0 O () (by rw [qUS (k:=k) (by omega) (by simpa using h16) hno]) trivial [0] rfl (by decide)
  refine J.b7<|J.a6<|J.A (J.H hK6 ?_)
  refine J.O 0 1 7 8 ?_
  exact J.L<|J.f ((qAO O O O (by omega)).nat (k+1) (by omega)) O<|J.b O<|J.a7<|J.A<|J.a8 (k+1) (λη (hη:_∧n-η<n-k)=>hI0 η hη.1 hη.2) ⟨⟨by omega,λj hj=>by rcases Nat.lt_succ_iff_lt_or_eq.1 hj with h|rfl;exact hno j h;simpa using h16⟩,by first|omega|(dsimp only;omega)⟩ ⟨rfl,rfl,rfl,rfl,trivial⟩ (λ_ h=>h)
 refine J.b4<|J.a1<|J.a1<|J.b5 ?_
 refine J.A (J.H hK2 ?_)
 refine J.c3 [] trivial<|J.g λK10 hK10=>J.b O<|J.c hK10<|J.u 4 ?_
 exact J.D<|J.M hw0 O () (by rw [qUQ (λj hj=>hno j (by omega))]) trivial [0] rfl (by decide)
theorem qJD(F:Hp)(A:Option Addr)(n c:Nat)(l:List Aud)(hs:Sl F 4 A n c (qBK l))(hnb:n≤1073741824)(nm op rt:List UInt8)(ht:Int)(p:Nat)(hp:qAL F ⟨p,0,none⟩ [Str nm,Str op,Str rt,I ht]):Ct prog 84 [.slice A n c,.func (.func 85) #[] #[Ptr p]] [F] (λ_:Unit=> .bool (l.any (same nm op rt ht))) (λ_=>True) (λ_=> [F]):=by
 refine Ct.walk func84 rfl ntmps84 rfl (λw0 hw0=>?_)
 change J _ [(0,_),(1,_)] _ _ _
 refine J.g λK1 hK1=>J.b O<|J.c hK1<|J.E 0 1 ?_
 refine J.g λK2 hK2=>J.p 2 O<|J.k (qAA O O ent149 (Ct.use0 (λF' hF=>qOp F' A n c l (hs.mono (hF F (by simp))) (by omega) nm op rt ht p (hp.mono (hF F (by simp)))))) rfl λg7 _=>J.f (qBN rfl rfl rfl) rfl<|J.b rfl<|J.c hK2<|J.u 4 ?_
 exact J.D<|J.M hw0 O () (by rw [qUR]) trivial [0] rfl (by decide)
theorem qPi(F:Hp)(hA:qAL F ⟨2,0,none⟩ qBT)(hT:qBx F)(nm op rt:List UInt8)(ht:Int)(h1:nm.length≤1000000)(h2:op.length≤1048576)(h3:rt.length≤1048576):Ct prog 83 [.agg #[Str (nm),Str (op),Str (rt),I (ht)]] [F] (λ_:Unit=>I (qQK nm op rt ht)) (λ_=>True) (λ_=> [F]):=by
 refine Ct.walk func83 rfl ntmps83 rfl (λw0 hw0=>?_)
 change J _ [(0,_)] _ _ _
 refine J.g λK1 hK1=>J.k (qAi (l:= [Str (nm),Str (op),Str (rt),I (ht)]) O O O) O λg1 _=>?_
 change J _ _ _ [F,blk g1 [Str (nm),Str (op),Str (rt),I (ht)] 34] _
 refine J.b O<|J.c hK1<|J.u 1 ?_
 refine J.g λK2 hK2=>J.a3 0 qMI z9_ O O O O O<|J.f (qAE 1 (v:=Str (nm)) O O O b9_ O) O<|J.k (qAA O O ent148 (Ct.use0 (λF' hF=>qIY F' (hA.mono (hF F (by simp))) (hT.mono (hF F (by simp))) nm (by first|omega|decide)))) rfl λg8 _=>J.p 5 rfl<|J.c hK2<|J.G 1 3 4 ?_
 refine J.j λK3 hK3=>J.V<|J.g λK4 hK4=>J.b O<|J.f (qAb O O O) O<|J.b O<|J.c hK4<|J.O 1 3 4 11 ?_
 refine J.a2 O (λh11=>?_) (λh11=>?_)
 ·
  refine J.g λK5 hK5=>J.p 2 O<|J.c hK5<|J.u 2 ?_
  exact J.D<|J.b1<|J.a4<|J.M hw0 O () (by unfold qQK qIz;rw [if_pos (show(normal nm).2≠0 by omega),if_pos (by omega)]) trivial [0] rfl (by decide)
 refine J.g λK6 hK6=>J.b O<|J.a3 0 qMI z9_ O O O O O<|J.f (qAE 1 (v:=Str (nm)) O O O b9_ O) O<|J.f (qGQ O O O) O<|J.b O<|J.c hK6<|J.E 1 15 ?_
 refine J.a2 O (λh15=>?_) (λh15=>?_)
 ·
  refine J.g λK7 hK7=>J.b O<|J.c hK7<|J.u 2 ?_
  exact J.D<|J.b1<|J.a4<|J.M hw0 O () (by unfold qQK qIz;rw [if_neg (show¬(normal nm).2≠0 by omega),if_pos h15];rfl) trivial [0] rfl (by decide)
 refine J.b7<|J.a6<|J.A (J.H hK3 ?_)
 refine J.u 1 ?_
 refine J.g λK8 hK8=>J.a3 1 qMI qD3 O O O O O<|J.f (qAd (vs:= [Str (op),Str (rt),I (ht)]) O O qMM qD3 (m:=blk g1 [Str (nm),Str (op),Str (rt),I (ht)] 34) (by simp) (qAL.blk0.sub 1 3) rfl) rfl<|J.k (qAA rfl rfl ent51 (Ct.use0 (λF' hF=>qDE F' op rt ht (by omega) (by omega)))) rfl λg23 _=>J.p 4 rfl<|J.c hK8<|J.u 4 ?_
 refine J.g λK9 hK9=>J.p 2 O<|J.c hK9<|J.u 2 ?_
 exact J.D<|J.M hw0 O () (by unfold qQK qIz;rw [if_neg (show¬(normal nm).2≠0 by omega),if_neg h15];rfl) trivial [0] rfl (by decide)
theorem qSI(F:Hp):Ct prog 28 [] [F] (λx:Nat×Hp=>Ptr x.1) (λx=>qO2 x.2 x.1 ([])) (λx=> [x.2,F]):=by
 refine Ct.walk func28 rfl ntmps28 rfl (λw0 hw0=>?_)
 change J _ [] _ _ _
 refine J.g λK1 hK1=>J.b O<|J.c hK1<|J.c3 [] trivial<|J.g λK2 hK2=>J.f (qAM (l:= []) (vs:= []) (places:= [(0,1)]) (r:= [.slice none 0 0]) O O O qF1 zeroValue171 (λ_=>by kernel_rfl) O) O<|J.k (qAi (l:= [.slice none 0 0]) O O O) O λg2 _=>?_
 change J _ _ _ [F,blk g2 [.slice none 0 0] 171] _
 refine J.b O<|J.c hK2<|J.u 0 ?_
 exact J.D<|J.d5 [1,2,0] [blk g2 [.slice none 0 0] 171,(λ_=>none),F] O (by decide)<|J.b2 hw0 (λ_ _ h=>h) (qIJ O O) (qBr (g2,U [blk g2 [.slice none 0 0] 171,(λ_=>none)]) (O) (λhd=>⟨none,0,0,(λ_=>none),O,hd,qBU.nil⟩) [0,1,2] O O (by decide))
theorem qST(F m:Hp)(g:Nat)(l:List Aud)(hb:qO2 m g l)(hA:qAL F ⟨2,0,none⟩ qBT)(hT:qBx F)(nm op rt:List UInt8)(ht:Int)(h1:nm.length≤1000000)(h2:op.length≤1048576)(h3:rt.length≤1048576)(hl:l.length≤1000000):Ct prog 29 [Ptr g,.agg #[Str (nm),Str (op),Str (rt),I (ht)]] [m,F] (λ_:Hp=> .tuple #[I (qFv l nm op rt ht),I (qKH l nm op rt ht)]) (λm'=>qO2 m' g (qOr l nm op rt ht)) (λm'=> [m',F]):=by
 obtain ⟨A,n,c,mr,rfl,hd,hr⟩:=hb
 have hn:l.length=n:=by have:=hr.len;simpa [qBK] using this
 have hnc:=hr.2.2.1
 refine Ct.walk func29 rfl ntmps29 rfl (λw0 hw0=>?_)
 change J _ [(0,_),(1,_)] _ _ _
 refine J.f5 hd ?_
 refine J.g λK1 hK1=>J.k (qAi (l:= [Str (nm),Str (op),Str (rt),I (ht)]) O O O) O λg3 _=>?_
 change J _ _ _ [blk g [.slice A n c] 171,mr,F,blk g3 [Str (nm),Str (op),Str (rt),I (ht)] 34] _
 refine J.p 2 O<|J.c hK1<|J.E 0 3 ?_
 refine J.j λK2 hK2=>J.g λK3 hK3=>J.b O<|J.f (qA6 underlying94 O O O) O<|J.c hK3<|J.G 0 3 8 ?_
 refine J.a5 ?_
 refine J.W hK2<|J.E 0 3 ?_
 refine J.j λK4 hK4=>J.g λK5 hK5=>J.c9 3 isAgg34 qJJ O O O O O<|J.k (qAA O O ent83 (Ct.use0 (λF' hF=>qPi F' (hA.mono (hF F (by simp))) (hT.mono (hF F (by simp))) nm op rt ht (by omega) (by omega) (by omega)))) rfl λg10 _=>J.b rfl<|J.c hK5<|J.G 0 3 6 ?_
 refine J.g λK6 hK6=>J.b O<|J.f (qAb O O O) O<|J.c hK6<|J.O 0 3 6 12 ?_
 refine J.a2 O (λh12=>?_) (λh12=>?_)
 ·
  refine J.g λK7 hK7=>J.p 3 O<|J.c hK7<|J.E 4 5 ?_
  refine J.D<|J.a4 ?_
  have hE:qKH l nm op rt ht=qQK nm op rt ht:=by unfold qKH;rw [if_pos h12]
  have hL:qOr l nm op rt ht=l:=by unfold qOr;rw [hE,if_neg h12]
  have hN:qFv l nm op rt ht=0:=by unfold qFv;rw [hE,if_neg h12]
  exact J.b2 hw0 (λ_ _ h=>h) (qB2 O O O) (qBr (U [blk g [.slice A n c] 171,mr]) (by rw [hE,hN]) (λhd=>by rw [hL];exact⟨A,n,c,mr,rfl,hd,hr⟩) [0,1,2] rfl rfl (by decide))
 refine J.W hK4<|J.E 0 3 ?_
 refine J.j λK8 hK8=>J.V<|J.g λK9 hK9=>J.b O<|J.f (qAC O O) O<|J.a3 0 qF1 qO5 O O O O O<|J.f (qAE 0 (v:= .slice A n c) O O O isAgg91 O) O<|J.f (qBR O O) O<|J.k (qAA O O ent84 (Ct.use0 (λF' hF=>qJD F' A n c l (hr.sl.mono (hF mr (by simp))) (by omega) nm op rt ht g3 (qAL.blk0.mono (hF (blk g3 [Str (nm),Str (op),Str (rt),I (ht)] 34) (by simp)))))) rfl λg20 _=>J.b rfl<|J.c hK9<|J.G 0 3 14 ?_
 refine J.d6 O (λh14=>?_) (λh14=>?_)
 ·
  refine J.j λK10 hK10=>?_
  have hE:qKH l nm op rt ht=19:=by unfold qKH;rw [if_neg h12,if_pos h14]
  have hL:qOr l nm op rt ht=l:=by unfold qOr;rw [hE];rfl
  have hN:qFv l nm op rt ht=0:=by unfold qFv;rw [hE];rfl
  refine J.L<|J.p 2 O<|J.c hK10<|J.E 4 5 ?_
  exact J.D<|J.b1<|J.a4<|J.b2 hw0 (λ_ _ h=>h) (qB2 O O O) (qBr (U [blk g [.slice A n c] 171,mr]) (by rw [hE,hN]) (λhd=>by rw [hL];exact⟨A,n,c,mr,rfl,hd,hr⟩) [0,1,2] rfl rfl (by decide))
 refine J.g λK11 hK11=>J.b O<|J.f (qAC O O) O<|J.a3 0 qF1 qO5 O O O O O<|J.f (qAE 0 (v:= .slice A n c) O O O isAgg91 O) O<|J.f (qAP qGw O O) O<|J.f (qBN O O O) O<|J.b O<|J.c hK11<|J.G 0 3 21 ?_
 refine J.a2 O (λh21=>?_) (λh21=>?_)
 ·
  refine J.j λK12 hK12=>?_
  have hE:qKH l nm op rt ht=9:=by unfold qKH;rw [if_neg h12,if_neg (by simpa using h14),if_pos (by omega)]
  have hL:qOr l nm op rt ht=l:=by unfold qOr;rw [hE];rfl
  have hN:qFv l nm op rt ht=0:=by unfold qFv;rw [hE];rfl
  refine J.L<|J.p 2 O<|J.c hK12<|J.E 4 5 ?_
  exact J.D<|J.b1<|J.a4<|J.b2 hw0 (λ_ _ h=>h) (qB2 O O O) (qBr (U [blk g [.slice A n c] 171,mr]) (by rw [hE,hN]) (λhd=>by rw [hL];exact⟨A,n,c,mr,rfl,hd,hr⟩) [0,1,2] rfl rfl (by decide))
 refine J.b7<|J.a6<|J.A (J.H hK8 ?_)
 refine J.E 0 3 ?_
 refine J.j λK13 hK13=>?_
 have hE:qKH l nm op rt ht=0:=by unfold qKH;rw [if_neg h12,if_neg (by simpa using h14),if_neg (by omega)]
 have hL:qOr l nm op rt ht=l++ [⟨nm,op,rt,ht⟩]:=by unfold qOr;rw [hE];rfl
 have hN:qFv l nm op rt ht=((l.length:Nat):Int):=by unfold qFv;rw [hE];rfl
 refine J.c1 [blk g [.slice A n c] 171,blk g3 [Str (nm),Str (op),Str (rt),I (ht)] 34] [10] (.y 0 (.y 1 (.y 2 (.y 3 (.y 4 (.y 5 (.e 6 (.e 7 (.y 8 (.y 9 (.e 10 .nil))))))))))) Tryz.wide (by decide+kernel) (by simp) ?_
 refine J.T ?_
 refine J.T ?_
 refine J.q O (qAC O O) O O<|J.q O (qAB (j:=0) O O qF1 O qO5 O) O O<|J.q O (qAE 0 (v:= .slice A n c) O O O isAgg91 O) O O<|J.q O (qAy 1 O O O isAgg34 qJJ O) O O<|J.a9 O (qAF (l:= [.tmp 33]) (xs:= [[Str (nm),Str (op),Str (rt),I (ht)]]) O O O O qGw el34 O (by decide) (by decide) (by simp)) rfl (by simp) λg34 _=>?_
 change J _ _ _ [blk g [.slice A n c] 171,mr,F,blk g3 [Str (nm),Str (op),Str (rt),I (ht)] 34,blk g34 [Str (nm),Str (op),Str (rt),I (ht)] 34] _
 refine J.a9 O (qAW (i:=1) (xs:=qBK l) (m2:=blk g34 [Str (nm),Str (op),Str (rt),I (ht)] 34) (ys:= [[Str (nm),Str (op),Str (rt),I (ht)]]) O O O qGw qGw el34 O hr (by simp) ((qAk (q:=True) (xs:=qBK [(⟨nm,op,rt,ht⟩:Aud)]) rfl (by intro x hx;rw [List.mem_singleton.1 hx];rfl)).sl) rfl (by omega) (by omega)) rfl (by simp) ?_
 rintro⟨A35,c35,m35⟩ h35
 try dsimp only at h35
 change J _ ((35,.slice A35 (n+1) c35)::_) _ [_,m35,_,_,_] _
 replace h35:Row m35 34 4 A35 (n+1) c35 (qBK (l++([(⟨nm,op,rt,ht⟩:Aud)]))):=by rw [qME];exact h35
 refine J.q O (qAC O O) O O<|J.q O (qAB (j:=0) O O qF1 O qO5 O) O O<|J.d3 O (qAI (i:=0) (l:= [.slice A n c]) (vs:= [.slice A35 (n+1) c35]) O O O O O qO5 O O) O O O λ_ _=>?_
 change J _ _ _ [blk g [.slice A35 (n+1) c35] 171,_,_,_,_] _
 refine J.b9<|J.A (J.H hK13 ?_)
 refine J.u 0 ?_
 refine J.g λK14 hK14=>J.b O<|J.f (qAC O O) O<|J.a3 0 qF1 qO5 O O O O O<|J.f (qAE 0 (v:= .slice A35 (n+1) c35) O O O isAgg91 O) O<|J.f (qAP qGw O O) O<|J.f (qAw O O O (by omega)) O<|J.p 2 O<|J.c hK14<|J.E 4 5 ?_
 exact J.D<|J.b2 hw0 (λ_ _ h=>h) (qB2 O O O) (qBr (U [blk g [.slice A35 (n+1) c35] 171,m35]) (by rw [hE,hN,hn,show((n+1:Nat):Int)-1=((n:Nat):Int) by omega]) (λhd=>by rw [hL];exact⟨A35,n+1,c35,m35,rfl,hd,h35⟩) [0,1,2] rfl rfl (by decide))
theorem qPk(F:Hp)(g:Nat)(A:Option Addr)(n c:Nat)(hp:qAL F ⟨g,0,none⟩ [.slice A n c]):Ct prog 88 [Ptr g] [F] (λ_:Unit=>I ((n:Nat):Int)) (λ_=>True) (λ_=> [F]):=by
 refine Ct.walk func88 rfl ntmps88 rfl (λw0 hw0=>?_)
 change J _ [(0,_)] _ _ _
 refine J.g λK1 hK1=>J.b O<|J.c hK1<|J.u 0 ?_
 refine J.j λK2 hK2=>J.g λK3 hK3=>J.b O<|J.f ((qA6 underlying94 O O O).as (v':= .bool false) O) O<|J.c hK3<|J.E 0 4 ?_
 refine J.a5 ?_
 refine J.W hK2<|J.u 0 ?_
 refine J.g λK4 hK4=>J.b O<|J.f (qAC O O) O<|J.a3 0 qF1 qO5 O O O O O<|J.f (qAJ (v:= .slice A n c) O O isAgg91 (m:=F) (by simp) (hp)) rfl<|J.f (qAP qGw rfl rfl) rfl<|J.b rfl<|J.c hK4<|J.u 2 ?_
 exact J.D<|J.M hw0 O () O trivial [0] O (by decide)
def z16:List UInt8:= [0,0,0,0,0,0,0,0,0,0,0,0,0,0,0,0]
def qTu(n:UInt8):List UInt8:=n:: [0,0,0,0,0,0,0,0,0,0,0,0,0,0,0]
theorem qS8(k:UInt8)(h:Int):qA9 (qTu k) z16 h=if h<0∨6<h then 10 else 0:=by
 unfold qA9
 by_cases hh:h<0∨6<h
 · rw [if_neg (show¬qDn (qTu k) z16 h from λq=>by unfold qDn at q;omega),if_pos hh]
 · rw [if_pos (show qDn (qTu k) z16 h from⟨by omega,by omega,rfl,rfl⟩),if_neg hh]
def hit(x y:Lau):Bool:=decide (y.nm=x.nm∨y.key=x.key∧y.ht=x.ht)
end Go.Proofs.YtllnfioplpipiaaGreatDoor
