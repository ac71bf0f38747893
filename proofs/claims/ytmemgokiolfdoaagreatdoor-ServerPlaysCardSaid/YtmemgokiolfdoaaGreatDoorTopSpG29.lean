/- A part of the proof. -/
import Derived.Test.YtmemgokiolfdoaaGreatDoorTopSpG28
set_option maxRecDepth 100000
set_option maxHeartbeats 1000000
set_option linter.unusedSimpArgs false
set_option linter.unusedVariables false
namespace Go.Proofs.YtmemgokiolfdoaaGreatDoor
open Go Go.Fw Go.Proofs.Tryz
structure qTT where
 wh:Int
 lb:UInt8
 wr:UInt8
 nn:UInt8
 deriving DecidableEq
def qTT.cells(x:qTT):yU:= [I (x.wh),B8 (x.lb),B8 (x.wr),B8 (x.nn)]
def qAt:qTT:=⟨0,0,0,0⟩
def qGJ(l:List qTT):List yU:=l.map qTT.cells
theorem qM6{l:List qTT}{k:Nat}(h:k<l.length):(qGJ l)[k]?=some (l.getD k qAt).cells:=by
 unfold qGJ
 rw [jO,qAc qAt h];rfl
theorem qM5(l:List qTT):(qGJ l).length=l.length:=by simp [qGJ]
theorem qTj(i:Int): -5<i.tmod 5/\i.tmod 5<5:=⟨Int.lt_tmod_of_pos _ xB,Int.tmod_lt_of_pos _ xB⟩
theorem qQL(i:Int):(i.tmod 5+5)%5=i%5:=by
 rw [Int.tmod_def,Int.add_emod_right,Int.sub_eq_add_neg,<-Int.mul_neg,Int.add_mul_emod_self_left]
theorem and1(w:UInt8):(w&&&1).toNat=w.toNat%2:=by
 rw [UInt8.toNat_and];exact Nat.and_one_is_mod _
theorem qZv(w:UInt8):w&&&1=1/\(w&&&1).toNat=1\/ ¬w&&&1=1/\(w&&&1).toNat=0:=by
  by_cases h:w&&&1=1
  . exact .inl ⟨h,by rw [h];rfl⟩
  . refine .inr ⟨h,?_⟩
    have h1:=and1 w
    rcases Nat.mod_two_eq_zero_or_one w.toNat with h2|h2
    . omega
    . exact absurd (UInt8.toNat_inj.1 (show(w&&&1).toNat=(1:UInt8).toNat by rw [h1,h2];rfl)) h
theorem qTG{H:Type}{enc:TypeId×Value->H}{W:World}{xs:List yU}(h: ∀x∈xs,∃fuel y,DataW.trod enc prog W 0 (λ_=>true) true fuel 44 x=some y): ∃l:List qTT,xs=qGJ l/\ ∀a∈l,True:=
 qQo (f:=qTT.cells) (Q:=λ_=>True) λx hx=>by
  obtain ⟨fuel,y,h1⟩:=h x hx
  obtain ⟨hl,hf⟩:=qQU qTg h1
  have hc:prog.cellsOf 44=4:=xH
  have cB:prog.cellsOf 5=1:=xH
  have cZ:prog.cellsOf 3=1:=xH
  rw [hc] at hl
  match x,hl,hf with
  | [v0,v1,v2,v3],_,hf=>
   obtain ⟨_,_,h0⟩:=hf 0 _ rfl
   obtain ⟨_,_,h1⟩:=hf 1 _ rfl
   obtain ⟨_,_,h2⟩:=hf 2 _ rfl
   obtain ⟨_,_,h3⟩:=hf 3 _ rfl
   dsimp only at h0 h1 h2 h3
   rw [cZ] at h0
   rw [cB] at h1
   rw [cB] at h2
   rw [cB] at h3
   obtain ⟨w0,rfl,_⟩:=qaL u3_ h0
   obtain ⟨w1,rfl⟩:=qXG u5_ h1
   obtain ⟨w2,rfl⟩:=qXG u5_ h2
   obtain ⟨w3,rfl⟩:=qXG u5_ h3
   exact⟨⟨w0,w1,w2,w3⟩,O,yd⟩
attribute [local irreducible] Sha.tagged Wo.pub Wo.publicOf Wo.signs Wo.ends Wo.digs Wo.walk Wo.opn Mk.root Mk.path Mk.climb Xm.root sgC sgP qA6 qBK sgB normal qAv nmK mlG mlE vJ pJ p0J wJ jK b3J
theorem qO6(F:Hp)(hK:yf F)(hA:yg F)(hT:qBl F)(de:UInt8)(A0:yS)(n0 c0:Nat)(la:List qTT)(sl0:Sl F 4 A0 n0 c0 (qGJ la)):Cz prog 3 [B8 (de),.slice A0 n0 c0] F (.bool true):=by
 have hln:la.length=n0:=by have:=sl0.1;rw [qM5] at this;exact this
 obtain ⟨dp,hdp⟩: ∃dp,dp=de.toNat%3:=⟨_,rfl⟩
 have hdp2:dp<=2:=xB
 refine y7 func3 O ntmps3 O (λw0 hw0=>?_)
 refine yl λ_ C1=>yh O<|yi C1<|ym λ_ C2=>yl λ_ C3=>yp (qAZ O O (λF' hF=>qMN F' (hK.mo hF) (hA.mono (Fa hF)) (hT.mono (Fa hF)))) O λg23 _=>yj ((qA5 O O).as (v':= .bool false) O) O<|yi C3<|vC ?_
 refine yy C2<|yl λ_ C4=>yp (qBx O O (λF' _=>qLG F' 700 xC xC)) O ?_
 rintro⟨g26,m26⟩ hb26
 try dsimp only at hb26
 refine yn 5 O<|yi C4<|yl λ_ C5=>yn 2 O<|yj (qBG O O u5_ u3_) O<|yj (((qDM O O O xB).nat (dp) xB)) O<|yp (qAZ O O (λF' hF=>qD3 F' 0 xN)) O λg34 _=>yp (qAZ O O (λF' hF=>qD3 F' 1 xN)) O λg35 _=>yp (qAE (l:= [.tmp 34,.tmp 35]) (xs:= [[Str ((qAL 0).nm),Str ((qAL 0).op),Str ((qAL 0).rt),I ((qAL 0).ht)],[Str ((qAL 1).nm),Str ((qAL 1).op),Str ((qAL 1).rt),I ((qAL 1).ht)]]) O O O O qDl el34 O xC xC xD) O λg36 _=>yp (qAJ O O ent (vR 1 O (λF' hF=>qMd F' m26 (hK.mo hF) (hA.mono (Fa hF)) (hT.mono (Fa hF)) g26 (Dk.new 700) hb26 3 690 xC xC dp xB 2 xC _ _ (qEZ 2) O ((qAj (q:=True) (xs:=qBn [qAL 0,qAL 1]) O (by intro x hx;simp only [qBn,List.map,j5,jr,or_false] at hx;rcases hx with rfl|rfl<;>rfl)).sl.mono (hF (blk g36 [Str ((qAL 0).nm),Str ((qAL 0).op),Str ((qAL 0).rt),I ((qAL 0).ht),Str ((qAL 1).nm),Str ((qAL 1).op),Str ((qAL 1).rt),I ((qAL 1).ht)] 34) xD)) (glK 2 xC) [] (qaV xC xC xC) (jw0 xC) yd xC xC))) O ?_
 rintro r37 hp37
 refine yn 5 O<|yi C5<|yl λ_ C6=>yp (qBx O O (λF' hF=>qNF F' (hK.mo hF) OWN 0 xC xC)) O ?_
 rintro⟨g41,m41⟩ h41
 try dsimp only at h41
 refine yn 5 O<|yi C6<|ym λ_ C7=>yl λ_ C8=>yh O<|yj ((qAQ O O O).no xC) O<|yi C8<|vC ?_
 refine yy C7<|yl λ_ C9=>yj (qAK (places:= [(0,1),(1,1),(2,1),(3,1),(4,1),(5,1)]) (r:= [.slice none 0 0,.slice none 0 0,I (2:Nat),I (2:Nat),I 0,I 0]) O O O qEc zeroValue42 (λ_=>xH) O) O<|yp (qAi O O O) O λg47 _=>yh O<|yi C9<|vl (X:=Nat×SvR×Hp×Hp×Hp×yS×Nat×List MlD×yS×Nat×List MlD×List (List Nt)×List Nt×Nat×Nat×Nat) (λζ=> [(7,Ptr ζ.2.1.gs),(11,Ptr g47)]) (λζ=> [ζ.2.2.1,ζ.2.2.2.1,ζ.2.2.2.2.1,blk g47 [.slice ζ.2.2.2.2.2.1 (ζ.2.2.2.2.2.2.2.1.length) ζ.2.2.2.2.2.2.1,.slice ζ.2.2.2.2.2.2.2.2.1 (ζ.2.2.2.2.2.2.2.2.2.2.1.length) ζ.2.2.2.2.2.2.2.2.2.1,I (ζ.2.2.2.2.2.2.2.2.2.2.2.2.2.1:Nat),I (ζ.2.2.2.2.2.2.2.2.2.2.2.2.2.2.1:Nat),I (ζ.2.2.2.2.2.2.2.2.2.2.2.2.2.2.2:Nat),I (ζ.2.2.2.2.2.2.2.2.2.2.2.1.length:Nat)] 42,F,m41,blk g36 [Str ((qAL 0).nm),Str ((qAL 0).op),Str ((qAL 0).rt),I ((qAL 0).ht),Str ((qAL 1).nm),Str ((qAL 1).op),Str ((qAL 1).rt),I ((qAL 1).ht)] 34]) (λζ=>ζ.1<=14/\LwI dp g26 ζ.1 ζ.2.2.1 ζ.2.2.2.1 ζ.2.2.2.2.1 ζ.2.1 ζ.2.2.2.2.2.1 ζ.2.2.2.2.2.2.1 ζ.2.2.2.2.2.2.2.1 ζ.2.2.2.2.2.2.2.2.1 ζ.2.2.2.2.2.2.2.2.2.1 ζ.2.2.2.2.2.2.2.2.2.2.1 ζ.2.2.2.2.2.2.2.2.2.2.2.1 ζ.2.2.2.2.2.2.2.2.2.2.2.2.1/\ζ.2.2.2.2.2.2.2.2.2.2.2.2.2.1=((J0 ζ.2.2.2.2.2.2.2.2.2.2.2.1).run ζ.2.2.2.2.2.2.2.2.2.2.2.2.1).n/\ζ.2.2.2.2.2.2.2.2.2.2.2.2.2.2.1=(J0 ζ.2.2.2.2.2.2.2.2.2.2.2.1).n/\ζ.2.2.2.2.2.2.2.2.2.2.2.2.2.2.2=ζ.2.2.2.2.2.2.2.2.2.2.2.2.1.length) (λ_ C10=>?_) ?_
 .
  refine yl λ_ C11=>yh O<|yi C11<|yz<|vN (X:=Nat×SvR×Hp×Hp×Hp×yS×Nat×List MlD×yS×Nat×List MlD×List (List Nt)×List Nt×Nat×Nat×Nat) (λζ=> [(0,B8 (de)),(1,.slice A0 n0 c0),(5,Ptr g26),(7,Ptr ζ.2.1.gs),(9,Ptr g41),(11,Ptr g47),(12,I (ζ.1:Nat))]) (λζ=> [ζ.2.2.1,ζ.2.2.2.1,ζ.2.2.2.2.1,blk g47 [.slice ζ.2.2.2.2.2.1 (ζ.2.2.2.2.2.2.2.1.length) ζ.2.2.2.2.2.2.1,.slice ζ.2.2.2.2.2.2.2.2.1 (ζ.2.2.2.2.2.2.2.2.2.2.1.length) ζ.2.2.2.2.2.2.2.2.2.1,I (ζ.2.2.2.2.2.2.2.2.2.2.2.2.2.1:Nat),I (ζ.2.2.2.2.2.2.2.2.2.2.2.2.2.2.1:Nat),I (ζ.2.2.2.2.2.2.2.2.2.2.2.2.2.2.2:Nat),I (ζ.2.2.2.2.2.2.2.2.2.2.2.1.length:Nat)] 42,F,m41,blk g36 [Str ((qAL 0).nm),Str ((qAL 0).op),Str ((qAL 0).rt),I ((qAL 0).ht),Str ((qAL 1).nm),Str ((qAL 1).op),Str ((qAL 1).rt),I ((qAL 1).ht)] 34]) (λζ=>ζ.1<=14/\LwI dp g26 ζ.1 ζ.2.2.1 ζ.2.2.2.1 ζ.2.2.2.2.1 ζ.2.1 ζ.2.2.2.2.2.1 ζ.2.2.2.2.2.2.1 ζ.2.2.2.2.2.2.2.1 ζ.2.2.2.2.2.2.2.2.1 ζ.2.2.2.2.2.2.2.2.2.1 ζ.2.2.2.2.2.2.2.2.2.2.1 ζ.2.2.2.2.2.2.2.2.2.2.2.1 ζ.2.2.2.2.2.2.2.2.2.2.2.2.1/\ζ.2.2.2.2.2.2.2.2.2.2.2.2.2.1=((J0 ζ.2.2.2.2.2.2.2.2.2.2.2.1).run ζ.2.2.2.2.2.2.2.2.2.2.2.2.1).n/\ζ.2.2.2.2.2.2.2.2.2.2.2.2.2.2.1=(J0 ζ.2.2.2.2.2.2.2.2.2.2.2.1).n/\ζ.2.2.2.2.2.2.2.2.2.2.2.2.2.2.2=ζ.2.2.2.2.2.2.2.2.2.2.2.2.1.length) (λζ=>14-ζ.1) (0,r37.x,r37.m,r37.G,(λ_=>none),none,0,[],none,0,[],[],[],2,2,0) (⟨jH _,LwI.init hp37,O,O,O⟩) (Sub.of O) (λ_ h=>h.empty.pick [1,3,6,5,0,4,2] xC) ?_
  rintro⟨i,x,ms,G,M,A1,c1,l1,A2,c2,l2,JJ,W,has,hn,w⟩ ⟨hi,hI,hhas,hhn,hw⟩ I0 hI0
  dsimp only at hi hI hhas hhn hw⊢
  refine ym λ_ C12=>yl λ_ C13=>yn 2 O<|yj (qAN underlying22 O O) O<|yj (qAP O O O) O<|yh O<|vO (d:=52) O (λh52=>?_) (λh52=>?_)
  .
   refine yh O<|yv (qAP O O O) O<|yh O<|yi C13<|y1 O (λh55=>?_) (λh55=>?_)
   .
    refine yy C12<|ym λ_ C14=>yz<|ym λ_ C15=>?_
    have hi14:i<14:=xB
    have hil:i<la.length:=xB
    have hdl:=hI.hdl
    have hnss:=hI.ns
    have hbd:=hI.bd
    refine yt<|yn 2 O<|yj (qAC O O O underlying22 sizeOf44 sl0 xB) O<|yj (qAb O O isAgg44 sizeOf44 (m:=F) xD (sl0.elem (qM6 xB)) O) O<|yp (qAO O zeroValue44 O) O λg13 _=>vG (qAF (i:=7) (l:= [I 0,.int .u8 0,.int .u8 0,.int .u8 0]) (vs:= [I ((la.getD i qAt).wh),B8 ((la.getD i qAt).lb),B8 ((la.getD i qAt).wr),B8 ((la.getD i qAt).nn)]) O O O O O sizeOf44 O O) O O λ_ _=>yi C15<|ym λ_ C16=>?_
    have htb:=qTj (la.getD i qAt).wh
    obtain ⟨kd,hkd⟩: ∃kd:Nat,((kd:Nat):Int)=(la.getD i qAt).wh%5:=⟨((la.getD i qAt).wh%5).toNat,xB⟩
    refine yt<|vA 0 qTg z3_ O O O O O<|vF 7 b3_ O O O O O<|yj (qRW O O O xC) O<|yj (qAM O O O xB) O<|yj ((qDM O O O xB).as (v':=I (kd:Nat)) (yY I ((qQL (la.getD i qAt).wh).trans hkd.symm))) O<|yi C16<|yz<|yl λ_ C17=>yj (qAR O O O) O<|yh O<|yi C17<|y1 O (λh73=>?_) (λh73=>?_)
    .
     refine ym λ_ C18=>?_
     have hq9:((la.getD i qAt).wr&&&1).toNat<=1:=by rw [and1];omega
     refine vQ [blk g47 [.slice A1 (l1.length) c1,.slice A2 (l2.length) c2,I (has:Nat),I (hn:Nat),I (w:Nat),I (JJ.length:Nat)] 42,blk g13 [I ((la.getD i qAt).wh),B8 ((la.getD i qAt).lb),B8 ((la.getD i qAt).wr),B8 ((la.getD i qAt).nn)] 44] [] (.y 0 (.y 1 (.y 2 (.y 3 (.y 4 (.y 5 (.y 6 (.y 7 (.y 8 (.y 9 (.e 10 (.e 11 (.y 12 (.y 13 (.y 14 (.y 15 (.y 16 .nil))))))))))))))))) ye xF xD ?_
     refine yx ?_
     refine yx ?_
     refine yo O (qAB O O) O O<|yo O (qAA O O qEc O z3_ O) O O<|yo O (qAD 0 O O O b3_ O) O O<|yo O (qAA O O qTg O z5_ O) O O<|yo O (qAD 1 O O O b5_ O) O O<|yo O (qE6 (b:=1) O O O) O O<|yo O (qBG O O u5_ u3_) O O<|yo O (((qAm O O O xB).as (v':=I (has-((la.getD i qAt).wr&&&1).toNat:Nat)) (yY I xB))) O O<|vD O (qAZ O O (λF' hF=>qD3 F' (has-((la.getD i qAt).wr&&&1).toNat) xB)) O xD λg86 _=>vD O (qAJ O O ent (vR 0 O (λF' hF=>qXt F' ms G (hK.mo hF) (hA.mono (Fa hF)) (hT.mono (Fa hF)) (Fa hF) x hI.sv (n:=has) (q:=((la.getD i qAt).wr&&&1).toNat) (by rw [hI.si.an,<-hhas]) xB xB hq9 (by rw [hI.noL];have:=hI.bd;omega)))) O xD ?_
     rintro y87 hS87
     refine yx ?_
     refine vm (I ((if((la.getD i qAt).wr&&&1).toNat=1 then 0 else has):Nat)) ?_
     refine vm (I ((if((la.getD i qAt).wr&&&1).toNat=1 then 19 else 0):Nat)) ?_
     refine vU ?_
     refine vU ?_
     refine vW [1,8,0,2,3,4,5,6,7] [G,y87.N,y87.m,M,blk g47 [.slice A1 (l1.length) c1,.slice A2 (l2.length) c2,I (has:Nat),I (hn:Nat),I (w:Nat),I (JJ.length:Nat)] 42,F,m41,blk g36 [Str ((qAL 0).nm),Str ((qAL 0).op),Str ((qAL 0).rt),I ((qAL 0).ht),Str ((qAL 1).nm),Str ((qAL 1).op),Str ((qAL 1).rt),I ((qAL 1).ht)] 34,blk g13 [I ((la.getD i qAt).wh),B8 ((la.getD i qAt).lb),B8 ((la.getD i qAt).wr),B8 ((la.getD i qAt).nn)] 44] O xC<|vk (λhj=>?_)
     refine vM<|yq (yu C18 ?_)
     refine ym λ_ C19=>ym λ_ C20=>?_
     obtain ⟨hS88,hx1,hx0⟩:=hS87 _ (qEC hj) (qIE hj)
     refine yt<|vA 2 qTg z5_ O O O O O<|vF 7 b5_ O O O O O<|yj (qE6 (b:=1) O O O) O<|yj (qAR O O O) O<|yi C20<|y1 O (λh93=>?_) (λh93=>?_)
     .
      have hq1:((la.getD i qAt).wr&&&1).toNat=1:=by rw [u8i (z:=1) h93];rfl
      have hI1:=hI.reg1 hS88 (hx1 hq1)
      refine ym λ_ C21=>yl λ_ C22=>yh O<|yj ((qAQ O O O).no (by rw [yX hq1];exact λh=>h O)) O<|yn 2 O<|yv ((qAQ O O O).no (by rw [yX hq1];exact λh=>h O)) O<|yh O<|yi C22<|vC ?_
      refine yy C21<|vK<|y6<|vL ?_
      refine vB<|yq (yu C14 ?_)
      exact yt<|yh O<|yj ((qAM O O O xB).nat (i+1) xB) O<|yh O<|y8<|yq<|vE (i+1,x,y87.m,U [G,y87.N],M,A1,c1,l1,A2,c2,l2,JJ,W,has,hn,w) hI0 ⟨by dsimp only;omega,hI1,hhas,hhn,hw⟩ ⟨O,O,O,(by first|rfl|exact yY (λq=>some (Ptr q)) hgs.symm),O,O,O,yd⟩ (λ_ h=>h.pick [1,0,2,3,4,5,6] xC)
     have hq0:((la.getD i qAt).wr&&&1).toNat=0:=by rcases qZv (la.getD i qAt).wr with ⟨hq,_⟩|⟨_,hq⟩;exact absurd (by rw [hq];rfl) h93;exact hq
     obtain ⟨r88,hr88⟩:=hx0 hq0
     rw [hr88] at hS88
     have hI2:=hI.reg hi14 hhas hS88
     refine yy C19<|ym λ_ C23=>yl λ_ C24=>yh O<|yj ((qAQ O O O).no (by rw [yW xB];exact λh=>h O)) O<|yn 3 O<|yv (qAB O O) O<|yv (qAA O O qEc O z3_ O) O<|yv (qAD 3 O O O b3_ O) O<|yv ((qAQ O O O).no (by rw [yW xB];exact λh=>h O)) O<|yh O<|yi C24<|vC ?_
     refine yy C23<|yl λ_ C25=>yh O<|yj (qAB O O) O<|vA 2 qEc z3_ O O O O O<|vF 3 b3_ O O O O O<|yj ((qAM O O O xB).nat (has+1) xB) O<|yj (qAB O O) O<|vA 2 qEc z3_ O O O O O<|vG (qAU (i:=3) O O O O O z3_ O xD) O O λ_ _=>yi C25<|yt<|yh O<|yj (qAB O O) O<|vA 4 qEc z3_ O O O O O<|vF 3 b3_ O O O O O<|yj ((qAM O O O xB).nat (w+1) xB) O<|yj (qAB O O) O<|vA 4 qEc z3_ O O O O O<|vG (qAU (i:=3) (l:= [.slice A1 (l1.length) c1,.slice A2 (l2.length) c2,I (has+1:Nat),I (hn:Nat),I (w:Nat),I (JJ.length:Nat)]) (vs:= [I (w+1:Nat)]) O O O O O z3_ O xD) O O λ_ _=>y8<|vB<|vB<|yq (yu C14 ?_)
     exact yt<|yh O<|yj ((qAM O O O xB).nat (i+1) xB) O<|yh O<|y8<|yq<|vE (i+1,(x.reg (qAL has) r88),y87.m,U [G,y87.N],M,A1,c1,l1,A2,c2,l2,JJ,(W++ [.a has]),has+1,hn,w+1) hI0 ⟨by dsimp only;omega,hI2.1,by dsimp only;rw [hI2.2],hhn,by dsimp only;rw [jA,hw];rfl⟩ ⟨O,O,O,(by first|rfl|exact yY (λq=>some (Ptr q)) hgs.symm),O,O,O,yd⟩ (λ_ h=>h.pick [1,0,2,3,4,5,6] xC)
    refine yl λ_ C26=>yj (qAR O O O) O<|yh O<|yi C26<|y1 O (λh124=>?_) (λh124=>?_)
    .
     refine yl λ_ C27=>yh O<|yp (qBx O O (λF' hF=>qNX F' x (hI.sv.cells.mono (Fa hF)) (hI.sv.hsl.mono (Fa hF)) xB)) O ?_
     rintro⟨A127,c127,m127⟩ h127
     try dsimp only at h127
     refine yh O<|yi C27<|yl λ_ C28=>yh O<|yp (qAJ O O ent (vR 0 O (λF' hF=>qQ7 F' ms G (hK.mo hF) (Fa hF) x hI.sv (hI.room hi14).1 (hI.room hi14).2))) O ?_
     rintro⟨mp130,y130⟩ hp130
     try dsimp only at hp130
     refine yn 4 O<|yp (qAO O qYw O) O λg17 _=>vG (qAF (i:=11) (l:= [.int .u64 0,Str [],I 0,I 0,.slice none 0 0]) (vs:= [N64 (x.hd.length),Str ((qCp x.hdL).dig),I (x.dp:Nat),I (x.audN.length:Nat),.slice y130.1.nA ((qAl (kvT x.kvL x.cl x.dp (2^x.dp)) x.dp).length) y130.1.nc]) O O O O O qGV O O) O O λ_ _=>yn 2 O<|yi C28<|ym λ_ C29=>ym λ_ C30=>?_
     obtain ⟨hgz,hgw,hnx⟩:=hI.next hi14 xB y130.1.nA y130.1.nc
     have hed:=hI.si.ed
     have htl:=hp130.len
     have hns2:Sl y130.1.G 1 y130.1.nA (qAl (kvT x.kvL x.cl x.dp (2^x.dp)) x.dp).length y130.1.nc (qAG (qAl (kvT x.kvL x.cl x.dp (2^x.dp)) x.dp)):=by have h:=hp130.ns;rw [SvR.pub_hdL] at h;exact h
     have hp4:=(qTO (d:=dp) xB).2
     have hp5:2^x.dp<=16:=by rw [hed];exact hp4
     refine vQ [mp130,G,M,blk g47 [.slice A1 (l1.length) c1,.slice A2 (l2.length) c2,I (has:Nat),I (hn:Nat),I (w:Nat),I (JJ.length:Nat)] 42,F,m41,blk g36 [Str ((qAL 0).nm),Str ((qAL 0).op),Str ((qAL 0).rt),I ((qAL 0).ht),Str ((qAL 1).nm),Str ((qAL 1).op),Str ((qAL 1).rt),I ((qAL 1).ht)] 34,blk g13 [I ((la.getD i qAt).wh),B8 ((la.getD i qAt).lb),B8 ((la.getD i qAt).wr),B8 ((la.getD i qAt).nn)] 44,m127,y130.1.G,y130.1.mo,blk g17 [N64 (x.hd.length),Str ((qCp x.hdL).dig),I (x.dp:Nat),I (x.audN.length:Nat),.slice y130.1.nA ((qAl (kvT x.kvL x.cl x.dp (2^x.dp)) x.dp).length) y130.1.nc] 52] [] (.y 0 (.y 1 (.y 2 (.y 3 (.y 4 (.y 5 (.y 6 (.y 7 (.y 8 (.y 9 (.e 10 (.y 11 (.y 12 (.y 13 (.y 14 (.y 15 (.y 16 (.y 17 (.y 18 (.y 19 (.y 20 (.y 21 .nil)))))))))))))))))))))) ye xF xD ?_
     refine yx ?_
     refine yo O ((qAQ O O O).no xC) O O<|yx ?_
     refine y9 O (qAT O O) O O<|y9 O (qAT O O) O O<|y9 O (qAN qKR O O) O O<|y9 O (((qAm O O O xB).nat (JJ.length) xB)) O O<|y9 O (qAC O O O qKR qGV h127.sl xB) O O<|y9 O (qAb O O qM2 qGV (m:=m127) xD (h127.sl.elem (qGq xB)) O) O O<|y9 O (qAx 11 O O O qM2 qGV O) O O<|vn O (qAZ O O (λF' hF=>by have:=qVU F' (hK.mo hF) (qCp (x.hd.getD JJ.length qBE)) (x.hd.getD JJ.length qBE).nsA (x.hd.getD JJ.length qBE).nsc hgz ((hI.sv.p.hn JJ.length xB).mono (Fa hF)) (qCp (adH (qCp x.hdL).dig x.dp x.audN.length x.hd (kvT x.kvL x.cl x.dp (2^x.dp)) y130.1.nA y130.1.nc)) y130.1.nA y130.1.nc hgw (hns2.mono (Fa hF));rw [hnx] at this;exact this)) (Wan.is O O O O O) O O xD ?_
     intro g144 _
     refine y9 O ((qAQ O O O).no (λh=>h O)) O O<|vd ?_
     refine yx ?_
     refine y9 O (qAT O O) O O<|y9 O (qAN qTf O O) O O<|y9 O (qAT O O) O O<|y9 O (qBG O O u5_ u3_) O O<|y9 O (((qDM O O O xB).nat (dp) xB)) O O<|y9 O ((qHb (a:=1) (m:=dp) O O O ⟨xB,xB⟩).as (v':=I (2^dp:Nat)) (by rw [Nat.one_mul])) O O<|y9 O ((qAQ O O O).no (by rw [htl,hed];exact λh=>h O)) O O<|vd ?_
     refine vM<|yq (yu C30 ?_)
     refine vC ?_
     refine yy C29<|ym λ_ C31=>yl λ_ C32=>yh O<|yi C32<|yz<|vN (X:=Nat) (λζ=> [(0,B8 (de)),(1,.slice A0 n0 c0),(5,Ptr g26),(7,Ptr x.gs),(9,Ptr g41),(11,Ptr g47),(12,I (i:Nat)),(16,.slice A127 (x.hd.length) c127),(17,Ptr g17),(18,.slice y130.1.At y130.1.tl.length y130.1.ct),(20,I (ζ:Nat))]) (λζ=> [mp130,G,M,blk g47 [.slice A1 (l1.length) c1,.slice A2 (l2.length) c2,I (has:Nat),I (hn:Nat),I (w:Nat),I (JJ.length:Nat)] 42,F,m41,blk g36 [Str ((qAL 0).nm),Str ((qAL 0).op),Str ((qAL 0).rt),I ((qAL 0).ht),Str ((qAL 1).nm),Str ((qAL 1).op),Str ((qAL 1).rt),I ((qAL 1).ht)] 34,blk g13 [I ((la.getD i qAt).wh),B8 ((la.getD i qAt).lb),B8 ((la.getD i qAt).wr),B8 ((la.getD i qAt).nn)] 44,m127,y130.1.G,y130.1.mo,blk g17 [N64 (x.hd.length),Str ((qCp x.hdL).dig),I (x.dp:Nat),I (x.audN.length:Nat),.slice y130.1.nA ((qAl (kvT x.kvL x.cl x.dp (2^x.dp)) x.dp).length) y130.1.nc] 52]) (λζ=>ζ<=y130.1.tl.length) (λζ=>y130.1.tl.length-ζ) 0 (jH _) (Sub.of O) (λ_ h=>h) ?_
     rintro b hbl I3 hI3
     refine ym λ_ C33=>yl λ_ C34=>yn 2 O<|yj (qAN qTf O O) O<|yj (qAP O O O) O<|yi C34<|y1 O (λh159=>?_) (λh159=>?_)
     .
      refine yy C33<|ym λ_ C35=>yz<|ym λ_ C36=>?_
      have hok:=hp130.ok b xB
      have hkl:=hI.sv.i.kl
      have ht1:=hI.sv.i.t1
      have hnn:=qTh hok hI.sv.i.kf hI.sv.i.cl xB hI.sv.i.dp xB
      have hyn:(x.hd.getD JJ.length qBE).ns=qAl x.kvL x.dp:=by
       obtain ⟨e1,par,_,_,_,_,_,e5⟩:=hdJ hI.si
       rw [e1,e5,hed]
      have hno:(y130.1.tl.getD b qRq).old=(x.hd.getD JJ.length qBE).ns.getD b []/\(y130.1.tl.getD b qRq).nw=(qAl (kvT x.kvL x.cl x.dp (2^x.dp)) x.dp).getD b []:=by rw [hyn];exact hnn
      have hyl:(x.hd.getD JJ.length qBE).ns.length=2^x.dp:=by rw [hyn];exact qBk _ _ _
      have hwl:(qAl (kvT x.kvL x.cl x.dp (2^x.dp)) x.dp).length=2^x.dp:=qBk _ _ _
      refine vQ [mp130,G,M,blk g47 [.slice A1 (l1.length) c1,.slice A2 (l2.length) c2,I (has:Nat),I (hn:Nat),I (w:Nat),I (JJ.length:Nat)] 42,F,m41,blk g36 [Str ((qAL 0).nm),Str ((qAL 0).op),Str ((qAL 0).rt),I ((qAL 0).ht),Str ((qAL 1).nm),Str ((qAL 1).op),Str ((qAL 1).rt),I ((qAL 1).ht)] 34,blk g13 [I ((la.getD i qAt).wh),B8 ((la.getD i qAt).lb),B8 ((la.getD i qAt).wr),B8 ((la.getD i qAt).nn)] 44,m127,y130.1.G,y130.1.mo,blk g17 [N64 (x.hd.length),Str ((qCp x.hdL).dig),I (x.dp:Nat),I (x.audN.length:Nat),.slice y130.1.nA ((qAl (kvT x.kvL x.cl x.dp (2^x.dp)) x.dp).length) y130.1.nc] 52] [] (.y 0 (.y 1 (.y 2 (.y 3 (.e 4 (.y 5 (.y 6 (.y 7 (.y 8 (.y 9 (.y 10 (.y 11 (.y 12 (.y 13 (.y 14 (.y 15 (.y 16 (.y 17 (.y 18 (.y 19 (.y 20 (.y 21 (.y 22 (.y 23 (.y 24 (.y 25 (.y 26 (.y 27 (.y 28 (.y 29 (.y 30 (.y 31 (.y 32 (.y 33 (.y 34 (.y 35 (.y 36 .nil))))))))))))))))))))))))))))))))))))) ye xF xD ?_
      refine yx ?_
      refine yx ?_
      refine yo O (qAC O O O qTf qTL hp130.ro.sl xB) O O<|yo O (qAb O O isAgg59 qTL (m:=y130.1.mo) xD (hp130.ro.sl.elem (qHN xB)) O) O O<|vD O (qAZ O O (λF' hF=>qQI F' (hK.mo hF) (hok.mono (Fa hF)) hI.sv.i.kf hI.sv.i.cl xB hI.sv.i.dp xB)) O xD λg166 _=>yo O ((qAQ O O O).no (λh=>h O)) O O<|yx ?_
      refine y9 O (qAT O O) O O<|y9 O (qAT O O) O O<|y9 O (qAC O O O qTf qTL hp130.ro.sl xB) O O<|y9 O (qBM O O qMH O z9_ hp130.ro.sl xB O) O O<|y9 O (qAH O O b9_ (m:=y130.1.mo) xD (hp130.ro.sl.part (qHN xB) 2 1)) O O<|y9 O (qAT O O) O O<|y9 O (qAT O O) O O<|y9 O (qAN qKR O O) O O<|y9 O (((qAm O O O xB).nat (JJ.length) xB)) O O<|y9 O (qAC O O O qKR qGV h127.sl xB) O O<|y9 O (qBM O O qFk O qBs h127.sl xB O) O O<|y9 O (qAH O O qB7 (m:=m127) xD (h127.sl.part (qGq xB) 4 1)) O O<|y9 O (qAT O O) O O<|y9 O (qAC O O O qAg z9_ (hI.sv.p.hn JJ.length xB) xB) O O<|y9 O (qAH O O b9_ (m:=G) xD ((hI.sv.p.hn JJ.length xB).elem (qAa (qAc [] xB)))) O O<|y9 O ((qB9 O O O).no (λh=>h hno.1)) O O<|vd ?_
      refine yx ?_
      refine y9 O (qAT O O) O O<|y9 O (qAT O O) O O<|y9 O (qAC O O O qTf qTL hp130.ro.sl xB) O O<|y9 O (qBM O O qMH O z9_ hp130.ro.sl xB O) O O<|y9 O (qAH O O b9_ (m:=y130.1.mo) xD (hp130.ro.sl.part (qHN xB) 3 1)) O O<|y9 O (qAA O O qFk O qBs O) O O<|y9 O (qAD 11 O O O qB7 O) O O<|y9 O (qAT O O) O O<|y9 O (qAC O O O qAg z9_ hns2 xB) O O<|y9 O (qAH O O b9_ (m:=y130.1.G) xD (hns2.elem (qAa (qAc [] xB)))) O O<|y9 O ((qB9 O O O).no (λh=>h hno.2)) O O<|vd ?_
      refine vM<|yq (yu C36 ?_)
      refine vC ?_
      refine vP<|vB<|yq (yu C35 ?_)
      exact yt<|yh O<|yj ((qAM O O O xB).nat (b+1) xB) O<|yh O<|y8<|yq<|vE (b+1) hI3 xB (Sub.of O) (λ_ h=>h)
     refine vK<|y6<|y6<|vL ?_
     refine yq (yu C31 ?_)
     refine ym λ_ C37=>vQ [mp130,G,M,blk g47 [.slice A1 (l1.length) c1,.slice A2 (l2.length) c2,I (has:Nat),I (hn:Nat),I (w:Nat),I (JJ.length:Nat)] 42,F,m41,blk g36 [Str ((qAL 0).nm),Str ((qAL 0).op),Str ((qAL 0).rt),I ((qAL 0).ht),Str ((qAL 1).nm),Str ((qAL 1).op),Str ((qAL 1).rt),I ((qAL 1).ht)] 34,blk g13 [I ((la.getD i qAt).wh),B8 ((la.getD i qAt).lb),B8 ((la.getD i qAt).wr),B8 ((la.getD i qAt).nn)] 44,m127,y130.1.G,y130.1.mo,blk g17 [N64 (x.hd.length),Str ((qCp x.hdL).dig),I (x.dp:Nat),I (x.audN.length:Nat),.slice y130.1.nA ((qAl (kvT x.kvL x.cl x.dp (2^x.dp)) x.dp).length) y130.1.nc] 52] [13,14,15,16,17,18,19,100001,100002] (.y 0 (.y 1 (.y 2 (.y 3 (.y 4 (.y 5 (.y 6 (.y 7 (.y 8 (.y 9 (.y 10 (.y 11 (.y 12 (.e 13 (.e 14 (.e 15 (.e 16 (.e 17 (.e 18 (.e 19 .nil)))))))))))))))))))) ye xF xD ?_
     refine yx ?_
     refine vq O (qAT O O) O O O ?_
     refine vq O (qAT O O) O O O ?_
     refine yx ?_
     refine yo O (qAB O O) O O<|yo O (qAA O O qEc O qND O) O O<|yo O (qAD 3 O O O isAgg40 O) O O<|yx ?_
     refine yo O (qAB O O) O O<|yo O (qAA O O qEc O z3_ O) O O<|yo O (qAD 3 O O O b3_ O) O O<|yo O (qAB O O) O O<|yo O (qAA O O qEc O qND O) O O<|vZ O (qAU (i:=3) O O O O O qND O xD) O O O λ_ _=>vp O (YOp.eop (qAB O O)) O O O O ?_
     intro _ _
     refine vp O (YOp.eop (qAA O O qEc O z3_ O)) O O O O ?_
     intro _ _
     refine vZ O (qAU (i:=3) (l:= [.slice A2 (l2.length) c2,.slice A2 (l2.length) c2,I (has:Nat),I (hn:Nat),I (w:Nat),I (JJ.length:Nat)]) (vs:= [I (has:Nat)]) O O O O O z3_ O xD) O O O λ_ _=>vp O (YOp.eop (qAB O O)) O O O O ?_
     intro _ _
     refine vp O (YOp.eop (qAA O O qEc O z3_ O)) O O O O ?_
     intro _ _
     refine vZ O (qAU (i:=3) (l:= [.slice A2 (l2.length) c2,.slice A2 (l2.length) c2,I (has:Nat),I (has:Nat),I (w:Nat),I (JJ.length:Nat)]) (vs:= [I (0:Nat)]) O O O O O z3_ O xD) O O O λ_ _=>vM<|yq (yu C37 ?_)
     refine yt<|yh O<|yj (qAB O O) O<|vA 5 qEc z3_ O O O O O<|vF 3 b3_ O O O O O<|yj (((qAM O O O xB).as (v':=I ((JJ++ [W]).length:Nat)) (yY I (by rw [jA,jI];omega)))) O<|yj (qAB O O) O<|vA 5 qEc z3_ O O O O O<|vG (qAU (i:=3) (l:= [.slice A2 (l2.length) c2,.slice A2 (l2.length) c2,I (has:Nat),I (has:Nat),I (0:Nat),I (JJ.length:Nat)]) (vs:= [I ((JJ++ [W]).length:Nat)]) O O O O O z3_ O xD) O O λ_ _=>vW [1,9,0,2,3,4,5,6] [G,y130.1.G,mp130,M,blk g47 [.slice A2 (l2.length) c2,.slice A2 (l2.length) c2,I (has:Nat),I (has:Nat),I (0:Nat),I ((JJ++ [W]).length:Nat)] 42,F,m41,blk g36 [Str ((qAL 0).nm),Str ((qAL 0).op),Str ((qAL 0).rt),I ((qAL 0).ht),Str ((qAL 1).nm),Str ((qAL 1).op),Str ((qAL 1).rt),I ((qAL 1).ht)] 34] O xC<|vk (λhj=>?_)
     refine y8<|vB<|vB<|yq (yu C14 ?_)
     exact yt<|yh O<|yj ((qAM O O O xB).nat (i+1) xB) O<|yh O<|y8<|yq<|vE (i+1,(x.pub y130),mp130,U [G,y130.1.G],M,A2,c2,l2,A2,c2,l2,(JJ++ [W]),[],has,has,0) hI0 ⟨by dsimp only;omega,hI.pub hi14 xB hp130 (qEC hj) (qIE hj),by dsimp only;rw [hhas];exact yY JS.n (JS.runs_snoc _ _ _).symm,by dsimp only;rw [hhas];exact yY JS.n (JS.runs_snoc _ _ _).symm,O⟩ ⟨O,O,O,(by first|rfl|exact yY (λq=>some (Ptr q)) hgs.symm),O,O,O,yd⟩ (λ_ h=>h.pick [1,0,2,3,4,5,6] xC)
    refine yl λ_ C38=>yj (qAR O O O) O<|yh O<|yi C38<|y1 O (λh223=>?_) (λh223=>?_)
    .
     refine yl λ_ C39=>yn 2 O<|yj (qBG O O u5_ u3_) O<|yj (((qDM O O O xB).nat (dp) xB)) O<|yp (qAZ O O (λF' hF=>qD3 F' 0 xN)) O λg230 _=>yp (qAZ O O (λF' hF=>qD3 F' 1 xN)) O λg231 _=>yp (qAE (l:= [.tmp 230,.tmp 231]) (xs:= [[Str ((qAL 0).nm),Str ((qAL 0).op),Str ((qAL 0).rt),I ((qAL 0).ht)],[Str ((qAL 1).nm),Str ((qAL 1).op),Str ((qAL 1).rt),I ((qAL 1).ht)]]) O O O O qDl el34 O xC xC xD) O λg232 _=>yp (qAJ O O ent (vR 0 O (λF' hF=>qV4 F' ms G (hK.mo hF) (hA.mono (Fa hF)) (hT.mono (Fa hF)) (Fa hF) x hI.sv hI.bc (first:=3) (count:=690) xC xC O hI.bz hI.bf hI.bg dp xB 2 xC _ _ ((qAj (q:=True) (xs:=qBn [qAL 0,qAL 1]) O (by intro x hx;simp only [qBn,List.map,j5,jr,or_false] at hx;rcases hx with rfl|rfl<;>rfl)).sl.mono (hF (blk g232 [Str ((qAL 0).nm),Str ((qAL 0).op),Str ((qAL 0).rt),I ((qAL 0).ht),Str ((qAL 1).nm),Str ((qAL 1).op),Str ((qAL 1).rt),I ((qAL 1).ht)] 34) xD)) JJ hI.bR hI.ok (by have:=hI.bd;omega) (by have:=hI.bd;omega)))) O ?_
     rintro r233 hp233
     refine yn 5 O<|yi C39<|ym λ_ C40=>yl λ_ C41=>yh O<|yj ((qAQ O O O).no xC) O<|yi C41<|vC ?_
     refine yy C40<|yl λ_ C42=>yn 2 O<|yi C42<|vQ [r233.m,G,M,blk g47 [.slice A1 (l1.length) c1,.slice A2 (l2.length) c2,I (has:Nat),I (hn:Nat),I (w:Nat),I (JJ.length:Nat)] 42,F,m41,blk g36 [Str ((qAL 0).nm),Str ((qAL 0).op),Str ((qAL 0).rt),I ((qAL 0).ht),Str ((qAL 1).nm),Str ((qAL 1).op),Str ((qAL 1).rt),I ((qAL 1).ht)] 34,blk g13 [I ((la.getD i qAt).wh),B8 ((la.getD i qAt).lb),B8 ((la.getD i qAt).wr),B8 ((la.getD i qAt).nn)] 44,blk g232 [Str ((qAL 0).nm),Str ((qAL 0).op),Str ((qAL 0).rt),I ((qAL 0).ht),Str ((qAL 1).nm),Str ((qAL 1).op),Str ((qAL 1).rt),I ((qAL 1).ht)] 34,r233.G] [13,14,15,16,17,18,19,100001,100002] (.y 0 (.y 1 (.y 2 (.y 3 (.y 4 (.y 5 (.y 6 (.y 7 (.y 8 (.y 9 (.y 10 (.y 11 (.y 12 (.e 13 (.e 14 (.e 15 (.e 16 (.e 17 (.e 18 (.e 19 .nil)))))))))))))))))))) ye xF xD ?_
     refine yx ?_
     refine vq O (qAT O O) O O O ?_
     refine vq O (qAT O O) O O O ?_
     refine yx ?_
     refine yo O (qAB O O) O O<|yo O (qAA O O qEc O qND O) O O<|yo O (qAD 3 O O O isAgg40 O) O O<|yx ?_
     refine yo O (qAB O O) O O<|yo O (qAA O O qEc O z3_ O) O O<|yo O (qAD 3 O O O b3_ O) O O<|yo O (qAB O O) O O<|yo O (qAA O O qEc O qND O) O O<|vZ O (qAU (i:=3) O O O O O qND O xD) O O O λ_ _=>vp O (YOp.eop (qAB O O)) O O O O ?_
     intro _ _
     refine vp O (YOp.eop (qAA O O qEc O z3_ O)) O O O O ?_
     intro _ _
     refine vZ O (qAU (i:=3) (l:= [.slice A1 (l1.length) c1,.slice A1 (l1.length) c1,I (has:Nat),I (hn:Nat),I (w:Nat),I (JJ.length:Nat)]) (vs:= [I (hn:Nat)]) O O O O O z3_ O xD) O O O λ_ _=>vp O (YOp.eop (qAB O O)) O O O O ?_
     intro _ _
     refine vp O (YOp.eop (qAA O O qEc O z3_ O)) O O O O ?_
     intro _ _
     refine vZ O (qAU (i:=3) (l:= [.slice A1 (l1.length) c1,.slice A1 (l1.length) c1,I (hn:Nat),I (hn:Nat),I (w:Nat),I (JJ.length:Nat)]) (vs:= [I (0:Nat)]) O O O O O z3_ O xD) O O O λ_ _=>vM<|vB<|vB<|yq (yu C14 ?_)
     exact yt<|yh O<|yj ((qAM O O O xB).nat (i+1) xB) O<|yh O<|y8<|yq<|vE (i+1,r233.x,r233.m,r233.G,M,A1,c1,l1,A1,c1,l1,JJ,[],hn,hn,0) hI0 ⟨by dsimp only;omega,hI.anew hp233,hhn,hhn,O⟩ ⟨O,O,O,(by first|rfl|exact yY (λq=>some (Ptr q)) hgs.symm),O,O,O,yd⟩ (λ_ h=>h.pick [0,9,2,3,4,5,6] xC)
    refine ym λ_ C43=>?_
    have hsw:=hI.subW xB
    refine yt<|yn 3 O<|vT 7 isAgg44 sizeOf44 O O O O O<|vW [0,3,2,1,4,5,6,7] [ms,blk g47 [.slice A1 (l1.length) c1,.slice A2 (l2.length) c2,I (has:Nat),I (hn:Nat),I (w:Nat),I (JJ.length:Nat)] 42,M,G,F,m41,blk g36 [Str ((qAL 0).nm),Str ((qAL 0).op),Str ((qAL 0).rt),I ((qAL 0).ht),Str ((qAL 1).nm),Str ((qAL 1).op),Str ((qAL 1).rt),I ((qAL 1).ht)] 34,blk g13 [I ((la.getD i qAt).wh),B8 ((la.getD i qAt).lb),B8 ((la.getD i qAt).wr),B8 ((la.getD i qAt).nn)] 44] O xC<|yp (qAJ O O ent (vi [ms,blk g47 [.slice A1 (l1.length) c1,.slice A2 (l2.length) c2,I (has:Nat),I (hn:Nat),I (w:Nat),I (JJ.length:Nat)] 42,M] [G,F,m41,blk g36 [Str ((qAL 0).nm),Str ((qAL 0).op),Str ((qAL 0).rt),I ((qAL 0).ht),Str ((qAL 1).nm),Str ((qAL 1).op),Str ((qAL 1).rt),I ((qAL 1).ht)] 34,blk g13 [I ((la.getD i qAt).wh),B8 ((la.getD i qAt).lb),B8 ((la.getD i qAt).wr),B8 ((la.getD i qAt).nn)] 44] (A':=λy:PlR=> [y.m,blk g47 [.slice A1 (l1.length) c1,.slice y.A (y.l.length) y.c,I (has:Nat),I (hn:Nat),I (y.w:Nat),I (JJ.length:Nat)] 42,y.M]) (new:=λ_=> []) (λF' hF=>qML F' M ms G (hK.mo hF) (hA.mono (Fa hF)) (hT.mono (Fa hF)) (Fa hF) g41 (h41.mono (Fa hF)) x hI.sv g47 (.slice A1 (l1.length) c1) A2 c2 l2 hI.s2 hsw.hn hI.m2 hsw.hun hsw.hlb hsw.hb hsw.hbg hsw.how has hn w JJ.length (by have:=hI.bd;omega) (la.getD i qAt).wh (la.getD i qAt).lb (la.getD i qAt).wr (la.getD i qAt).nn hsw.hno))) O ?_
    rintro y71 hp71
    obtain ⟨W2,hI2,hn2,hw2,hgs⟩:=hI.sub hi14 (k:=(la.getD i qAt).lb.toNat%4) (Nat.mod_lt _ xC) (okJ (hsw.how _) (hsw.hbg _) (la.getD i qAt).wr) hw hp71
    refine yj ((qA5 O O).as (v':= .bool false) O) O<|yi C43<|vC ?_
    refine vP<|vB<|vB<|yq (yu C14 ?_)
    exact yt<|yh O<|yj ((qAM O O O xB).nat (i+1) xB) O<|yh O<|y8<|yq<|vE (i+1,y71.x,y71.m,G,y71.M,A1,c1,l1,y71.A,y71.c,y71.l,JJ,W2,has,hn,y71.w) hI0 ⟨by dsimp only;omega,hI2,by dsimp only;rw [hn2,hhas],hhn,hw2⟩ ⟨O,O,O,(by first|rfl|exact yY (λq=>some (Ptr q)) hgs.symm),O,O,O,yd⟩ (λ_ h=>h.pick [0,3,2,1,4,5,6] xC)
   refine vK<|y6<|y6<|vL ?_
   exact yq<|vY (i,x,ms,G,M,A1,c1,l1,A2,c2,l2,JJ,W,has,hn,w) C10 (⟨hi,hI,hhas,hhn,hw⟩) (Sub.of O) (λ_ h=>h)
  refine yn 3 O<|yi C13<|vC ?_
  refine vK<|y6<|y6<|vL ?_
  exact yq<|vY (i,x,ms,G,M,A1,c1,l1,A2,c2,l2,JJ,W,has,hn,w) C10 (⟨hi,hI,hhas,hhn,hw⟩) (Sub.of O) (λ_ h=>h)
 rintro⟨i,x,ms,G,M,A1,c1,l1,A2,c2,l2,JJ,W,has,hn,w⟩ ⟨hi,hI,hhas,hhn,hw⟩
 dsimp only at hi hI hhas hhn hw⊢
 refine ym λ_ C44=>?_
 have hag:=hI.agr hi hhn
 exact yt<|yn 2 O<|yp (qAZ O O (λF' hF=>qM4 F' ms G (hK.mo hF) (Fa hF) (Fa hF) x hI.sv g47 (.slice A2 (l2.length) c2) A1 c1 l1 (hI.s1.mono (Fa hF)) (by have:=hI.ll;omega) (hI.m1.mono (Fa hF)) has hn w JJ.length (qAI.blk0.mono (hF (blk g47 [.slice A1 (l1.length) c1,.slice A2 (l2.length) c2,I (has:Nat),I (hn:Nat),I (w:Nat),I (JJ.length:Nat)] 42) xD)) hag.1 xC hag.2.1 (by have:=hI.bd;omega) (by rw [hI.noL,hw]) hag.2.2)) O λg258 _=>yh O<|yi C44<|yr<|yw hw0 O () O yd [4] O xC
end Go.Proofs.YtmemgokiolfdoaaGreatDoor