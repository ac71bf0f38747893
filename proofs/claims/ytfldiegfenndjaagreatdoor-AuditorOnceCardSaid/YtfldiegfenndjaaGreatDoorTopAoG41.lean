/- A part of the proof. -/
import Derived.Test.YtfldiegfenndjaaGreatDoorTopAoG40
import Derived.Test.YtfldiegfenndjaaGreatDoorTopAoG16
import Derived.SizedLaws
set_option linter.unusedSimpArgs false
set_option linter.unusedVariables false
namespace Go.Proofs.YtfldiegfenndjaaGreatDoor
open Go Go.Fw Go.Proofs.Tryz
set_option maxRecDepth 100000
set_option maxHeartbeats 1000000
theorem qOj{H:Type}{enc:TypeId×Value→H}{W:World}{xs:List (List Value)}(h: ∀x∈xs,∃fuel y,DataW.trod enc prog W 0 (λ_=>true) true fuel 92 x=some y): ∃l:List qGg,xs=qE4 l∧ ∀a∈l,True:=
 qJk (f:=qGg.cells) (Q:=λ_=>True) λx hx=>by
  obtain ⟨fuel,y,h1⟩:=h x hx
  obtain ⟨hl,hf⟩:=qM3 qTI h1
  have hc:prog.cellsOf 92=4:=by kernel_rfl
  have cB:prog.cellsOf 5=1:=by kernel_rfl
  rw [hc] at hl
  match x,hl,hf with
  | [v0,v1,v2,v3],_,hf=>
   obtain ⟨_,_,h0⟩:=hf 0 _ rfl
   obtain ⟨_,_,h1⟩:=hf 1 _ rfl
   obtain ⟨_,_,h2⟩:=hf 2 _ rfl
   obtain ⟨_,_,h3⟩:=hf 3 _ rfl
   dsimp only at h0 h1 h2 h3
   rw [cB] at h0
   rw [cB] at h1
   rw [cB] at h2
   rw [cB] at h3
   obtain ⟨w0,rfl⟩:=qMn u5_ h0
   obtain ⟨w1,rfl⟩:=qMn u5_ h1
   obtain ⟨w2,rfl⟩:=qMn u5_ h2
   obtain ⟨w3,rfl⟩:=qMn u5_ h3
   exact⟨⟨w0,w1,w2,w3⟩,rfl,trivial⟩
theorem qQM{H:Type}{enc:TypeId×Value→H}{P:Program}{W:World}{e:TypeId}{xs:List (List Value)}(he:P.underlying e=some (.int .u8))(hc:P.cellsOf e=1)(h: ∀x∈xs,x.length=1∧ ∃fuel y,DataW.trod enc P W 0 (λ_=>true) true fuel e x=some y): ∃l:List UInt8,xs=qAR l:=by
 obtain ⟨l,hl,_⟩:=qJk (f:=λb:UInt8=> [B8 b]) (Q:=λ_=>True) (xs:=xs) λx hx=>by
  obtain ⟨h1,fuel,y,hy⟩:=h x hx
  match x,h1,hy with
  | [v],_,hy=>
   obtain ⟨b,rfl⟩:=qMn he hy
   exact⟨b,rfl,trivial⟩
 exact⟨l,hl⟩
theorem qRh{m:Hp}{sz A n c xs}(h:Sl m sz A n c xs): ∀x∈xs,x.length=sz:=λx hx=>by
 obtain ⟨i,hi⟩:=List.mem_iff_getElem?.1 hx
 exact(h.2.2 i x hi).1
theorem qGm{H:Type}{P:Program}{e:TypeId}: ∀{l:List (DataW H)} {d:DataW H},d∈l→ ∀n∈d.weights P e,n∈DataW.weightsAll P e l
 |x::r,d,hd,n,hn=>by
  simp only [DataW.weightsAll,List.mem_append]
  rcases List.mem_cons.1 hd with rfl|hd
  · exact .inl hn
  · exact .inr (qGm hd n hn)
theorem qTV{H:Type}{enc:TypeId×Value→H}{P:Program}{W:World}{t e:TypeId}{fuel:Nat}{x:Value}{y:DataW H×List MemPlace}{R:Nat}(ht:P.underlying t=some (.slice e))(he:0<P.cellsOf e)(h:DataW.trod enc P W 0 (λ_=>true) true fuel t [x]=some y)(hw: ∀n∈y.1.weights P t,n≤R):
    ∃A n c xs,x= .slice A n c∧Sl (hp W) (P.cellsOf e) A n c xs∧n≤maxLen∧n*P.bytesOf e≤R∧ ∀z∈xs,∃fuel y,DataW.trod enc P W 0 (λ_=>true) true fuel e z=some y∧ ∀n∈y.1.weights P e,n≤R:=by
  rcases DataW.trod_slice ht h with ⟨hx,_⟩|⟨a,len,cap,elems,rest,n,_,hcs,hy,_,hl,hm,hlen,hel,_,_⟩
  · simp only [yB,and_true] at hx
    subst hx
    exact⟨none,0,0,[],rfl,Sl.nil,jF _,by rw [zg];exact jF _,by simp⟩
  · simp only [yB,and_true] at hcs
    subst hcs
    subst hy
    have hw1: ∀d∈elems.map (·.1),∀n∈d.weights P e,n≤R:=λd hd n hn=>hw n (by
      simp only [DataW.weights,ht,zH,List.mem_append]
      exact .inr (.inl (qGm hd n hn)))
    have key: ∀i,i<len→ ∃z y,W.cells? 0 (a.add (i*P.cellsOf e)) (P.cellsOf e)=some z∧DataW.trod enc P W 0 (λ_=>true) true n e z=some y∧ ∀n∈y.1.weights P e,n≤R:=λi hi=>by
      have h1:=hel i hi
      rw [jC (by omega)] at h1
      obtain ⟨z,h2,h3⟩:=Option.bind_eq_some_iff.1 h1
      exact⟨z,_,h2,h3,hw1 _ (List.mem_map_of_mem (jc _))⟩
    refine⟨some a,len,cap,(List.range len).map λi=>(W.cells? 0 (a.add (i*P.cellsOf e)) (P.cellsOf e)).getD [],rfl,⟨by rw [jK,zP],hl,λi z hz=>?_⟩,jd hl hm,?_,λz hz=>?_⟩
    · rw [jN] at hz
      by_cases hi:i<len
      · rw [jv hi] at hz
        obtain ⟨z',_,h2,_⟩:=key i hi
        simp only [zQ,h2,Option.getD_some,Option.some.injEq] at hz
        subst hz
        obtain ⟨h5,h6⟩:=qGJ he h2
        exact⟨h5,a,rfl,h6⟩
      · rw [ji (by rw [zP];omega)] at hz;cases hz
    · have:=hw ((elems.length+rest.length)*P.bytesOf e) (by simp [DataW.weights,ht])
      rw [←hlen]
      exact jd (zF _ (Nat.le_add_right _ _)) this
    · obtain ⟨i,hi,rfl⟩:=List.mem_map.1 hz
      obtain ⟨z',y',h2,h3⟩:=key i (List.mem_range.1 hi)
      rw [h2]
      exact⟨n,y',h3⟩
end Go.Proofs.YtfldiegfenndjaaGreatDoor
