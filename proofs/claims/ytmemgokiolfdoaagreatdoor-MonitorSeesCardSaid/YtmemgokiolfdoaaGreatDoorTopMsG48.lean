/- A part of the proof. -/
import Derived.Test.YtmemgokiolfdoaaGreatDoorTopMsG23
import Derived.Lib.LaidU8T
set_option maxRecDepth 100000
set_option maxHeartbeats 1000000
set_option linter.unusedSimpArgs false
set_option linter.unusedVariables false
namespace Go.Proofs.YtmemgokiolfdoaaGreatDoor
open Go Go.Fw Go.Proofs.Tryz
open Go.Shelf Go.RowKit
theorem qN7{W:World}{g o:Nat}{v:Value}(h:W.cell? ⟨g,o,none⟩=some v): ∃c e fz,W.heap[g]?=some (.cells c e fz):=by
 unfold World.cell? at h
 cases ho:W.heap[g]? with
 |none=>dsimp only at h;rw [ho] at h;cases h
 |some x=>
  dsimp only at h;rw [ho] at h
  cases x with
  |cells c e fz=>exact⟨c,e,fz,O⟩
  |_=>cases h
theorem qSR{W:World}{g o:Nat}{v:Value}{c:Array Value}{e:TypeId}{fz:Nat×Nat}(hb:W.heap[g]?=some (.cells c e fz))(h:W.cell? ⟨g,o,none⟩=some v):c[o]?=some v:=by
 unfold World.cell? at h
 simp only [hb] at h
 simpa using h
theorem qFx{W:World}{g o:Nat}{v:Value}(h:W.cell? ⟨g,o,none⟩=some v):qAG (hp W) ⟨g,o,none⟩ [v]:=by
 obtain ⟨c,e,fz,hb⟩:=qN7 h
 refine⟨O,c,e,fz,hb,λj u hj=>?_⟩
 cases j with
 |zero=>rw [List.getElem?_cons_zero] at hj;cases hj;exact qSR hb h
 |succ j=>cases hj
theorem qVd{W:World}{g:Nat}{vs:List Value}(h0:0<vs.length)(h: ∀(j:Nat) u,vs[j]?=some u→W.cell? ⟨g,j,none⟩=some u):qAG (hp W) ⟨g,0,none⟩ vs:=by
 obtain ⟨c,e,fz,hb⟩:=qN7 (h 0 _ (jC h0))
 refine⟨O,c,e,fz,hb,λj u hj=>?_⟩
 show c[0+j]?=some u
 rw [jj];exact qSR hb (h j u hj)
theorem qVa{W:World}(h:Lib.Utf8Tabs 1 2 W):qBv (hp W):=
 ⟨λc hc=>qFx (h.1 c hc),λi hi=>⟨qFx (h.2 i hi).1,qFx (h.2 i hi).2⟩⟩
theorem qHP{H:Type}{enc:TypeId×Value→H}{P:Program}{w:World}{base:Nat}{sp:Nat→Bool}{held:Bool}{fuel:Nat}{t:TypeId}{fs:Array Field}{cs:List Value}(zs:List (IntKind×Int)){p:List MemPlace}(ht:P.underlying t=some (.struct fs))
    (hf: ∀(i:Nat) (f:Field),fs[i]?=some f→ ∃z,zs[i]?=some z∧P.underlying f.type=some (.int z.1)∧f.offset=i∧P.cellsOf f.type=1) (hn:zs.length=fs.size)
    (h:DataW.trod enc P w base sp held fuel t cs=some (.agg (zs.map λz=> .lit (.int z.1 z.2)),p)) (hcl:cs.length=fs.size):cs=zs.map λz=>Value.int z.1 z.2:=by
  obtain ⟨xs,n,rfl,hx,hl,hxl,hall⟩:=DataW.trod_struct ht h
  have hxs:xs.map (·.1)=zs.map λz=>(DataW.lit (.int z.1 z.2):DataW H):=by
    have:=congrArg Prod.fst hx
    simpa using this.symm
  apply zV
  intro i
  by_cases hi:i<fs.size
  · obtain ⟨z,hz,hu,ho,hc⟩:=hf i fs[i] (by simp [hi])
    have h1:=hall i fs[i] (by simp [hi])
    obtain ⟨b,hb⟩: ∃b,xs[i]?=some b:=⟨xs[i]' xB,jC xB⟩
    rw [hb,ho,hc] at h1
    obtain ⟨q,hcz,rfl,_⟩:=DataW.trod_int hu h1
    have h2:cs[i]?=some (.int z.1 q):=by
      have:=congrArg (·[0]?) hcz
      simpa [zI,jq] using this
    have h3:(xs.map (·.1))[i]?=some (DataW.lit (.int z.1 q):DataW H):=by simp [hb]
    rw [hxs,jN,hz] at h3
    simp only [zq,zG,DataW.lit.injEq,Lit.int.injEq,true_and] at h3
    rw [h2,jN,hz,←h3];rfl
  · rw [jd xB,jd xJ]
theorem gAl:prog.globalNamed "plumbob/label.alphabets" =some 0:=by kernel_rfl
theorem qX2:(prog.globals[0]?).map (·.type)=some 337:=by kernel_rfl
theorem qSQ:prog.cellsOf 336=3:=by kernel_rfl
theorem qVS{W:World}(h:Lib.VarReads prog W "plumbob/label.alphabets" Rows.laid_plumbob_label_alphabets):qAG (hp W) ⟨0,0,none⟩ qBT:=by
 obtain ⟨g,t,cs,fuel,p,hg,hty,hvar,hd⟩:=h
 obtain rfl:=zX (gAl.symm.trans hg)
 obtain rfl:=zX (qX2.symm.trans hty)
 have key: ∀k,k<3→((cs.toList.drop (k*3)).take 3)= [I (qSz k:Nat),R32 (qJd k),R32 (qJV k)]:=λk hk=>by
  obtain ⟨fuel',d,q,hdi,he⟩:=Lib.array_elem underlying337 hd k hk
  rw [qSQ] at he
  have hd':d= .agg ([(IntKind.i64,((qSz k:Nat):Int)),(IntKind.i32,((qJd k:Nat):Int)),(IntKind.i32,((qJV k:Nat):Int))].map λz=> .lit (.int z.1 z.2)):=by
   match k,hk with
   |0,_=>exact(zX hdi).symm
   |1,_=>exact(zX hdi).symm
   |2,_=>exact(zX hdi).symm
  subst hd'
  refine qHP _ qPu (λj f hj=>by
   match j,hj with
   |0,hj=>simp at hj;subst hj;exact⟨_,O,u3_,O,xI⟩
   |1,hj=>simp at hj;subst hj;exact⟨_,O,underlying21,O,xI⟩
   |2,hj=>simp at hj;subst hj;exact⟨_,O,underlying21,O,xI⟩
   |j+3,hj=>simp at hj) O he ?_
  obtain ⟨xs,n,_,hx,hl,hxl,hall⟩:=DataW.trod_struct qPu he
  rw [hl,qSQ];rfl
 refine qVd xC λj u hj=>?_
 rw [World.var?_cell hg hvar j,←Array.getElem?_toList]
 have e: ∀k r,k<3→r<3→cs.toList[k*3+r]?= [I (qSz k:Nat),R32 (qJd k),R32 (qJV k)][r]?:=λk r hk hr=>by
  rw [←key k hk,zI,if_pos hr,jq]
 match j,hj with
 |0,hj=>rw [←hj];exact e 0 0 xC xC
 |1,hj=>rw [←hj];exact e 0 1 xC xC
 |2,hj=>rw [←hj];exact e 0 2 xC xC
 |3,hj=>rw [←hj];exact e 1 0 xC xC
 |4,hj=>rw [←hj];exact e 1 1 xC xC
 |5,hj=>rw [←hj];exact e 1 2 xC xC
 |6,hj=>rw [←hj];exact e 2 0 xC xC
 |7,hj=>rw [←hj];exact e 2 1 xC xC
 |8,hj=>rw [←hj];exact e 2 2 xC xC
 |j+9,hj=>simp [qBT] at hj
theorem u8x:U8Extra prog Tryz.lays196_ren:={
 n3:=by kernel_rfl
 n4:=by kernel_rfl
 y3:=by kernel_rfl
 y4:=by kernel_rfl
 c5:=by kernel_rfl
 c119:=by kernel_rfl
 c138:=by kernel_rfl}
theorem qX4:(Rows.laid_unicode_utf8_first:DataW Unit)=Lib.firstData:=by kernel_rfl
theorem accEq:(Rows.laid_unicode_utf8_acceptRanges:DataW Unit)=Lib.acceptData:=by kernel_rfl
theorem qWV{W:World}(h1:Lib.VarReads prog W "unicode/utf8.first" Rows.laid_unicode_utf8_first)(h2:Lib.VarReads prog W "unicode/utf8.acceptRanges" Rows.laid_unicode_utf8_acceptRanges):qBv (hp W):=by
 rw [qX4] at h1
 rw [accEq] at h2
 exact qVa (utf8Tabs_of_readsT (U8Types.of196 Tryz.lays196) u8x h1 h2)
def qNI(os:Array Obj)(g:Nat)(vs:List Value):Array Obj:=os.modify g λ
 | .cells _ t frozen=> .cells vs.toArray t frozen
 |o=>o
def qZj:List Value:=(List.range 256).map λc=> .int .u8 (Lib.firstT c)
def accV:List Value:=((List.range 16).map λi=> [.int .u8 (Lib.accLo i),.int .u8 (Lib.accHi i)]).flatten
end Go.Proofs.YtmemgokiolfdoaaGreatDoor