/- A part of the proof. -/
import Derived.Test.YtmemgokiolfdoaaGreatDoorTopSpG20
import Derived.Lib.LaidU8T
set_option maxRecDepth 100000
set_option maxHeartbeats 1000000
set_option linter.unusedSimpArgs false
set_option linter.unusedVariables false
namespace Go.Proofs.YtmemgokiolfdoaaGreatDoor
open Go Go.Fw Go.Proofs.Tryz
open Go.Shelf Go.RowKit
theorem qOZ{W:World}{g o:Nat}{v:Value}(h:W.cell? ⟨g,o,none⟩=some v): ∃c e fz,W.heap[g]?=some (.cells c e fz):=by
 unfold World.cell? at h
 cases ho:W.heap[g]? with
 |none=>dsimp only at h;rw [ho] at h;cases h
 |some x=>
  dsimp only at h;rw [ho] at h
  cases x with
  |cells c e fz=>exact⟨c,e,fz,O⟩
  |_=>cases h
theorem qS0{W:World}{g o:Nat}{v:Value}{c:Array Value}{e:TypeId}{fz:Nat×Nat}(hb:W.heap[g]?=some (.cells c e fz))(h:W.cell? ⟨g,o,none⟩=some v):c[o]?=some v:=by
 unfold World.cell? at h
 simp only [hb] at h
 simpa using h
theorem qGG{W:World}{g o:Nat}{v:Value}(h:W.cell? ⟨g,o,none⟩=some v):qAI (hp W) ⟨g,o,none⟩ [v]:=by
 obtain ⟨c,e,fz,hb⟩:=qOZ h
 refine⟨O,c,e,fz,hb,λj u hj=>?_⟩
 cases j with
 |zero=>rw [List.getElem?_cons_zero] at hj;cases hj;exact qS0 hb h
 |succ j=>cases hj
theorem qWL{W:World}{g:Nat}{vs:yU}(h0:0<vs.length)(h: ∀(j:Nat) u,vs[j]?=some u->W.cell? ⟨g,j,none⟩=some u):qAI (hp W) ⟨g,0,none⟩ vs:=by
 obtain ⟨c,e,fz,hb⟩:=qOZ (h 0 _ (jD h0))
 refine⟨O,c,e,fz,hb,λj u hj=>?_⟩
 show c[0+j]?=some u
 rw [jl];exact qS0 hb (h j u hj)
theorem qWF{W:World}(h:Lib.Utf8Tabs 1 2 W):qBl (hp W):=
 ⟨λc hc=>qGG (h.1 c hc),λi hi=>⟨qGG (h.2 i hi).1,qGG (h.2 i hi).2⟩⟩
theorem qHs{H:Type}{enc:TypeId×Value->H}{P:Program}{w:World}{base:Nat}{sp:Nat->Bool}{held:Bool}{fuel:Nat}{t:TypeId}{fs:Array Field}{cs:yU}(zs:List (IntKind×Int)){p:List MemPlace}(ht:P.underlying t=some (.struct fs))
    (hf: ∀(i:Nat) (f:Field),fs[i]?=some f-> ∃z,zs[i]?=some z/\P.underlying f.type=some (.int z.1)/\f.offset=i/\P.cellsOf f.type=1) (hn:zs.length=fs.size)
    (h:DataW.trod enc P w base sp held fuel t cs=some (.agg (zs.map λz=> .lit (.int z.1 z.2)),p)) (hcl:cs.length=fs.size):cs=zs.map λz=>Value.int z.1 z.2:=by
  obtain ⟨xs,n,rfl,hx,hl,hxl,hall⟩:=DataW.trod_struct ht h
  have hxs:xs.map (·.1)=zs.map λz=>(DataW.lit (.int z.1 z.2):DataW H):=by
    have:=yY Prod.fst hx
    simpa using this.symm
  apply zm
  intro i
  by_cases hi:i<fs.size
  . obtain ⟨z,hz,hu,ho,hc⟩:=hf i fs[i] (by simp [hi])
    have h1:=hall i fs[i] (by simp [hi])
    obtain ⟨b,hb⟩: ∃b,xs[i]?=some b:=⟨xs[i]' xB,jD xB⟩
    rw [hb,ho,hc] at h1
    obtain ⟨q,hcz,rfl,_⟩:=DataW.trod_int hu h1
    have h2:cs[i]?=some (.int z.1 q):=by
      have:=yY (·[0]?) hcz
      simpa [zY,js] using this
    have h3:(xs.map (·.1))[i]?=some (DataW.lit (.int z.1 q):DataW H):=by simp [hb]
    rw [hxs,jO,hz] at h3
    simp only [zu,Option.some.injEq,DataW.lit.injEq,Lit.int.injEq,true_and] at h3
    rw [h2,jO,hz,<-h3];rfl
  . rw [je xB,je xJ]
theorem gAl:prog.globalNamed "plumbob/label.alphabets" =some 0:=by kernel_rfl
theorem qYn:(prog.globals[0]?).map (·.type)=some 337:=by kernel_rfl
theorem qSz:prog.cellsOf 336=3:=by kernel_rfl
theorem qV5{W:World}(h:Lib.VarReads prog W "plumbob/label.alphabets" Rows.laid_plumbob_label_alphabets):qAI (hp W) ⟨0,0,none⟩ qBJ:=by
 obtain ⟨g,t,cs,fuel,p,hg,hty,hvar,hd⟩:=h
 obtain rfl:=zn (gAl.symm.trans hg)
 obtain rfl:=zn (qYn.symm.trans hty)
 have key: ∀k,k<3->((cs.toList.drop (k*3)).take 3)= [I (qTR k:Nat),R32 (qJ9 k),R32 (qJ4 k)]:=λk hk=>by
  obtain ⟨fuel',d,q,hdi,he⟩:=Lib.array_elem underlying337 hd k hk
  rw [qSz] at he
  have hd':d= .agg ([(IntKind.i64,((qTR k:Nat):Int)),(IntKind.i32,((qJ9 k:Nat):Int)),(IntKind.i32,((qJ4 k:Nat):Int))].map λz=> .lit (.int z.1 z.2)):=by
   match k,hk with
   |0,_=>exact(zn hdi).symm
   |1,_=>exact(zn hdi).symm
   |2,_=>exact(zn hdi).symm
  subst hd'
  refine qHs _ qQC (λj f hj=>by
   match j,hj with
   |0,hj=>simp at hj;subst hj;exact⟨_,O,u3_,O,xH⟩
   |1,hj=>simp at hj;subst hj;exact⟨_,O,underlying21,O,xH⟩
   |2,hj=>simp at hj;subst hj;exact⟨_,O,underlying21,O,xH⟩
   |j+3,hj=>simp at hj) O he ?_
  obtain ⟨xs,n,_,hx,hl,hxl,hall⟩:=DataW.trod_struct qQC he
  rw [hl,qSz];rfl
 refine qWL xC λj u hj=>?_
 rw [World.var?_cell hg hvar j,<-Array.getElem?_toList]
 have e: ∀k r,k<3->r<3->cs.toList[k*3+r]?= [I (qTR k:Nat),R32 (qJ9 k),R32 (qJ4 k)][r]?:=λk r hk hr=>by
  rw [<-key k hk,zY,yX hr,js]
 match j,hj with
 |0,hj=>rw [<-hj];exact e 0 0 xC xC
 |1,hj=>rw [<-hj];exact e 0 1 xC xC
 |2,hj=>rw [<-hj];exact e 0 2 xC xC
 |3,hj=>rw [<-hj];exact e 1 0 xC xC
 |4,hj=>rw [<-hj];exact e 1 1 xC xC
 |5,hj=>rw [<-hj];exact e 1 2 xC xC
 |6,hj=>rw [<-hj];exact e 2 0 xC xC
 |7,hj=>rw [<-hj];exact e 2 1 xC xC
 |8,hj=>rw [<-hj];exact e 2 2 xC xC
 |j+9,hj=>simp [qBJ] at hj
theorem u8x:U8Extra prog Tryz.lays196_ren:={
 n3:=by kernel_rfl
 n4:=by kernel_rfl
 y3:=by kernel_rfl
 y4:=by kernel_rfl
 c5:=by kernel_rfl
 c119:=by kernel_rfl
 c138:=by kernel_rfl}
theorem qYt:(Rows.laid_unicode_utf8_first:DataW Unit)=Lib.firstData:=by kernel_rfl
theorem accEq:(Rows.laid_unicode_utf8_acceptRanges:DataW Unit)=Lib.acceptData:=by kernel_rfl
theorem qXO{W:World}(h1:Lib.VarReads prog W "unicode/utf8.first" Rows.laid_unicode_utf8_first)(h2:Lib.VarReads prog W "unicode/utf8.acceptRanges" Rows.laid_unicode_utf8_acceptRanges):qBl (hp W):=by
 rw [qYt] at h1
 rw [accEq] at h2
 exact qWF (utf8Tabs_of_readsT (U8Types.of196 Tryz.lays196) u8x h1 h2)
def qNh(os:Array Obj)(g:Nat)(vs:yU):Array Obj:=os.modify g λ
 | .cells _ t frozen=> .cells vs.toArray t frozen
 |o=>o
def qaP:yU:=(List.range 256).map λc=> .int .u8 (Lib.firstT c)
def accV:yU:=((List.range 16).map λi=> [.int .u8 (Lib.accLo i),.int .u8 (Lib.accHi i)]).flatten
end Go.Proofs.YtmemgokiolfdoaaGreatDoor