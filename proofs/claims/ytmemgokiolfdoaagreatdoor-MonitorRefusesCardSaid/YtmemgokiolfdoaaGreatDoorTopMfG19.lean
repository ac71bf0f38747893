/- A part of the proof. -/
import Derived.Test.YtmemgokiolfdoaaGreatDoorTopMfG17
import Derived.Test.YtmemgokiolfdoaaGreatDoorTopMfG18
set_option maxRecDepth 100000
set_option maxHeartbeats 1000000
set_option linter.unusedSimpArgs false
set_option linter.unusedVariables false
namespace Go.Proofs.YtmemgokiolfdoaaGreatDoor
open Go Go.Fw Go.Proofs.Tryz
structure Chg where
 k:xA
 v:xA
 deriving DecidableEq
def Chg.cells(x:Chg):List Value:= [Str (x.k),Str (x.v)]
def qAw:Chg:=⟨[],[]⟩
def qDo(l:List Chg):List (List Value):=l.map Chg.cells
theorem qHj{l:List Chg}{k:Nat}(h:k<l.length):(qDo l)[k]?=some (l.getD k qAw).cells:=by
 unfold qDo
 rw [jO,qAk qAw h];rfl
theorem qIh(a:List Chg)(x:Chg):qDo (a++ [x])=qDo a++ [x.cells]:=by simp [qDo]
structure qBj where
 k:xA
 v:xA
 bsA:Option Addr
 bsc:Nat
 bs:List xA
 th:Bool
 pk:xA
 pv:xA
def qBj.cells(x:qBj):List Value:= [Str (x.k),Str (x.v),.slice x.bsA x.bs.length x.bsc,.bool (x.th),Str (x.pk),Str (x.pv)]
def qHS:qBj:=⟨[],[],none,0,[],false,[],[]⟩
def qKD(l:List qBj):List (List Value):=l.map qBj.cells
theorem qOS(a:List qBj)(x:qBj):qKD (a++ [x])=qKD a++ [x.cells]:=by simp [qKD]
theorem qHU{a b:Hp}(h:Dj a b):Le a (U [a,b]):=qFx (qAZ.2 (by simpa using h)) (.head _)
theorem qSa{a b:Hp}(h:Dj a b):Le b (U [a,b]):=qFx (qAZ.2 (by simpa using h)) (.tail _ (.head _))
def qBj.chg(x:qBj):Chg:=⟨x.k,x.v⟩
def kvC(l:List Sm.PR)(cl:List Chg):List Sm.PR:=cl.foldl (λl x=>Sm.putP l x.k x.v) l
theorem qUG(l:List Sm.PR)(cl:List Chg)(x:Chg):kvC l (cl++ [x])=Sm.putP (kvC l cl) x.k x.v:=by unfold kvC;rw [List.foldl_append];rfl
theorem qEI{α:Type}(l:List α)(i:Nat)(no:α)(h:i<l.length):l.take (i+1)=l.take i++ [l.getD i no]:=by
 rw [jL h,jB,jC h];rfl
theorem qUF{l:List Sm.PR}{cl:List Chg}{i:Nat}(h:i<cl.length):kvC l (cl.take (i+1))=Sm.putP (kvC l (cl.take i)) (cl.getD i qAw).k (cl.getD i qAw).v:=by
 rw [qEI cl i qAw h,qUG]
theorem qRM(l:List Sm.PR)(cl:List Chg):(kvC l cl).length≤l.length+cl.length:=by
 induction cl generalizing l with
 |nil=>exact jK _
 |cons x r ih=>
  have h1:=ih (Sm.putP l x.k x.v)
  have h2:=Sm.putP_len l x.k x.v
  show(kvC (Sm.putP l x.k x.v) r).length≤l.length+(r.length+1)
  omega
structure qSh (b d:Nat) (cl:List Chg):Prop where
 len:cl.length≤256
 k16: ∀x∈cl,x.k.length=16
 bnd: ∀x∈cl,qF6 x.k d=b
 val: ∀x∈cl,x.v.length≤1000000
theorem qSh.at{b d:Nat}{cl:List Chg}(h:qSh b d cl){i:Nat}(hi:i<cl.length):(cl.getD i qAw).k.length=16∧qF6 (cl.getD i qAw).k d=b∧(cl.getD i qAw).v.length≤1000000:=by
 rw [jB,jC hi]
 exact⟨h.k16 _ (jT hi),h.bnd _ (jT hi),h.val _ (jT hi)⟩
theorem qNp{l:List Sm.PR}{cl:List Chg}(hf:qCF l)(h16: ∀x∈cl,x.k.length=16)(hv: ∀x∈cl,x.v.length≤1000000)(hn:l.length+cl.length≤100000):qCF (kvC l cl):=by
 induction cl generalizing l with
 |nil=>exact hf
 |cons x r ih=>
  rw [jD] at hn
  refine ih (l:=Sm.putP l x.k x.v) (hf.put (h16 x (.head _)) (hv x (.head _)) xB) (λy hy=>h16 y (.tail _ hy)) (λy hy=>hv y (.tail _ hy)) ?_
  have h2:=Sm.putP_len l x.k x.v
  omega
theorem qSh.fine{b d:Nat}{cl:List Chg}(h:qSh b d cl){l:List Sm.PR}(hf:qCF l)(hn:l.length≤90000)(i:Nat):qCF (kvC l (cl.take i)):=
 qNp hf (λx hx=>h.k16 x (yG hx)) (λx hx=>h.val x (yG hx)) (by rw [jE];have:=h.len;omega)
structure qLU (l:List Sm.PR) (d:Nat) (x:qBj):Prop where
 good:qLX x.bs x.th x.pk x.pv x.k d
 pv:x.pv.length≤1000000
 val:x.v.length≤1000000
 node:qF9 x.bs x.th x.pk x.pv x.k d=Sm.ndB l x.k d
 after:qSQ x.bs x.th x.pk x.pv x.k x.v d=Sm.ndB (Sm.putP l x.k x.v) x.k d
theorem qLU.of{l:List Sm.PR}(hf:qCF l)(hn:l.length≤100000){k v:xA}(hk:k.length=16)(hv:v.length≤1000000){d s:Nat}(h:qIo l k d s)(A:Option Addr)(c:Nat):
    qLU l d ⟨k,v,A,c,bsd l k d (s-d),qAP l k s,qA0 l k s,qA2 l k s⟩:=
  ⟨qBv hf hk h,qBw hf k s,hv,qEL hf hk h,qL5 hf hk hv hn h⟩
def qDf(l:List Sm.PR)(d:Nat)(L:List qBj):Prop:= ∀i,i<L.length→qLU (kvC l ((L.map qBj.chg).take i)) d (L.getD i qHS)
theorem qDf.nil(l:List Sm.PR)(d:Nat):qDf l d []:=λi h=>absurd h (zB i)
theorem qDf.snoc{l:List Sm.PR}{d:Nat}{L:List qBj}{x:qBj}(h:qDf l d L)(hx:qLU (kvC l (L.map qBj.chg)) d x):qDf l d (L++ [x]):=λi hi=>by
  rw [jA,jJ] at hi
  rw [jN]
  by_cases hlt:i<L.length
  · rw [List.take_append_of_le_length (by rw [jQ];omega),jB,jg hlt,←jB]
    exact h i hlt
  · obtain rfl:i=L.length:=by omega
    have e:(L.map qBj.chg++ [x].map qBj.chg).take L.length=L.map qBj.chg:=List.take_left' (jQ qBj.chg)
    rw [e,jB,jh (jK _),zE]
    exact hx
def qPK(M:Hp)(L:List qBj):Prop:= ∀i,i<L.length→Sl M 1 (L.getD i qHS).bsA (L.getD i qHS).bs.length (L.getD i qHS).bsc (qAH (L.getD i qHS).bs)
theorem qPK.nil(M:Hp):qPK M []:=λi h=>absurd h (zB i)
theorem qPK.mono{M M':Hp}{L:List qBj}(h:qPK M L)(hl:Le M M'):qPK M' L:=λi hi=>(h i hi).mono hl
theorem qPK.snoc{M:Hp}{L:List qBj}{x:qBj}(h:qPK M L)(hx:Sl M 1 x.bsA x.bs.length x.bsc (qAH x.bs)):qPK M (L++ [x]):=λi hi=>by
  rw [jA,jJ] at hi
  rw [jB]
  by_cases hlt:i<L.length
  · rw [jg hlt,←jB];exact h i hlt
  · obtain rfl:i=L.length:=by omega
    rw [jh (jK _),zE];exact hx
def inB(b d:Nat)(k:xA):Prop:=k.length=16∧qF6 k d=b
instance (b d:Nat) (k:xA):Decidable (inB b d k):=by unfold inB;infer_instance
def qG1(b z:Int)(ks:List xA):Nat:=if cnt z=0 then 1 else if 256<ks.length then 22 else if b<0∨((cnt z:Nat):Int)≤b then 10 else if∀k∈ks,inB b.toNat z.toNat k then 0 else 10
theorem qEt{b z:Int}{ks:List xA}(h:cnt z=0):qG1 b z ks=1:=if_pos h
theorem qDS{b z:Int}{ks:List xA}(h: ¬cnt z=0)(h2:256<ks.length):qG1 b z ks=22:=by unfold qG1;rw [if_neg h,if_pos h2]
theorem qDT{b z:Int}{ks:List xA}(h: ¬cnt z=0)(h2: ¬256<ks.length)(h3:b<0∨((cnt z:Nat):Int)≤b):qG1 b z ks=10:=by unfold qG1;rw [if_neg h,if_neg h2,if_pos h3]
theorem qDR{b z:Int}{ks:List xA}(h: ¬cnt z=0)(h2: ¬256<ks.length)(h3: ¬(b<0∨((cnt z:Nat):Int)≤b)){k:xA}(hk:k∈ks)(hn: ¬inB b.toNat z.toNat k):qG1 b z ks=10:=by unfold qG1;rw [if_neg h,if_neg h2,if_neg h3,if_neg (λe=>hn (e k hk))]
theorem qDv{b z:Int}{ks:List xA}(h: ¬cnt z=0)(h2: ¬256<ks.length)(h3: ¬(b<0∨((cnt z:Nat):Int)≤b))(hk: ∀k∈ks,inB b.toNat z.toNat k):qG1 b z ks=0:=by unfold qG1;rw [if_neg h,if_neg h2,if_neg h3,if_pos hk]
theorem qSh.may{b d:Nat}{cl:List Chg}(h:qSh b d cl)(hd:d≤4)(hb:b<2^d):qG1 b d (cl.map Chg.k)=0:=by
 refine qDv (by rw [qDA hd];have:=qWm hd;omega) (by rw [jQ];have:=h.len;omega) (by rw [qDA hd];omega) λk hk=>?_
 obtain ⟨x,hx,rfl⟩:=List.mem_map.1 hk
 exact⟨h.k16 x hx,by rw [jZ,jZ];exact h.bnd x hx⟩
theorem qRO(cl:List Chg){i:Nat}(h:i<cl.length):(cl.take (i+1)).map Chg.k=(cl.take i).map Chg.k++ [(cl.getD i qAw).k]:=by rw [qEI cl i qAw h,jN];rfl
theorem qUz{p:xA→Prop}{ks:List xA}{i:Nat}(hi:i<ks.length)(h: ∀k∈ks.take i,p k)(hk:p (ks.getD i [])): ∀k∈ks.take (i+1),p k:=by
 rw [qEI ks i [] hi]
 intro k hm
 rcases List.mem_append.1 hm with hm|hm
 · exact h k hm
 · rw [List.mem_singleton.1 hm];exact hk
theorem qRN{ks:List xA}{i:Nat}(hi:i<ks.length):ks.getD i []∈ks:=by
 rw [jB,jC hi];exact jT hi
theorem qUj{cl:List Chg}{L:List qBj}{i:Nat}(hi:i<cl.length)(h:L.map qBj.chg=cl.take i){x:qBj}(hk:x.k=(cl.getD i qAw).k)(hv:x.v=(cl.getD i qAw).v):(L++ [x]).map qBj.chg=cl.take (i+1):=by
 rw [qEI cl i qAw hi,jN,h]
 congr 1
 show [(⟨x.k,x.v⟩:Chg)]=_
 rw [hk,hv]
theorem qSh.smallK{b d:Nat}{cl:List Chg}(h:qSh b d cl)(j:Nat):((cl.map Chg.k).getD j []).length≤1000000:=by
  rw [jB,jO]
  by_cases hj:j<cl.length
  · rw [jC hj]
    have:=h.k16 _ (jT hj)
    show(cl[j].k).length≤1000000
    rw [this];decide
  · rw [jd xB];decide
def qHX(cl:List Chg)(i:Nat):List xA:=(cl.take i).map Chg.k
theorem qIV{cl:List Chg}{i:Nat}(h:i<cl.length):qHX cl (i+1)=qHX cl i++ [(cl.getD i qAw).k]:=qRO cl h
theorem qRP{cl:List Chg}{i:Nat}(h:i≤cl.length):(qHX cl i).length=i:=by unfold qHX;rw [jQ,jE];omega
theorem qRQ(cl:List Chg):qHX cl cl.length=cl.map Chg.k:=by unfold qHX;rw [jo]
theorem qY4{b:Int}{d:Nat}{k:xA}(h0:0≤b):inB b.toNat d k↔ofE k=0∧((ofV k d:Nat):Int)=b:=by
  unfold inB ofE ofV
  split
  · rename_i h
    constructor
    · intro h2;exact⟨O,xB⟩
    · intro h2;exact⟨h,xB⟩
  · rename_i h
    constructor
    · intro h2;exact absurd h2.1 h
    · intro h2;exact absurd h2.1 xC
structure MkR where
 A:Option Addr
 c:Nat
 ms:Hp
 g:Nat
 mt:Hp
 M:Hp
 L:List qBj
structure MkP (l:List Sm.PR) (d:Nat) (cl:List Chg) (r:MkR):Prop where
 chg:r.L.map qBj.chg=cl
 ok:qDf l d r.L
 row:Row r.ms 160 6 r.A r.L.length r.c (qKD r.L)
 tree:qGO r.mt r.g (kvC l cl)
 bs:qPK r.M r.L
end Go.Proofs.YtmemgokiolfdoaaGreatDoor