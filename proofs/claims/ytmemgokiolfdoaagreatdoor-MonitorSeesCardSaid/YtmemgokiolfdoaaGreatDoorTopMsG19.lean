/- A part of the proof. -/
import Derived.Test.YtmemgokiolfdoaaGreatDoorTopMsG17
import Derived.Test.YtmemgokiolfdoaaGreatDoorTopMsG18
set_option maxRecDepth 100000
set_option maxHeartbeats 1000000
set_option linter.unusedSimpArgs false
set_option linter.unusedVariables false
namespace Go.Proofs.YtmemgokiolfdoaaGreatDoor
open Go Go.Fw Go.Proofs.Tryz
structure Chg where
 k:xA
 v:xA
 deriving DecidableEq
def Chg.cells(x:Chg):List Value:= [Str (x.k),Str (x.v)]
def qAv:Chg:=⟨[],[]⟩
def qDo(l:List Chg):List (List Value):=l.map Chg.cells
theorem qHe{l:List Chg}{k:Nat}(h:k<l.length):(qDo l)[k]?=some (l.getD k qAv).cells:=by
 unfold qDo
 rw [jN,qAi qAv h];rfl
theorem qIh(a:List Chg)(x:Chg):qDo (a++ [x])=qDo a++ [x.cells]:=by simp [qDo]
structure qBj where
 k:xA
 v:xA
 bsA:Option Addr
 bsc:Nat
 bs:List xA
 th:Bool
 pk:xA
 pv:xA
def qBj.cells(x:qBj):List Value:= [Str (x.k),Str (x.v),.slice x.bsA x.bs.length x.bsc,.bool (x.th),Str (x.pk),Str (x.pv)]
def qHG:qBj:=⟨[],[],none,0,[],false,[],[]⟩
def qKG(l:List qBj):List (List Value):=l.map qBj.cells
theorem qOX(a:List qBj)(x:qBj):qKG (a++ [x])=qKG a++ [x.cells]:=by simp [qKG]
theorem qHK{a b:Hp}(h:Dj a b):Le a (U [a,b]):=qFr (qAa.2 (by simpa using h)) (.head _)
theorem qSx{a b:Hp}(h:Dj a b):Le b (U [a,b]):=qFr (qAa.2 (by simpa using h)) (.tail _ (.head _))
def qBj.chg(x:qBj):Chg:=⟨x.k,x.v⟩
def kvC(l:List Sm.PR)(cl:List Chg):List Sm.PR:=cl.foldl (λl x=>Sm.putP l x.k x.v) l
theorem qUn(l:List Sm.PR)(cl:List Chg)(x:Chg):kvC l (cl++ [x])=Sm.putP (kvC l cl) x.k x.v:=by unfold kvC;rw [List.foldl_append];rfl
theorem qEK{α:Type}(l:List α)(i:Nat)(no:α)(h:i<l.length):l.take (i+1)=l.take i++ [l.getD i no]:=by
 rw [jK h,jB,jC h];rfl
theorem qUm{l:List Sm.PR}{cl:List Chg}{i:Nat}(h:i<cl.length):kvC l (cl.take (i+1))=Sm.putP (kvC l (cl.take i)) (cl.getD i qAv).k (cl.getD i qAv).v:=by
 rw [qEK cl i qAv h,qUn]
theorem qRj(l:List Sm.PR)(cl:List Chg):(kvC l cl).length≤l.length+cl.length:=by
 induction cl generalizing l with
 |nil=>exact jJ _
 |cons x r ih=>
  have h1:=ih (Sm.putP l x.k x.v)
  have h2:=Sm.putP_len l x.k x.v
  show(kvC (Sm.putP l x.k x.v) r).length≤l.length+(r.length+1)
  omega
structure qS3 (b d:Nat) (cl:List Chg):Prop where
 len:cl.length≤256
 k16: ∀x∈cl,x.k.length=16
 bnd: ∀x∈cl,qFz x.k d=b
 val: ∀x∈cl,x.v.length≤1000000
theorem qS3.at{b d:Nat}{cl:List Chg}(h:qS3 b d cl){i:Nat}(hi:i<cl.length):(cl.getD i qAv).k.length=16∧qFz (cl.getD i qAv).k d=b∧(cl.getD i qAv).v.length≤1000000:=by
 rw [jB,jC hi]
 exact⟨h.k16 _ (jQ hi),h.bnd _ (jQ hi),h.val _ (jQ hi)⟩
theorem qNr{l:List Sm.PR}{cl:List Chg}(hf:qCS l)(h16: ∀x∈cl,x.k.length=16)(hv: ∀x∈cl,x.v.length≤1000000)(hn:l.length+cl.length≤100000):qCS (kvC l cl):=by
 induction cl generalizing l with
 |nil=>exact hf
 |cons x r ih=>
  rw [jD] at hn
  refine ih (l:=Sm.putP l x.k x.v) (hf.put (h16 x (.head _)) (hv x (.head _)) xB) (λy hy=>h16 y (.tail _ hy)) (λy hy=>hv y (.tail _ hy)) ?_
  have h2:=Sm.putP_len l x.k x.v
  omega
theorem qS3.fine{b d:Nat}{cl:List Chg}(h:qS3 b d cl){l:List Sm.PR}(hf:qCS l)(hn:l.length≤90000)(i:Nat):qCS (kvC l (cl.take i)):=
 qNr hf (λx hx=>h.k16 x (yH hx)) (λx hx=>h.val x (yH hx)) (by rw [jF];have:=h.len;omega)
structure qLd (l:List Sm.PR) (d:Nat) (x:qBj):Prop where
 good:qLg x.bs x.th x.pk x.pv x.k d
 pv:x.pv.length≤1000000
 val:x.v.length≤1000000
 node:qF3 x.bs x.th x.pk x.pv x.k d=Sm.ndB l x.k d
 after:qSo x.bs x.th x.pk x.pv x.k x.v d=Sm.ndB (Sm.putP l x.k x.v) x.k d
theorem qLd.of{l:List Sm.PR}(hf:qCS l)(hn:l.length≤100000){k v:xA}(hk:k.length=16)(hv:v.length≤1000000){d s:Nat}(h:qJy l k d s)(A:Option Addr)(c:Nat):
    qLd l d ⟨k,v,A,c,bsd l k d (s-d),qAl l k s,qBk l k s,qBo l k s⟩:=
  ⟨qEN hf hk h,qEQ hf k s,hv,qIG hf hk h,qMB hf hk hv hn h⟩
def qDg(l:List Sm.PR)(d:Nat)(L:List qBj):Prop:= ∀i,i<L.length→qLd (kvC l ((L.map qBj.chg).take i)) d (L.getD i qHG)
theorem qDg.nil(l:List Sm.PR)(d:Nat):qDg l d []:=λi h=>absurd h (jy i)
theorem qDg.snoc{l:List Sm.PR}{d:Nat}{L:List qBj}{x:qBj}(h:qDg l d L)(hx:qLd (kvC l (L.map qBj.chg)) d x):qDg l d (L++ [x]):=λi hi=>by
  rw [jA,jH] at hi
  rw [jO]
  by_cases hlt:i<L.length
  · rw [za (by rw [jP];omega),jB,jc hlt,←jB]
    exact h i hlt
  · obtain rfl:i=L.length:=by omega
    have e:(L.map qBj.chg++ [x].map qBj.chg).take L.length=L.map qBj.chg:=List.take_left' (jP qBj.chg)
    rw [e,jB,ja (jJ _),jv]
    exact hx
def qPW(M:Hp)(L:List qBj):Prop:= ∀i,i<L.length→Sl M 1 (L.getD i qHG).bsA (L.getD i qHG).bs.length (L.getD i qHG).bsc (qAH (L.getD i qHG).bs)
theorem qPW.nil(M:Hp):qPW M []:=λi h=>absurd h (jy i)
theorem qPW.mono{M M':Hp}{L:List qBj}(h:qPW M L)(hl:Le M M'):qPW M' L:=λi hi=>(h i hi).mono hl
theorem qPW.snoc{M:Hp}{L:List qBj}{x:qBj}(h:qPW M L)(hx:Sl M 1 x.bsA x.bs.length x.bsc (qAH x.bs)):qPW M (L++ [x]):=λi hi=>by
  rw [jA,jH] at hi
  rw [jB]
  by_cases hlt:i<L.length
  · rw [jc hlt,←jB];exact h i hlt
  · obtain rfl:i=L.length:=by omega
    rw [ja (jJ _),jv];exact hx
def inB(b d:Nat)(k:xA):Prop:=k.length=16∧qFz k d=b
instance (b d:Nat) (k:xA):Decidable (inB b d k):=by unfold inB;infer_instance
def qGo(b z:Int)(ks:List xA):Nat:=if cnt z=0 then 1 else if 256<ks.length then 22 else if b<0∨((cnt z:Nat):Int)≤b then 10 else if∀k∈ks,inB b.toNat z.toNat k then 0 else 10
theorem qEh{b z:Int}{ks:List xA}(h:cnt z=0):qGo b z ks=1:=if_pos h
theorem qDV{b z:Int}{ks:List xA}(h: ¬cnt z=0)(h2:256<ks.length):qGo b z ks=22:=by unfold qGo;rw [if_neg h,if_pos h2]
theorem qDW{b z:Int}{ks:List xA}(h: ¬cnt z=0)(h2: ¬256<ks.length)(h3:b<0∨((cnt z:Nat):Int)≤b):qGo b z ks=10:=by unfold qGo;rw [if_neg h,if_neg h2,if_pos h3]
theorem qDU{b z:Int}{ks:List xA}(h: ¬cnt z=0)(h2: ¬256<ks.length)(h3: ¬(b<0∨((cnt z:Nat):Int)≤b)){k:xA}(hk:k∈ks)(hn: ¬inB b.toNat z.toNat k):qGo b z ks=10:=by unfold qGo;rw [if_neg h,if_neg h2,if_neg h3,if_neg (λe=>hn (e k hk))]
theorem qDv{b z:Int}{ks:List xA}(h: ¬cnt z=0)(h2: ¬256<ks.length)(h3: ¬(b<0∨((cnt z:Nat):Int)≤b))(hk: ∀k∈ks,inB b.toNat z.toNat k):qGo b z ks=0:=by unfold qGo;rw [if_neg h,if_neg h2,if_neg h3,if_pos hk]
theorem qS3.may{b d:Nat}{cl:List Chg}(h:qS3 b d cl)(hd:d≤4)(hb:b<2^d):qGo b d (cl.map Chg.k)=0:=by
 refine qDv (by rw [qDC hd];have:=qXE hd;omega) (by rw [jP];have:=h.len;omega) (by rw [qDC hd];omega) λk hk=>?_
 obtain ⟨x,hx,rfl⟩:=List.mem_map.1 hk
 exact⟨h.k16 x hx,by rw [jY,jY];exact h.bnd x hx⟩
theorem qRl(cl:List Chg){i:Nat}(h:i<cl.length):(cl.take (i+1)).map Chg.k=(cl.take i).map Chg.k++ [(cl.getD i qAv).k]:=by rw [qEK cl i qAv h,jO];rfl
theorem qVU{p:xA→Prop}{ks:List xA}{i:Nat}(hi:i<ks.length)(h: ∀k∈ks.take i,p k)(hk:p (ks.getD i [])): ∀k∈ks.take (i+1),p k:=by
 rw [qEK ks i [] hi]
 intro k hm
 rcases List.mem_append.1 hm with hm|hm
 · exact h k hm
 · rw [List.mem_singleton.1 hm];exact hk
theorem qRk{ks:List xA}{i:Nat}(hi:i<ks.length):ks.getD i []∈ks:=by
 rw [jB,jC hi];exact jQ hi
theorem qVD{cl:List Chg}{L:List qBj}{i:Nat}(hi:i<cl.length)(h:L.map qBj.chg=cl.take i){x:qBj}(hk:x.k=(cl.getD i qAv).k)(hv:x.v=(cl.getD i qAv).v):(L++ [x]).map qBj.chg=cl.take (i+1):=by
 rw [qEK cl i qAv hi,jO,h]
 congr 1
 show [(⟨x.k,x.v⟩:Chg)]=_
 rw [hk,hv]
theorem qS3.smallK{b d:Nat}{cl:List Chg}(h:qS3 b d cl)(j:Nat):((cl.map Chg.k).getD j []).length≤1000000:=by
  rw [jB,jN]
  by_cases hj:j<cl.length
  · rw [jC hj]
    have:=h.k16 _ (jQ hj)
    show(cl[j].k).length≤1000000
    rw [this];decide
  · rw [jd xB];decide
def qHO(cl:List Chg)(i:Nat):List xA:=(cl.take i).map Chg.k
theorem qIU{cl:List Chg}{i:Nat}(h:i<cl.length):qHO cl (i+1)=qHO cl i++ [(cl.getD i qAv).k]:=qRl cl h
theorem qRm{cl:List Chg}{i:Nat}(h:i≤cl.length):(qHO cl i).length=i:=by unfold qHO;rw [jP,jF];omega
theorem qRn(cl:List Chg):qHO cl cl.length=cl.map Chg.k:=by unfold qHO;rw [jm]
theorem qZg{b:Int}{d:Nat}{k:xA}(h0:0≤b):inB b.toNat d k↔ofE k=0∧((ofV k d:Nat):Int)=b:=by
  unfold inB ofE ofV
  split
  · rename_i h
    constructor
    · intro h2;exact⟨O,xB⟩
    · intro h2;exact⟨h,xB⟩
  · rename_i h
    constructor
    · intro h2;exact absurd h2.1 h
    · intro h2;exact absurd h2.1 xC
structure MkR where
 A:Option Addr
 c:Nat
 ms:Hp
 g:Nat
 mt:Hp
 M:Hp
 L:List qBj
structure MkP (l:List Sm.PR) (d:Nat) (cl:List Chg) (r:MkR):Prop where
 chg:r.L.map qBj.chg=cl
 ok:qDg l d r.L
 row:Row r.ms 160 6 r.A r.L.length r.c (qKG r.L)
 tree:qGH r.mt r.g (kvC l cl)
 bs:qPW r.M r.L
end Go.Proofs.YtmemgokiolfdoaaGreatDoor