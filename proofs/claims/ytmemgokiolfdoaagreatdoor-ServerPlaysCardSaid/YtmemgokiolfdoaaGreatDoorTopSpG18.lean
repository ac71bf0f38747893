/- A part of the proof. -/
import Derived.Test.YtmemgokiolfdoaaGreatDoorTopSpG16
import Derived.Test.YtmemgokiolfdoaaGreatDoorTopSpG17
set_option maxRecDepth 100000
set_option maxHeartbeats 1000000
set_option linter.unusedSimpArgs false
set_option linter.unusedVariables false
namespace Go.Proofs.YtmemgokiolfdoaaGreatDoor
open Go Go.Fw Go.Proofs.Tryz
structure Chg where
 k:xA
 v:xA
 deriving DecidableEq
def Chg.cells(x:Chg):yU:= [Str (x.k),Str (x.v)]
def qAy:Chg:=⟨[],[]⟩
def qDI(l:List Chg):List yU:=l.map Chg.cells
theorem qH7{l:List Chg}{k:Nat}(h:k<l.length):(qDI l)[k]?=some (l.getD k qAy).cells:=by
 unfold qDI
 rw [jO,qAc qAy h];rfl
theorem qJD(a:List Chg)(x:Chg):qDI (a++ [x])=qDI a++ [x.cells]:=by simp [qDI]
structure qBA where
 k:xA
 v:xA
 bsA:yS
 bsc:Nat
 bs:List xA
 th:Bool
 pk:xA
 pv:xA
def qBA.cells(x:qBA):yU:= [Str (x.k),Str (x.v),.slice x.bsA x.bs.length x.bsc,.bool (x.th),Str (x.pk),Str (x.pv)]
def qAW:qBA:=⟨[],[],none,0,[],false,[],[]⟩
def qGZ(l:List qBA):List yU:=l.map qBA.cells
theorem qKj{l:List qBA}{k:Nat}(h:k<l.length):(qGZ l)[k]?=some (l.getD k qAW).cells:=by
 unfold qGZ
 rw [jO,qAc qAW h];rfl
theorem qOv(a:List qBA)(x:qBA):qGZ (a++ [x])=qGZ a++ [x.cells]:=by simp [qGZ]
theorem qEC{a b:Hp}(h:Dj a b):Le a (U [a,b]):=qG2 (qAh.2 (by simpa using h)) (.head _)
theorem qIE{a b:Hp}(h:Dj a b):Le b (U [a,b]):=qG2 (qAh.2 (by simpa using h)) (.tail _ (.head _))
def qBA.chg(x:qBA):Chg:=⟨x.k,x.v⟩
def kvC(l:List Sm.PR)(cl:List Chg):List Sm.PR:=cl.foldl (λl x=>Sm.putP l x.k x.v) l
theorem qVJ(l:List Sm.PR)(cl:List Chg)(x:Chg):kvC l (cl++ [x])=Sm.putP (kvC l cl) x.k x.v:=by unfold kvC;rw [z6];rfl
theorem qDq{α:Type}(l:List α)(i:Nat)(no:α)(h:i<l.length):l.take (i+1)=l.take i++ [l.getD i no]:=by
 rw [jP h,jB,jD h];rfl
theorem qOE{l:List Sm.PR}{cl:List Chg}{i:Nat}(h:i<cl.length):kvC l (cl.take (i+1))=Sm.putP (kvC l (cl.take i)) (cl.getD i qAy).k (cl.getD i qAy).v:=by
 rw [qDq cl i qAy h,qVJ]
theorem qSH(l:List Sm.PR)(cl:List Chg):(kvC l cl).length<=l.length+cl.length:=by
 induction cl generalizing l with
 |nil=>exact jL _
 |cons x r ih=>
  have h1:=ih (Sm.putP l x.k x.v)
  have h2:=Sm.putP_len l x.k x.v
  show(kvC (Sm.putP l x.k x.v) r).length<=l.length+(r.length+1)
  omega
structure qL4 (b d:Nat) (cl:List Chg):Prop where
 len:cl.length<=256
 k16: ∀x∈cl,x.k.length=16
 bnd: ∀x∈cl,qEu x.k d=b
 val: ∀x∈cl,x.v.length<=1000000
theorem qL4.at{b d:Nat}{cl:List Chg}(h:qL4 b d cl){i:Nat}(hi:i<cl.length):(cl.getD i qAy).k.length=16/\qEu (cl.getD i qAy).k d=b/\(cl.getD i qAy).v.length<=1000000:=by
 rw [jB,jD hi]
 exact⟨h.k16 _ (jU hi),h.bnd _ (jU hi),h.val _ (jU hi)⟩
theorem qOF{l:List Sm.PR}{cl:List Chg}(hf:qCD l)(h16: ∀x∈cl,x.k.length=16)(hv: ∀x∈cl,x.v.length<=1000000)(hn:l.length+cl.length<=100000):qCD (kvC l cl):=by
 induction cl generalizing l with
 |nil=>exact hf
 |cons x r ih=>
  rw [jC] at hn
  refine ih (l:=Sm.putP l x.k x.v) (hf.put (h16 x (.head _)) (hv x (.head _)) xB) (λy hy=>h16 y (.tail _ hy)) (λy hy=>hv y (.tail _ hy)) ?_
  have h2:=Sm.putP_len l x.k x.v
  omega
theorem qL4.fine{b d:Nat}{cl:List Chg}(h:qL4 b d cl){l:List Sm.PR}(hf:qCD l)(hn:l.length<=90000)(i:Nat):qCD (kvC l (cl.take i)):=
 qOF hf (λx hx=>h.k16 x (zx hx)) (λx hx=>h.val x (zx hx)) (by rw [jF];have:=h.len;omega)
theorem qN2{l:List Sm.PR}(hl: ∀p∈l,p.1.length=16){k:xA}{b d:Nat}(hk:k.length=16)(hd:d<=4)(hb:qEu k d=b):Sm.ndB l k d=Sm.ndB l (kF b d) d:=by
 have hlt:b<2^d:=hb▸qHC k d
 unfold Sm.ndB Sm.bel
 congr 1
 refine zz λp hp=>?_
 rw [Bool.eq_iff_iff,Sm.belowB_kv (hl p hp) hk xB,Sm.belowB_kv (hl p hp) (qFc b d) xB,qLO xB hlt,<-qKL hk xB,hb]
structure qL0 (l:List Sm.PR) (d:Nat) (x:qBA):Prop where
 good:qNB x.bs x.th x.pk x.pv x.k d
 pv:x.pv.length<=1000000
 val:x.v.length<=1000000
 node:qFS x.bs x.th x.pk x.pv x.k d=Sm.ndB l x.k d
 after:qGT x.bs x.th x.pk x.pv x.k x.v d=Sm.ndB (Sm.putP l x.k x.v) x.k d
theorem qL0.of{l:List Sm.PR}(hf:qCD l)(hn:l.length<=100000){k v:xA}(hk:k.length=16)(hv:v.length<=1000000){d s:Nat}(h:qNA l k d s)(A:yS)(c:Nat):
    qL0 l d ⟨k,v,A,c,bsd l k d (s-d),qBB l k s,qC0 l k s,qDL l k s⟩:=
  ⟨qF9 hf hk h,qGB hf k s,hv,qF8 hf hk h,qMT hf hk hv hn h⟩
def qCe(l:List Sm.PR)(d:Nat)(L:List qBA):Prop:= ∀i,i<L.length->qL0 (kvC l ((L.map qBA.chg).take i)) d (L.getD i qAW)
theorem qCe.nil(l:List Sm.PR)(d:Nat):qCe l d []:=λi h=>absurd h (jz i)
theorem qCe.snoc{l:List Sm.PR}{d:Nat}{L:List qBA}{x:qBA}(h:qCe l d L)(hx:qL0 (kvC l (L.map qBA.chg)) d x):qCe l d (L++ [x]):=λi hi=>by
  rw [jA,jI] at hi
  rw [jN]
  by_cases hlt:i<L.length
  . rw [List.take_append_of_le_length (by rw [jJ];omega),jB,jk hlt,<-jB]
    exact h i hlt
  . obtain rfl:i=L.length:=by omega
    have e:(L.map qBA.chg++ [x].map qBA.chg).take L.length=L.map qBA.chg:=zJ (jJ qBA.chg)
    rw [e,jB,ja (jL _),zK]
    exact hx
def qPh(M:Hp)(L:List qBA):Prop:= ∀i,i<L.length->Sl M 1 (L.getD i qAW).bsA (L.getD i qAW).bs.length (L.getD i qAW).bsc (qAG (L.getD i qAW).bs)
theorem qPh.nil(M:Hp):qPh M []:=λi h=>absurd h (jz i)
theorem qPh.mono{M M':Hp}{L:List qBA}(h:qPh M L)(hl:Le M M'):qPh M' L:=λi hi=>(h i hi).mono hl
theorem qPh.snoc{M:Hp}{L:List qBA}{x:qBA}(h:qPh M L)(hx:Sl M 1 x.bsA x.bs.length x.bsc (qAG x.bs)):qPh M (L++ [x]):=λi hi=>by
  rw [jA,jI] at hi
  rw [jB]
  by_cases hlt:i<L.length
  . rw [jk hlt,<-jB];exact h i hlt
  . obtain rfl:i=L.length:=by omega
    rw [ja (jL _),zK];exact hx
def inB(b d:Nat)(k:xA):Prop:=k.length=16/\qEu k d=b
instance (b d:Nat) (k:xA):Decidable (inB b d k):=by unfold inB;infer_instance
def qHO(b z:Int)(ks:List xA):Nat:=if cnt z=0 then 1 else if 256<ks.length then 22 else if b<0\/((cnt z:Nat):Int)<=b then 10 else if∀k∈ks,inB b.toNat z.toNat k then 0 else 10
theorem qE1{b z:Int}{ks:List xA}(h:cnt z=0):qHO b z ks=1:=yX h
theorem qDo{b z:Int}{ks:List xA}(h: ¬cnt z=0)(h2:256<ks.length):qHO b z ks=22:=by unfold qHO;rw [yW h,yX h2]
theorem qDp{b z:Int}{ks:List xA}(h: ¬cnt z=0)(h2: ¬256<ks.length)(h3:b<0\/((cnt z:Nat):Int)<=b):qHO b z ks=10:=by unfold qHO;rw [yW h,yW h2,yX h3]
theorem qDn{b z:Int}{ks:List xA}(h: ¬cnt z=0)(h2: ¬256<ks.length)(h3: ¬(b<0\/((cnt z:Nat):Int)<=b)){k:xA}(hk:k∈ks)(hn: ¬inB b.toNat z.toNat k):qHO b z ks=10:=by unfold qHO;rw [yW h,yW h2,yW h3,yW (λe=>hn (e k hk))]
theorem qEI{b z:Int}{ks:List xA}(h: ¬cnt z=0)(h2: ¬256<ks.length)(h3: ¬(b<0\/((cnt z:Nat):Int)<=b))(hk: ∀k∈ks,inB b.toNat z.toNat k):qHO b z ks=0:=by unfold qHO;rw [yW h,yW h2,yW h3,yX hk]
theorem qL4.may{b d:Nat}{cl:List Chg}(h:qL4 b d cl)(hd:d<=4)(hb:b<2^d):qHO b d (cl.map Chg.k)=0:=by
 refine qEI (by rw [qD2 hd];have:=qTO hd;omega) (by rw [jJ];have:=h.len;omega) (by rw [qD2 hd];omega) λk hk=>?_
 obtain ⟨x,hx,rfl⟩:=List.mem_map.1 hk
 exact⟨h.k16 x hx,by rw [jd,jd];exact h.bnd x hx⟩
theorem qSJ(cl:List Chg){i:Nat}(h:i<cl.length):(cl.take (i+1)).map Chg.k=(cl.take i).map Chg.k++ [(cl.getD i qAy).k]:=by rw [qDq cl i qAy h,jN];rfl
theorem qOw(L:List qBA){i:Nat}(h:i<L.length):(L.take (i+1)).map qBA.k=(L.take i).map qBA.k++ [(L.getD i qAW).k]:=by rw [qDq L i qAW h,jN];rfl
theorem qV7{p:xA->Prop}{ks:List xA}{i:Nat}(hi:i<ks.length)(h: ∀k∈ks.take i,p k)(hk:p (ks.getD i [])): ∀k∈ks.take (i+1),p k:=by
 rw [qDq ks i [] hi]
 intro k hm
 rcases List.mem_append.1 hm with hm|hm
 . exact h k hm
 . rw [List.mem_singleton.1 hm];exact hk
theorem qSI{ks:List xA}{i:Nat}(hi:i<ks.length):ks.getD i []∈ks:=by
 rw [jB,jD hi];exact jU hi
theorem qVl{cl:List Chg}{L:List qBA}{i:Nat}(hi:i<cl.length)(h:L.map qBA.chg=cl.take i){x:qBA}(hk:x.k=(cl.getD i qAy).k)(hv:x.v=(cl.getD i qAy).v):(L++ [x]).map qBA.chg=cl.take (i+1):=by
 rw [qDq cl i qAy hi,jN,h]
 congr 1
 show [(⟨x.k,x.v⟩:Chg)]=_
 rw [hk,hv]
theorem qL4.smallK{b d:Nat}{cl:List Chg}(h:qL4 b d cl)(j:Nat):((cl.map Chg.k).getD j []).length<=1000000:=by
  rw [jB,jO]
  by_cases hj:j<cl.length
  . rw [jD hj]
    have:=h.k16 _ (jU hj)
    show(cl[j].k).length<=1000000
    rw [this];decide
  . rw [je xB];decide
def qHr(cl:List Chg)(i:Nat):List xA:=(cl.take i).map Chg.k
theorem qI3{cl:List Chg}{i:Nat}(h:i<cl.length):qHr cl (i+1)=qHr cl i++ [(cl.getD i qAy).k]:=qSJ cl h
theorem qSM{cl:List Chg}{i:Nat}(h:i<=cl.length):(qHr cl i).length=i:=by unfold qHr;rw [jJ,jF];omega
theorem qSN(cl:List Chg):qHr cl cl.length=cl.map Chg.k:=by unfold qHr;rw [jn]
def qHp(L:List qBA)(i:Nat):List xA:=(L.take i).map qBA.k
theorem qI2{L:List qBA}{i:Nat}(h:i<L.length):qHp L (i+1)=qHp L i++ [(L.getD i qAW).k]:=qOw L h
theorem qSK{L:List qBA}{i:Nat}(h:i<=L.length):(qHp L i).length=i:=by unfold qHp;rw [jJ,jF];omega
theorem qSL(L:List qBA):qHp L L.length=L.map qBA.k:=by unfold qHp;rw [jn]
theorem qaK{b:Int}{d:Nat}{k:xA}(h0:0<=b):inB b.toNat d k↔ofE k=0/\((ofV k d:Nat):Int)=b:=by
  unfold inB ofE ofV
  split
  . rename_i h
    constructor
    . intro h2;exact⟨O,xB⟩
    . intro h2;exact⟨h,xB⟩
  . rename_i h
    constructor
    . intro h2;exact absurd h2.1 h
    . intro h2;exact absurd h2.1 xC
structure MkR where
 A:yS
 c:Nat
 ms:Hp
 g:Nat
 mt:Hp
 M:Hp
 L:List qBA
structure MkP (l:List Sm.PR) (d:Nat) (cl:List Chg) (r:MkR):Prop where
 chg:r.L.map qBA.chg=cl
 ok:qCe l d r.L
 row:Row r.ms 160 6 r.A r.L.length r.c (qGZ r.L)
 tree:qGg r.mt r.g (kvC l cl)
 bs:qPh r.M r.L
end Go.Proofs.YtmemgokiolfdoaaGreatDoor