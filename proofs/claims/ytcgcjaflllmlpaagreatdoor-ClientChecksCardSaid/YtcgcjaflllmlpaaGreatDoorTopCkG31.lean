/- A part of the proof. -/
import Derived.Test.YtcgcjaflllmlpaaGreatDoorTopCkG28
import Derived.Test.YtcgcjaflllmlpaaGreatDoorTopCkG30
set_option maxRecDepth 100000
set_option maxHeartbeats 1000000
set_option linter.unusedSimpArgs false
set_option linter.unusedVariables false
namespace Go.Proofs.YtcgcjaflllmlpaaGreatDoor
open Go Go.Fw Go.Proofs.Tryz
structure Chg where
 k:xA
 v:xA
 deriving DecidableEq
def Chg.cells(x:Chg):List Value:= [Str (x.k),Str (x.v)]
def qAv:Chg:=⟨[],[]⟩
def qDi(l:List Chg):List (List Value):=l.map Chg.cells
theorem qHX{l:List Chg}{k:Nat}(h:k<l.length):(qDi l)[k]?=some (l.getD k qAv).cells:=by
 unfold qDi
 rw [jN,qAi qAv h];rfl
theorem qIT(a:List Chg)(x:Chg):qDi (a++ [x])=qDi a++ [x.cells]:=by simp [qDi]
structure qBi where
 k:xA
 v:xA
 bsA:Option Addr
 bsc:Nat
 bs:List xA
 th:Bool
 pk:xA
 pv:xA
def qBi.cells(x:qBi):List Value:= [Str (x.k),Str (x.v),.slice x.bsA x.bs.length x.bsc,.bool (x.th),Str (x.pk),Str (x.pv)]
def qHA:qBi:=⟨[],[],none,0,[],false,[],[]⟩
def qJ6(l:List qBi):List (List Value):=l.map qBi.cells
theorem qOd(a:List qBi)(x:qBi):qJ6 (a++ [x])=qJ6 a++ [x.cells]:=by simp [qJ6]
theorem qHF{a b:Hp}(h:Dj a b):Le a (U [a,b]):=qFO (qAd.2 (by simpa using h)) (.head _)
theorem qSz{a b:Hp}(h:Dj a b):Le b (U [a,b]):=qFO (qAd.2 (by simpa using h)) (.tail _ (.head _))
def qBi.chg(x:qBi):Chg:=⟨x.k,x.v⟩
def kvC(l:List Sm.PR)(cl:List Chg):List Sm.PR:=cl.foldl (λl x=>Sm.putP l x.k x.v) l
theorem qUb(l:List Sm.PR)(cl:List Chg)(x:Chg):kvC l (cl++ [x])=Sm.putP (kvC l cl) x.k x.v:=by unfold kvC;rw [List.foldl_append];rfl
theorem qEC{α:Type}(l:List α)(i:Nat)(no:α)(h:i<l.length):l.take (i+1)=l.take i++ [l.getD i no]:=by
 rw [jQ h,jB,jC h];rfl
theorem qUa{l:List Sm.PR}{cl:List Chg}{i:Nat}(h:i<cl.length):kvC l (cl.take (i+1))=Sm.putP (kvC l (cl.take i)) (cl.getD i qAv).k (cl.getD i qAv).v:=by
 rw [qEC cl i qAv h,qUb]
theorem qRe(l:List Sm.PR)(cl:List Chg):(kvC l cl).length≤l.length+cl.length:=by
 induction cl generalizing l with
 |nil=>exact jK _
 |cons x r ih=>
  have h1:=ih (Sm.putP l x.k x.v)
  have h2:=Sm.putP_len l x.k x.v
  show(kvC (Sm.putP l x.k x.v) r).length≤l.length+(r.length+1)
  omega
structure qS4 (b d:Nat) (cl:List Chg):Prop where
 len:cl.length≤256
 k16: ∀x∈cl,x.k.length=16
 bnd: ∀x∈cl,qFm x.k d=b
 val: ∀x∈cl,x.v.length≤1000000
theorem qS4.at{b d:Nat}{cl:List Chg}(h:qS4 b d cl){i:Nat}(hi:i<cl.length):(cl.getD i qAv).k.length=16∧qFm (cl.getD i qAv).k d=b∧(cl.getD i qAv).v.length≤1000000:=by
 rw [jB,jC hi]
 exact⟨h.k16 _ (ja hi),h.bnd _ (ja hi),h.val _ (ja hi)⟩
theorem qNm{l:List Sm.PR}{cl:List Chg}(hf:qCE l)(h16: ∀x∈cl,x.k.length=16)(hv: ∀x∈cl,x.v.length≤1000000)(hn:l.length+cl.length≤100000):qCE (kvC l cl):=by
 induction cl generalizing l with
 |nil=>exact hf
 |cons x r ih=>
  rw [jD] at hn
  refine ih (l:=Sm.putP l x.k x.v) (hf.put (h16 x (.head _)) (hv x (.head _)) xB) (λy hy=>h16 y (.tail _ hy)) (λy hy=>hv y (.tail _ hy)) ?_
  have h2:=Sm.putP_len l x.k x.v
  omega
theorem qS4.fine{b d:Nat}{cl:List Chg}(h:qS4 b d cl){l:List Sm.PR}(hf:qCE l)(hn:l.length≤90000)(i:Nat):qCE (kvC l (cl.take i)):=
 qNm hf (λx hx=>h.k16 x (yI hx)) (λx hx=>h.val x (yI hx)) (by rw [jF];have:=h.len;omega)
structure qLJ (l:List Sm.PR) (d:Nat) (x:qBi):Prop where
 good:qHb x.bs x.th x.pk x.pv x.k d
 pv:x.pv.length≤1000000
 val:x.v.length≤1000000
 node:qFq x.bs x.th x.pk x.pv x.k d=Sm.ndB l x.k d
 after:qSn x.bs x.th x.pk x.pv x.k x.v d=Sm.ndB (Sm.putP l x.k x.v) x.k d
theorem qLJ.of{l:List Sm.PR}(hf:qCE l)(hn:l.length≤100000){k v:xA}(hk:k.length=16)(hv:v.length≤1000000){d s:Nat}(h:qGR l k d s)(A:Option Addr)(c:Nat):
    qLJ l d ⟨k,v,A,c,bsd l k d (s-d),qAm l k s,qBm l k s,qBs l k s⟩:=
  ⟨qEG hf hk h,qEJ hf k s,hv,qFX hf hk h,qLu hf hk hv hn h⟩
def qDb(l:List Sm.PR)(d:Nat)(L:List qBi):Prop:= ∀i,i<L.length→qLJ (kvC l ((L.map qBi.chg).take i)) d (L.getD i qHA)
theorem qDb.nil(l:List Sm.PR)(d:Nat):qDb l d []:=λi h=>absurd h (jy i)
theorem qDb.snoc{l:List Sm.PR}{d:Nat}{L:List qBi}{x:qBi}(h:qDb l d L)(hx:qLJ (kvC l (L.map qBi.chg)) d x):qDb l d (L++ [x]):=λi hi=>by
  rw [jA,jI] at hi
  rw [jM]
  by_cases hlt:i<L.length
  · rw [List.take_append_of_le_length (by rw [jO];omega),jB,jj hlt,←jB]
    exact h i hlt
  · obtain rfl:i=L.length:=by omega
    have e:(L.map qBi.chg++ [x].map qBi.chg).take L.length=L.map qBi.chg:=List.take_left' (jO qBi.chg)
    rw [e,jB,jk (jK _),zH]
    exact hx
def qPb(M:Hp)(L:List qBi):Prop:= ∀i,i<L.length→Sl M 1 (L.getD i qHA).bsA (L.getD i qHA).bs.length (L.getD i qHA).bsc (qAG (L.getD i qHA).bs)
theorem qPb.nil(M:Hp):qPb M []:=λi h=>absurd h (jy i)
theorem qPb.mono{M M':Hp}{L:List qBi}(h:qPb M L)(hl:Le M M'):qPb M' L:=λi hi=>(h i hi).mono hl
theorem qPb.snoc{M:Hp}{L:List qBi}{x:qBi}(h:qPb M L)(hx:Sl M 1 x.bsA x.bs.length x.bsc (qAG x.bs)):qPb M (L++ [x]):=λi hi=>by
  rw [jA,jI] at hi
  rw [jB]
  by_cases hlt:i<L.length
  · rw [jj hlt,←jB];exact h i hlt
  · obtain rfl:i=L.length:=by omega
    rw [jk (jK _),zH];exact hx
def inB(b d:Nat)(k:xA):Prop:=k.length=16∧qFm k d=b
instance (b d:Nat) (k:xA):Decidable (inB b d k):=by unfold inB;infer_instance
def qGg(b z:Int)(ks:List xA):Nat:=if cnt z=0 then 1 else if 256<ks.length then 22 else if b<0∨((cnt z:Nat):Int)≤b then 10 else if∀k∈ks,inB b.toNat z.toNat k then 0 else 10
theorem qEf{b z:Int}{ks:List xA}(h:cnt z=0):qGg b z ks=1:=if_pos h
theorem qDO{b z:Int}{ks:List xA}(h: ¬cnt z=0)(h2:256<ks.length):qGg b z ks=22:=by unfold qGg;rw [if_neg h,if_pos h2]
theorem qDP{b z:Int}{ks:List xA}(h: ¬cnt z=0)(h2: ¬256<ks.length)(h3:b<0∨((cnt z:Nat):Int)≤b):qGg b z ks=10:=by unfold qGg;rw [if_neg h,if_neg h2,if_pos h3]
theorem qDN{b z:Int}{ks:List xA}(h: ¬cnt z=0)(h2: ¬256<ks.length)(h3: ¬(b<0∨((cnt z:Nat):Int)≤b)){k:xA}(hk:k∈ks)(hn: ¬inB b.toNat z.toNat k):qGg b z ks=10:=by unfold qGg;rw [if_neg h,if_neg h2,if_neg h3,if_neg (λe=>hn (e k hk))]
theorem qDo{b z:Int}{ks:List xA}(h: ¬cnt z=0)(h2: ¬256<ks.length)(h3: ¬(b<0∨((cnt z:Nat):Int)≤b))(hk: ∀k∈ks,inB b.toNat z.toNat k):qGg b z ks=0:=by unfold qGg;rw [if_neg h,if_neg h2,if_neg h3,if_pos hk]
theorem qS4.may{b d:Nat}{cl:List Chg}(h:qS4 b d cl)(hd:d≤4)(hb:b<2^d):qGg b d (cl.map Chg.k)=0:=by
 refine qDo (by rw [qC5 hd];have:=qXL hd;omega) (by rw [jO];have:=h.len;omega) (by rw [qC5 hd];omega) λk hk=>?_
 obtain ⟨x,hx,rfl⟩:=List.mem_map.1 hk
 exact⟨h.k16 x hx,by rw [jP,jP];exact h.bnd x hx⟩
theorem qRh(cl:List Chg){i:Nat}(h:i<cl.length):(cl.take (i+1)).map Chg.k=(cl.take i).map Chg.k++ [(cl.getD i qAv).k]:=by rw [qEC cl i qAv h,jM];rfl
theorem qVK{p:xA→Prop}{ks:List xA}{i:Nat}(hi:i<ks.length)(h: ∀k∈ks.take i,p k)(hk:p (ks.getD i [])): ∀k∈ks.take (i+1),p k:=by
 rw [qEC ks i [] hi]
 intro k hm
 rcases List.mem_append.1 hm with hm|hm
 · exact h k hm
 · rw [List.mem_singleton.1 hm];exact hk
theorem qRg{ks:List xA}{i:Nat}(hi:i<ks.length):ks.getD i []∈ks:=by
 rw [jB,jC hi];exact ja hi
theorem qU1{cl:List Chg}{L:List qBi}{i:Nat}(hi:i<cl.length)(h:L.map qBi.chg=cl.take i){x:qBi}(hk:x.k=(cl.getD i qAv).k)(hv:x.v=(cl.getD i qAv).v):(L++ [x]).map qBi.chg=cl.take (i+1):=by
 rw [qEC cl i qAv hi,jM,h]
 congr 1
 show [(⟨x.k,x.v⟩:Chg)]=_
 rw [hk,hv]
theorem qS4.smallK{b d:Nat}{cl:List Chg}(h:qS4 b d cl)(j:Nat):((cl.map Chg.k).getD j []).length≤1000000:=by
  rw [jB,jN]
  by_cases hj:j<cl.length
  · rw [jC hj]
    have:=h.k16 _ (ja hj)
    show(cl[j].k).length≤1000000
    rw [this];decide
  · rw [ji xB];decide
def qHI(cl:List Chg)(i:Nat):List xA:=(cl.take i).map Chg.k
theorem qII{cl:List Chg}{i:Nat}(h:i<cl.length):qHI cl (i+1)=qHI cl i++ [(cl.getD i qAv).k]:=qRh cl h
theorem qRi{cl:List Chg}{i:Nat}(h:i≤cl.length):(qHI cl i).length=i:=by unfold qHI;rw [jO,jF];omega
theorem qRj(cl:List Chg):qHI cl cl.length=cl.map Chg.k:=by unfold qHI;rw [jp]
theorem qZb{b:Int}{d:Nat}{k:xA}(h0:0≤b):inB b.toNat d k↔ofE k=0∧((ofV k d:Nat):Int)=b:=by
  unfold inB ofE ofV
  split
  · rename_i h
    constructor
    · intro h2;exact⟨O,xB⟩
    · intro h2;exact⟨h,xB⟩
  · rename_i h
    constructor
    · intro h2;exact absurd h2.1 h
    · intro h2;exact absurd h2.1 xC
structure MkR where
 A:Option Addr
 c:Nat
 ms:Hp
 g:Nat
 mt:Hp
 M:Hp
 L:List qBi
structure MkP (l:List Sm.PR) (d:Nat) (cl:List Chg) (r:MkR):Prop where
 chg:r.L.map qBi.chg=cl
 ok:qDb l d r.L
 row:Row r.ms 234 6 r.A r.L.length r.c (qJ6 r.L)
 tree:qF3 r.mt r.g (kvC l cl)
 bs:qPb r.M r.L
end Go.Proofs.YtcgcjaflllmlpaaGreatDoor