/- A part of the proof. -/
import Derived.Test.YtcgcjaflllmlpaaGreatDoorTopCfG30
import Derived.Test.YtcgcjaflllmlpaaGreatDoorTopCfG27
import Derived.Test.YtcgcjaflllmlpaaGreatDoorTopCfG32
set_option linter.unusedSimpArgs false
set_option linter.unusedVariables false
namespace Go.Proofs.YtcgcjaflllmlpaaGreatDoor
open Go Go.Fw Go.Proofs.Tryz
set_option maxRecDepth 100000
set_option maxHeartbeats 1000000
structure Chg where
 k:List UInt8
 v:List UInt8
 deriving DecidableEq
def Chg.cells(x:Chg):List Value:= [Str (x.k),Str (x.v)]
def qAu:Chg:=⟨[],[]⟩
def qDR(l:List Chg):List (List Value):=l.map Chg.cells
theorem qG2{l:List Chg}{k:Nat}(h:k<l.length):(qDR l)[k]?=some (l.getD k qAu).cells:=by
 unfold qDR
 rw [jO,qAj qAu h];rfl
theorem qH1(a:List Chg)(x:Chg):qDR (a++ [x])=qDR a++ [x.cells]:=by simp [qDR]
structure qBe where
 k:List UInt8
 v:List UInt8
 bsA:Option Addr
 bsc:Nat
 bs:List (List UInt8)
 th:Bool
 pk:List UInt8
 pv:List UInt8
def qBe.cells(x:qBe):List Value:= [Str (x.k),Str (x.v),.slice x.bsA x.bs.length x.bsc,.bool (x.th),Str (x.pk),Str (x.pv)]
def qGj:qBe:=⟨[],[],none,0,[],false,[],[]⟩
def qJj(l:List qBe):List (List Value):=l.map qBe.cells
theorem qN2(a:List qBe)(x:qBe):qJj (a++ [x])=qJj a++ [x.cells]:=by simp [qJj]
theorem qGl{a b:Hp}(h:Dj a b):Le a (U [a,b]):=qEy (qAZ.2 (by simpa using h)) (.head _)
theorem qSL{a b:Hp}(h:Dj a b):Le b (U [a,b]):=qEy (qAZ.2 (by simpa using h)) (.tail _ (.head _))
def qBe.chg(x:qBe):Chg:=⟨x.k,x.v⟩
def kvC(l:List Sm.PR)(cl:List Chg):List Sm.PR:=cl.foldl (λl x=>Sm.putP l x.k x.v) l
theorem qTx(l:List Sm.PR)(cl:List Chg)(x:Chg):kvC l (cl++ [x])=Sm.putP (kvC l cl) x.k x.v:=by unfold kvC;rw [List.foldl_append];rfl
theorem qDt{α:Type}(l:List α)(i:Nat)(no:α)(h:i<l.length):l.take (i+1)=l.take i++ [l.getD i no]:=by
 rw [jP h,jB,jC h];rfl
theorem qTw{l:List Sm.PR}{cl:List Chg}{i:Nat}(h:i<cl.length):kvC l (cl.take (i+1))=Sm.putP (kvC l (cl.take i)) (cl.getD i qAu).k (cl.getD i qAu).v:=by
 rw [qDt cl i qAu h,qTx]
theorem qQ2(l:List Sm.PR)(cl:List Chg):(kvC l cl).length≤l.length+cl.length:=by
 induction cl generalizing l with
 |nil=>exact jK _
 |cons x r ih=>
  have h1:=ih (Sm.putP l x.k x.v)
  have h2:=Sm.putP_len l x.k x.v
  show(kvC (Sm.putP l x.k x.v) r).length≤l.length+(r.length+1)
  omega
structure qSQ (b d:Nat) (cl:List Chg):Prop where
 len:cl.length≤256
 k16: ∀x∈cl,x.k.length=16
 bnd: ∀x∈cl,qFN x.k d=b
 val: ∀x∈cl,x.v.length≤1000000
theorem qSQ.at{b d:Nat}{cl:List Chg}(h:qSQ b d cl){i:Nat}(hi:i<cl.length):(cl.getD i qAu).k.length=16∧qFN (cl.getD i qAu).k d=b∧(cl.getD i qAu).v.length≤1000000:=by
 rw [jB,jC hi]
 exact⟨h.k16 _ (jX hi),h.bnd _ (jX hi),h.val _ (jX hi)⟩
theorem qNO{l:List Sm.PR}{cl:List Chg}(hf:qCJ l)(h16: ∀x∈cl,x.k.length=16)(hv: ∀x∈cl,x.v.length≤1000000)(hn:l.length+cl.length≤100000):qCJ (kvC l cl):=by
 induction cl generalizing l with
 |nil=>exact hf
 |cons x r ih=>
  rw [jD] at hn
  refine ih (l:=Sm.putP l x.k x.v) (hf.put (h16 x (.head _)) (hv x (.head _)) (by omega)) (λy hy=>h16 y (.tail _ hy)) (λy hy=>hv y (.tail _ hy)) ?_
  have h2:=Sm.putP_len l x.k x.v
  omega
theorem qSQ.fine{b d:Nat}{cl:List Chg}(h:qSQ b d cl){l:List Sm.PR}(hf:qCJ l)(hn:l.length≤90000)(i:Nat):qCJ (kvC l (cl.take i)):=
 qNO hf (λx hx=>h.k16 x (yF hx)) (λx hx=>h.val x (yF hx)) (by rw [jF];have:=h.len;omega)
structure qKw (l:List Sm.PR) (d:Nat) (x:qBe):Prop where
 good:qK0 x.bs x.th x.pk x.pv x.k d
 pv:x.pv.length≤1000000
 val:x.v.length≤1000000
 node:qFS x.bs x.th x.pk x.pv x.k d=Sm.ndB l x.k d
 after:qR8 x.bs x.th x.pk x.pv x.k x.v d=Sm.ndB (Sm.putP l x.k x.v) x.k d
theorem qKw.of{l:List Sm.PR}(hf:qCJ l)(hn:l.length≤100000){k v:List UInt8}(hk:k.length=16)(hv:v.length≤1000000){d s:Nat}(h:qKv l k d s)(A:Option Addr)(c:Nat):
    qKw l d ⟨k,v,A,c,bsd l k d (s-d),qAo l k s,qBo l k s,qBr l k s⟩:=
  ⟨qE7 hf hk h,qE9 hf k s,hv,qHc hf hk h,qLU hf hk hv hn h⟩
def qDL(l:List Sm.PR)(d:Nat)(L:List qBe):Prop:= ∀i,i<L.length→qKw (kvC l ((L.map qBe.chg).take i)) d (L.getD i qGj)
theorem qDL.nil(l:List Sm.PR)(d:Nat):qDL l d []:=λi h=>absurd h (zA i)
theorem qDL.snoc{l:List Sm.PR}{d:Nat}{L:List qBe}{x:qBe}(h:qDL l d L)(hx:qKw (kvC l (L.map qBe.chg)) d x):qDL l d (L++ [x]):=λi hi=>by
  rw [jA,jH] at hi
  rw [jM]
  by_cases hlt:i<L.length
  · rw [List.take_append_of_le_length (by rw [jN];omega),jB,jh hlt,←jB]
    exact h i hlt
  · obtain rfl:i=L.length:=by omega
    have e:(L.map qBe.chg++ [x].map qBe.chg).take L.length=L.map qBe.chg:=List.take_left' (jN qBe.chg)
    rw [e,jB,ji (jK _),zH]
    exact hx
def qOz(M:Hp)(L:List qBe):Prop:= ∀i,i<L.length→Sl M 1 (L.getD i qGj).bsA (L.getD i qGj).bs.length (L.getD i qGj).bsc (qAI (L.getD i qGj).bs)
theorem qOz.nil(M:Hp):qOz M []:=λi h=>absurd h (zA i)
theorem qOz.mono{M M':Hp}{L:List qBe}(h:qOz M L)(hl:Le M M'):qOz M' L:=λi hi=>(h i hi).mono hl
theorem qOz.snoc{M:Hp}{L:List qBe}{x:qBe}(h:qOz M L)(hx:Sl M 1 x.bsA x.bs.length x.bsc (qAI x.bs)):qOz M (L++ [x]):=λi hi=>by
  rw [jA,jH] at hi
  rw [jB]
  by_cases hlt:i<L.length
  · rw [jh hlt,←jB];exact h i hlt
  · obtain rfl:i=L.length:=by omega
    rw [ji (jK _),zH];exact hx
def inB(b d:Nat)(k:List UInt8):Prop:=k.length=16∧qFN k d=b
instance (b d:Nat) (k:List UInt8):Decidable (inB b d k):=by unfold inB;infer_instance
def qGI(b z:Int)(ks:List (List UInt8)):Nat:=if cnt z=0 then 1 else if 256<ks.length then 22 else if b<0∨((cnt z:Nat):Int)≤b then 10 else if∀k∈ks,inB b.toNat z.toNat k then 0 else 10
theorem qEG{b z:Int}{ks:List (List UInt8)}(h:cnt z=0):qGI b z ks=1:=if_pos h
theorem qC9{b z:Int}{ks:List (List UInt8)}(h: ¬cnt z=0)(h2:256<ks.length):qGI b z ks=22:=by unfold qGI;rw [if_neg h,if_pos h2]
theorem qDA{b z:Int}{ks:List (List UInt8)}(h: ¬cnt z=0)(h2: ¬256<ks.length)(h3:b<0∨((cnt z:Nat):Int)≤b):qGI b z ks=10:=by unfold qGI;rw [if_neg h,if_neg h2,if_pos h3]
theorem qC8{b z:Int}{ks:List (List UInt8)}(h: ¬cnt z=0)(h2: ¬256<ks.length)(h3: ¬(b<0∨((cnt z:Nat):Int)≤b)){k:List UInt8}(hk:k∈ks)(hn: ¬inB b.toNat z.toNat k):qGI b z ks=10:=by unfold qGI;rw [if_neg h,if_neg h2,if_neg h3,if_neg (λe=>hn (e k hk))]
theorem qDZ{b z:Int}{ks:List (List UInt8)}(h: ¬cnt z=0)(h2: ¬256<ks.length)(h3: ¬(b<0∨((cnt z:Nat):Int)≤b))(hk: ∀k∈ks,inB b.toNat z.toNat k):qGI b z ks=0:=by unfold qGI;rw [if_neg h,if_neg h2,if_neg h3,if_pos hk]
theorem qSQ.may{b d:Nat}{cl:List Chg}(h:qSQ b d cl)(hd:d≤4)(hb:b<2^d):qGI b d (cl.map Chg.k)=0:=by
 refine qDZ (by rw [qCt hd];have:=qWV hd;omega) (by rw [jN];have:=h.len;omega) (by rw [qCt hd];omega) λk hk=>?_
 obtain ⟨x,hx,rfl⟩:=List.mem_map.1 hk
 exact⟨h.k16 x hx,by rw [jT,jT];exact h.bnd x hx⟩
theorem qQ4(cl:List Chg){i:Nat}(h:i<cl.length):(cl.take (i+1)).map Chg.k=(cl.take i).map Chg.k++ [(cl.getD i qAu).k]:=by rw [qDt cl i qAu h,jM];rfl
theorem qUg{p:List UInt8→Prop}{ks:List (List UInt8)}{i:Nat}(hi:i<ks.length)(h: ∀k∈ks.take i,p k)(hk:p (ks.getD i [])): ∀k∈ks.take (i+1),p k:=by
 rw [qDt ks i [] hi]
 intro k hm
 rcases List.mem_append.1 hm with hm|hm
 · exact h k hm
 · rw [List.mem_singleton.1 hm];exact hk
theorem qQ3{ks:List (List UInt8)}{i:Nat}(hi:i<ks.length):ks.getD i []∈ks:=by
 rw [jB,jC hi];exact jX hi
theorem qUO{cl:List Chg}{L:List qBe}{i:Nat}(hi:i<cl.length)(h:L.map qBe.chg=cl.take i){x:qBe}(hk:x.k=(cl.getD i qAu).k)(hv:x.v=(cl.getD i qAu).v):(L++ [x]).map qBe.chg=cl.take (i+1):=by
 rw [qDt cl i qAu hi,jM,h]
 congr 1
 show [(⟨x.k,x.v⟩:Chg)]=_
 rw [hk,hv]
theorem qSQ.smallK{b d:Nat}{cl:List Chg}(h:qSQ b d cl)(j:Nat):((cl.map Chg.k).getD j []).length≤1000000:=by
  rw [jB,jO]
  by_cases hj:j<cl.length
  · rw [jC hj]
    have:=h.k16 _ (jX hj)
    show(cl[j].k).length≤1000000
    rw [this];decide
  · rw [jg (by omega)];decide
def qGp(cl:List Chg)(i:Nat):List (List UInt8):=(cl.take i).map Chg.k
theorem qHp{cl:List Chg}{i:Nat}(h:i<cl.length):qGp cl (i+1)=qGp cl i++ [(cl.getD i qAu).k]:=qQ4 cl h
theorem qQ5{cl:List Chg}{i:Nat}(h:i≤cl.length):(qGp cl i).length=i:=by unfold qGp;rw [jN,jF];omega
theorem qQ6(cl:List Chg):qGp cl cl.length=cl.map Chg.k:=by unfold qGp;rw [jo]
theorem qYh{b:Int}{d:Nat}{k:List UInt8}(h0:0≤b):inB b.toNat d k↔ofE k=0∧((ofV k d:Nat):Int)=b:=by
  unfold inB ofE ofV
  split
  · rename_i h
    constructor
    · intro h2;exact⟨rfl,by omega⟩
    · intro h2;exact⟨h,by omega⟩
  · rename_i h
    constructor
    · intro h2;exact absurd h2.1 h
    · intro h2;exact absurd h2.1 (by decide)
structure MkR where
 A:Option Addr
 c:Nat
 ms:Hp
 g:Nat
 mt:Hp
 M:Hp
 L:List qBe
structure MkP (l:List Sm.PR) (d:Nat) (cl:List Chg) (r:MkR):Prop where
 chg:r.L.map qBe.chg=cl
 ok:qDL l d r.L
 row:Row r.ms 234 6 r.A r.L.length r.c (qJj r.L)
 tree:qFg r.mt r.g (kvC l cl)
 bs:qOz r.M r.L
end Go.Proofs.YtcgcjaflllmlpaaGreatDoor
