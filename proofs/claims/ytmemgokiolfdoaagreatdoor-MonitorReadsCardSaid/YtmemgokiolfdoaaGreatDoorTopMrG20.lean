/- A part of the proof. -/
import Derived.Test.YtmemgokiolfdoaaGreatDoorTopMrG18
import Derived.Test.YtmemgokiolfdoaaGreatDoorTopMrG19
set_option maxRecDepth 100000
set_option maxHeartbeats 1000000
set_option linter.unusedSimpArgs false
set_option linter.unusedVariables false
namespace Go.Proofs.YtmemgokiolfdoaaGreatDoor
open Go Go.Fw Go.Proofs.Tryz
structure Chg where
 k:xA
 v:xA
 deriving DecidableEq
def Chg.cells(x:Chg):List Value:= [Str (x.k),Str (x.v)]
def qAs:Chg:=⟨[],[]⟩
def qDU(l:List Chg):List (List Value):=l.map Chg.cells
theorem qG7{l:List Chg}{k:Nat}(h:k<l.length):(qDU l)[k]?=some (l.getD k qAs).cells:=by
 unfold qDU
 rw [jN,qAh qAs h];rfl
theorem qH6(a:List Chg)(x:Chg):qDU (a++ [x])=qDU a++ [x.cells]:=by simp [qDU]
structure qBa where
 k:xA
 v:xA
 bsA:Option Addr
 bsc:Nat
 bs:List xA
 th:Bool
 pk:xA
 pv:xA
def qBa.cells(x:qBa):List Value:= [Str (x.k),Str (x.v),.slice x.bsA x.bs.length x.bsc,.bool (x.th),Str (x.pk),Str (x.pv)]
def qGo:qBa:=⟨[],[],none,0,[],false,[],[]⟩
def qJW(l:List qBa):List (List Value):=l.map qBa.cells
theorem qNa(a:List qBa)(x:qBa):qJW (a++ [x])=qJW a++ [x.cells]:=by simp [qJW]
theorem qGq{a b:Hp}(h:Dj a b):Le a (U [a,b]):=qFV (qAU.2 (by simpa using h)) (.head _)
theorem qRP{a b:Hp}(h:Dj a b):Le b (U [a,b]):=qFV (qAU.2 (by simpa using h)) (.tail _ (.head _))
def qBa.chg(x:qBa):Chg:=⟨x.k,x.v⟩
def kvC(l:List Sm.PR)(cl:List Chg):List Sm.PR:=cl.foldl (λl x=>Sm.putP l x.k x.v) l
theorem qSt(l:List Sm.PR)(cl:List Chg)(x:Chg):kvC l (cl++ [x])=Sm.putP (kvC l cl) x.k x.v:=by unfold kvC;rw [List.foldl_append];rfl
theorem qDt{α:Type}(l:List α)(i:Nat)(no:α)(h:i<l.length):l.take (i+1)=l.take i++ [l.getD i no]:=by
 rw [jI h,jB,jC h];rfl
theorem qSs{l:List Sm.PR}{cl:List Chg}{i:Nat}(h:i<cl.length):kvC l (cl.take (i+1))=Sm.putP (kvC l (cl.take i)) (cl.getD i qAs).k (cl.getD i qAs).v:=by
 rw [qDt cl i qAs h,qSt]
theorem qQE(l:List Sm.PR)(cl:List Chg):(kvC l cl).length≤l.length+cl.length:=by
 induction cl generalizing l with
 |nil=>exact jK _
 |cons x r ih=>
  have h1:=ih (Sm.putP l x.k x.v)
  have h2:=Sm.putP_len l x.k x.v
  show(kvC (Sm.putP l x.k x.v) r).length≤l.length+(r.length+1)
  omega
structure qRU (b d:Nat) (cl:List Chg):Prop where
 len:cl.length≤256
 k16: ∀x∈cl,x.k.length=16
 bnd: ∀x∈cl,qFc x.k d=b
 val: ∀x∈cl,x.v.length≤1000000
theorem qRU.at{b d:Nat}{cl:List Chg}(h:qRU b d cl){i:Nat}(hi:i<cl.length):(cl.getD i qAs).k.length=16∧qFc (cl.getD i qAs).k d=b∧(cl.getD i qAs).v.length≤1000000:=by
 rw [jB,jC hi]
 exact⟨h.k16 _ (jS hi),h.bnd _ (jS hi),h.val _ (jS hi)⟩
theorem qMv{l:List Sm.PR}{cl:List Chg}(hf:qCE l)(h16: ∀x∈cl,x.k.length=16)(hv: ∀x∈cl,x.v.length≤1000000)(hn:l.length+cl.length≤100000):qCE (kvC l cl):=by
 induction cl generalizing l with
 |nil=>exact hf
 |cons x r ih=>
  rw [jD] at hn
  refine ih (l:=Sm.putP l x.k x.v) (hf.put (h16 x (.head _)) (hv x (.head _)) xB) (λy hy=>h16 y (.tail _ hy)) (λy hy=>hv y (.tail _ hy)) ?_
  have h2:=Sm.putP_len l x.k x.v
  omega
theorem qRU.fine{b d:Nat}{cl:List Chg}(h:qRU b d cl){l:List Sm.PR}(hf:qCE l)(hn:l.length≤90000)(i:Nat):qCE (kvC l (cl.take i)):=
 qMv hf (λx hx=>h.k16 x (yD hx)) (λx hx=>h.val x (yD hx)) (by rw [jE];have:=h.len;omega)
structure qKk (l:List Sm.PR) (d:Nat) (x:qBa):Prop where
 good:qKn x.bs x.th x.pk x.pv x.k d
 pv:x.pv.length≤1000000
 val:x.v.length≤1000000
 node:qFf x.bs x.th x.pk x.pv x.k d=Sm.ndB l x.k d
 after:qRH x.bs x.th x.pk x.pv x.k x.v d=Sm.ndB (Sm.putP l x.k x.v) x.k d
theorem qKk.of{l:List Sm.PR}(hf:qCE l)(hn:l.length≤100000){k v:xA}(hk:k.length=16)(hv:v.length≤1000000){d s:Nat}(h:qJE l k d s)(A:Option Addr)(c:Nat):
    qKk l d ⟨k,v,A,c,bsd l k d (s-d),qAn l k s,qBj l k s,qBl l k s⟩:=
  ⟨qFL hf hk h,qFN hf k s,hv,qHh hf hk h,qLF hf hk hv hn h⟩
def qDL(l:List Sm.PR)(d:Nat)(L:List qBa):Prop:= ∀i,i<L.length→qKk (kvC l ((L.map qBa.chg).take i)) d (L.getD i qGo)
theorem qDL.nil(l:List Sm.PR)(d:Nat):qDL l d []:=λi h=>absurd h (jw i)
theorem qDL.snoc{l:List Sm.PR}{d:Nat}{L:List qBa}{x:qBa}(h:qDL l d L)(hx:qKk (kvC l (L.map qBa.chg)) d x):qDL l d (L++ [x]):=λi hi=>by
  rw [jA,jL] at hi
  rw [jO]
  by_cases hlt:i<L.length
  · rw [List.take_append_of_le_length (by rw [jP];omega),jB,jb hlt,←jB]
    exact h i hlt
  · obtain rfl:i=L.length:=by omega
    have e:(L.map qBa.chg++ [x].map qBa.chg).take L.length=L.map qBa.chg:=List.take_left' (jP qBa.chg)
    rw [e,jB,jd (jK _),zB]
    exact hx
def qOQ(M:Hp)(L:List qBa):Prop:= ∀i,i<L.length→Sl M 1 (L.getD i qGo).bsA (L.getD i qGo).bs.length (L.getD i qGo).bsc (qAH (L.getD i qGo).bs)
theorem qOQ.nil(M:Hp):qOQ M []:=λi h=>absurd h (jw i)
theorem qOQ.mono{M M':Hp}{L:List qBa}(h:qOQ M L)(hl:Le M M'):qOQ M' L:=λi hi=>(h i hi).mono hl
theorem qOQ.snoc{M:Hp}{L:List qBa}{x:qBa}(h:qOQ M L)(hx:Sl M 1 x.bsA x.bs.length x.bsc (qAH x.bs)):qOQ M (L++ [x]):=λi hi=>by
  rw [jA,jL] at hi
  rw [jB]
  by_cases hlt:i<L.length
  · rw [jb hlt,←jB];exact h i hlt
  · obtain rfl:i=L.length:=by omega
    rw [jd (jK _),zB];exact hx
def inB(b d:Nat)(k:xA):Prop:=k.length=16∧qFc k d=b
instance (b d:Nat) (k:xA):Decidable (inB b d k):=by unfold inB;infer_instance
def qGP(b z:Int)(ks:List xA):Nat:=if cnt z=0 then 1 else if 256<ks.length then 22 else if b<0∨((cnt z:Nat):Int)≤b then 10 else if∀k∈ks,inB b.toNat z.toNat k then 0 else 10
theorem qEJ{b z:Int}{ks:List xA}(h:cnt z=0):qGP b z ks=1:=if_pos h
theorem qC9{b z:Int}{ks:List xA}(h: ¬cnt z=0)(h2:256<ks.length):qGP b z ks=22:=by unfold qGP;rw [if_neg h,if_pos h2]
theorem qDA{b z:Int}{ks:List xA}(h: ¬cnt z=0)(h2: ¬256<ks.length)(h3:b<0∨((cnt z:Nat):Int)≤b):qGP b z ks=10:=by unfold qGP;rw [if_neg h,if_neg h2,if_pos h3]
theorem qC8{b z:Int}{ks:List xA}(h: ¬cnt z=0)(h2: ¬256<ks.length)(h3: ¬(b<0∨((cnt z:Nat):Int)≤b)){k:xA}(hk:k∈ks)(hn: ¬inB b.toNat z.toNat k):qGP b z ks=10:=by unfold qGP;rw [if_neg h,if_neg h2,if_neg h3,if_neg (λe=>hn (e k hk))]
theorem qDZ{b z:Int}{ks:List xA}(h: ¬cnt z=0)(h2: ¬256<ks.length)(h3: ¬(b<0∨((cnt z:Nat):Int)≤b))(hk: ∀k∈ks,inB b.toNat z.toNat k):qGP b z ks=0:=by unfold qGP;rw [if_neg h,if_neg h2,if_neg h3,if_pos hk]
theorem qRU.may{b d:Nat}{cl:List Chg}(h:qRU b d cl)(hd:d≤4)(hb:b<2^d):qGP b d (cl.map Chg.k)=0:=by
 refine qDZ (by rw [qCs hd];have:=qVE hd;omega) (by rw [jP];have:=h.len;omega) (by rw [qCs hd];omega) λk hk=>?_
 obtain ⟨x,hx,rfl⟩:=List.mem_map.1 hk
 exact⟨h.k16 x hx,by rw [jZ,jZ];exact h.bnd x hx⟩
theorem qQG(cl:List Chg){i:Nat}(h:i<cl.length):(cl.take (i+1)).map Chg.k=(cl.take i).map Chg.k++ [(cl.getD i qAs).k]:=by rw [qDt cl i qAs h,jO];rfl
theorem qTb{p:xA→Prop}{ks:List xA}{i:Nat}(hi:i<ks.length)(h: ∀k∈ks.take i,p k)(hk:p (ks.getD i [])): ∀k∈ks.take (i+1),p k:=by
 rw [qDt ks i [] hi]
 intro k hm
 rcases List.mem_append.1 hm with hm|hm
 · exact h k hm
 · rw [List.mem_singleton.1 hm];exact hk
theorem qQF{ks:List xA}{i:Nat}(hi:i<ks.length):ks.getD i []∈ks:=by
 rw [jB,jC hi];exact jS hi
theorem qTL{cl:List Chg}{L:List qBa}{i:Nat}(hi:i<cl.length)(h:L.map qBa.chg=cl.take i){x:qBa}(hk:x.k=(cl.getD i qAs).k)(hv:x.v=(cl.getD i qAs).v):(L++ [x]).map qBa.chg=cl.take (i+1):=by
 rw [qDt cl i qAs hi,jO,h]
 congr 1
 show [(⟨x.k,x.v⟩:Chg)]=_
 rw [hk,hv]
theorem qRU.smallK{b d:Nat}{cl:List Chg}(h:qRU b d cl)(j:Nat):((cl.map Chg.k).getD j []).length≤1000000:=by
  rw [jB,jN]
  by_cases hj:j<cl.length
  · rw [jC hj]
    have:=h.k16 _ (jS hj)
    show(cl[j].k).length≤1000000
    rw [this];decide
  · rw [jc xB];decide
def qGu(cl:List Chg)(i:Nat):List xA:=(cl.take i).map Chg.k
theorem qHv{cl:List Chg}{i:Nat}(h:i<cl.length):qGu cl (i+1)=qGu cl i++ [(cl.getD i qAs).k]:=qQG cl h
theorem qQH{cl:List Chg}{i:Nat}(h:i≤cl.length):(qGu cl i).length=i:=by unfold qGu;rw [jP,jE];omega
theorem qQI(cl:List Chg):qGu cl cl.length=cl.map Chg.k:=by unfold qGu;rw [jn]
theorem qXT{b:Int}{d:Nat}{k:xA}(h0:0≤b):inB b.toNat d k↔ofE k=0∧((ofV k d:Nat):Int)=b:=by
  unfold inB ofE ofV
  split
  · rename_i h
    constructor
    · intro h2;exact⟨O,xB⟩
    · intro h2;exact⟨h,xB⟩
  · rename_i h
    constructor
    · intro h2;exact absurd h2.1 h
    · intro h2;exact absurd h2.1 xC
structure MkR where
 A:Option Addr
 c:Nat
 ms:Hp
 g:Nat
 mt:Hp
 M:Hp
 L:List qBa
structure MkP (l:List Sm.PR) (d:Nat) (cl:List Chg) (r:MkR):Prop where
 chg:r.L.map qBa.chg=cl
 ok:qDL l d r.L
 row:Row r.ms 160 6 r.A r.L.length r.c (qJW r.L)
 tree:qFt r.mt r.g (kvC l cl)
 bs:qOQ r.M r.L
end Go.Proofs.YtmemgokiolfdoaaGreatDoor