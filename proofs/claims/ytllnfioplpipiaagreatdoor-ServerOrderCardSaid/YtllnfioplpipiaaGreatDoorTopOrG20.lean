/- A part of the proof. -/
import Derived.Test.YtllnfioplpipiaaGreatDoorTopOrG18
import Derived.Test.YtllnfioplpipiaaGreatDoorTopOrG19
set_option linter.unusedSimpArgs false
set_option linter.unusedVariables false
namespace Go.Proofs.YtllnfioplpipiaaGreatDoor
open Go Go.Fw Go.Proofs.Tryz
set_option maxRecDepth 100000
set_option maxHeartbeats 1000000
structure Chg where
 k:List UInt8
 v:List UInt8
 deriving DecidableEq
def Chg.cells(x:Chg):List Value:= [Str (x.k),Str (x.v)]
def qAU:Chg:=⟨[],[]⟩
def qCW(l:List Chg):List (List Value):=l.map Chg.cells
theorem qFq{l:List Chg}{k:Nat}(h:k<l.length):(qCW l)[k]?=some (l.getD k qAU).cells:=by
 unfold qCW
 rw [List.getElem?_map,qAc qAU h];rfl
theorem qGh(a:List Chg)(x:Chg):qCW (a++ [x])=qCW a++ [x.cells]:=by simp [qCW]
structure qBP where
 k:List UInt8
 v:List UInt8
 bsA:Option Addr
 bsc:Nat
 bs:List (List UInt8)
 th:Bool
 pk:List UInt8
 pv:List UInt8
def qBP.cells(x:qBP):List Value:= [Str (x.k),Str (x.v),.slice x.bsA x.bs.length x.bsc,.bool (x.th),Str (x.pk),Str (x.pv)]
def qFZ:qBP:=⟨[],[],none,0,[],false,[],[]⟩
def qG3(l:List qBP):List (List Value):=l.map qBP.cells
theorem qLf(a:List qBP)(x:qBP):qG3 (a++ [x])=qG3 a++ [x.cells]:=by simp [qG3]
theorem qEr{a b:Hp}(h:Dj a b):Le a (U [a,b]):=qEf (qAS.2 (by simpa using h)) (.head _)
theorem qNw{a b:Hp}(h:Dj a b):Le b (U [a,b]):=qEf (qAS.2 (by simpa using h)) (.tail _ (.head _))
def qBP.chg(x:qBP):Chg:=⟨x.k,x.v⟩
def kvC(l:List Sm.PR)(cl:List Chg):List Sm.PR:=cl.foldl (λl x=>Sm.putP l x.k x.v) l
theorem qQT(l:List Sm.PR)(cl:List Chg)(x:Chg):kvC l (cl++ [x])=Sm.putP (kvC l cl) x.k x.v:=by unfold kvC;rw [List.foldl_append];rfl
theorem qDB{α:Type}(l:List α)(i:Nat)(no:α)(h:i<l.length):l.take (i+1)=l.take i++ [l.getD i no]:=by
 rw [List.take_succ_eq_append_getElem h,List.getD_eq_getElem?_getD,List.getElem?_eq_getElem h];rfl
theorem qQS{l:List Sm.PR}{cl:List Chg}{i:Nat}(h:i<cl.length):kvC l (cl.take (i+1))=Sm.putP (kvC l (cl.take i)) (cl.getD i qAU).k (cl.getD i qAU).v:=by
 rw [qDB cl i qAU h,qQT]
theorem qN4(l:List Sm.PR)(cl:List Chg):(kvC l cl).length≤l.length+cl.length:=by
 induction cl generalizing l with
 |nil=>exact Nat.le_refl _
 |cons x r ih=>
  have h1:=ih (Sm.putP l x.k x.v)
  have h2:=Sm.putP_len l x.k x.v
  show(kvC (Sm.putP l x.k x.v) r).length≤l.length+(r.length+1)
  omega
structure qO4 (b d:Nat) (cl:List Chg):Prop where
 len:cl.length≤256
 k16: ∀x∈cl,x.k.length=16
 bnd: ∀x∈cl,qEg x.k d=b
 val: ∀x∈cl,x.v.length≤1000000
theorem qO4.at{b d:Nat}{cl:List Chg}(h:qO4 b d cl){i:Nat}(hi:i<cl.length):(cl.getD i qAU).k.length=16∧qEg (cl.getD i qAU).k d=b∧(cl.getD i qAU).v.length≤1000000:=by
 rw [List.getD_eq_getElem?_getD,List.getElem?_eq_getElem hi]
 exact⟨h.k16 _ (List.getElem_mem hi),h.bnd _ (List.getElem_mem hi),h.val _ (List.getElem_mem hi)⟩
theorem qK8{l:List Sm.PR}{cl:List Chg}(hf:qCI l)(h16: ∀x∈cl,x.k.length=16)(hv: ∀x∈cl,x.v.length≤1000000)(hn:l.length+cl.length≤100000):qCI (kvC l cl):=by
 induction cl generalizing l with
 |nil=>exact hf
 |cons x r ih=>
  rw [List.length_cons] at hn
  refine ih (l:=Sm.putP l x.k x.v) (hf.put (h16 x (.head _)) (hv x (.head _)) (by omega)) (λy hy=>h16 y (.tail _ hy)) (λy hy=>hv y (.tail _ hy)) ?_
  have h2:=Sm.putP_len l x.k x.v
  omega
theorem qO4.fine{b d:Nat}{cl:List Chg}(h:qO4 b d cl){l:List Sm.PR}(hf:qCI l)(hn:l.length≤90000)(i:Nat):qCI (kvC l (cl.take i)):=
 qK8 hf (λx hx=>h.k16 x (List.mem_of_mem_take hx)) (λx hx=>h.val x (List.mem_of_mem_take hx)) (by rw [List.length_take];have:=h.len;omega)
structure qJF (l:List Sm.PR) (d:Nat) (x:qBP):Prop where
 good:qOv x.bs x.th x.pk x.pv x.k d
 pv:x.pv.length≤1000000
 val:x.v.length≤1000000
 node:qFO x.bs x.th x.pk x.pv x.k d=Sm.ndB l x.k d
 after:qOq x.bs x.th x.pk x.pv x.k x.v d=Sm.ndB (Sm.putP l x.k x.v) x.k d
theorem qJF.of{l:List Sm.PR}(hf:qCI l)(hn:l.length≤100000){k v:List UInt8}(hk:k.length=16)(hv:v.length≤1000000){d s:Nat}(h:qLT l k d s)(A:Option Addr)(c:Nat):
    qJF l d ⟨k,v,A,c,bsd l k d (s-d),qAr l k s,qBy l k s,qCG l k s⟩:=
  ⟨qGM hf hk h,qGO hf k s,hv,qGL hf hk h,qJf hf hk hv hn h⟩
def qCn(l:List Sm.PR)(d:Nat)(L:List qBP):Prop:= ∀i,i<L.length→qJF (kvC l ((L.map qBP.chg).take i)) d (L.getD i qFZ)
theorem qCn.nil(l:List Sm.PR)(d:Nat):qCn l d []:=λi h=>absurd h (Nat.not_lt_zero i)
theorem qCn.snoc{l:List Sm.PR}{d:Nat}{L:List qBP}{x:qBP}(h:qCn l d L)(hx:qJF (kvC l (L.map qBP.chg)) d x):qCn l d (L++ [x]):=λi hi=>by
  rw [List.length_append,List.length_singleton] at hi
  rw [List.map_append]
  by_cases hlt:i<L.length
  · rw [List.take_append_of_le_length (by rw [List.length_map];omega),List.getD_eq_getElem?_getD,List.getElem?_append_left hlt,←List.getD_eq_getElem?_getD]
    exact h i hlt
  · obtain rfl:i=L.length:=by omega
    have e:(L.map qBP.chg++ [x].map qBP.chg).take L.length=L.map qBP.chg:=List.take_left' (List.length_map qBP.chg)
    rw [e,List.getD_eq_getElem?_getD,List.getElem?_append_right (Nat.le_refl _),Nat.sub_self]
    exact hx
def qMK(M:Hp)(L:List qBP):Prop:= ∀i,i<L.length→Sl M 1 (L.getD i qFZ).bsA (L.getD i qFZ).bs.length (L.getD i qFZ).bsc (qAG (L.getD i qFZ).bs)
theorem qMK.nil(M:Hp):qMK M []:=λi h=>absurd h (Nat.not_lt_zero i)
theorem qMK.mono{M M':Hp}{L:List qBP}(h:qMK M L)(hl:Le M M'):qMK M' L:=λi hi=>(h i hi).mono hl
theorem qMK.snoc{M:Hp}{L:List qBP}{x:qBP}(h:qMK M L)(hx:Sl M 1 x.bsA x.bs.length x.bsc (qAG x.bs)):qMK M (L++ [x]):=λi hi=>by
  rw [List.length_append,List.length_singleton] at hi
  rw [List.getD_eq_getElem?_getD]
  by_cases hlt:i<L.length
  · rw [List.getElem?_append_left hlt,←List.getD_eq_getElem?_getD];exact h i hlt
  · obtain rfl:i=L.length:=by omega
    rw [List.getElem?_append_right (Nat.le_refl _),Nat.sub_self];exact hx
def inB(b d:Nat)(k:List UInt8):Prop:=k.length=16∧qEg k d=b
instance (b d:Nat) (k:List UInt8):Decidable (inB b d k):=by unfold inB;infer_instance
def qFD(b z:Int)(ks:List (List UInt8)):Nat:=if cnt z=0 then 1 else if 256<ks.length then 22 else if b<0∨((cnt z:Nat):Int)≤b then 10 else if∀k∈ks,inB b.toNat z.toNat k then 0 else 10
theorem qDV{b z:Int}{ks:List (List UInt8)}(h:cnt z=0):qFD b z ks=1:=if_pos h
theorem qCc{b z:Int}{ks:List (List UInt8)}(h: ¬cnt z=0)(h2:256<ks.length):qFD b z ks=22:=by unfold qFD;rw [if_neg h,if_pos h2]
theorem qCd{b z:Int}{ks:List (List UInt8)}(h: ¬cnt z=0)(h2: ¬256<ks.length)(h3:b<0∨((cnt z:Nat):Int)≤b):qFD b z ks=10:=by unfold qFD;rw [if_neg h,if_neg h2,if_pos h3]
theorem qCb{b z:Int}{ks:List (List UInt8)}(h: ¬cnt z=0)(h2: ¬256<ks.length)(h3: ¬(b<0∨((cnt z:Nat):Int)≤b)){k:List UInt8}(hk:k∈ks)(hn: ¬inB b.toNat z.toNat k):qFD b z ks=10:=by unfold qFD;rw [if_neg h,if_neg h2,if_neg h3,if_neg (λe=>hn (e k hk))]
theorem qCy{b z:Int}{ks:List (List UInt8)}(h: ¬cnt z=0)(h2: ¬256<ks.length)(h3: ¬(b<0∨((cnt z:Nat):Int)≤b))(hk: ∀k∈ks,inB b.toNat z.toNat k):qFD b z ks=0:=by unfold qFD;rw [if_neg h,if_neg h2,if_neg h3,if_pos hk]
theorem qO4.may{b d:Nat}{cl:List Chg}(h:qO4 b d cl)(hd:d≤4)(hb:b<2^d):qFD b d (cl.map Chg.k)=0:=by
 refine qCy (by rw [qDd hd];have:=pow4 hd;omega) (by rw [List.length_map];have:=h.len;omega) (by rw [qDd hd];omega) λk hk=>?_
 obtain ⟨x,hx,rfl⟩:=List.mem_map.1 hk
 exact⟨h.k16 x hx,by rw [Int.toNat_natCast,Int.toNat_natCast];exact h.bnd x hx⟩
theorem qN6(cl:List Chg){i:Nat}(h:i<cl.length):(cl.take (i+1)).map Chg.k=(cl.take i).map Chg.k++ [(cl.getD i qAU).k]:=by rw [qDB cl i qAU h,List.map_append];rfl
theorem qQ7{p:List UInt8→Prop}{ks:List (List UInt8)}{i:Nat}(hi:i<ks.length)(h: ∀k∈ks.take i,p k)(hk:p (ks.getD i [])): ∀k∈ks.take (i+1),p k:=by
 rw [qDB ks i [] hi]
 intro k hm
 rcases List.mem_append.1 hm with hm|hm
 · exact h k hm
 · rw [List.mem_singleton.1 hm];exact hk
theorem qN5{ks:List (List UInt8)}{i:Nat}(hi:i<ks.length):ks.getD i []∈ks:=by
 rw [List.getD_eq_getElem?_getD,List.getElem?_eq_getElem hi];exact List.getElem_mem hi
theorem qQr{cl:List Chg}{L:List qBP}{i:Nat}(hi:i<cl.length)(h:L.map qBP.chg=cl.take i){x:qBP}(hk:x.k=(cl.getD i qAU).k)(hv:x.v=(cl.getD i qAU).v):(L++ [x]).map qBP.chg=cl.take (i+1):=by
 rw [qDB cl i qAU hi,List.map_append,h]
 congr 1
 show [(⟨x.k,x.v⟩:Chg)]=_
 rw [hk,hv]
theorem qO4.smallK{b d:Nat}{cl:List Chg}(h:qO4 b d cl)(j:Nat):((cl.map Chg.k).getD j []).length≤1000000:=by
  rw [List.getD_eq_getElem?_getD,List.getElem?_map]
  by_cases hj:j<cl.length
  · rw [List.getElem?_eq_getElem hj]
    have:=h.k16 _ (List.getElem_mem hj)
    show(cl[j].k).length≤1000000
    rw [this];decide
  · rw [List.getElem?_eq_none (by omega)];decide
def qFf(cl:List Chg)(i:Nat):List (List UInt8):=(cl.take i).map Chg.k
theorem qGX{cl:List Chg}{i:Nat}(h:i<cl.length):qFf cl (i+1)=qFf cl i++ [(cl.getD i qAU).k]:=qN6 cl h
theorem qN7{cl:List Chg}{i:Nat}(h:i≤cl.length):(qFf cl i).length=i:=by unfold qFf;rw [List.length_map,List.length_take];omega
theorem qN8(cl:List Chg):qFf cl cl.length=cl.map Chg.k:=by unfold qFf;rw [List.take_length]
theorem qUT{b:Int}{d:Nat}{k:List UInt8}(h0:0≤b):inB b.toNat d k↔ofE k=0∧((ofV k d:Nat):Int)=b:=by
  unfold inB ofE ofV
  split
  · rename_i h
    constructor
    · intro h2;exact⟨rfl,by omega⟩
    · intro h2;exact⟨h,by omega⟩
  · rename_i h
    constructor
    · intro h2;exact absurd h2.1 h
    · intro h2;exact absurd h2.1 (by decide)
structure MkR where
 A:Option Addr
 c:Nat
 ms:Hp
 g:Nat
 mt:Hp
 M:Hp
 L:List qBP
structure MkP (l:List Sm.PR) (d:Nat) (cl:List Chg) (r:MkR):Prop where
 chg:r.L.map qBP.chg=cl
 ok:qCn l d r.L
 row:Row r.ms 140 6 r.A r.L.length r.c (qG3 r.L)
 tree:qEh r.mt r.g (kvC l cl)
 bs:qMK r.M r.L
end Go.Proofs.YtllnfioplpipiaaGreatDoor
