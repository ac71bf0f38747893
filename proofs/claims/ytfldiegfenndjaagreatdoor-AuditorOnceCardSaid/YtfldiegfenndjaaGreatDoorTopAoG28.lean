/- A part of the proof. -/
import Derived.Test.YtfldiegfenndjaaGreatDoorTopAoG27
import Derived.Test.YtfldiegfenndjaaGreatDoorTopAoG17
import Derived.Test.YtfldiegfenndjaaGreatDoorTopAoG25
import Derived.Test.YtfldiegfenndjaaGreatDoorTopAoG19
import Derived.Test.YtfldiegfenndjaaGreatDoorTopAoG24
set_option linter.unusedSimpArgs false
set_option linter.unusedVariables false
namespace Go.Proofs.YtfldiegfenndjaaGreatDoor
open Go Go.Fw Go.Proofs.Tryz
set_option maxRecDepth 100000
set_option maxHeartbeats 1000000
structure Chg where
 k:List UInt8
 v:List UInt8
 deriving DecidableEq
def Chg.cells(x:Chg):List Value:= [Str (x.k),Str (x.v)]
def qAe:Chg:=⟨[],[]⟩
def qOV(l:List Chg):List (List Value):=l.map Chg.cells
theorem qJD{l:List Chg}{k:Nat}(h:k<l.length):(qOV l)[k]?=some (l.getD k qAe).cells:=by
 unfold qOV
 rw [jN,qAd qAe h];rfl
structure qAq where
 k:List UInt8
 v:List UInt8
 bsA:Option Addr
 bsc:Nat
 bs:List (List UInt8)
 th:Bool
 pk:List UInt8
 pv:List UInt8
def qAq.cells(x:qAq):List Value:= [Str (x.k),Str (x.v),.slice x.bsA x.bs.length x.bsc,.bool (x.th),Str (x.pk),Str (x.pv)]
def qAI:qAq:=⟨[],[],none,0,[],false,[],[]⟩
def qEk(l:List qAq):List (List Value):=l.map qAq.cells
theorem qIS{l:List qAq}{k:Nat}(h:k<l.length):(qEk l)[k]?=some (l.getD k qAI).cells:=by
 unfold qEk
 rw [jN,qAd qAI h];rfl
theorem qLp(a:List qAq)(x:qAq):qEk (a++ [x])=qEk a++ [x.cells]:=by simp [qEk]
theorem qG3{a b:Hp}(h:Dj a b):Le a (U [a,b]):=qG2 (qAW.2 (by simpa using h)) (.head _)
theorem qQ1{a b:Hp}(h:Dj a b):Le b (U [a,b]):=qG2 (qAW.2 (by simpa using h)) (.tail _ (.head _))
def qAq.chg(x:qAq):Chg:=⟨x.k,x.v⟩
def kvC(l:List Sm.PR)(cl:List Chg):List Sm.PR:=cl.foldl (λl x=>Sm.putP l x.k x.v) l
theorem qPx(l:List Sm.PR)(cl:List Chg)(x:Chg):kvC l (cl++ [x])=Sm.putP (kvC l cl) x.k x.v:=by unfold kvC;rw [List.foldl_append];rfl
theorem qEF{α:Type}(l:List α)(i:Nat)(no:α)(h:i<l.length):l.take (i+1)=l.take i++ [l.getD i no]:=by
 rw [jO h,jB,jC h];rfl
theorem qK9{l:List Sm.PR}{cl:List Chg}{i:Nat}(h:i<cl.length):kvC l (cl.take (i+1))=Sm.putP (kvC l (cl.take i)) (cl.getD i qAe).k (cl.getD i qAe).v:=by
 rw [qEF cl i qAe h,qPx]
theorem qSm(l:List Sm.PR)(cl:List Chg):(kvC l cl).length≤l.length+cl.length:=by
 induction cl generalizing l with
 |nil=>exact jJ _
 |cons x r ih=>
  have h1:=ih (Sm.putP l x.k x.v)
  have h2:=Sm.putP_len l x.k x.v
  show(kvC (Sm.putP l x.k x.v) r).length≤l.length+(r.length+1)
  omega
structure qKN (b d:Nat) (cl:List Chg):Prop where
 len:cl.length≤256
 k16: ∀x∈cl,x.k.length=16
 bnd: ∀x∈cl,qDZ x.k d=b
 val: ∀x∈cl,x.v.length≤1000000
theorem qKN.at{b d:Nat}{cl:List Chg}(h:qKN b d cl){i:Nat}(hi:i<cl.length):(cl.getD i qAe).k.length=16∧qDZ (cl.getD i qAe).k d=b∧(cl.getD i qAe).v.length≤1000000:=by
 rw [jB,jC hi]
 exact⟨h.k16 _ (jc hi),h.bnd _ (jc hi),h.val _ (jc hi)⟩
theorem qPy{l:List Sm.PR}{cl:List Chg}(hf:qC9 l)(h16: ∀x∈cl,x.k.length=16)(hv: ∀x∈cl,x.v.length≤1000000)(hn:l.length+cl.length≤100000):qC9 (kvC l cl):=by
 induction cl generalizing l with
 |nil=>exact hf
 |cons x r ih=>
  rw [jD] at hn
  refine ih (l:=Sm.putP l x.k x.v) (hf.put (h16 x (.head _)) (hv x (.head _)) (by omega)) (λy hy=>h16 y (.tail _ hy)) (λy hy=>hv y (.tail _ hy)) ?_
  have h2:=Sm.putP_len l x.k x.v
  omega
theorem qKN.fine{b d:Nat}{cl:List Chg}(h:qKN b d cl){l:List Sm.PR}(hf:qC9 l)(hn:l.length≤90000)(i:Nat):qC9 (kvC l (cl.take i)):=
 qPy hf (λx hx=>h.k16 x (List.mem_of_mem_take hx)) (λx hx=>h.val x (List.mem_of_mem_take hx)) (by rw [jE];have:=h.len;omega)
theorem qKz{l:List Sm.PR}(hl: ∀p∈l,p.1.length=16){k:List UInt8}{b d:Nat}(hk:k.length=16)(hd:d≤4)(hb:qDZ k d=b):Sm.ndB l k d=Sm.ndB l (kF b d) d:=by
 have hlt:b<2^d:=hb▸qH6 k d
 unfold Sm.ndB Sm.bel
 congr 1
 refine zZ λp hp=>?_
 rw [Bool.eq_iff_iff,Sm.belowB_kv (hl p hp) hk (by omega),Sm.belowB_kv (hl p hp) (qDs b d) (by omega),qT7 (by omega) hlt,←qLT hk (by omega),hb]
structure qJQ (l:List Sm.PR) (d:Nat) (x:qAq):Prop where
 good:qOq x.bs x.th x.pk x.pv x.k d
 pv:x.pv.length≤1000000
 val:x.v.length≤1000000
 node:qFw x.bs x.th x.pk x.pv x.k d=Sm.ndB l x.k d
 after:qFD x.bs x.th x.pk x.pv x.k x.v d=Sm.ndB (Sm.putP l x.k x.v) x.k d
theorem qJQ.of{l:List Sm.PR}(hf:qC9 l)(hn:l.length≤100000){k v:List UInt8}(hk:k.length=16)(hv:v.length≤1000000){d s:Nat}(h:qMb l k d s)(A:Option Addr)(c:Nat):
    qJQ l d ⟨k,v,A,c,bsd l k d (s-d),qBN l k s,qEN l k s,qEf l k s⟩:=
  ⟨qLy hf hk h,qL3 hf k s,hv,qLx hf hk h,qJo hf hk hv hn h⟩
def qB8(l:List Sm.PR)(d:Nat)(L:List qAq):Prop:= ∀i,i<L.length→qJQ (kvC l ((L.map qAq.chg).take i)) d (L.getD i qAI)
theorem qB8.nil(l:List Sm.PR)(d:Nat):qB8 l d []:=λi h=>absurd h (jz i)
theorem qB8.snoc{l:List Sm.PR}{d:Nat}{L:List qAq}{x:qAq}(h:qB8 l d L)(hx:qJQ (kvC l (L.map qAq.chg)) d x):qB8 l d (L++ [x]):=λi hi=>by
  rw [jA,jP] at hi
  rw [jM]
  by_cases hlt:i<L.length
  · rw [List.take_append_of_le_length (by rw [jK];omega),jB,jY hlt,←jB]
    exact h i hlt
  · obtain rfl:i=L.length:=by omega
    have e:(L.map qAq.chg++ [x].map qAq.chg).take L.length=L.map qAq.chg:=zj (jK qAq.chg)
    rw [e,jB,jb (jJ _),zh]
    exact hx
def qMQ(M:Hp)(L:List qAq):Prop:= ∀i,i<L.length→Sl M 1 (L.getD i qAI).bsA (L.getD i qAI).bs.length (L.getD i qAI).bsc (qAH (L.getD i qAI).bs)
theorem qMQ.nil(M:Hp):qMQ M []:=λi h=>absurd h (jz i)
theorem qMQ.mono{M M':Hp}{L:List qAq}(h:qMQ M L)(hl:Le M M'):qMQ M' L:=λi hi=>(h i hi).mono hl
theorem qMQ.snoc{M:Hp}{L:List qAq}{x:qAq}(h:qMQ M L)(hx:Sl M 1 x.bsA x.bs.length x.bsc (qAH x.bs)):qMQ M (L++ [x]):=λi hi=>by
  rw [jA,jP] at hi
  rw [jB]
  by_cases hlt:i<L.length
  · rw [jY hlt,←jB];exact h i hlt
  · obtain rfl:i=L.length:=by omega
    rw [jb (jJ _),zh];exact hx
def inB(b d:Nat)(k:List UInt8):Prop:=k.length=16∧qDZ k d=b
instance (b d:Nat) (k:List UInt8):Decidable (inB b d k):=by unfold inB;infer_instance
def qFk(b z:Int)(ks:List (List UInt8)):Nat:=if cnt z=0 then 1 else if 256<ks.length then 22 else if b<0∨((cnt z:Nat):Int)≤b then 10 else if∀k∈ks,inB b.toNat z.toNat k then 0 else 10
theorem qDx{b z:Int}{ks:List (List UInt8)}(h:cnt z=0):qFk b z ks=1:=if_pos h
theorem qCz{b z:Int}{ks:List (List UInt8)}(h: ¬cnt z=0)(h2:256<ks.length):qFk b z ks=22:=by unfold qFk;rw [if_neg h,if_pos h2]
theorem qC0{b z:Int}{ks:List (List UInt8)}(h: ¬cnt z=0)(h2: ¬256<ks.length)(h3:b<0∨((cnt z:Nat):Int)≤b):qFk b z ks=10:=by unfold qFk;rw [if_neg h,if_neg h2,if_pos h3]
theorem qCy{b z:Int}{ks:List (List UInt8)}(h: ¬cnt z=0)(h2: ¬256<ks.length)(h3: ¬(b<0∨((cnt z:Nat):Int)≤b)){k:List UInt8}(hk:k∈ks)(hn: ¬inB b.toNat z.toNat k):qFk b z ks=10:=by unfold qFk;rw [if_neg h,if_neg h2,if_neg h3,if_neg (λe=>hn (e k hk))]
theorem qDK{b z:Int}{ks:List (List UInt8)}(h: ¬cnt z=0)(h2: ¬256<ks.length)(h3: ¬(b<0∨((cnt z:Nat):Int)≤b))(hk: ∀k∈ks,inB b.toNat z.toNat k):qFk b z ks=0:=by unfold qFk;rw [if_neg h,if_neg h2,if_neg h3,if_pos hk]
theorem qKN.may{b d:Nat}{cl:List Chg}(h:qKN b d cl)(hd:d≤4)(hb:b<2^d):qFk b d (cl.map Chg.k)=0:=by
 refine qDK (by rw [qEy hd];have:=pow4 hd;omega) (by rw [jK];have:=h.len;omega) (by rw [qEy hd];omega) λk hk=>?_
 obtain ⟨x,hx,rfl⟩:=List.mem_map.1 hk
 exact⟨h.k16 x hx,by rw [jZ,jZ];exact h.bnd x hx⟩
theorem qN4(cl:List Chg){i:Nat}(h:i<cl.length):(cl.take (i+1)).map Chg.k=(cl.take i).map Chg.k++ [(cl.getD i qAe).k]:=by rw [qEF cl i qAe h,jM];rfl
theorem qLr(L:List qAq){i:Nat}(h:i<L.length):(L.take (i+1)).map qAq.k=(L.take i).map qAq.k++ [(L.getD i qAI).k]:=by rw [qEF L i qAI h,jM];rfl
theorem qQU{p:List UInt8→Prop}{ks:List (List UInt8)}{i:Nat}(hi:i<ks.length)(h: ∀k∈ks.take i,p k)(hk:p (ks.getD i [])): ∀k∈ks.take (i+1),p k:=by
 rw [qEF ks i [] hi]
 intro k hm
 rcases List.mem_append.1 hm with hm|hm
 · exact h k hm
 · rw [List.mem_singleton.1 hm];exact hk
theorem qN3{ks:List (List UInt8)}{i:Nat}(hi:i<ks.length):ks.getD i []∈ks:=by
 rw [jB,jC hi];exact jc hi
theorem qQJ{cl:List Chg}{L:List qAq}{i:Nat}(hi:i<cl.length)(h:L.map qAq.chg=cl.take i){x:qAq}(hk:x.k=(cl.getD i qAe).k)(hv:x.v=(cl.getD i qAe).v):(L++ [x]).map qAq.chg=cl.take (i+1):=by
 rw [qEF cl i qAe hi,jM,h]
 congr 1
 show [(⟨x.k,x.v⟩:Chg)]=_
 rw [hk,hv]
theorem qKN.smallK{b d:Nat}{cl:List Chg}(h:qKN b d cl)(j:Nat):((cl.map Chg.k).getD j []).length≤1000000:=by
  rw [jB,jN]
  by_cases hj:j<cl.length
  · rw [jC hj]
    have:=h.k16 _ (jc hj)
    show(cl[j].k).length≤1000000
    rw [this];decide
  · rw [ji (by omega)];decide
def qGB(cl:List Chg)(i:Nat):List (List UInt8):=(cl.take i).map Chg.k
theorem qG5{cl:List Chg}{i:Nat}(h:i<cl.length):qGB cl (i+1)=qGB cl i++ [(cl.getD i qAe).k]:=qN4 cl h
theorem qN7{cl:List Chg}{i:Nat}(h:i≤cl.length):(qGB cl i).length=i:=by unfold qGB;rw [jK,jE];omega
theorem qN8(cl:List Chg):qGB cl cl.length=cl.map Chg.k:=by unfold qGB;rw [jo]
def qF9(L:List qAq)(i:Nat):List (List UInt8):=(L.take i).map qAq.k
theorem qG4{L:List qAq}{i:Nat}(h:i<L.length):qF9 L (i+1)=qF9 L i++ [(L.getD i qAI).k]:=qLr L h
theorem qN5{L:List qAq}{i:Nat}(h:i≤L.length):(qF9 L i).length=i:=by unfold qF9;rw [jK,jE];omega
theorem qN6(L:List qAq):qF9 L L.length=L.map qAq.k:=by unfold qF9;rw [jo]
theorem qT8{b:Int}{d:Nat}{k:List UInt8}(h0:0≤b):inB b.toNat d k↔ofE k=0∧((ofV k d:Nat):Int)=b:=by
  unfold inB ofE ofV
  split
  · rename_i h
    constructor
    · intro h2;exact⟨rfl,by omega⟩
    · intro h2;exact⟨h,by omega⟩
  · rename_i h
    constructor
    · intro h2;exact absurd h2.1 h
    · intro h2;exact absurd h2.1 (by decide)
structure MkR where
 A:Option Addr
 c:Nat
 ms:Hp
 g:Nat
 mt:Hp
 M:Hp
 L:List qAq
structure MkP (l:List Sm.PR) (d:Nat) (cl:List Chg) (r:MkR):Prop where
 chg:r.L.map qAq.chg=cl
 ok:qB8 l d r.L
 row:Row r.ms 229 6 r.A r.L.length r.c (qEk r.L)
 tree:qJO r.mt r.g (kvC l cl)
 bs:qMQ r.M r.L
theorem qT9{l:List Sm.PR}(hf:qC9 l){ep:Nat}(he:ep≤4294967295){par:List UInt8}(hp:par.length=16){d:Nat}(hd:d≤4){a:Nat}(ha:a≤64):(⟨ep,par,d,a,qAN l d⟩:Hd).err=0:=by
  refine qUF ?_ ?_ λs hs=>?_
  · unfold Hd.out
    dsimp only
    rw [qEy hd]
    have:=pow4 hd
    omega
  · show¬(qAN l d).length≠cnt (d:Int)
    rw [qCJ,qEy hd];exact λh=>h rfl
  · unfold qAN qCW at hs
    obtain ⟨j,_,rfl⟩:=List.mem_map.1 hs
    rcases qHl (Sm.bel_wf hf.once hf.k16 (qDs j d) (d:=d) (by omega)) with h|⟨h1,h2⟩
    · exact .inl h
    · exact .inr ⟨h1,h2.imp (λh=>UInt8.toNat_inj.1 h) (λh=>UInt8.toNat_inj.1 h)⟩
theorem qUI{x:Hd}(h:x.err=0):x.dig≠ []:=λe=>by have:=qBs h;rw [e] at this;cases this
def qEl(b i:UInt8):List UInt8:= [b,i,0,0,0,0,0,0,0,0,0,0,0,0,0,0]
theorem qC1(b i:UInt8):(qEl b i).length=16:=rfl
theorem qHS(b i:UInt8):Sm.bit (qEl b i) 0=b.toNat/128%2:=by
 unfold Sm.bit
 rw [if_pos (by rw [qC1];decide)];rfl
theorem qRz(i:UInt8):qDZ (qEl 0 i) 1=0:=by
 show 0*2^1|||Sm.bit (qEl 0 i) 0=0
 rw [qHS];decide
theorem qRy(i:UInt8):qDZ (qEl 128 i) 1=1:=by
 show 0*2^1|||Sm.bit (qEl 128 i) 0=1
 rw [qHS];decide
theorem rbel(b i:UInt8)(n:Nat):Sm.belowB (qEl b i) (kF n 1) 1=decide (b.toNat/128%2=Sm.bit (kF n 1) 0):=by
 rw [Sm.belowB_succ,qHS];rfl
theorem bel01(i:UInt8):Sm.belowB (qEl 0 i) (kF 1 1) 1=false:=by rw [rbel];decide
theorem bel10(i:UInt8):Sm.belowB (qEl 128 i) (kF 0 1) 1=false:=by rw [rbel];decide
def oldT:List UInt8:= [111,108,100]
def newT:List UInt8:= [110,101,119]
def rv0:List Sm.PR:= [(qEl 128 0,oldT)]
def qOt(i:UInt8):List Sm.PR:=Sm.putP rv0 (qEl 0 i) newT
def qBV(i:UInt8):List Sm.PR:=Sm.putP (qOt i) (qEl 128 i) newT
theorem qDd:qC9 rv0:=qQD (qEl 128 0) oldT rfl (by decide)
theorem qHQ(i:UInt8):(qOt i).length≤2:=Sm.putP_len _ _ _
theorem qHR(i:UInt8):qC9 (qOt i):=qDd.put (qC1 0 i) (by decide) (by decide)
theorem qDc(i:UInt8):qC9 (qBV i):=(qHR i).put (qC1 128 i) (by decide) (by have:=qHQ i;omega)
theorem qRs(i:UInt8):(qBV i).length≤3:=jd (Sm.putP_len _ _ _) (by have:=qHQ i;omega)
def pH:Hd:=⟨0,qAc,1,0,qAN rv0 1⟩
def hH(i:UInt8):Hd:=⟨1,pH.dig,1,0,qAN (qBV i) 1⟩
theorem qKn:pH.err=0:=qT9 qDd (ep:=0) (by decide) (par:=qAc) rfl (d:=1) (by decide) (a:=0) (by decide)
theorem qCN(i:UInt8):(hH i).err=0:=qT9 (qDc i) (ep:=1) (by decide) (qBs qKn) (d:=1) (by decide) (a:=0) (by decide)
theorem qSP{y:Hd}(h:y.err=0)(h1:y.ep=1)(h2:y.par=pH.dig)(h3:y.dep=1)(h4:y.aud=0):pH.next y=0:=by
 refine qQv (by omega) ?_ ?_ ?_
 · show¬(y.ep=0∨y.ep-1≠0);omega
 · exact λe=>e.elim (qUI qKn) (λe=>e h2)
 · show¬(y.dep≠1∨y.aud<0);omega
theorem qSs(i:UInt8):pH.next (hH i)=0:=qSP (qCN i) rfl rfl rfl rfl
def rvA(i:UInt8)(b:Nat):List Sm.PR:=if b=0 then rv0 else qOt i
def rvB(i:UInt8)(b:Nat):List Sm.PR:=if b=0 then qOt i else qBV i
def rvO(i:UInt8)(b:Nat):List UInt8:=Sm.ndB (rvA i b) (kF b 1) 1
def rvN(i:UInt8)(b:Nat):List UInt8:=Sm.ndB (rvB i b) (kF b 1) 1
def rvC(i:UInt8)(b:Nat):Chg:=⟨qEl (UInt8.ofNat (128*b)) i,newT⟩
theorem qLu(i:UInt8):Sm.ndB (qOt i) (kF 1 1) 1=Sm.ndB rv0 (kF 1 1) 1:=qEo qDd (qC1 0 i) (qDs 1 1) (by decide) (bel01 i) (by decide) (by decide)
theorem qLt(i:UInt8):Sm.ndB (qBV i) (kF 0 1) 1=Sm.ndB (qOt i) (kF 0 1) 1:=qEo (qHR i) (qC1 128 i) (qDs 0 1) (by decide) (bel10 i) (by decide) (by have:=qHQ i;omega)
theorem qTb(i:UInt8){b:Nat}(hb:b<2):rvO i b=pH.nodes.getD b []:=by
 unfold rvO rvA
 match b,hb with
 |0,_=>rfl
 |1,_=>exact qLu i
theorem qTd(i:UInt8){b:Nat}(hb:b<2):rvN i b=(hH i).nodes.getD b []:=by
 unfold rvN rvB
 match b,hb with
 |0,_=>exact(qLt i).symm
 |1,_=>rfl
structure RhD where
 ep:Nat
 par:List UInt8
 dep:Nat
 aud:Nat
 nsA:Option Addr
 nsc:Nat
 ns:List (List UInt8)
def RhD.cells(x:RhD):List Value:= [N64 (x.ep),Str (x.par),I ((x.dep:Nat):Int),I ((x.aud:Nat):Int),.slice x.nsA x.ns.length x.nsc]
def qBY:RhD:=⟨0,[],0,0,none,0,[]⟩
def qOu(l:List RhD):List (List Value):=l.map RhD.cells
theorem qC2{l:List RhD}{k:Nat}(h:k<l.length):(qOu l)[k]?=some (l.getD k qBY).cells:=by
 unfold qOu
 rw [jN,qAd qBY h];rfl
theorem qNL(a:List RhD)(x:RhD):qOu (a++ [x])=qOu a++ [x.cells]:=by simp [qOu]
structure TrD where
 b:Nat
 d:Nat
 old:List UInt8
 nw:List UInt8
 stA:Option Addr
 stc:Nat
 st:List qAq
def TrD.cells(x:TrD):List Value:= [I ((x.b:Nat):Int),I ((x.d:Nat):Int),Str (x.old),Str (x.nw),.slice x.stA x.st.length x.stc]
def qCo:TrD:=⟨0,0,[],[],none,0,[]⟩
def qGc(l:List TrD):List (List Value):=l.map TrD.cells
theorem qIL{l:List TrD}{k:Nat}(h:k<l.length):(qGc l)[k]?=some (l.getD k qCo).cells:=by
 unfold qGc
 rw [jN,qAd qCo h];rfl
theorem qLj(a:List TrD)(x:TrD):qGc (a++ [x])=qGc a++ [x.cells]:=by simp [qGc]
structure TsD where
 lA:Option Addr
 lc:Nat
 l:List TrD
def TsD.cells(x:TsD):List Value:= [.slice x.lA x.l.length x.lc]
def qEt:TsD:=⟨none,0,[]⟩
def qGb(l:List TsD):List (List Value):=l.map TsD.cells
theorem qMu{l:List TsD}{k:Nat}(h:k<l.length):(qGb l)[k]?=some (l.getD k qEt).cells:=by
 unfold qGb
 rw [jN,qAd qEt h];rfl
theorem qLi(a:List TsD)(x:TsD):qGb (a++ [x])=qGb a++ [x.cells]:=by simp [qGb]
def rvX(i:UInt8)(b:Nat):List Sm.PR:=if b=0 then rv0 else if b=1 then qOt i else qBV i
theorem rvX_A(i:UInt8){b:Nat}(hb:b<2):rvX i b=rvA i b:=by
 match b,hb with
 |0,_=>rfl
 |1,_=>rfl
theorem rvX_B(i:UInt8){b:Nat}(hb:b<2):rvX i (b+1)=rvB i b:=by
 match b,hb with
 |0,_=>rfl
 |1,_=>rfl
theorem qKd(i:UInt8)(b:Nat):qC9 (rvX i b):=by
  unfold rvX
  split
  · exact qDd
  · split
    · exact qHR i
    · exact qDc i
theorem qNI(i:UInt8)(b:Nat):(rvX i b).length≤90000:=by
  unfold rvX
  split
  · decide
  · split
    · have:=qHQ i;omega
    · have:=qRs i;omega
theorem qRr(i:UInt8){b:Nat}(hb:b<2):kvC (rvX i b) [rvC i b]=rvX i (b+1):=by
 match b,hb with
 |0,_=>rfl
 |1,_=>rfl
theorem qQk(i:UInt8){b:Nat}(hb:b<2):qKN b 1 [rvC i b]:=by
  refine⟨jk rfl,λx hx=>?_,λx hx=>?_,λx hx=>?_⟩<;>rw [List.mem_singleton.1 hx]
  · exact qC1 _ _
  · match b,hb with
    |0,_=>exact qRz i
    |1,_=>exact qRy i
  · exact jk rfl
theorem qTc(i:UInt8){b:Nat}(hb:b<2):Sm.ndB (rvX i b) (kF b 1) 1=rvO i b:=by rw [rvX_A i hb];rfl
theorem qTe(i:UInt8){b:Nat}(hb:b<2):Sm.ndB (rvX i (b+1)) (kF b 1) 1=rvN i b:=by rw [rvX_B i hb];rfl
structure qOw (G:Hp) (i:UInt8) (b:Nat) (x:TrD):Prop where
 eb:x.b=b
 ed:x.d=1
 eo:x.old=rvO i b
 en:x.nw=rvN i b
 chg:x.st.map qAq.chg= [rvC i b]
 ok:qB8 (rvX i b) 1 x.st
 sl:Sl G 6 x.stA x.st.length x.stc (qEk x.st)
 bs:qMQ G x.st
theorem qOw.mono{G G':Hp}{i:UInt8}{b:Nat}{x:TrD}(h:qOw G i b x)(hl:Le G G'):qOw G' i b x:=⟨h.eb,h.ed,h.eo,h.en,h.chg,h.ok,h.sl.mono hl,h.bs.mono hl⟩
def qJN(G:Hp)(i:UInt8)(l:List TrD):Prop:= ∀j,j<l.length→qOw G i j (l.getD j qCo)
theorem qJN.mono{G G':Hp}{i:UInt8}{l:List TrD}(h:qJN G i l)(hl:Le G G'):qJN G' i l:=λj hj=>(h j hj).mono hl
theorem qGF{α:Type}(l:List α)(x no:α)(j:Nat)(h:j<l.length+1):(l++ [x]).getD j no=if j<l.length then l.getD j no else x:=by
  rw [jB]
  by_cases hlt:j<l.length
  · rw [if_pos hlt,jY hlt,←jB]
  · obtain rfl:j=l.length:=by omega
    rw [if_neg hlt,jb (jJ _),zh];rfl
theorem qJN.snoc{G:Hp}{i:UInt8}{l:List TrD}{x:TrD}(h:qJN G i l)(hx:qOw G i l.length x):qJN G i (l++ [x]):=λj hj=>by
 rw [jA,jP] at hj
 rw [qGF l x qCo j hj]
 split
 · exact h j (by omega)
 · rw [show j=l.length by omega];exact hx
structure qOx (G:Hp) (i:UInt8) (h:RhD) (t:TsD):Prop where
 ep:h.ep=1
 par:h.par=pH.dig
 dep:h.dep=1
 aud:h.aud=0
 ns:h.ns=qAN (qBV i) 1
 nsl:Sl G 1 h.nsA h.ns.length h.nsc (qAH h.ns)
 len:t.l.length=2
 trs:qJN G i t.l
 tsl:Sl G 5 t.lA t.l.length t.lc (qGc t.l)
theorem qOx.mono{G G':Hp}{i:UInt8}{h:RhD}{t:TsD}(q:qOx G i h t)(hl:Le G G'):qOx G' i h t:=⟨q.ep,q.par,q.dep,q.aud,q.ns,q.nsl.mono hl,q.len,q.trs.mono hl,q.tsl.mono hl⟩
def qGQ(G:Hp)(hs:List RhD)(ts:List TsD):Prop:=hs.length=ts.length∧ ∀j,j<hs.length→qOx G (UInt8.ofNat j) (hs.getD j qBY) (ts.getD j qEt)
theorem qGQ.nil(G:Hp):qGQ G [] []:=⟨rfl,λj h=>absurd h (jz j)⟩
theorem qGQ.mono{G G':Hp}{hs:List RhD}{ts:List TsD}(q:qGQ G hs ts)(hl:Le G G'):qGQ G' hs ts:=⟨q.1,λj hj=>(q.2 j hj).mono hl⟩
theorem qGQ.snoc{G:Hp}{hs:List RhD}{ts:List TsD}{h:RhD}{t:TsD}(q:qGQ G hs ts)(hx:qOx G (UInt8.ofNat hs.length) h t):qGQ G (hs++ [h]) (ts++ [t]):=⟨by simp [q.1],λj hj=>by
 rw [jA,jP] at hj
 rw [qGF hs h qBY j hj,qGF ts t qEt j (by rw [←q.1];exact hj),←q.1]
 split
 · exact q.2 j (by omega)
 · rw [show j=hs.length by omega];exact hx⟩
structure RvR where
 hs:List RhD
 ts:List TsD
 An:Option Addr
 cn:Nat
 Ah:Option Addr
 ch:Nat
 mh:Hp
 Aa:Option Addr
 ca:Nat
 ma:Hp
 G:Hp
structure RvP (n:Nat) (r:RvR):Prop where
 len:r.hs.length=n
 nod:Sl r.G 1 r.An (qAN rv0 1).length r.cn (qAH (qAN rv0 1))
 rh:Row r.mh 39 5 r.Ah n r.ch (qOu r.hs)
 ra:Row r.ma 80 1 r.Aa n r.ca (qGb r.ts)
 ok:qGQ r.G r.hs r.ts
end Go.Proofs.YtfldiegfenndjaaGreatDoor
