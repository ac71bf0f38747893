/- A part of the proof. -/
import Derived.Test.YtmemgokiolfdoaaGreatDoorTopMrG20
import Derived.Test.YtmemgokiolfdoaaGreatDoorTopMrG22
import Derived.Test.YtmemgokiolfdoaaGreatDoorTopMrG29
set_option maxRecDepth 100000
set_option maxHeartbeats 1000000
set_option linter.unusedSimpArgs false
set_option linter.unusedVariables false
namespace Go.Proofs.YtmemgokiolfdoaaGreatDoor
open Go Go.Fw Go.Proofs.Tryz
structure RhD where
 ep:Nat
 par:xA
 dep:Nat
 aud:Nat
 nsA:Option Addr
 nsc:Nat
 ns:List xA
def RhD.cells(x:RhD):List Value:= [N64 (x.ep),Str (x.par),I (x.dep:Nat),I (x.aud:Nat),.slice x.nsA x.ns.length x.nsc]
def qAX:RhD:=⟨0,[],0,0,none,0,[]⟩
def qDC(l:List RhD):List (List Value):=l.map RhD.cells
theorem qEd{l:List RhD}{k:Nat}(h:k<l.length):(qDC l)[k]?=some (l.getD k qAX).cells:=by
 unfold qDC
 rw [jN,qAh qAX h];rfl
theorem qJh(a:List RhD)(x:RhD):qDC (a++ [x])=qDC a++ [x.cells]:=by simp [qDC]
theorem qVW(a:List RhD):(qDC a).all (λx=>x.all Value.oneCell')=true:=qLM RhD.cells (λ_=>rfl) a
structure TrD where
 b:Nat
 d:Nat
 old:xA
 nw:xA
 stA:Option Addr
 stc:Nat
 st:List qBa
def TrD.cells(x:TrD):List Value:= [I (x.b:Nat),I (x.d:Nat),Str (x.old),Str (x.nw),.slice x.stA x.st.length x.stc]
def noTrD:TrD:=⟨0,0,[],[],none,0,[]⟩
def qJR(l:List TrD):List (List Value):=l.map TrD.cells
theorem qNX(a:List TrD)(x:TrD):qJR (a++ [x])=qJR a++ [x.cells]:=by simp [qJR]
def qCT(l:List En):List (List Value):=l.map En.cells
theorem qD2{l:List En}{k:Nat}(h:k<l.length):(qCT l)[k]?=some (l.getD k qBD).cells:=by
 unfold qCT
 rw [jN,qAh qBD h];rfl
theorem qVX(a:List En):(qCT a).all (λx=>x.all Value.oneCell')=true:=qLM En.cells (λ_=>rfl) a
theorem qKM(l:List En)(k:Nat):(qCT l).take k=qCT (l.take k):=by simp [qCT]
theorem qTC(l:List En)(k:Nat)(x:En):(qCT l).set k x.cells=qCT (l.set k x):=by simp [qCT,List.map_set]
def qDT(l:List Nat):List (List Value):=l.map λg=> [Ptr g]
theorem qJk{l:List Nat}{k:Nat}(h:k<l.length):(qDT l)[k]?=some [Ptr (l.getD k 0)]:=by
 unfold qDT;rw [jN,jC h,jB,jC h];rfl
theorem qNl(a:List Nat)(x:Nat):qDT (a++ [x])=qDT a++ [[Ptr x]]:=by simp [qDT]
theorem qXn(l:List Hp)(m:Hp):U (l++ [m])=U [U l,m]:=by
 induction l with
 |nil=>rfl
 |cons a l ih=>
  funext g
  show(match a g with|some o=>some o|none=>U (l++ [m]) g)=match (match a g with|some o=>some o|none=>U l g) with|some o=>some o|none=>U [m] g
  rw [ih]
  cases a g<;>rfl
theorem qTj{l:List Hp}{m:Hp}(h:Djs l)(hd:Dj (U l) m):Djs (l++ [m]):=by
 rw [qAU,jR]
 refine⟨qAU.1 h,by simp,λa ha b hb=>?_⟩
 rw [List.mem_singleton.1 hb]
 exact(Dj.U_right.1 hd.symm a ha).symm
structure Lb where
 nm:xA
 A:Option Addr
 c:Nat
 l:List En
 m:Hp
abbrev LE:=List (xA×List En)
def lbV(ls:List Lb):MP:=ls.map λx=>(x.nm,.slice x.A x.l.length x.c)
def lbE(ls:List Lb):LE:=ls.map λx=>(x.nm,x.l)
def qCp:List Lb→xA→Option Lb
 | [],_=>none
 |x::r,k=>if x.nm=k then some x else qCp r k
def qEC:LE→xA→List En
 | [],_=> []
 |x::r,k=>if x.1=k then x.2 else qEC r k
def qVt(ls:List Lb)(k:xA):Option Addr:=match qCp ls k with|some x=>x.A|none=>none
def qVs(ls:List Lb)(k:xA):Nat:=match qCp ls k with|some x=>x.c|none=>0
theorem qIu(ls:List Lb)(k:xA):qEC (lbE ls) k=match qCp ls k with|some x=>x.l|none=> []:=by
 induction ls with
 |nil=>rfl
 |cons x r ih=>
  show(if x.nm=k then x.l else qEC (lbE r) k)=match (if x.nm=k then some x else qCp r k) with|some x=>x.l|none=> []
  by_cases h:x.nm=k
  · rw [if_pos h,if_pos h]
  · rw [if_neg h,if_neg h];exact ih
theorem qFY(ls:List Lb)(k:xA):qKD (lbV ls) k=(qCp ls k).map λx=> .slice x.A x.l.length x.c:=by
 induction ls with
 |nil=>rfl
 |cons x r ih=>
  show(if x.nm=k then some _ else qKD (lbV r) k)=(if x.nm=k then some x else qCp r k).map _
  by_cases h:x.nm=k
  · rw [if_pos h,if_pos h];rfl
  · rw [if_neg h,if_neg h];exact ih
theorem qT4(ls:List Lb)(k:xA):(qKD (lbV ls) k).getD (.slice none 0 0)= .slice (qVt ls k) (qEC (lbE ls) k).length (qVs ls k):=by
 rw [qFY,qIu]
 unfold qVt qVs
 cases qCp ls k<;>rfl
theorem qKE{ls:List Lb}{k:xA}{x:Lb}(h:qCp ls k=some x):x∈ls∧x.nm=k:=by
 induction ls with
 |nil=>cases h
 |cons y r ih=>
  rw [qCp] at h
  split at h
  · rename_i hk;cases h;exact⟨.head _,hk⟩
  · have:=ih h;exact⟨.tail _ this.1,this.2⟩
def LbA(F:Hp)(ls:List Lb):Prop:= ∀x∈ls,Sl F 5 x.A x.l.length x.c (qCT x.l)
theorem LbA.mono{F F':Hp}{ls:List Lb}(h:LbA F ls)(hl:Le F F'):LbA F' ls:=λx hx=>(h x hx).mono hl
theorem LbA.at{F:Hp}{ls:List Lb}(h:LbA F ls)(k:xA):Sl F 5 (qVt ls k) (qEC (lbE ls) k).length (qVs ls k) (qCT (qEC (lbE ls) k)):=by
 rw [qIu]
 unfold qVt qVs
 cases hg:qCp ls k with
 |none=>exact Sl.nil
 |some x=>exact h x (qKE hg).1
structure NxS (M:Hp) (ls:List Lb):Prop where
 eq:M=U (ls.map Lb.m)
 dj:Djs (ls.map Lb.m)
 row: ∀x∈ls,Row x.m 102 5 x.A x.l.length x.c (qCT x.l)
theorem NxS.nil:NxS (λ_=>none) []:=⟨rfl,trivial,λx h=>by cases h⟩
theorem NxS.at{M:Hp}{ls:List Lb}(h:NxS M ls):LbA M ls:=λx hx=>by
 rw [h.eq]
 exact(h.row x hx).sl.mono (qFV h.dj (List.mem_map.2 ⟨x,hx,O⟩))
theorem NxS.snoc{M m':Hp}{ls:List Lb}(h:NxS M ls){k:xA}{A:Option Addr}{c:Nat}{l:List En}(hr:Row m' 102 5 A l.length c (qCT l))(hd:Dj M m'):NxS (U [M,m']) (ls++ [⟨k,A,c,l,m'⟩]):=by
  refine⟨?_,?_,λx hx=>?_⟩
  · rw [jO,h.eq];exact(qXn _ _).symm
  · rw [jO]
    exact qTj h.dj (h.eq▸hd)
  · rcases List.mem_append.1 hx with hx|hx
    · exact h.row x hx
    · rw [List.mem_singleton.1 hx];exact hr
theorem qIW{l:MP}{k:xA}(h:qKD l k=none)(v:Value):qMQ l k v=l++ [(k,v)]:=by
  induction l with
  |nil=>rfl
  |cons x r ih=>
    rw [qKD] at h
    split at h
    · cases h
    · rename_i hn
      show(if x.1=k then _ else x::qMQ r k v)=_
      rw [if_neg hn,ih h];rfl
theorem qIr(ls:List Lb)(x:Lb):lbV (ls++ [x])=lbV ls++ [(x.nm,.slice x.A x.l.length x.c)]:=by unfold lbV;rw [jO];rfl
theorem qMs(ls:List Lb)(x:Lb):lbE (ls++ [x])=lbE ls++ [(x.nm,x.l)]:=by unfold lbE;rw [jO];rfl
def qLw(l:LE):Prop:=(l.map Prod.fst).Nodup
theorem qKF{l:LE}{k:xA}(h:k∉l.map Prod.fst):qEC l k= []:=by
 induction l with
 |nil=>rfl
 |cons x r ih=>
  rw [jf,za,not_or] at h
  rw [qEC,if_neg (λe=>h.1 e.symm),ih h.2]
theorem qH1{ls:List Lb}{k:xA}:qCp ls k=none↔k∉(lbE ls).map Prod.fst:=by
  induction ls with
  |nil=>simp [qCp,lbE]
  |cons x r ih=>
    show(if x.nm=k then some x else qCp r k)=none↔k∉x.nm::(lbE r).map Prod.fst
    rw [za,not_or,←ih]
    by_cases h:x.nm=k
    · rw [if_pos h];simp [h]
    · rw [if_neg h]
      exact⟨λe=>⟨λe=>h e.symm,e⟩,λe=>e.2⟩
theorem qM3{l:LE}(h:qLw l){k:xA}{v:List En}(hm:(k,v)∈l):qEC l k=v:=by
 induction l with
 |nil=>cases hm
 |cons x r ih=>
  obtain ⟨h1,h2⟩:=List.nodup_cons.1 (show(x.1::r.map Prod.fst).Nodup from h)
  cases hm with
  |head=>rw [qEC,if_pos rfl]
  |tail _ hm=>
   rw [qEC,if_neg,ih h2 hm]
   rintro rfl
   exact h1 (List.mem_map.2 ⟨_,hm,O⟩)
theorem qQW{l l':LE}(h:qLw l)(hp:l.Perm l')(k:xA):qEC l k=qEC l' k:=by
  have h':qLw l':=(hp.map _).nodup_iff.1 h
  by_cases hk:k∈l.map Prod.fst
  · obtain ⟨x,hx,rfl⟩:=List.mem_map.1 hk
    rw [qM3 h (v:=x.2) hx,qM3 h' (v:=x.2) (hp.subset hx)]
  · rw [qKF hk,qKF (λe=>hk ((hp.map _).mem_iff.2 e))]
structure CbR where
 gd:Nat
 f0:Nat
 size:Nat
 hat:Nat
 ht:UInt64
 e:Nat
 A:Option Addr
 c:Nat
 R:List xA
 d:Dk
abbrev CbR.blk(gb:Nat)(x:CbR):Hp:=Fw.blk gb [Ptr x.gd,I (x.f0:Nat),I (x.size:Nat),I (x.hat:Nat),W64 x.ht,I (x.e:Nat),.slice x.A x.R.length x.c,.bool false] 244
structure CbP (G md:Hp) (x:CbR):Prop where
 dk:Dsk md x.gd x.d none 0
 ok:x.d.ok
 on:x.d.off=false
 ar:x.d.armed=false
 wt:x.d.wait= []
 kp:x.d.keep= []
 rs:Sl G 1 x.A x.R.length x.c (qAH x.R)
 fit:x.hat+x.size≤x.d.last.length
 ln:x.d.last.length≤1000
 tn:x.ht.toNat≤1
 ef:x.e≤x.size
theorem CbP.mono{G G' md:Hp}{x:CbR}(h:CbP G md x)(hl:Le G G'):CbP G' md x:={h with rs:=h.rs.mono hl}
structure CbN (x y:CbR) (s:xA):Prop where
 gd:y.gd=x.gd
 f0:y.f0=x.f0
 sz:y.size=x.size
 e:y.e=x.e+qBX s.length
 R:y.R=x.R++ [s]
 ln:y.d.last.length=x.d.last.length
theorem qWH(F md:Hp)(hK:qAG F ⟨3,0,none⟩ (Sha.K.map W32))(gb:Nat)(x:CbR)(h:CbP F md x)(s:xA)(hs:s.length≤900)(hf:x.e+qBX s.length≤x.size)(hr:x.R.length<65536):
    Ct prog 137 [Ptr gb,Str s] [x.blk gb,md,F] (λ_:CbR×Hp×Hp=>I 0) (λy=>CbP y.2.2 y.2.1 y.1∧CbN x y.1 s) (λy=> [y.1.blk gb,y.2.1,F,y.2.2]):=λw0 w hw=>by
  have hn24:=qEf hs
  have hfit:=h.fit
  have hln:=h.ln
  have hnr:(UInt64.ofNat x.R.length).toNat<2^(8*2):=by rw [qA8 xB];exact hr
  have hc:=qOc h.ok h.on h.ar (p:=x.hat+x.e) (n:=qBX s.length) xB (qPQ (turn:=1) (num:=UInt64.ofNat x.R.length) (s:=s) xC hnr hn24)
  have hm:(((1:UInt64).toNat:Nat):Int)=max (x.ht.toNat:Int) 1:=by
    have:=h.tn
    rw [show(1:UInt64).toNat=1 from rfl];omega
  refine(qKb F md hK gb x.gd ((x.f0:Nat):Int) x.size x.hat x.ht x.e x.A x.R.length x.c x.d none 0 h.dk h.ok (by rw [h.wt];exact jF _) (by rw [h.kp];exact Sl.nil) (by rw [h.kp];exact jF _) x.R O h.rs s hs _ O 1 hm xC hr xB hf hc.1 w0 w hw).mono λv w' ⟨y,he,⟨hd,hrow⟩,hst⟩=>?_
  obtain ⟨_,c1,c2,c3,c4,c5,c6⟩:=hc
  have e1:(x.R++ [s]).length=x.R.length+1:=by rw [jA];rfl
  refine⟨(⟨x.gd,x.f0,x.size,x.hat,1,x.e+qBX s.length,y.2.1,y.2.2.1,x.R++ [s],_⟩,y.1,y.2.2.2),he,⟨⟨hd,c6,c1,c2,c4,by rw [c5,h.kp],by rw [e1];exact hrow.sl,by show x.hat+x.size≤_;rw [c3];exact hfit,by show List.length _≤_;rw [c3];exact hln,(by show(1:UInt64).toNat≤1;decide),hf⟩,⟨O,O,O,O,O,c3⟩⟩,?_⟩
  show St w0 [Fw.blk gb [Ptr x.gd,I (x.f0:Nat),I (x.size:Nat),I (x.hat:Nat),W64 1,I (x.e+qBX s.length:Nat),.slice y.2.1 (x.R++ [s]).length y.2.2.1,.bool false] 244,y.1,F,y.2.2.2] w'
  rw [e1];exact hst
theorem qMS{d:Nat}(h:d≤4):1≤2^d∧2^d≤16:=by
 rcases d with _|_|_|_|_|d
 all_goals first|decide|omega
theorem qL8(F:Hp)(A:Option Addr)(n c:Nat)(l:List Nat)(hs:Sl F 1 A n c (qDT l))(h0:0<n)(hn:n≤1000000):Cz prog 97 [.slice A n c] F (Ptr (l.getD (n-1) 0)):=by
 have hln:l.length=n:=by have:=hs.1;simpa [qDT] using this
 refine Ct.walk func97 O ntmps97 O (λw0 hw0=>?_)
 refine J.f λ_ j1=>J.b O<|J.c j1 ?_
 refine J.f λ_ j2=>J.j 2 O<|J.g (qAP qNW O O) O<|J.g ((qA1 O O O xB).nat (n-1) xB) O<|J.g (qAF O O O qNW sizeOf130 hs xB) O<|J.g (qAI O O isAgg130 (m:=F) xD (hs.elem (qJk xB))) O<|J.b O<|J.c j2 ?_
 exact J.A<|J.E hw0 O () O trivial [0] O xC
theorem qRn(F:Hp)(A:Option Addr)(n c:Nat)(l:List RhD)(hs:Sl F 5 A n c (qDC l))(h0:0<n)(hn:n≤1000000):Cz prog 140 [.slice A n c] F (.agg #[N64 ((l.getD (n-1) qAX).ep),Str ((l.getD (n-1) qAX).par),I ((l.getD (n-1) qAX).dep:Nat),I ((l.getD (n-1) qAX).aud:Nat),.slice (l.getD (n-1) qAX).nsA (l.getD (n-1) qAX).ns.length (l.getD (n-1) qAX).nsc]):=by
 have hln:l.length=n:=by have:=hs.1;simpa [qDC] using this
 refine Ct.walk func140 O ntmps140 O (λw0 hw0=>?_)
 refine J.f λ_ j1=>J.q (qAJ O qWC O) O λg2 _=>J.c j1 ?_
 refine J.f λ_ j2=>J.j 2 O<|J.g (qAP qGM O O) O<|J.g ((qA1 O O O xB).nat (n-1) xB) O<|J.g (qAF O O O qGM qC6 hs xB) O<|J.g (qAT O O qFl qC6 (m:=F) xD (hs.elem (qEd xB)) O) O<|J.a8 (qAD (i:=1) (l:= [.int .u64 0,Str [],I 0,I 0,.slice none 0 0]) (vs:= [N64 ((l.getD (n-1) qAX).ep),Str ((l.getD (n-1) qAX).par),I ((l.getD (n-1) qAX).dep:Nat),I ((l.getD (n-1) qAX).aud:Nat),.slice (l.getD (n-1) qAX).nsA (l.getD (n-1) qAX).ns.length (l.getD (n-1) qAX).nsc]) O O O O O qC6 O O) O O λ_ _=>J.c j2 ?_
 exact J.A<|J.a9 hw0 (λ_ _ h=>h) (rv1 O (RV.blkA 1 O O qFl qC6)) (qAg () O trivial [0] O xC)
theorem qMC(F:Hp)(gm:Nat)(vr:Value)(ls:List Lb)(hm:Fw.MapAt F gm (lbV ls))(hl:LbA F ls)(s:xA)(hn:(qEC (lbE ls) s).length≤1000000)(h0:qEC (lbE ls) s= []):Cz prog 102 [.agg #[.map (some gm),vr],Str (s)] F (.tuple #[.agg #[.int .u64 0,Str [],Str [],I 0,Str []],.bool false]):=by
 have hl0:(qEC (lbE ls) s).length=0:=by rw [h0];rfl
 refine Ct.walk func102 O ntmps102 O (λw0 hw0=>?_)
 refine J.f λ_ j1=>J.q (qAd O O O) O λg2 _=>J.q (qAJ O qE7 O) O λg4 _=>J.b O<|J.c j1 ?_
 refine J.f λ_ j2=>J.W 0 qEI sizeOf120 O O O O O<|J.a5 1 isAgg120 O O O O O<|J.b O<|J.g ((qC0 O O O qJP u9_ zeroValue85 (m:=F) xD hm).as (v':= .slice (qVt ls s) (qEC (lbE ls) s).length (qVs ls s)) (qT4 ls s)) O<|J.b O<|J.c j2 ?_
 refine J.p λ_ j3=>J.f λ_ j4=>J.b O<|J.g (qAP qCt O O) O<|J.g ((qAZ O O O).yes xB) O<|J.c j4 ?_
 refine J.c4 ?_
 refine J.f λ_ j5=>J.g (qAL (places:= [(0,1),(1,3),(4,1)]) (r:= [.int .u64 0,Str [],Str [],I 0,Str []]) O O O qCv qE7 (λ_=>xH) O) O<|J.a8 (qAD (i:=2) O O O O O qAw O O) O O λ_ _=>J.b O<|J.c j5 ?_
 exact J.A<|J.V<|J.a9 hw0 (λ_ _ h=>h) (rv2 O (RV.blkA 2 O O qBZ qAw) O) (qAg () O trivial [0] O xC)
theorem qE9(F:Hp)(A:Option Addr)(n c:Nat)(l:List En)(hs:Sl F 5 A n c (qCT l))(hnb:n≤1000000):Ct prog 98 [.slice A n c] [F] (λx:Option Addr×Nat×Hp=> .slice x.1 (l).length x.2.1) (λx=>Row x.2.2 102 5 x.1 (l).length x.2.1 (qCT l)) (λx=> [F,x.2.2]):=by
 have hkn:l.length=n:=by have:=hs.1;simpa [qCT] using this
 refine Ct.walk func98 O ntmps98 O (λw0 hw0=>?_)
 refine J.f λ_ j1=>J.b O<|J.c j1 ?_
 refine J.p λ_ j2=>J.f λ_ j3=>J.b O<|J.g ((qEh qCt O O O).as (v':= .bool (decide (A.isNone=true))) (congrArg Value.bool (by cases A<;>rfl))) O<|J.c j3 ?_
 refine J.Z O (λh4=>?_) (λh4=>?_)
 ·
  refine J.f λ_ j4=>J.b O<|J.c j4 ?_
  refine J.A<|J.V ?_
  have hk0:l= []:=by
   refine jV ?_
   rcases yI n with h|h
   · omega
   · obtain ⟨g,o,rfl⟩:=hs.at h;cases h4
  exact J.c5 [0,1] [F,(λ_=>none)] O xC<|J.E hw0 O (none,0,(λ_=>none)) (by rw [hk0];rfl) (by rw [hk0];exact qBS.nil) [0,1] O xC
 refine J.M j2 ?_
 refine J.f λ_ j5=>J.q (qBh O qCt el102) O λg5 _=>J.b O<|J.q (qAW (i:=1) (m2:=F) O O O qCt qCt el102 O (qAm (q:=True) (xs:=qCT ([])) O (by intro x hx;first|exact absurd hx (zD)|(rw [List.mem_singleton.1 hx];rfl))) xD (hs) (qVX _) xB xB) O ?_
 rintro⟨A7,c7,m7⟩ h7
 try dsimp only at h7
 replace h7:Row m7 102 5 A7 (0+n) c7 (qCT (l)):=h7
 refine J.b O<|J.c j5 ?_
 refine J.A ?_
 rw [show 0+n=l.length by omega] at h7
 exact J.E hw0 O (A7,c7,m7) (by rw [←hkn,jj]) h7 [0,1] O xC
theorem qQA{L:List Lb}{a b:MP}{p:xA×Value}(h:lbV L=a++p::b): ∃ra x rb,L=ra++x::rb∧a=lbV ra∧p=(x.nm,.slice x.A x.l.length x.c)∧b=lbV rb:=by
 unfold lbV at h
 obtain ⟨l1,l2,rfl,h1,h2⟩:=List.map_eq_append_iff.1 h
 obtain ⟨x,l3,rfl,h3,h4⟩:=List.map_eq_cons_iff.1 h2
 exact⟨l1,x,l3,O,h1.symm,h3.symm,h4.symm⟩
theorem qVr(a b:List Lb):lbV (a++b)=lbV a++lbV b:=by unfold lbV;rw [jO]
theorem qQB(a b:List Lb):lbE (a++b)=lbE a++lbE b:=by unfold lbE;rw [jO]
structure CpR where
 g:Nat
 ls:List Lb
 mm:Hp
 M:Hp
 r:Nat
 mr:Hp
structure CpP (ls:List Lb) (au:List Aud) (x:CpR):Prop where
 mp:MapS x.mm x.g (lbV x.ls)
 nx:NxS x.M x.ls
 pm:(lbE x.ls).Perm (lbE ls)
 ro:qRT x.mr x.r au
theorem qWI{dn ra rb ls:List Lb}{x y:Lb}(hu:qLw (lbE ls))(h:(lbE dn++lbE (ra++x::rb)).Perm (lbE ls))(h1:y.nm=x.nm)(h2:y.l=x.l):qKD (lbV dn) x.nm=none∧(lbE (dn++ [y])++lbE (ra++rb)).Perm (lbE ls):=by
  have e:lbE (dn++ [y])++lbE (ra++rb)=lbE dn++((y.nm,y.l)::(lbE ra++lbE rb)):=by rw [qMs,qQB,jW];rfl
  have e2:lbE dn++lbE (ra++x::rb)=lbE dn++(lbE ra++(x.nm,x.l)::lbE rb):=by rw [qQB];rfl
  rw [e2] at h
  refine⟨?_,?_⟩
  · rw [qFY,Option.map_eq_none_iff,qH1]
    have h3:qLw (lbE dn++(lbE ra++(x.nm,x.l)::lbE rb)):=(h.map _).nodup_iff.2 hu
    unfold qLw at h3
    rw [jO,List.nodup_append] at h3
    intro hm
    exact h3.2.2 _ hm _ (List.mem_map.2 ⟨(x.nm,x.l),jX _ (.head _),O⟩) O
  · rw [e,h1,h2]
    exact(List.Perm.append_left _ List.perm_middle.symm).trans h
theorem qMH(F:Hp)(gm gr:Nat)(ls:List Lb)(hm:Fw.MapAt F gm (lbV ls))(hl:LbA F ls)(hu:qLw (lbE ls))(hln: ∀x∈ls,x.l.length≤1000000)(RA:Option Addr)(rn rc:Nat)(au:List Aud)(hR:qAG F ⟨gr,0,none⟩ [.slice RA rn rc])(hRs:Sl F 4 RA rn rc (qBf au))(hrn:rn≤1000000):Ct prog 49 [.agg #[.map (some gm),Ptr gr]] [F] (λx:CpR=> .agg #[.map (some x.g),Ptr x.r]) (CpP ls au) (λx=> [F,x.mm,x.M,x.mr]):=by
  obtain ⟨es,ck,hg,hst,hkv⟩:=hm
  refine Ct.walk func49 O ntmps49 O (λw0 hw0=>?_)
  refine J.f λ_ j1=>J.q (qAd O O O) O λg1 _=>J.q (qAJ O zeroValue124 O) O λg2 _=>J.c j1 ?_
  refine J.f λ_ j2=>J.q (qCz O) O ?_
  rintro g6 _
  refine J.W 1 qEI sizeOf121 O O O O O<|J.a5 1 isAgg121 O O O O O<|J.q (qBV O O (λF' hF=>Ct.swap2 (qSK F' gr RA rn rc au (hRs.mono (Fa hF)) xB (hR.mono (Fa hF))))) O ?_
  rintro⟨g9,m9⟩ h9
  try dsimp only at h9
  refine J.g (qAL (places:= [(0,1),(1,1)]) (r:= [.map (some g6),Ptr g9]) O O O qEI zeroValue124 (λ_=>xH) O) O<|J.q (qAJ O zeroValue124 O) O λg3 _=>J.a8 (qAD (i:=5) (l:= [.map none,.pointer none]) (vs:= [.map (some g6),Ptr g9]) O O O O O qCU O O) O O λ_ _=>J.c j2 ?_
  refine J.p λ_ j3=>J.f λ_ j4=>J.W 0 qEI sizeOf120 O O O O O<|J.a5 1 isAgg120 O O O O O<|J.q (qJs O O qJP xD hg hkv) O ?_
  rintro⟨g13,mi⟩ hit
  try dsimp only at hit
  refine J.c j4 ?_
  refine J.T<|J.b6 (X:=List Lb×List Lb×Hp×Hp×Hp) (λζ=> [(2,Ptr g2),(3,Ptr g3),(13,Ptr g13)]) (λζ=> [ζ.2.2.2.2,F,blk g1 [.map (some gm),Ptr gr] 124,blk g2 [.map none,.pointer none] 124,m9,blk g3 [.map (some g6),Ptr g9] 124,ζ.2.2.2.1,ζ.2.2.1]) (λζ=>ItM ζ.2.2.1 g13 gm es ck (lbV ζ.1)∧MapS ζ.2.2.2.1 g6 (lbV ζ.2.1)∧NxS ζ.2.2.2.2 ζ.2.1∧(lbE ζ.2.1++lbE ζ.1).Perm (lbE ls)∧ ∀x∈ζ.1,x∈ls) (λζ=>ζ.1.length) (ls,[],mi,qAM g6 (.map #[] 0),(λ_=>none)) (⟨hit,MapS.nil _,NxS.nil,List.Perm.refl _,λ_ h=>h⟩) ⟨O,O,O,trivial⟩ (λ_ h=>h.empty.pick [7,0,1,2,4,5,3,6] xC) ?_
  rintro⟨rem,dn,mi,mm,M⟩ ⟨hit,hmp,hnxs,hpm,hsub⟩ I0 hI0
  dsimp only at hit hmp hnxs hpm hsub⊢
  refine J.f λ_ j5=>J.q (qMZ (i:=7) O O (m:=F) xD hg hst O hit) O ?_
  rintro⟨on,mj⟩ hnx
  try dsimp only at hnx
  refine J.g ((qAS O (congrArg some (qPq on)) (qTw on))) O<|J.c j5 ?_
  refine J.p λ_ j6=>J.c6 O (λh15=>?_) (λh15=>?_)
  ·
    obtain ⟨x,ra,rb,rfl,hrem,hl2⟩: ∃x ra rb,on=some (x.nm,Value.slice x.A x.l.length x.c)∧rem=ra++x::rb∧ItL mj g13 gm es ck (lbV (ra++rb)) (x.nm,Value.slice x.A x.l.length x.c):=by
      rcases hnx with ⟨h1,_,_⟩|⟨p,a,b,h1,h2,h3⟩
      · rw [h1] at h15;cases h15
      · obtain ⟨ra,x,rb,e1,rfl,rfl,rfl⟩:=qQA h2
        exact⟨x,ra,rb,h1,e1,by rw [qVr];exact h3⟩
    rw [hrem] at hpm hsub
    have hxm:x∈ls:=hsub x (jX _ (.head _))
    have hxl:=hl x hxm
    have hxn:=hln x hxm
    refine J.M j6 ?_
    refine J.T<|J.f λ_ j7=>J.g ((qJv (mi:=mj) (p:=(x.nm,.slice x.A x.l.length x.c)) O O xD hg hst xD hl2)) O<|J.g ((qAS O O O)) O<|J.g ((qAS O O O)) O<|J.j 2 O<|J.c j7 ?_
    have hstp:=λy=>qWI (y:=y) hu hpm
    refine J.b1 [blk g3 [.map (some g6),Ptr g9] 124,F] [5] (.y 0 (.y 1 (.y 2 (.y 3 (.e 4 (.e 5 .nil)))))) Tryz.wide xF xD ?_
    refine J.k O (qAA O O qEI O sizeOf120 O) O O<|J.k O (qAC 0 O O O isAgg120 O) O O<|J.L ?_
    refine J.L ?_
    refine J.a2 O (qBV O O (λF' hF=>qE9 F' x.A x.l.length x.c x.l (hxl.mono (Fa hF)) xO)) O xD ?_
    rintro⟨A23,c23,m23⟩ h23
    try dsimp only at h23
    refine J.c1 O (qCf (i:=6) O O O O qJP u9_ O hmp) O O O ?_
    rintro mu hmu
    rw [qIW (hstp ⟨x.nm,A23,c23,x.l,m23⟩ rfl rfl).1,←qIr dn ⟨x.nm,A23,c23,x.l,m23⟩] at hmu
    refine J.c3 [0,8,1,2,3,4,5,6,7] [M,m23,F,blk g1 [.map (some gm),Ptr gr] 124,blk g2 [.map none,.pointer none] 124,m9,blk g3 [.map (some g6),Ptr g9] 124,mu,mj] O xC<|J.d5 (λhj=>?_)
    exact J.b0<|J.a1<|J.u<|J.a7 (ra++rb,dn++ [⟨x.nm,A23,c23,x.l,m23⟩],mj,mu,U [M,m23]) (λη (hη:_∧η.1.length<rem.length)=>hI0 η hη.1 hη.2) ⟨⟨hl2.it,hmu,hnxs.snoc h23 hj,(hstp ⟨x.nm,A23,c23,x.l,m23⟩ O O).2,λy hy=>hsub y (by rcases List.mem_append.1 hy with h|h;exact jh _ h;exact jX _ (.tail _ h))⟩,by dsimp only;rw [hrem,jA,jA,jD];omega⟩ ⟨O,O,O,trivial⟩ (λ_ h=>h)
  obtain rfl:rem= []:=by
    rcases hnx with ⟨_,h1,_⟩|⟨p,a,b,h1,_⟩
    · cases rem with
      |nil=>rfl
      |cons x r=>cases h1
    · rw [h1] at h15;cases h15
  refine J.b4<|J.a0<|J.a0<|J.b5 ?_
  refine J.u (J.D j3 ?_)
  refine J.f λ_ j8=>J.c0 5 isAgg124 qCU O O O O O<|J.a8 (qAD (i:=3) (l:= [.map none,.pointer none]) (vs:= [.map (some g6),Ptr g9]) O O O O O qCU O O) O O λ_ _=>J.c j8 ?_
  refine J.A ?_
  rw [show lbE dn++lbE []=lbE dn from jU _] at hpm
  exact J.a9 hw0 (λ_ _ h=>h) (rv1 O (RV.blkA 3 O O isAgg124 qCU)) (qAg (⟨g6,dn,mm,M,g9,m9⟩:CpR) O ⟨hmp,hnxs,hpm,h9⟩ [1,6,0,4] O xC)
theorem el52:qCR prog 52 [.int .u64 0,Str [],.int .i64 0,.int .i64 0,.slice none 0 0] 64:=qCR.of xH O
theorem el130:qCR prog 130 [.pointer none] 8:=qCR.of xH O
theorem el155:qCR prog 155 [Str [],Str []] 32:=qCR.of xH O
structure WtR where
 cA:Option Addr
 cc:Nat
 mC:Hp
 oA:Option Addr
 oc:Nat
 mO:Hp
theorem qL9(F mC mO:Hp)(gs:Nat)(v0 v1 v2 v3 v4 v5 v6 v9 v10:Value)(cA:Option Addr)(cc:Nat)(cl:List Chg)(hrc:Row mC 155 2 cA cl.length cc (qDU cl))(hcl:cl.length≤100000)(oA:Option Addr)(oc:Nat)(no:List xA)(hro:Row mO 9 1 oA no.length oc (qAH no))(hno:no.length≤100000)(nt k v:xA):Ct prog 62 [Ptr gs,Str nt,.agg #[Str k,Str v]] [blk gs [v0,v1,v2,v3,v4,v5,v6,.slice cA cl.length cc,.slice oA no.length oc,v9,v10] 129,mC,mO,F] (λ_:WtR=> .tuple #[]) (λx=>Row x.mC 155 2 x.cA (cl++ [(⟨k,v⟩:Chg)]).length x.cc (qDU (cl++ [(⟨k,v⟩:Chg)]))∧Row x.mO 9 1 x.oA (no++ [nt]).length x.oc (qAH (no++ [nt]))) (λx=> [blk gs [v0,v1,v2,v3,v4,v5,v6,.slice x.cA (cl++ [(⟨k,v⟩:Chg)]).length x.cc,.slice x.oA (no++ [nt]).length x.oc,v9,v10] 129,x.mC,x.mO,F]):=by
 refine Ct.walk func62 O ntmps62 O (λw0 hw0=>?_)
 refine J.f λ_ j1=>J.q (qAd O O O) O λg5 _=>J.c j1<|J.f λ_ j2=>J.j 2 O<|J.g (qAB O O) O<|J.W 8 qBB qBt O O O O O<|J.a5 0 qCA O O O O O<|J.b O<|J.q (qAE (l:= [.tmp 11]) (xs:= [[Str (nt)]]) O O O O qAj el9 O xC xC xD) O λg12 _=>J.q (qAW (i:=2) (m2:=blk g12 [Str (nt)] 9) O O O qAj qAj el9 O hro xD ((qA5 (q:=True) (qAH [nt]) O (by simp [qAH]) O).sl) O xB xB) O ?_
 rintro⟨A13,c13,m13⟩ h13
 try dsimp only at h13
 replace h13:Row m13 9 1 A13 (no.length+1) c13 (qAH (no++ [nt])):=by rw [qBx];exact h13
 rw [show no.length+1=(no++ [nt]).length by rw [jA];rfl] at h13⊢
 refine J.g (qAB O O) O<|J.W 8 qBB qBt O O O O O<|J.a8 (qAV (i:=0) O O O O O qBt O xD) O O λ_ _=>?_
 change J _ _ _ [blk gs [v0,v1,v2,v3,v4,v5,v6,.slice cA cl.length cc,.slice A13 ((no++ [nt]).length) c13,v9,v10] 129,_,_,_,_,_] _
 refine J.c j2<|J.b1 [blk gs [v0,v1,v2,v3,v4,v5,v6,.slice cA cl.length cc,.slice A13 ((no++ [nt]).length) c13,v9,v10] 129,blk g5 [Str (k),Str (v)] 155] [10] (.y 0 (.y 1 (.y 2 (.y 3 (.y 4 (.y 5 (.e 6 (.e 7 (.y 8 (.y 9 (.e 10 .nil))))))))))) Tryz.wide xF xD ?_
 refine J.L ?_
 refine J.L ?_
 refine J.k O (qAB O O) O O<|J.k O (qAA O O qBB O sizeOf126 O) O O<|J.k O (qAC 0 O O O isAgg126 O) O O<|J.k O (qAe 1 O O O isAgg155 qFm O) O O<|J.a2 O (qAE (l:= [.tmp 21]) (xs:= [[Str (k),Str (v)]]) O O O O qFp el155 O xC xC xD) O xD λg22 _=>J.a2 O (qAW (i:=1) (m2:=blk g22 [Str (k),Str (v)] 155) O O O qFp qFp el155 O hrc xD ((qAm (q:=True) (xs:=qDU [(⟨k,v⟩:Chg)]) O (by intro x hx;rw [List.mem_singleton.1 hx];rfl)).sl) O xB xB) O xD ?_
 rintro⟨A23,c23,m23⟩ h23
 try dsimp only at h23
 replace h23:Row m23 155 2 A23 (cl.length+1) c23 (qDU (cl++ [(⟨k,v⟩:Chg)])):=by rw [qH6];exact h23
 rw [show cl.length+1=(cl++ [(⟨k,v⟩:Chg)]).length by rw [jA];rfl] at h23⊢
 exact J.k O (qAB O O) O O<|J.k O (qAA O O qBB O sizeOf126 O) O O<|J.c1 O (qAV (i:=0) O O O O O sizeOf126 O xD) O O O λ_ _=>J.b0<|J.d3 hw0 (λ_ _ h=>h) (qIU O) (qAg (⟨A23,c23,m23,A13,c13,m13⟩:WtR) O ⟨h23,h13⟩ [0,1,2,3] O xC)
structure AdR where
 nA:Option Addr
 nc:Nat
 mN:Hp
 tA:Option Addr
 tc:Nat
 mT:Hp
 hA:Option Addr
 hc:Nat
 mH:Hp
def adH(par:xA)(dp rn:Nat)(hd:List RhD)(kv:List Sm.PR)(A:Option Addr)(c:Nat):RhD:=⟨hd.length,par,dp,rn,A,c,qAr kv dp⟩
structure AdP (par:xA) (dp rn gt:Nat) (tg:List Nat) (hd:List RhD) (kv:List Sm.PR) (x:AdR):Prop where
 nd:Row x.mN 9 1 x.nA (qAr kv dp).length x.nc (qAH (qAr kv dp))
 rt:Row x.mT 130 1 x.tA (tg++ [gt]).length x.tc (qDT (tg++ [gt]))
 rh:Row x.mH 52 5 x.hA (hd++ [adH par dp rn hd kv x.nA x.nc]).length x.hc (qDC (hd++ [adH par dp rn hd kv x.nA x.nc]))
theorem qPC(F mT mH:Hp)(hK:qAG F ⟨3,0,none⟩ (Sha.K.map W32))(gs dp rB:Nat)(v1 v2 v3 v4 v5 v7 v8:Value)(tA:Option Addr)(tc:Nat)(tg:List Nat)(hrt:Row mT 130 1 tA tg.length tc (qDT tg))(htg:tg.length≤100000)(hA:Option Addr)(hc:Nat)(hd:List RhD)(hrh:Row mH 52 5 hA hd.length hc (qDC hd))(hhd:hd.length≤100000)(hdp:dp≤4)(gt:Nat)(kv:List Sm.PR)(hT:qCQ F gt kv)(hf:qCE kv)(RA:Option Addr)(rn rc:Nat)(au:List Aud)(hR:qAG F ⟨rB,0,none⟩ [.slice RA rn rc])(hRs:Sl F 4 RA rn rc (qBf au))(par:xA):Ct prog 50 [Ptr gs,Ptr gt,Str par] [blk gs [I (dp:Nat),v1,v2,v3,v4,v5,Ptr rB,v7,v8,.slice tA tg.length tc,.slice hA hd.length hc] 129,mT,mH,F] (λ_:AdR=> .tuple #[]) (AdP par dp rn gt tg hd kv) (λx=> [blk gs [I (dp:Nat),v1,v2,v3,v4,v5,Ptr rB,v7,v8,.slice x.tA (tg++ [gt]).length x.tc,.slice x.hA (hd++ [adH par dp rn hd kv x.nA x.nc]).length x.hc] 129,x.mT,x.mH,F,x.mN]):=by
 refine Ct.walk func50 O ntmps50 O (λw0 hw0=>?_)
 refine J.f λ_ j1=>J.j 2 O<|J.g (qAB O O) O<|J.W 0 qBB z3_ O O O O O<|J.a5 0 b3_ O O O O O<|J.q (qBV O O (λF' hF=>qQ3 F' (hK.mo hF) gt kv (hT.mono (Fa hF)) xG dp xB)) O ?_
 rintro⟨A14,c14,m14⟩ h14
 try dsimp only at h14
 refine J.j 5 O<|J.c j1<|J.f λ_ j2=>J.j 2 O<|J.g (qAB O O) O<|J.W 9 qBB sizeOf127 O O O O O<|J.a5 0 isAgg127 O O O O O<|J.b O<|J.q (qAE (l:= [.tmp 22]) (xs:= [[Ptr gt]]) O O O O qNW el130 O xC xC xD) O λg23 _=>J.q (qAW (i:=1) (m2:=blk g23 [Ptr gt] 130) O O O qNW qNW el130 O hrt xD ((qA5 (q:=True) (qDT [gt]) O (by simp [qDT]) O).sl) O xB xB) O ?_
 rintro⟨A24,c24,m24⟩ h24
 try dsimp only at h24
 replace h24:Row m24 130 1 A24 (tg.length+1) c24 (qDT (tg++ [gt])):=by rw [qNl];exact h24
 rw [show tg.length+1=(tg++ [gt]).length by rw [jA];rfl] at h24⊢
 refine J.g (qAB O O) O<|J.W 9 qBB sizeOf127 O O O O O<|J.a8 (qAV (i:=0) O O O O O sizeOf127 O xD) O O λ_ _=>?_
 change J _ _ _ [blk gs [I (dp:Nat),v1,v2,v3,v4,v5,Ptr rB,v7,v8,.slice A24 ((tg++ [gt]).length) c24,.slice hA hd.length hc] 129,_,_,_,_,_] _
 refine J.c j2<|J.b1 [blk gs [I (dp:Nat),v1,v2,v3,v4,v5,Ptr rB,v7,v8,.slice A24 ((tg++ [gt]).length) c24,.slice hA hd.length hc] 129] [28] (.y 0 (.y 1 (.y 2 (.y 3 (.y 4 (.y 5 (.y 6 (.y 7 (.y 8 (.y 9 (.y 10 (.y 11 (.y 12 (.y 13 (.y 14 (.y 15 (.y 16 (.y 17 (.y 18 (.y 19 (.y 20 (.y 22 (.e 21 (.y 23 (.e 24 (.e 25 (.y 26 (.y 27 (.e 28 .nil))))))))))))))))))))))))))))) Tryz.wide xF xD ?_
 refine J.L ?_
 refine J.L ?_
 refine J.k O (qAB O O) O O<|J.k O (qAA O O qBB O qKp O) O O<|J.k O (qAC 0 O O O qOS O) O O<|J.L ?_
 refine J.k O (qAB O O) O O<|J.k O (qAA O O qBB O qKp O) O O<|J.k O (qAC 0 O O O qOS O) O O<|J.k O (qAP qGM O O) O O<|J.k O (qDz O O u3_ qEF xB) O O<|J.L ?_
 refine J.L ?_
 refine J.k O (qAB O O) O O<|J.k O (qAA O O qBB O z3_ O) O O<|J.k O (qAC 0 O O O b3_ O) O O<|J.L ?_
 refine J.k O (qAB O O) O O<|J.k O (qAA O O qBB O qCU O) O O<|J.k O (qAA O O qEI O sizeOf121 O) O O<|J.k O (qAC 0 (v:=Ptr rB) O O O isAgg121 O) O O<|J.L ?_
 refine J.a2 O (qAa O O (λF' hF=>qMJ F' rB RA rn rc (hR.mono (Fa hF)))) O xD λg48 _=>J.k O (qAL (places:= [(0,1),(1,1),(2,1),(3,1),(4,1)]) (r:= [N64 (hd.length),Str (par),I (dp:Nat),I (rn:Nat),.slice A14 ((qAr kv dp).length) c14]) O O O qDs qWC (λ_=>xH) O) O O<|J.a2 O (qAE (l:= [.tmp 50]) (xs:= [[N64 (hd.length),Str (par),I (dp:Nat),I (rn:Nat),.slice A14 ((qAr kv dp).length) c14]]) O O O O qGM el52 O xC xC xD) O xD λg51 _=>J.a2 O (qAW (i:=2) (m2:=blk g51 [N64 (hd.length),Str (par),I (dp:Nat),I (rn:Nat),.slice A14 ((qAr kv dp).length) c14] 52) O O O qGM qGM el52 O hrh xD ((qAm (q:=True) (xs:=qDC [(⟨hd.length,par,dp,rn,A14,c14,(qAr kv dp)⟩:RhD)]) O (by intro x hx;rw [List.mem_singleton.1 hx];rfl)).sl) O xB xB) O xD ?_
 rintro⟨A52,c52,m52⟩ h52
 try dsimp only at h52
 replace h52:Row m52 52 5 A52 (hd.length+1) c52 (qDC (hd++ [(adH par dp rn hd kv A14 c14)])):=by rw [qJh];exact h52
 rw [show hd.length+1=(hd++ [(adH par dp rn hd kv A14 c14)]).length by rw [jA];rfl] at h52⊢
 exact J.k O (qAB O O) O O<|J.k O (qAA O O qBB O qKp O) O O<|J.c1 O (qAV (i:=0) O O O O O qKp O xD) O O O λ_ _=>J.b0<|J.d3 hw0 (λ_ _ h=>h) (qIU O) (qAg (⟨A14,c14,m14,A24,c24,m24,A52,c52,m52⟩:AdR) O ⟨h14,h24,h52⟩ [0,1,2,3,4] O xC)
theorem qJX(F:Hp)(gs:Nat)(v0 v1 v2 v3 v4 v5 v6 v7 v8 v9:Value)(A:Option Addr)(n c:Nat)(l:List RhD)(hs:Sl F 5 A n c (qDC l))(h0:0<n)(hn:n≤1000000)(hp:qAG F ⟨gs,0,none⟩ [v0,v1,v2,v3,v4,v5,v6,v7,v8,v9,.slice A n c]):Cz prog 68 [Ptr gs] F (.agg #[N64 ((l.getD (n-1) qAX).ep),Str ((l.getD (n-1) qAX).par),I ((l.getD (n-1) qAX).dep:Nat),I ((l.getD (n-1) qAX).aud:Nat),.slice (l.getD (n-1) qAX).nsA (l.getD (n-1) qAX).ns.length (l.getD (n-1) qAX).nsc]):=by
 refine Ct.walk func68 O ntmps68 O (λw0 hw0=>?_)
 exact J.f λ_ j1=>J.q (qAJ O qWC O) O λg2 _=>J.c j1<|J.f λ_ j2=>J.b O<|J.g (qAB O O) O<|J.W 10 qBB qKp O O O O O<|J.g (qAI O O qOS (m:=F) xD (hp.at (i:=10) O)) O<|J.q (qAa O O (λF' hF=>qRn F' A n c l (hs.mono (Fa hF)) xB xB)) O λg7 _=>J.a8 (qAD (i:=1) (l:= [.int .u64 0,Str [],I 0,I 0,.slice none 0 0]) (vs:= [N64 ((l.getD (n-1) qAX).ep),Str ((l.getD (n-1) qAX).par),I ((l.getD (n-1) qAX).dep:Nat),I ((l.getD (n-1) qAX).aud:Nat),.slice (l.getD (n-1) qAX).nsA (l.getD (n-1) qAX).ns.length (l.getD (n-1) qAX).nsc]) O O O O O qC6 O O) O O λ_ _=>J.c j2<|J.A<|J.a9 hw0 (λ_ _ h=>h) (rv1 O (RV.blkA 1 O O qFl qC6)) (qAg () O trivial [0] O xC)
def cmB(n e:Nat):xA:= [99]++(Sha.numB (UInt64.ofNat n) 2++Sha.numB (UInt64.ofNat e) 4)
theorem qQn(n e:Nat):(cmB n e).length=7:=by unfold cmB;simp only [jA,Sha.numB_length,jL]
def qC2(l:List xA):Nat:=(l.map λr=>qBX r.length).sum
theorem qC1(l:List xA)(s:xA):qC2 (l++ [s])=qC2 l+qBX s.length:=by unfold qC2;rw [jO,List.sum_append];rfl
theorem qJS(l:List xA){i:Nat}(h:i<l.length):l.take (i+1)=l.take i++ [l.getD i []]:=by
 rw [List.take_add_one,jC h,jB,jC h];rfl
theorem qHs{l:List xA}{i:Nat}(h:i<l.length):qC2 (l.take (i+1))=qC2 (l.take i)+qBX (l.getD i []).length:=by rw [qJS l h,qC1]
theorem qMk{l:List xA}{i:Nat}:qC2 (l.take i)≤qC2 l:=by
 unfold qC2
 induction l generalizing i with
 |nil=>simp
 |cons a l ih=>
  cases i with
  |zero=>simp
  |succ i=>
   rw [List.take_succ_cons,jf,jf,List.sum_cons,List.sum_cons]
   have:=ih (i:=i);omega
structure CbL (x y:CbR) (l:List xA):Prop where
 gd:y.gd=x.gd
 f0:y.f0=x.f0
 sz:y.size=x.size
 e:y.e=x.e+qC2 l
 R:y.R=x.R++l
 ln:y.d.last.length=x.d.last.length
theorem CbL.nil(x:CbR):CbL x x []:=⟨rfl,rfl,rfl,rfl,(jU _).symm,rfl⟩
theorem CbL.snoc{x y z:CbR}{l:List xA}{s:xA}(h:CbL x y l)(hs:CbN y z s):CbL x z (l++ [s]):=
 ⟨hs.gd.trans h.gd,hs.f0.trans h.f0,hs.sz.trans h.sz,by rw [hs.e,h.e,qC1,Nat.add_assoc],by rw [hs.R,h.R,jW],hs.ln.trans h.ln⟩
theorem qMm{l:List xA}{i:Nat}(h:i<l.length):l.getD i []∈l:=by
 rw [jB,jC h];exact jS h
structure WrR where
 x:CbR
 md:Hp
 N:Hp
theorem qOz(F md N:Hp)(hK:qAG F ⟨3,0,none⟩ (Sha.K.map W32))(gs gb:Nat)(v0 v2 v3 v4 v5 v6 v7 v9:Value)(oA:Option Addr)(oc:Nat)(no:List xA)(hsO:Sl F 1 oA no.length oc (qAH no))(hno:no.length≤256)(h9: ∀s∈no,s.length≤900)(hA:Option Addr)(hn hc:Nat)(hhn:hn≤100000)(hp:qAG F ⟨gs,0,none⟩ [v0,Ptr gb,v2,v3,v4,v5,v6,v7,.slice oA no.length oc,v9,.slice hA hn hc])(x:CbR)(hb:CbP N md x)(hfit:x.e+qC2 (no++ [cmB no.length hn])≤x.size)(hsz:x.size≤100000)(hR:x.R.length+no.length<65535):Ct prog 66 [Ptr gs] [x.blk gb,md,N,F] (λ_:WrR=>I (0:Nat)) (λy=>CbP y.N y.md y.x∧CbL x y.x (no++ [cmB no.length hn])) (λy=> [y.x.blk gb,y.md,y.N,F]):=by
 refine Ct.walk func66 O ntmps66 O (λw0 hw0=>?_)
 refine J.f λ_ j1=>J.b O<|J.c j1<|J.f λ_ j2=>J.q (qAJ O qKP O) O λg3 _=>J.c j2<|J.p λ_ j3=>J.b1 [F] [] (.y 0 (.y 1 (.y 2 (.y 3 (.y 4 (.y 5 (.y 7 (.y 8 (.y 9 (.y 10 (.y 11 (.y 12 (.e 6 (.e 13 (.e 14 (.y 15 (.y 16 (.y 17 (.y 18 (.y 19 .nil)))))))))))))))))))) Tryz.wide xF xD ?_
 refine J.L ?_
 refine J.k O (qAB O O) O O<|J.k O (qAA O O qBB O qBt O) O O<|J.k O (qAI O O qCA (m:=F) xD (hp.at (i:=8) O)) O O<|J.k O (qAP qAj O O) O O<|J.k O (qDz O O u3_ qEF xB) O O<|J.L ?_
 refine J.k O (qAB O O) O O<|J.k O (qAA O O qBB O qKp O) O O<|J.k O (qAI O O qOS (m:=F) xD (hp.at (i:=10) O)) O O<|J.k O (qAP qGM O O) O O<|J.k O (qDz O O u3_ qEF xB) O O<|J.a2 O (qAK O O ent (Ct.use1 4 O (λF' hF=>qPs F' (blk g3 [.pointer none,.slice none 0 0,I 0] 148) g3 ([]) (wtrN g3) (by first|decide|omega|(simp only [jA,jD,jG,jL,Sha.numB_length,qFd]<;>omega)) no.length 2 xC xC xM))) O xD ?_
 rintro m20 hw20
 rw [jq] at hw20
 refine J.a2 O (qAK O O ent (Ct.use1 4 O (λF' hF=>qPs F' m20 g3 (Sha.numB (UInt64.ofNat no.length) 2) hw20 (by first|decide|omega|(simp only [jA,jD,jG,jL,Sha.numB_length,qFd]<;>omega)) hn 4 xC xC xM))) O xD ?_
 rintro m27 hw27
 refine J.a2 O (qAK O O ent (Ct.use1 4 O (λF' hF=>qKY F' m27 g3 (Sha.numB (UInt64.ofNat no.length) 2++Sha.numB (UInt64.ofNat hn) 4) hw27 (by first|decide|omega|(simp only [jA,jD,jG,jL,Sha.numB_length,qFd]<;>omega))))) O xD ?_
 rintro m28 hw28
 refine J.L ?_
 refine J.c8 (Str (Sha.numB (UInt64.ofNat no.length) 2++Sha.numB (UInt64.ofNat hn) 4)) ?_
 refine J.c8 (I (0:Nat)) ?_
 refine J.b7 ?_
 refine J.b7 ?_
 refine J.b0<|J.u (J.D j3 ?_)
 refine J.p λ_ j4=>J.f λ_ j5=>J.b O<|J.g ((qAY O O O).no xC) O<|J.c j5<|J.a3 ?_
 refine J.M j4<|J.p λ_ j6=>?_
 have hl9: ∀s∈(no++ [cmB no.length hn]),s.length≤900:=λs hs=>by
  rcases List.mem_append.1 hs with h|h
  · exact h9 s h
  · rw [List.mem_singleton.1 h,qQn];decide
 have hnl:(no++ [cmB no.length hn]).length=no.length+1:=by rw [jA];rfl
 have hef:=hb.ef
 refine J.H<|J.b O<|J.g (qAB O O) O<|J.W 8 qBB qBt O O O O O<|J.g (qAI O O qCA (m:=F) xD (hp.at (i:=8) O)) O<|J.q (qBV O O (λF' hF=>qI5 F' oA no.length oc no (hsO.mono (Fa hF)) xB)) O ?_
 rintro⟨A38,c38,m38⟩ h38
 try dsimp only at h38
 refine J.b O<|J.g ((qBR O O O (by simp only [jA,Sha.numB_length,jD,jG];omega)).as (v':=Str (cmB no.length hn)) O) O<|J.q (qAE (l:= [.tmp 40]) (xs:= [[Str (cmB no.length hn)]]) O O O O qAj el9 O xC xC xD) O λg41 _=>J.q (qAW (i:=5) (m2:=blk g41 [Str (cmB no.length hn)] 9) O O O qAj qAj el9 O h38 xD ((qA5 (q:=True) (qAH [cmB no.length hn]) O (by simp [qAH]) O).sl) O xB xB) O ?_
 rintro⟨A42,c42,m42⟩ h42
 try dsimp only at h42
 replace h42:Row m42 9 1 A42 (no.length+1) c42 (qAH (no++ [(cmB no.length hn)])):=by rw [qBx];exact h42
 rw [show no.length+1=(no++ [(cmB no.length hn)]).length by rw [jA];rfl] at h42⊢
 refine J.b O<|J.c j6<|J.f λ_ j7=>J.b O<|J.c j7<|J.p λ_ j8=>J.f λ_ j9=>J.b O<|J.g (qAP qAj O O) O<|J.b O<|J.c j9<|J.T<|J.b6 (X:=Nat) (λζ=> [(0,Ptr gs),(6,.slice A42 ((no++ [cmB no.length hn]).length) c42),(7,I (qC2 ((no++ [cmB no.length hn]).take ζ):Nat)),(43,.slice A42 ((no++ [cmB no.length hn]).length) c42),(44,I ((no++ [cmB no.length hn]).length:Nat)),(45,I (ζ:Nat))]) (λζ=> [x.blk gb,md,N,F,m28,m42,blk g41 [Str (cmB no.length hn)] 9]) (λζ=>ζ≤(no++ [cmB no.length hn]).length) (λζ=>(no++ [cmB no.length hn]).length-ζ) 0 (jF _) ⟨O,O,O,O,O,O,trivial⟩ (λ_ h=>h) ?_
 rintro i hi I0 hI0
 refine J.f λ_ j10=>J.g (qAQ O O O) O<|J.c j10<|J.p λ_ j11=>J.Z O (λh46=>?_) (λh46=>?_)
 ·
  refine J.M j11<|J.p λ_ j12=>J.T<|J.f λ_ j13=>J.g (qAF O O O qAj z9_ h42.sl xB) O<|J.g (qAI O O b9_ (m:=m42) xD (h42.sl.elem (qAb (qAh [] xB)))) O<|J.b O<|J.c j13 ?_
  have hp9:=hl9 _ (qMm (l:=(no++ [cmB no.length hn])) (i:=i) xB)
  have hp24:=qEf hp9
  have hnle:=qMk (l:=(no++ [cmB no.length hn])) (i:=i)
  refine J.H<|J.j 2 O<|J.g (qAp u9_ O O) O<|J.q (qAa O O (λF' hF=>qGe F' ((no++ [cmB no.length hn]).getD i []).length xB)) O λg52 _=>J.g ((qAR O O O xB).as (v':=I (qC2 ((no++ [cmB no.length hn]).take i)+(qBX ((no++ [cmB no.length hn]).getD i []).length):Nat)) (congrArg I xB)) O<|J.b O<|J.a4<|J.a1<|J.u (J.D j12 ?_)
  exact J.H<|J.g ((qAR O O O xB).nat (i+1) xB) O<|J.b O<|J.a4<|J.u<|J.a7 (i+1) (λη (hη:_∧(no++ [cmB no.length hn]).length-η<(no++ [cmB no.length hn]).length-i)=>hI0 η hη.1 hη.2) ⟨xB,by first|omega|(dsimp only;omega)⟩ ⟨O,O,by rw [qHs xB];rfl,O,O,O,trivial⟩ (λ_ h=>h)
 refine J.b4<|J.a0<|J.a0<|J.b5 ?_
 refine J.u (J.D j8 ?_)
 refine J.p λ_ j14=>J.p λ_ j15=>?_
 obtain rfl:i=(no++ [cmB no.length hn]).length:=by omega
 rw [jn]
 refine J.H<|J.j 2 O<|J.g (qAB O O) O<|J.W 1 qBB sizeOf125 O O O O O<|J.g (qAI O O isAgg125 (m:=F) xD (hp.at (i:=1) O)) O<|J.q (qAa O O (λF' hF=>qP8 F' gb x.gd ((x.f0:Nat):Int) x.size (x.hat:Nat) x.ht ((x.e:Nat):Int) x.A x.R.length x.c false (qAG.blk0.mono (hF (x.blk gb) xD)) xB xB)) O λg60 _=>J.g ((qA0 O O O).no xB) O<|J.c j15<|J.a3 ?_
 refine J.M j14<|J.p λ_ j16=>J.f λ_ j17=>J.b O<|J.g (qAP qAj O O) O<|J.b O<|J.c j17<|J.T<|J.b6 (X:=Nat×CbR×Hp×Hp) (λζ=> [(0,Ptr gs),(62,.slice A42 ((no++ [cmB no.length hn]).length) c42),(63,I ((no++ [cmB no.length hn]).length:Nat)),(64,I (ζ.1:Nat))]) (λζ=> [ζ.2.1.blk gb,ζ.2.2.1,F,ζ.2.2.2,m28,m42]) (λζ=>ζ.1≤(no++ [cmB no.length hn]).length∧CbP ζ.2.2.2 ζ.2.2.1 ζ.2.1∧CbL x ζ.2.1 ((no++ [cmB no.length hn]).take ζ.1)) (λζ=>(no++ [cmB no.length hn]).length-ζ.1) (0,x,md,N) (⟨jF _,hb,CbL.nil x⟩) ⟨O,O,O,O,trivial⟩ (λ_ h=>h.pick [0,1,3,2,4,5] xC) ?_
 rintro⟨i,y,md2,N2⟩ ⟨hi,hy,hL⟩ I2 hI2
 dsimp only at hi hy hL⊢
 refine J.f λ_ j18=>J.g (qAQ O O O) O<|J.c j18<|J.p λ_ j19=>J.Z O (λh65=>?_) (λh65=>?_)
 ·
  refine J.M j19<|J.p λ_ j20=>J.T<|J.f λ_ j21=>J.g (qAF O O O qAj z9_ h42.sl xB) O<|J.g (qAI O O b9_ (m:=m42) xD (h42.sl.elem (qAb (qAh [] xB)))) O<|J.b O<|J.c j21<|J.f λ_ j22=>J.b O<|J.g (qAB O O) O<|J.W 1 qBB sizeOf125 O O O O O<|J.g (qAI O O isAgg125 (m:=F) xD (hp.at (i:=1) O)) O<|J.b O<|J.q (qAK O O ent (Ct.useA [y.blk gb,md2] [F,N2,m28,m42] (A':=λz:CbR×Hp×Hp=> [z.1.blk gb,z.2.1]) (new:=λz=> [z.2.2]) (λF' hF=>qWH F' md2 (hK.mo hF) gb y (hy.mono (Fa hF)) ((no++ [cmB no.length hn]).getD i []) (hl9 _ (qMm xB)) (by rw [hL.e,hL.sz];have:=qMk (l:=(no++ [cmB no.length hn])) (i:=i+1);rw [qHs xB] at this;omega) (by rw [hL.R,jA,jE];omega)))) O ?_
  rintro⟨y2,md3,N3⟩ ⟨hy2,hn2⟩
  refine J.b O<|J.c j22<|J.f λ_ j23=>J.b O<|J.g ((qAY O O O).no xC) O<|J.c j23<|J.a3 ?_
  refine J.b2<|J.a1<|J.u (J.D j20 ?_)
  exact J.H<|J.g ((qAR O O O xB).nat (i+1) xB) O<|J.b O<|J.a4<|J.u<|J.a7 (i+1,y2,md3,N3) (λη (hη:_∧(no++ [cmB no.length hn]).length-η.1<(no++ [cmB no.length hn]).length-i)=>hI2 η hη.1 hη.2) ⟨⟨by dsimp only;omega,hy2,by dsimp only;rw [qJS _ xB];exact hL.snoc hn2⟩,by dsimp only;omega⟩ ⟨O,O,O,O,trivial⟩ (λ_ h=>h.pick [0,1,2,6,4,5] xC)
 refine J.b4<|J.a0<|J.a0<|J.b5 ?_
 refine J.u (J.D j16 ?_)
 exact J.f λ_ j24=>J.b O<|J.c j24<|J.A<|J.E hw0 O (⟨y,md2,N2⟩:WrR) O ⟨hy,by rw [show(no++ [cmB no.length hn]).take i=(no++ [cmB no.length hn]) from jY xB] at hL;exact hL⟩ [0,1,3,2] O xC
abbrev aX(l:List Aud)(i:Nat):Aud:=l.getD i qAq
structure qWd (gl:List Aud):Prop where
 len:gl.length≤15
 sm: ∀x∈gl,x.nm.length≤1000000∧x.op.length≤1048576∧x.rt.length≤1048576
 ok: ∀i,i<gl.length→qNH (gl.take i) (aX gl i).nm (aX gl i).op (aX gl i).rt (aX gl i).ht=0
theorem qWd.at{gl:List Aud}(h:qWd gl){i:Nat}(hi:i<gl.length):(aX gl i).nm.length≤1000000∧(aX gl i).op.length≤1048576∧(aX gl i).rt.length≤1048576:=by
 refine h.sm _ ?_
 show gl.getD i qAq∈gl
 rw [jB,jC hi];exact jS hi
theorem qWd.step{gl:List Aud}(h:qWd gl){i:Nat}(hi:i<gl.length):qRI (gl.take i) (aX gl i).nm (aX gl i).op (aX gl i).rt (aX gl i).ht=gl.take (i+1):=by
 unfold qRI
 rw [if_pos (h.ok i hi),qDt gl i qAq hi]
theorem qOK(x:Aud):(qUH x).length≤16:=by
 unfold qUH
 split
 · rw [Sha.tagged_length];exact jK _
 · exact jF _
theorem qGr(l:List Aud): ∀{n:Nat},n≤15→qCE (qF0 [] l n)
 |0,_=>⟨List.Pairwise.nil,(λp h=>by cases h),(λp h=>by cases h),jF _⟩
 |n+1,h=>by
  have h2:=qIs l (n:=n) xB
  exact(qGr l xB).put (qBc n) (jg (qOK _) xC) xB
structure NwR where
 gs:Nat
 gA:Nat
 gR:Nat
 mR:Hp
 gt:Nat
 mt:Hp
 cp:CpR
 ad:AdR
 gb:Nat
structure NwP (gl:List Aud) (dp:Nat) (x:NwR):Prop where
 ro:qRT x.mR x.gR gl
 tr:qFt x.mt x.gt (qF0 [] gl gl.length)
 cp:CpP [] gl x.cp
 ad:AdP qAk dp gl.length x.gt [] [] (qF0 [] gl gl.length) x.ad
theorem qK7(F:Hp)(gs:Nat)(A:Option Addr)(c:Nat):Cz prog 52 [Ptr gs,.slice A 0 c] F (.bool true):=by
 refine Ct.walk func52 O ntmps52 O (λw0 hw0=>?_)
 refine J.f λ_ j1=>J.b O<|J.c j1<|J.f λ_ j2=>J.b O<|J.c j2<|J.p λ_ j3=>J.f λ_ j4=>J.b O<|J.g (qAP qAj O O) O<|J.b O<|J.c j4<|J.T<|J.b6 (X:=Nat×Value) (λζ=> [(0,Ptr gs),(5,ζ.2),(13,.slice A 0 c),(14,I (0:Nat)),(15,I (ζ.1:Nat))]) (λζ=> [F]) (λζ=>ζ.1=0) (λζ=>0) (0,.slice none 0 0) (O) ⟨O,O,O,O,O,trivial⟩ (λ_ h=>h) ?_
 rintro⟨i,v5⟩ hi I0 hI0
 dsimp only at hi⊢
 refine J.f λ_ j5=>J.g ((qAQ O O O).no xB) O<|J.c j5<|J.p λ_ j6=>J.a3 ?_
 refine J.b4<|J.a0<|J.a0<|J.b5 ?_
 refine J.u (J.D j3 ?_)
 exact J.f λ_ j7=>J.b O<|J.c j7<|J.A<|J.E hw0 O () O trivial [0] O xC
theorem qUf(F md:Hp)(hK:qAG F ⟨3,0,none⟩ (Sha.K.map W32))(hA:qAG F ⟨0,0,none⟩ qBW)(hT:qB0 F)(gd n:Nat)(hb:Dsk md gd (Dk.new n) none 0)(hn4:4≤n)(hn:n≤1000)(first count:Nat)(h8:8≤count)(hfc:first+count≤n)(dp:Nat)(hdp:dp≤4)(GA:Option Addr)(gc:Nat)(gl:List Aud)(hgl:Sl F 4 GA gl.length gc (qBf gl))(hg:qWd gl):Ct prog 9 [Ptr gd,I (first:Nat),I (count:Nat),I (dp:Nat),.slice GA gl.length gc] [md,F] (λx:NwR=> .tuple #[Ptr x.gs,I (0:Nat)]) (NwP gl dp) (λx=> [md,F,qAM x.gA (.map #[] 0),x.mR,x.mt,blk x.gs [I (dp:Nat),Ptr x.gb,.bool false,.map (some x.gA),Ptr x.gR,.map (some x.cp.g),Ptr x.cp.r,.slice none 0 0,.slice none 0 0,.slice x.ad.tA (([]:List Nat)++ [x.gt]).length x.ad.tc,.slice x.ad.hA (([]:List RhD)++ [adH qAk dp gl.length [] (qF0 [] gl gl.length) x.ad.nA x.ad.nc]).length x.ad.hc] 129,x.cp.mm,x.cp.M,x.cp.mr,x.ad.mT,x.ad.mH,x.ad.mN,(CbR.blk x.gb ⟨gd,first,count/2,first,0,0,none,0,[],Dk.new n⟩)]):=by
 obtain ⟨hp1,hp16⟩:=qMS hdp
 have hcnt:cnt ((dp:Nat):Int)=2^dp:=qCs hdp
 have hg15:=hg.len
 obtain ⟨dA,dc,dB,de,hdc,hdL,hdW⟩:=hb.see
 have hll:=qIs gl (n:=gl.length) hg15
 have hlast:(Dk.new n).last.length=n:=by unfold Dk.new;exact jJ
 refine Ct.walk func9 O ntmps9 O (λw0 hw0=>?_)
 refine J.f λ_ j1=>J.j 2 O<|J.c j1<|J.p λ_ j2=>J.f λ_ j3=>J.b O<|J.q (qAa O O (λF' hF=>by have:=qB9 F' ((dp:Nat):Int);rw [hcnt] at this;exact this)) O λg21 _=>J.g ((qAZ O O O).no xB) O<|J.c j3<|J.a3 ?_
 refine J.M j2<|J.f λ_ j4=>J.b O<|J.q (qCz O) O ?_
 rintro g24 _
 refine J.q (qBV O O (λF' hF=>Ct.swap2 (qUv F'))) O ?_
 rintro⟨g25,m25⟩ h25
 try dsimp only at h25
 refine J.g (qAL (places:= [(0,1),(1,1)]) (r:= [.map (some g24),Ptr g25]) O O O qEI zeroValue124 (λ_=>xH) O) O<|J.g (qAL (places:= [(0,1),(1,1),(2,1),(3,2),(5,2),(7,1),(8,1),(9,1),(10,1)]) (r:= [I (dp:Nat),.pointer none,.bool false,.map (some g24),Ptr g25,.map none,.pointer none,.slice none 0 0,.slice none 0 0,.slice none 0 0,.slice none 0 0]) O O O qBB zeroValue129 (λ_=>xH) xH) O<|J.q (qAd O O O) O λg28 _=>J.b O<|J.c j4<|J.p λ_ j5=>J.f λ_ j6=>J.b O<|J.g (qAP qDS O O) O<|J.b O<|J.c j6<|J.T<|J.b6 (X:=Nat×Hp) (λζ=> [(0,Ptr gd),(1,I (first:Nat)),(2,I (count:Nat)),(12,Ptr g28),(29,.slice GA gl.length gc),(30,I (gl.length:Nat)),(31,I (ζ.1:Nat))]) (λζ=> [ζ.2,md,F,qAM g24 (.map #[] 0),blk g28 [I (dp:Nat),.pointer none,.bool false,.map (some g24),Ptr g25,.map none,.pointer none,.slice none 0 0,.slice none 0 0,.slice none 0 0,.slice none 0 0] 129]) (λζ=>ζ.1≤gl.length∧qRT ζ.2 g25 (gl.take ζ.1)) (λζ=>gl.length-ζ.1) (0,m25) (⟨jF _,h25⟩) ⟨O,O,O,O,O,O,O,trivial⟩ (λ_ h=>h.pick [3,0,1,2,4] xC) ?_
 rintro⟨i,mo⟩ ⟨hi,hro⟩ I0 hI0
 dsimp only at hi hro⊢
 refine J.f λ_ j7=>J.g (qAQ O O O) O<|J.c j7<|J.p λ_ j8=>J.Z O (λh32=>?_) (λh32=>?_)
 ·
  refine J.M j8<|J.p λ_ j9=>J.T<|J.p λ_ j10=>?_
  obtain ⟨hx1,hx2,hx3⟩:=hg.at (i:=i) xB
  have htk:(gl.take i).length≤1000000:=by rw [jE];omega
  refine J.H<|J.g (qAF O O O qDS qDW hgl xB) O<|J.g (qAT O O qKe qDW (m:=F) xD (hgl.elem (qFD xB)) O) O<|J.q (qAJ O qQi O) O λg14 _=>J.a8 (qAD (i:=5) (l:= [Str [],Str [],Str [],I 0]) (vs:= [Str ((gl.getD i qAq).nm),Str ((gl.getD i qAq).op),Str ((gl.getD i qAq).rt),I ((gl.getD i qAq).ht)]) O O O O O qDW O O) O O λ_ _=>J.c j10<|J.p λ_ j11=>J.b1 [blk g28 [I (dp:Nat),.pointer none,.bool false,.map (some g24),Ptr g25,.map none,.pointer none,.slice none 0 0,.slice none 0 0,.slice none 0 0,.slice none 0 0] 129,blk g14 [Str ((gl.getD i qAq).nm),Str ((gl.getD i qAq).op),Str ((gl.getD i qAq).rt),I ((gl.getD i qAq).ht)] 34] [] (.y 0 (.y 1 (.y 2 (.y 3 (.y 4 (.y 5 (.e 6 (.y 7 (.y 8 (.y 9 (.y 10 (.y 11 .nil)))))))))))) Tryz.wide xF xD ?_
  refine J.L ?_
  refine J.k O (qAB O O) O O<|J.k O (qAA O O qBB O qCU O) O O<|J.k O (qAA O O qEI O sizeOf121 O) O O<|J.k O (qAC 0 O O O isAgg121 O) O O<|J.k O (qAe 1 O O O qKe qDW O) O O<|J.a2 O (qAK O O ent (Ct.use1 0 O (λF' hF=>qU7 F' mo g25 (gl.take i) hro (hA.mono (Fa hF)) (hT.mono (Fa hF)) ((gl.getD i qAq).nm) ((gl.getD i qAq).op) ((gl.getD i qAq).rt) ((gl.getD i qAq).ht) (by first|omega|exact jT O|(rw [jP];omega)) (by first|omega|exact jT O|(rw [jP];omega)) (by first|omega|exact jT O|(rw [jP];omega)) (by first|omega|exact jT O|(rw [jP];omega))))) O xD ?_
  rintro m42 h42
  rw [hg.ok i xB]
  replace h42:=(congrArg (qRT m42 g25) (hg.step (i:=i) xB)).mp h42
  refine J.L ?_
  refine J.c8 (I (qHQ (gl.take i) (aX gl i).nm (aX gl i).op (aX gl i).rt (aX gl i).ht)) ?_
  refine J.c8 (I (0:Nat)) ?_
  refine J.b7 ?_
  refine J.b7 ?_
  refine J.b0<|J.u (J.D j11 ?_)
  refine J.f λ_ j12=>J.b O<|J.g ((qAY O O O).no xC) O<|J.c j12<|J.a3 ?_
  refine J.b2<|J.a1<|J.u (J.D j9 ?_)
  exact J.H<|J.g ((qAR O O O xB).nat (i+1) xB) O<|J.b O<|J.a4<|J.u<|J.a7 (i+1,m42) (λη (hη:_∧gl.length-η.1<gl.length-i)=>hI0 η hη.1 hη.2) ⟨⟨by dsimp only;omega,h42⟩,by dsimp only;omega⟩ ⟨O,O,O,O,O,O,O,trivial⟩ (λ_ h=>h.pick [0,1,2,3,4] xC)
 refine J.b4<|J.a0<|J.a0<|J.b5 ?_
 refine J.u (J.D j5 ?_)
 refine J.p λ_ j13=>?_
 obtain rfl:i=gl.length:=by omega
 rw [jn] at hro
 obtain ⟨A3,n3,c3,hcA,hsA,_⟩:=hro.see
 obtain rfl:gl.length=n3:=by have:=hsA.1;rw [qDo] at this;exact this
 refine J.H<|J.q (qBV O O (λF' hF=>Ct.swap2 (qUS F'))) O ?_
 rintro⟨g49,m49⟩ h49
 try dsimp only at h49
 refine J.b O<|J.c j13<|J.f λ_ j14=>J.b O<|J.g (qAB O O) O<|J.W 3 qBB qCU O O O O O<|J.W 4 qEI sizeOf121 O O O O O<|J.a5 4 isAgg121 O O O O O<|J.b O<|J.q (qAK O O ent (Ct.use1 5 O (λF' hF=>qUx F' m49 (hK.mo hF) g25 A3 gl.length c3 gl (hsA.mono (Fa hF)) xB (hcA.mono (Fa hF)) g49 [] h49 hg.sm xB))) O ?_
 rintro m56 h56
 refine J.c j14<|J.f λ_ j15=>J.j 2 O<|J.g (qAB O O) O<|J.W 3 qBB qCU O O O O O<|J.g (qAT O O isAgg124 qCU (m:=blk g28 [I (dp:Nat),.pointer none,.bool false,.map (some g24),Ptr g25,.map none,.pointer none,.slice none 0 0,.slice none 0 0,.slice none 0 0,.slice none 0 0] 129) xD (qAG.blk0.sub 3 2) O) O<|J.q (qBV O O (λF' hF=>qMH F' g24 g25 [] ((MapS.nil g24).at.mono (hF (qAM g24 (.map #[] 0)) xD)) (λ_ h=>by cases h) List.nodup_nil (λ_ h=>by cases h) A3 gl.length c3 gl (hcA.mono (Fa hF)) (hsA.mono (Fa hF)) xB)) O ?_
 rintro r62 hp62
 refine J.g (qAB O O) O<|J.W 5 qBB qCU O O O O O<|J.a8 (qAV (i:=4) O O O O O qCU O xD) O O λ_ _=>J.c j15<|J.p λ_ j16=>?_
 obtain ⟨A4,n4,c4,hcB,hsB,_⟩:=hp62.ro.see
 obtain rfl:gl.length=n4:=by have:=hsB.1;rw [qDo] at this;exact this
 refine J.c5 [0,1,2,3,4,5,6,7,8,9] [mo,md,F,qAM g24 (.map #[] 0),blk g28 [I (dp:Nat),.pointer none,.bool false,.map (some g24),Ptr g25,.map (some r62.g),Ptr r62.r,.slice none 0 0,.slice none 0 0,.slice none 0 0,.slice none 0 0] 129,m56,r62.mm,r62.M,r62.mr,(λ_=>none)] O xC<|J.c5 [0,1,2,3,4,5,6,7,8,9,10] [mo,md,F,qAM g24 (.map #[] 0),blk g28 [I (dp:Nat),.pointer none,.bool false,.map (some g24),Ptr g25,.map (some r62.g),Ptr r62.r,.slice none 0 0,.slice none 0 0,.slice none 0 0,.slice none 0 0] 129,m56,r62.mm,r62.M,r62.mr,(λ_=>none),(λ_=>none)] O xC<|J.c3 [4,9,10,1,2,3,0,5,6,7,8] [blk g28 [I (dp:Nat),.pointer none,.bool false,.map (some g24),Ptr g25,.map (some r62.g),Ptr r62.r,.slice none 0 0,.slice none 0 0,.slice none 0 0,.slice none 0 0] 129,(λ_=>none),(λ_=>none),md,F,qAM g24 (.map #[] 0),mo,m56,r62.mm,r62.M,r62.mr] O xC<|J.H<|J.j 2 O<|J.q (qAK O O ent (Ct.useA [blk g28 [I (dp:Nat),.pointer none,.bool false,.map (some g24),Ptr g25,.map (some r62.g),Ptr r62.r,.slice none 0 0,.slice none 0 0,.slice none 0 0,.slice none 0 0] 129,(λ_=>none),(λ_=>none)] [md,F,qAM g24 (.map #[] 0),mo,m56,r62.mm,r62.M,r62.mr] (A':=λx:AdR=> [blk g28 [I (dp:Nat),.pointer none,.bool false,.map (some g24),Ptr g25,.map (some r62.g),Ptr r62.r,.slice none 0 0,.slice none 0 0,.slice x.tA (([]:List Nat)++ [g49]).length x.tc,.slice x.hA (([]:List RhD)++ [adH qAk dp gl.length [] (qF0 [] gl gl.length) x.nA x.nc]).length x.hc] 129,x.mT,x.mH]) (new:=λx=> [x.mN]) (λF' hF=>qPC F' (λ_=>none) (λ_=>none) (hK.mo hF) g28 dp r62.r (.pointer none) (.bool false) (.map (some g24)) (Ptr g25) (.map (some r62.g)) (.slice none 0 0) (.slice none 0 0) none 0 [] qBS.nil (jF _) none 0 [] qBS.nil (jF _) hdp g49 (qF0 [] gl gl.length) (h56.at.mono (Fa hF)) (qGr gl hg15) A4 gl.length c4 gl (hcB.mono (Fa hF)) (hsB.mono (Fa hF)) qAk))) O ?_
 rintro r67 hp67
 refine J.c j16<|J.f λ_ j17=>J.j 3 O<|J.q (qBV O O (λF' hF=>qNr F' (hK.mo hF) gd (Dk.new n) dA dc dB de none 0 (hdc.mono (Fa hF)) (hdL.mono (Fa hF)) (hdW.mono (Fa hF)) xB (jF _) first count h8 xB qSd)) O ?_
 rintro g72 _
 change J _ ((72,.tuple #[Ptr g72,I (0:Nat)])::_) _ [_,_,_,_,_,_,_,_,_,_,_,_,(CbR.blk g72 ⟨gd,first,count/2,first,0,0,none,0,[],Dk.new n⟩)] _
 refine J.j 5 O<|J.c j17<|J.p λ_ j18=>J.f λ_ j19=>J.b O<|J.g ((qAY O O O).no xC) O<|J.c j19<|J.a3 ?_
 refine J.M j18<|J.f λ_ j20=>J.j 2 O<|J.g (qAB O O) O<|J.W 1 qBB sizeOf125 O O O O O<|J.a8 (qAV (i:=0) (l:= [I (dp:Nat),.pointer none,.bool false,.map (some g24),Ptr g25,.map (some r62.g),Ptr r62.r,.slice none 0 0,.slice none 0 0,.slice r67.tA (([]:List Nat)++ [g49]).length r67.tc,.slice r67.hA (([]:List RhD)++ [adH qAk dp gl.length [] (qF0 [] gl gl.length) r67.nA r67.nc]).length r67.hc]) (vs:= [Ptr g72]) O O O O O sizeOf125 O xD) O O λ_ _=>?_
 change J _ _ _ [blk g28 [I (dp:Nat),Ptr g72,.bool false,.map (some g24),Ptr g25,.map (some r62.g),Ptr r62.r,.slice none 0 0,.slice none 0 0,.slice r67.tA (([]:List Nat)++ [g49]).length r67.tc,.slice r67.hA (([]:List RhD)++ [adH qAk dp gl.length [] (qF0 [] gl gl.length) r67.nA r67.nc]).length r67.hc] 129,_,_,_,_,_,_,_,_,_,_,_,_] _
 refine J.c j20<|J.p λ_ j21=>J.f λ_ j22=>J.j 2 O<|J.q (qAK O O ent (Ct.use (new:=λx:Option Addr×Nat×Hp=> [x.2.2]) (λF' hF=>qNh F' g72 gd ((first:Nat):Int) (count/2) ((first:Nat):Int) 0 ((0:Nat):Int) none 0 0 false (qAG.blk0.mono (hF (CbR.blk g72 ⟨gd,first,count/2,first,0,0,none,0,[],Dk.new n⟩) xD)) [] O Sl.nil (jF _)))) O ?_
 rintro⟨A84,c84,m84⟩ h84
 try dsimp only at h84
 refine J.q (qAa O O (λF' hF=>qK7 F' g28 A84 c84)) O λg85 _=>J.g ((qAu O O).as (v':= .bool false) O) O<|J.c j22<|J.a3 ?_
 exact J.M j21<|J.f λ_ j23=>J.j 3 O<|J.c j23<|J.A<|J.a9 hw0 (λ_ _ h=>h) (qBk O O O) (qAg (⟨g28,g24,g25,mo,g49,m56,r62,r67,g72⟩:NwR) O ⟨hro,h56,hp62,hp67⟩ [3,4,5,6,7,0,8,9,10,1,2,11,12] O xC)
end Go.Proofs.YtmemgokiolfdoaaGreatDoor