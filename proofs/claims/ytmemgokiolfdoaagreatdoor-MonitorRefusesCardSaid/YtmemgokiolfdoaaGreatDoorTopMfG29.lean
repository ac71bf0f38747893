/- A part of the proof. -/
import Derived.Test.YtmemgokiolfdoaaGreatDoorTopMfG19
import Derived.Test.YtmemgokiolfdoaaGreatDoorTopMfG27
import Derived.Test.YtmemgokiolfdoaaGreatDoorTopMfG28
set_option maxRecDepth 100000
set_option maxHeartbeats 1000000
set_option linter.unusedSimpArgs false
set_option linter.unusedVariables false
namespace Go.Proofs.YtmemgokiolfdoaaGreatDoor
open Go Go.Fw Go.Proofs.Tryz
structure RhD where
 ep:Nat
 par:xA
 dep:Nat
 aud:Nat
 nsA:Option Addr
 nsc:Nat
 ns:List xA
def RhD.cells(x:RhD):List Value:= [N64 (x.ep),Str (x.par),I (x.dep:Nat),I (x.aud:Nat),.slice x.nsA x.ns.length x.nsc]
def qAX:RhD:=⟨0,[],0,0,none,0,[]⟩
def qDW(l:List RhD):List (List Value):=l.map RhD.cells
theorem qFH{l:List RhD}{k:Nat}(h:k<l.length):(qDW l)[k]?=some (l.getD k qAX).cells:=by
 unfold qDW
 rw [jO,qAk qAX h];rfl
theorem qKN(a:List RhD)(x:RhD):qDW (a++ [x])=qDW a++ [x.cells]:=by simp [qDW]
theorem qW4(a:List RhD):(qDW a).all (λx=>x.all Value.oneCell')=true:=qMC RhD.cells (λ_=>rfl) a
structure TrD where
 b:Nat
 d:Nat
 old:xA
 nw:xA
 stA:Option Addr
 stc:Nat
 st:List qBj
def TrD.cells(x:TrD):List Value:= [I (x.b:Nat),I (x.d:Nat),Str (x.old),Str (x.nw),.slice x.stA x.st.length x.stc]
def noTrD:TrD:=⟨0,0,[],[],none,0,[]⟩
def qJ8(l:List TrD):List (List Value):=l.map TrD.cells
theorem qOP(a:List TrD)(x:TrD):qJ8 (a++ [x])=qJ8 a++ [x.cells]:=by simp [qJ8]
def qCh(l:List En):List (List Value):=l.map En.cells
theorem qBh{l:List En}{k:Nat}(h:k<l.length):(qCh l)[k]?=some (l.getD k qBG).cells:=by
 unfold qCh
 rw [jO,qAk qBG h];rfl
theorem qW5(a:List En):(qCh a).all (λx=>x.all Value.oneCell')=true:=qMC En.cells (λ_=>rfl) a
theorem qK7(l:List En)(k:Nat):(qCh l).take k=qCh (l.take k):=by simp [qCh]
theorem qUZ(l:List En)(k:Nat)(x:En):(qCh l).set k x.cells=qCh (l.set k x):=by simp [qCh,List.map_set]
def qDn(l:List Nat):List (List Value):=l.map λg=> [Ptr g]
theorem qKR{l:List Nat}{k:Nat}(h:k<l.length):(qDn l)[k]?=some [Ptr (l.getD k 0)]:=by
 unfold qDn;rw [jO,jC h,jB,jC h];rfl
theorem qOe(a:List Nat)(x:Nat):qDn (a++ [x])=qDn a++ [[Ptr x]]:=by simp [qDn]
theorem qZU(l:List Hp)(m:Hp):U (l++ [m])=U [U l,m]:=by
 induction l with
 |nil=>rfl
 |cons a l ih=>
  funext g
  show(match a g with|some o=>some o|none=>U (l++ [m]) g)=match (match a g with|some o=>some o|none=>U l g) with|some o=>some o|none=>U [m] g
  rw [ih]
  cases a g<;>rfl
theorem qU8{l:List Hp}{m:Hp}(h:Djs l)(hd:Dj (U l) m):Djs (l++ [m]):=by
 rw [qAZ,jS]
 refine⟨qAZ.1 h,by simp,λa ha b hb=>?_⟩
 rw [List.mem_singleton.1 hb]
 exact(Dj.U_right.1 hd.symm a ha).symm
structure Lb where
 nm:xA
 A:Option Addr
 c:Nat
 l:List En
 m:Hp
abbrev LE:=List (xA×List En)
def lbV(ls:List Lb):MP:=ls.map λx=>(x.nm,.slice x.A x.l.length x.c)
def lbE(ls:List Lb):LE:=ls.map λx=>(x.nm,x.l)
def qCo:List Lb→xA→Option Lb
 | [],_=>none
 |x::r,k=>if x.nm=k then some x else qCo r k
def qDN:LE→xA→List En
 | [],_=> []
 |x::r,k=>if x.1=k then x.2 else qDN r k
def qXQ(ls:List Lb)(k:xA):Option Addr:=match qCo ls k with|some x=>x.A|none=>none
def qXP(ls:List Lb)(k:xA):Nat:=match qCo ls k with|some x=>x.c|none=>0
theorem qJZ(ls:List Lb)(k:xA):qDN (lbE ls) k=match qCo ls k with|some x=>x.l|none=> []:=by
 induction ls with
 |nil=>rfl
 |cons x r ih=>
  show(if x.nm=k then x.l else qDN (lbE r) k)=match (if x.nm=k then some x else qCo r k) with|some x=>x.l|none=> []
  by_cases h:x.nm=k
  · rw [if_pos h,if_pos h]
  · rw [if_neg h,if_neg h];exact ih
theorem qF0(ls:List Lb)(k:xA):qKz (lbV ls) k=(qCo ls k).map λx=> .slice x.A x.l.length x.c:=by
 induction ls with
 |nil=>rfl
 |cons x r ih=>
  show(if x.nm=k then some _ else qKz (lbV r) k)=(if x.nm=k then some x else qCo r k).map _
  by_cases h:x.nm=k
  · rw [if_pos h,if_pos h];rfl
  · rw [if_neg h,if_neg h];exact ih
theorem qVV(ls:List Lb)(k:xA):(qKz (lbV ls) k).getD (.slice none 0 0)= .slice (qXQ ls k) (qDN (lbE ls) k).length (qXP ls k):=by
 rw [qF0,qJZ]
 unfold qXQ qXP
 cases qCo ls k<;>rfl
theorem qK0{ls:List Lb}{k:xA}{x:Lb}(h:qCo ls k=some x):x∈ls∧x.nm=k:=by
 induction ls with
 |nil=>cases h
 |cons y r ih=>
  rw [qCo] at h
  split at h
  · rename_i hk;cases h;exact⟨.head _,hk⟩
  · have:=ih h;exact⟨.tail _ this.1,this.2⟩
def LbA(F:Hp)(ls:List Lb):Prop:= ∀x∈ls,Sl F 5 x.A x.l.length x.c (qCh x.l)
theorem LbA.mono{F F':Hp}{ls:List Lb}(h:LbA F ls)(hl:Le F F'):LbA F' ls:=λx hx=>(h x hx).mono hl
theorem LbA.at{F:Hp}{ls:List Lb}(h:LbA F ls)(k:xA):Sl F 5 (qXQ ls k) (qDN (lbE ls) k).length (qXP ls k) (qCh (qDN (lbE ls) k)):=by
 rw [qJZ]
 unfold qXQ qXP
 cases hg:qCo ls k with
 |none=>exact Sl.nil
 |some x=>exact h x (qK0 hg).1
structure NxS (M:Hp) (ls:List Lb):Prop where
 eq:M=U (ls.map Lb.m)
 dj:Djs (ls.map Lb.m)
 row: ∀x∈ls,Row x.m 102 5 x.A x.l.length x.c (qCh x.l)
theorem NxS.nil:NxS (λ_=>none) []:=⟨rfl,trivial,λx h=>by cases h⟩
theorem NxS.at{M:Hp}{ls:List Lb}(h:NxS M ls):LbA M ls:=λx hx=>by
 rw [h.eq]
 exact(h.row x hx).sl.mono (qFx h.dj (List.mem_map.2 ⟨x,hx,O⟩))
theorem NxS.snoc{M m':Hp}{ls:List Lb}(h:NxS M ls){k:xA}{A:Option Addr}{c:Nat}{l:List En}(hr:Row m' 102 5 A l.length c (qCh l))(hd:Dj M m'):NxS (U [M,m']) (ls++ [⟨k,A,c,l,m'⟩]):=by
  refine⟨?_,?_,λx hx=>?_⟩
  · rw [jN,h.eq];exact(qZU _ _).symm
  · rw [jN]
    exact qU8 h.dj (h.eq▸hd)
  · rcases List.mem_append.1 hx with hx|hx
    · exact h.row x hx
    · rw [List.mem_singleton.1 hx];exact hr
theorem qI7{l:MP}{k:xA}(h:qKz l k=none)(v:Value):qNH l k v=l++ [(k,v)]:=by
  induction l with
  |nil=>rfl
  |cons x r ih=>
    rw [qKz] at h
    split at h
    · cases h
    · rename_i hn
      show(if x.1=k then _ else x::qNH r k v)=_
      rw [if_neg hn,ih h];rfl
theorem qJV(ls:List Lb)(x:Lb):lbV (ls++ [x])=lbV ls++ [(x.nm,.slice x.A x.l.length x.c)]:=by unfold lbV;rw [jN];rfl
theorem qNl(ls:List Lb)(x:Lb):lbE (ls++ [x])=lbE ls++ [(x.nm,x.l)]:=by unfold lbE;rw [jN];rfl
def qMm(l:LE):Prop:=(l.map Prod.fst).Nodup
theorem qK1{l:LE}{k:xA}(h:k∉l.map Prod.fst):qDN l k= []:=by
 induction l with
 |nil=>rfl
 |cons x r ih=>
  rw [ja,zR,not_or] at h
  rw [qDN,if_neg (λe=>h.1 e.symm),ih h.2]
theorem qIb{ls:List Lb}{k:xA}:qCo ls k=none↔k∉(lbE ls).map Prod.fst:=by
  induction ls with
  |nil=>simp [qCo,lbE]
  |cons x r ih=>
    show(if x.nm=k then some x else qCo r k)=none↔k∉x.nm::(lbE r).map Prod.fst
    rw [zR,not_or,←ih]
    by_cases h:x.nm=k
    · rw [if_pos h];simp [h]
    · rw [if_neg h]
      exact⟨λe=>⟨λe=>h e.symm,e⟩,λe=>e.2⟩
theorem qNw{l:LE}(h:qMm l){k:xA}{v:List En}(hm:(k,v)∈l):qDN l k=v:=by
 induction l with
 |nil=>cases hm
 |cons x r ih=>
  obtain ⟨h1,h2⟩:=List.nodup_cons.1 (show(x.1::r.map Prod.fst).Nodup from h)
  cases hm with
  |head=>rw [qDN,if_pos rfl]
  |tail _ hm=>
   rw [qDN,if_neg,ih h2 hm]
   rintro rfl
   exact h1 (List.mem_map.2 ⟨_,hm,O⟩)
theorem qRc{l l':LE}(h:qMm l)(hp:l.Perm l')(k:xA):qDN l k=qDN l' k:=by
  have h':qMm l':=(hp.map _).nodup_iff.1 h
  by_cases hk:k∈l.map Prod.fst
  · obtain ⟨x,hx,rfl⟩:=List.mem_map.1 hk
    rw [qNw h (v:=x.2) hx,qNw h' (v:=x.2) (hp.subset hx)]
  · rw [qK1 hk,qK1 (λe=>hk ((hp.map _).mem_iff.2 e))]
structure CbR where
 gd:Nat
 f0:Nat
 size:Nat
 hat:Nat
 ht:UInt64
 e:Nat
 A:Option Addr
 c:Nat
 R:List xA
 d:Dk
abbrev CbR.blk(gb:Nat)(x:CbR):Hp:=Fw.blk gb [Ptr x.gd,I (x.f0:Nat),I (x.size:Nat),I (x.hat:Nat),W64 x.ht,I (x.e:Nat),.slice x.A x.R.length x.c,.bool false] 244
structure CbP (G md:Hp) (x:CbR):Prop where
 dk:Dsk md x.gd x.d none 0
 ok:x.d.ok
 on:x.d.off=false
 ar:x.d.armed=false
 wt:x.d.wait= []
 kp:x.d.keep= []
 rs:Sl G 1 x.A x.R.length x.c (qAH x.R)
 fit:x.hat+x.size≤x.d.last.length
 ln:x.d.last.length≤1000
 tn:x.ht.toNat≤1
 ef:x.e≤x.size
theorem CbP.mono{G G' md:Hp}{x:CbR}(h:CbP G md x)(hl:Le G G'):CbP G' md x:={h with rs:=h.rs.mono hl}
structure CbN (x y:CbR) (s:xA):Prop where
 gd:y.gd=x.gd
 f0:y.f0=x.f0
 sz:y.size=x.size
 e:y.e=x.e+qBg s.length
 R:y.R=x.R++ [s]
 ln:y.d.last.length=x.d.last.length
theorem qXo(F md:Hp)(hK:qAG F ⟨3,0,none⟩ (Sha.K.map W32))(gb:Nat)(x:CbR)(h:CbP F md x)(s:xA)(hs:s.length≤900)(hf:x.e+qBg s.length≤x.size)(hr:x.R.length<65536):
    Ct prog 137 [Ptr gb,Str s] [x.blk gb,md,F] (λ_:CbR×Hp×Hp=>I 0) (λy=>CbP y.2.2 y.2.1 y.1∧CbN x y.1 s) (λy=> [y.1.blk gb,y.2.1,F,y.2.2]):=λw0 w hw=>by
  have hn24:=qFJ hs
  have hfit:=h.fit
  have hln:=h.ln
  have hnr:(UInt64.ofNat x.R.length).toNat<2^(8*2):=by rw [qBF xB];exact hr
  have hc:=qPX h.ok h.on h.ar (p:=x.hat+x.e) (n:=qBg s.length) xB (qQS (turn:=1) (num:=UInt64.ofNat x.R.length) (s:=s) xC hnr hn24)
  have hm:(((1:UInt64).toNat:Nat):Int)=max (x.ht.toNat:Int) 1:=by
    have:=h.tn
    rw [show(1:UInt64).toNat=1 from rfl];omega
  refine(qLL F md hK gb x.gd ((x.f0:Nat):Int) x.size x.hat x.ht x.e x.A x.R.length x.c x.d none 0 h.dk h.ok (by rw [h.wt];exact jG _) (by rw [h.kp];exact Sl.nil) (by rw [h.kp];exact jG _) x.R O h.rs s hs _ O 1 hm xC hr xB hf hc.1 w0 w hw).mono λv w' ⟨y,he,⟨hd,hrow⟩,hst⟩=>?_
  obtain ⟨_,c1,c2,c3,c4,c5,c6⟩:=hc
  have e1:(x.R++ [s]).length=x.R.length+1:=by rw [jA];rfl
  refine⟨(⟨x.gd,x.f0,x.size,x.hat,1,x.e+qBg s.length,y.2.1,y.2.2.1,x.R++ [s],_⟩,y.1,y.2.2.2),he,⟨⟨hd,c6,c1,c2,c4,by rw [c5,h.kp],by rw [e1];exact hrow.sl,by show x.hat+x.size≤_;rw [c3];exact hfit,by show List.length _≤_;rw [c3];exact hln,(by show(1:UInt64).toNat≤1;decide),hf⟩,⟨O,O,O,O,O,c3⟩⟩,?_⟩
  show St w0 [Fw.blk gb [Ptr x.gd,I (x.f0:Nat),I (x.size:Nat),I (x.hat:Nat),W64 1,I (x.e+qBg s.length:Nat),.slice y.2.1 (x.R++ [s]).length y.2.2.1,.bool false] 244,y.1,F,y.2.2.2] w'
  rw [e1];exact hst
theorem qNJ{d:Nat}(h:d≤4):1≤2^d∧2^d≤16:=by
 rcases d with _|_|_|_|_|d
 all_goals first|decide|omega
theorem qMx(F:Hp)(A:Option Addr)(n c:Nat)(l:List Nat)(hs:Sl F 1 A n c (qDn l))(h0:0<n)(hn:n≤1000000):Cz prog 97 [.slice A n c] F (Ptr (l.getD (n-1) 0)):=by
 have hln:l.length=n:=by have:=hs.1;simpa [qDn] using this
 refine Ct.walk func97 O ntmps97 O (λw0 hw0=>?_)
 refine J.f λ_ j1=>J.b O<|J.c j1 ?_
 refine J.f λ_ j2=>J.j 2 O<|J.g (qAQ qOO O O) O<|J.g ((qA8 O O O xB).nat (n-1) xB) O<|J.g (qAE O O O qOO sizeOf130 hs xB) O<|J.g (qAL O O isAgg130 (m:=F) xD (hs.elem (qKR xB))) O<|J.b O<|J.c j2 ?_
 exact J.A<|J.E hw0 O () O trivial [0] O xC
theorem qS4(F:Hp)(A:Option Addr)(n c:Nat)(l:List RhD)(hs:Sl F 5 A n c (qDW l))(h0:0<n)(hn:n≤1000000):Cz prog 140 [.slice A n c] F (.agg #[N64 ((l.getD (n-1) qAX).ep),Str ((l.getD (n-1) qAX).par),I ((l.getD (n-1) qAX).dep:Nat),I ((l.getD (n-1) qAX).aud:Nat),.slice (l.getD (n-1) qAX).nsA (l.getD (n-1) qAX).ns.length (l.getD (n-1) qAX).nsc]):=by
 have hln:l.length=n:=by have:=hs.1;simpa [qDW] using this
 refine Ct.walk func140 O ntmps140 O (λw0 hw0=>?_)
 refine J.f λ_ j1=>J.k (qAJ O qXj O) O λg2 _=>J.c j1 ?_
 refine J.f λ_ j2=>J.j 2 O<|J.g (qAQ qGy O O) O<|J.g ((qA8 O O O xB).nat (n-1) xB) O<|J.g (qAE O O O qGy qDM hs xB) O<|J.g (qAT O O qGG qDM (m:=F) xD (hs.elem (qFH xB)) O) O<|J.a8 (qAD (i:=1) (l:= [.int .u64 0,Str [],I 0,I 0,.slice none 0 0]) (vs:= [N64 ((l.getD (n-1) qAX).ep),Str ((l.getD (n-1) qAX).par),I ((l.getD (n-1) qAX).dep:Nat),I ((l.getD (n-1) qAX).aud:Nat),.slice (l.getD (n-1) qAX).nsA (l.getD (n-1) qAX).ns.length (l.getD (n-1) qAX).nsc]) O O O O O qDM O O) O O λ_ _=>J.c j2 ?_
 exact J.A<|J.a9 hw0 (λ_ _ h=>h) (rv1 O (RV.blkA 1 O O qGG qDM)) (qAi () O trivial [0] O xC)
theorem qM0(F:Hp)(gm:Nat)(vr:Value)(ls:List Lb)(hm:Fw.MapAt F gm (lbV ls))(hl:LbA F ls)(s:xA)(hn:(qDN (lbE ls) s).length≤1000000)(h0:qDN (lbE ls) s= []):Cz prog 102 [.agg #[.map (some gm),vr],Str (s)] F (.tuple #[.agg #[.int .u64 0,Str [],Str [],I 0,Str []],.bool false]):=by
 have hl0:(qDN (lbE ls) s).length=0:=by rw [h0];rfl
 refine Ct.walk func102 O ntmps102 O (λw0 hw0=>?_)
 refine J.f λ_ j1=>J.k (qAd O O O) O λg2 _=>J.k (qAJ O qEj O) O λg4 _=>J.b O<|J.c j1 ?_
 refine J.f λ_ j2=>J.V 0 qEs sizeOf120 O O O O O<|J.a6 1 isAgg120 O O O O O<|J.b O<|J.g ((qDG O O O qJ6 u9_ zeroValue85 (m:=F) xD hm).as (v':= .slice (qXQ ls s) (qDN (lbE ls) s).length (qXP ls s)) (qVV ls s)) O<|J.b O<|J.c j2 ?_
 refine J.q λ_ j3=>J.f λ_ j4=>J.b O<|J.g (qAQ qB4 O O) O<|J.g ((qAU O O O).yes xB) O<|J.c j4 ?_
 refine J.c2 ?_
 refine J.f λ_ j5=>J.g (qAM (places:= [(0,1),(1,3),(4,1)]) (r:= [.int .u64 0,Str [],Str [],I 0,Str []]) O O O qC2 qEj (λ_=>xH) O) O<|J.a8 (qAD (i:=2) O O O O O qAr O O) O O λ_ _=>J.b O<|J.c j5 ?_
 exact J.A<|J.W<|J.a9 hw0 (λ_ _ h=>h) (rv2 O (RV.blkA 2 O O qBQ qAr) O) (qAi () O trivial [0] O xC)
theorem qFf(F:Hp)(A:Option Addr)(n c:Nat)(l:List En)(hs:Sl F 5 A n c (qCh l))(hnb:n≤1000000):Ct prog 98 [.slice A n c] [F] (λx:Option Addr×Nat×Hp=> .slice x.1 (l).length x.2.1) (λx=>Row x.2.2 102 5 x.1 (l).length x.2.1 (qCh l)) (λx=> [F,x.2.2]):=by
 have hkn:l.length=n:=by have:=hs.1;simpa [qCh] using this
 refine Ct.walk func98 O ntmps98 O (λw0 hw0=>?_)
 refine J.f λ_ j1=>J.b O<|J.c j1 ?_
 refine J.q λ_ j2=>J.f λ_ j3=>J.b O<|J.g ((qFM qB4 O O O).as (v':= .bool (decide (A.isNone=true))) (congrArg Value.bool (by cases A<;>rfl))) O<|J.c j3 ?_
 refine J.Z O (λh4=>?_) (λh4=>?_)
 ·
  refine J.f λ_ j4=>J.b O<|J.c j4 ?_
  refine J.A<|J.W ?_
  have hk0:l= []:=by
   refine jU ?_
   rcases yM n with h|h
   · omega
   · obtain ⟨g,o,rfl⟩:=hs.at h;cases h4
  exact J.c7 [0,1] [F,(λ_=>none)] O xC<|J.E hw0 O (none,0,(λ_=>none)) (by rw [hk0];rfl) (by rw [hk0];exact qBc.nil) [0,1] O xC
 refine J.M j2 ?_
 refine J.f λ_ j5=>J.k (qBr O qB4 el102) O λg5 _=>J.b O<|J.k (qAc (i:=1) (m2:=F) O O O qB4 qB4 el102 O (qAp (q:=True) (xs:=qCh ([])) O (by intro x hx;first|exact absurd hx (zC)|(rw [List.mem_singleton.1 hx];rfl))) xD (hs) (qW5 _) xB xB) O ?_
 rintro⟨A7,c7,m7⟩ h7
 try dsimp only at h7
 replace h7:Row m7 102 5 A7 (0+n) c7 (qCh (l)):=h7
 refine J.b O<|J.c j5 ?_
 refine J.A ?_
 rw [show 0+n=l.length by omega] at h7
 exact J.E hw0 O (A7,c7,m7) (by rw [←hkn,jj]) h7 [0,1] O xC
theorem qRI{L:List Lb}{a b:MP}{p:xA×Value}(h:lbV L=a++p::b): ∃ra x rb,L=ra++x::rb∧a=lbV ra∧p=(x.nm,.slice x.A x.l.length x.c)∧b=lbV rb:=by
 unfold lbV at h
 obtain ⟨l1,l2,rfl,h1,h2⟩:=List.map_eq_append_iff.1 h
 obtain ⟨x,l3,rfl,h3,h4⟩:=List.map_eq_cons_iff.1 h2
 exact⟨l1,x,l3,O,h1.symm,h3.symm,h4.symm⟩
theorem qXO(a b:List Lb):lbV (a++b)=lbV a++lbV b:=by unfold lbV;rw [jN]
theorem qRJ(a b:List Lb):lbE (a++b)=lbE a++lbE b:=by unfold lbE;rw [jN]
structure CpR where
 g:Nat
 ls:List Lb
 mm:Hp
 M:Hp
 r:Nat
 mr:Hp
structure CpP (ls:List Lb) (au:List Aud) (x:CpR):Prop where
 mp:MapS x.mm x.g (lbV x.ls)
 nx:NxS x.M x.ls
 pm:(lbE x.ls).Perm (lbE ls)
 ro:qSg x.mr x.r au
theorem qXp{dn ra rb ls:List Lb}{x y:Lb}(hu:qMm (lbE ls))(h:(lbE dn++lbE (ra++x::rb)).Perm (lbE ls))(h1:y.nm=x.nm)(h2:y.l=x.l):qKz (lbV dn) x.nm=none∧(lbE (dn++ [y])++lbE (ra++rb)).Perm (lbE ls):=by
  have e:lbE (dn++ [y])++lbE (ra++rb)=lbE dn++((y.nm,y.l)::(lbE ra++lbE rb)):=by rw [qNl,qRJ,jV];rfl
  have e2:lbE dn++lbE (ra++x::rb)=lbE dn++(lbE ra++(x.nm,x.l)::lbE rb):=by rw [qRJ];rfl
  rw [e2] at h
  refine⟨?_,?_⟩
  · rw [qF0,Option.map_eq_none_iff,qIb]
    have h3:qMm (lbE dn++(lbE ra++(x.nm,x.l)::lbE rb)):=(h.map _).nodup_iff.2 hu
    unfold qMm at h3
    rw [jN,List.nodup_append] at h3
    intro hm
    exact h3.2.2 _ hm _ (List.mem_map.2 ⟨(x.nm,x.l),jW _ (.head _),O⟩) O
  · rw [e,h1,h2]
    exact(List.Perm.append_left _ List.perm_middle.symm).trans h
theorem qM7(F:Hp)(gm gr:Nat)(ls:List Lb)(hm:Fw.MapAt F gm (lbV ls))(hl:LbA F ls)(hu:qMm (lbE ls))(hln: ∀x∈ls,x.l.length≤1000000)(RA:Option Addr)(rn rc:Nat)(au:List Aud)(hR:qAG F ⟨gr,0,none⟩ [.slice RA rn rc])(hRs:Sl F 4 RA rn rc (qBp au))(hrn:rn≤1000000):Ct prog 49 [.agg #[.map (some gm),Ptr gr]] [F] (λx:CpR=> .agg #[.map (some x.g),Ptr x.r]) (CpP ls au) (λx=> [F,x.mm,x.M,x.mr]):=by
  obtain ⟨es,ck,hg,hst,hkv⟩:=hm
  refine Ct.walk func49 O ntmps49 O (λw0 hw0=>?_)
  refine J.f λ_ j1=>J.k (qAd O O O) O λg1 _=>J.k (qAJ O zeroValue124 O) O λg2 _=>J.c j1 ?_
  refine J.f λ_ j2=>J.k (qDF O) O ?_
  rintro g6 _
  refine J.V 1 qEs sizeOf121 O O O O O<|J.a6 1 isAgg121 O O O O O<|J.k (qBP O O (λF' hF=>Ct.swap2 (qTd F' gr RA rn rc au (hRs.mono (Fa hF)) xB (hR.mono (Fa hF))))) O ?_
  rintro⟨g9,m9⟩ h9
  try dsimp only at h9
  refine J.g (qAM (places:= [(0,1),(1,1)]) (r:= [.map (some g6),Ptr g9]) O O O qEs zeroValue124 (λ_=>xH) O) O<|J.k (qAJ O zeroValue124 O) O λg3 _=>J.a8 (qAD (i:=5) (l:= [.map none,.pointer none]) (vs:= [.map (some g6),Ptr g9]) O O O O O qCi O O) O O λ_ _=>J.c j2 ?_
  refine J.q λ_ j3=>J.f λ_ j4=>J.V 0 qEs sizeOf120 O O O O O<|J.a6 1 isAgg120 O O O O O<|J.k (qKb O O qJ6 xD hg hkv) O ?_
  rintro⟨g13,mi⟩ hit
  try dsimp only at hit
  refine J.c j4 ?_
  refine J.T<|J.b8 (X:=List Lb×List Lb×Hp×Hp×Hp) (λζ=> [(2,Ptr g2),(3,Ptr g3),(13,Ptr g13)]) (λζ=> [ζ.2.2.2.2,F,blk g1 [.map (some gm),Ptr gr] 124,blk g2 [.map none,.pointer none] 124,m9,blk g3 [.map (some g6),Ptr g9] 124,ζ.2.2.2.1,ζ.2.2.1]) (λζ=>ItM ζ.2.2.1 g13 gm es ck (lbV ζ.1)∧MapS ζ.2.2.2.1 g6 (lbV ζ.2.1)∧NxS ζ.2.2.2.2 ζ.2.1∧(lbE ζ.2.1++lbE ζ.1).Perm (lbE ls)∧ ∀x∈ζ.1,x∈ls) (λζ=>ζ.1.length) (ls,[],mi,qAK g6 (.map #[] 0),(λ_=>none)) (⟨hit,MapS.nil _,NxS.nil,List.Perm.refl _,λ_ h=>h⟩) ⟨O,O,O,trivial⟩ (λ_ h=>h.empty.pick [7,0,1,2,4,5,3,6] xC) ?_
  rintro⟨rem,dn,mi,mm,M⟩ ⟨hit,hmp,hnxs,hpm,hsub⟩ I0 hI0
  dsimp only at hit hmp hnxs hpm hsub⊢
  refine J.f λ_ j5=>J.k (qNS (i:=7) O O (m:=F) xD hg hst O hit) O ?_
  rintro⟨on,mj⟩ hnx
  try dsimp only at hnx
  refine J.g ((qAV O (congrArg some (qQv on)) (qVN on))) O<|J.c j5 ?_
  refine J.q λ_ j6=>J.c8 O (λh15=>?_) (λh15=>?_)
  ·
    obtain ⟨x,ra,rb,rfl,hrem,hl2⟩: ∃x ra rb,on=some (x.nm,Value.slice x.A x.l.length x.c)∧rem=ra++x::rb∧ItL mj g13 gm es ck (lbV (ra++rb)) (x.nm,Value.slice x.A x.l.length x.c):=by
      rcases hnx with ⟨h1,_,_⟩|⟨p,a,b,h1,h2,h3⟩
      · rw [h1] at h15;cases h15
      · obtain ⟨ra,x,rb,e1,rfl,rfl,rfl⟩:=qRI h2
        exact⟨x,ra,rb,h1,e1,by rw [qXO];exact h3⟩
    rw [hrem] at hpm hsub
    have hxm:x∈ls:=hsub x (jW _ (.head _))
    have hxl:=hl x hxm
    have hxn:=hln x hxm
    refine J.M j6 ?_
    refine J.T<|J.f λ_ j7=>J.g ((qKf (mi:=mj) (p:=(x.nm,.slice x.A x.l.length x.c)) O O xD hg hst xD hl2)) O<|J.g ((qAV O O O)) O<|J.g ((qAV O O O)) O<|J.j 2 O<|J.c j7 ?_
    have hstp:=λy=>qXp (y:=y) hu hpm
    refine J.b2 [blk g3 [.map (some g6),Ptr g9] 124,F] [5] (.y 0 (.y 1 (.y 2 (.y 3 (.e 4 (.e 5 .nil)))))) Tryz.wide xF xD ?_
    refine J.p O (qAA O O qEs O sizeOf120 O) O O<|J.p O (qAC 0 O O O isAgg120 O) O O<|J.G ?_
    refine J.G ?_
    refine J.a1 O (qBP O O (λF' hF=>qFf F' x.A x.l.length x.c x.l (hxl.mono (Fa hF)) xO)) O xD ?_
    rintro⟨A23,c23,m23⟩ h23
    try dsimp only at h23
    refine J.c1 O (qCw (i:=6) O O O O qJ6 u9_ O hmp) O O O ?_
    rintro mu hmu
    rw [qI7 (hstp ⟨x.nm,A23,c23,x.l,m23⟩ rfl rfl).1,←qJV dn ⟨x.nm,A23,c23,x.l,m23⟩] at hmu
    refine J.c4 [0,8,1,2,3,4,5,6,7] [M,m23,F,blk g1 [.map (some gm),Ptr gr] 124,blk g2 [.map none,.pointer none] 124,m9,blk g3 [.map (some g6),Ptr g9] 124,mu,mj] O xC<|J.d4 (λhj=>?_)
    exact J.b1<|J.a4<|J.u<|J.b0 (ra++rb,dn++ [⟨x.nm,A23,c23,x.l,m23⟩],mj,mu,U [M,m23]) (λη (hη:_∧η.1.length<rem.length)=>hI0 η hη.1 hη.2) ⟨⟨hl2.it,hmu,hnxs.snoc h23 hj,(hstp ⟨x.nm,A23,c23,x.l,m23⟩ O O).2,λy hy=>hsub y (by rcases List.mem_append.1 hy with h|h;exact ji _ h;exact jW _ (.tail _ h))⟩,by dsimp only;rw [hrem,jA,jA,jD];omega⟩ ⟨O,O,O,trivial⟩ (λ_ h=>h)
  obtain rfl:rem= []:=by
    rcases hnx with ⟨_,h1,_⟩|⟨p,a,b,h1,_⟩
    · cases rem with
      |nil=>rfl
      |cons x r=>cases h1
    · rw [h1] at h15;cases h15
  refine J.b5<|J.a0<|J.a0<|J.b6 ?_
  refine J.u (J.D j3 ?_)
  refine J.f λ_ j8=>J.b9 5 isAgg124 qCi O O O O O<|J.a8 (qAD (i:=3) (l:= [.map none,.pointer none]) (vs:= [.map (some g6),Ptr g9]) O O O O O qCi O O) O O λ_ _=>J.c j8 ?_
  refine J.A ?_
  rw [show lbE dn++lbE []=lbE dn from jP _] at hpm
  exact J.a9 hw0 (λ_ _ h=>h) (rv1 O (RV.blkA 3 O O isAgg124 qCi)) (qAi (⟨g6,dn,mm,M,g9,m9⟩:CpR) O ⟨hmp,hnxs,hpm,h9⟩ [1,6,0,4] O xC)
theorem el52:qCe prog 52 [.int .u64 0,Str [],.int .i64 0,.int .i64 0,.slice none 0 0] 64:=qCe.of xH O
theorem el130:qCe prog 130 [.pointer none] 8:=qCe.of xH O
theorem el155:qCe prog 155 [Str [],Str []] 32:=qCe.of xH O
structure WtR where
 cA:Option Addr
 cc:Nat
 mC:Hp
 oA:Option Addr
 oc:Nat
 mO:Hp
theorem qMy(F mC mO:Hp)(gs:Nat)(v0 v1 v2 v3 v4 v5 v6 v9 v10:Value)(cA:Option Addr)(cc:Nat)(cl:List Chg)(hrc:Row mC 155 2 cA cl.length cc (qDo cl))(hcl:cl.length≤100000)(oA:Option Addr)(oc:Nat)(no:List xA)(hro:Row mO 9 1 oA no.length oc (qAH no))(hno:no.length≤100000)(nt k v:xA):Ct prog 62 [Ptr gs,Str nt,.agg #[Str k,Str v]] [blk gs [v0,v1,v2,v3,v4,v5,v6,.slice cA cl.length cc,.slice oA no.length oc,v9,v10] 129,mC,mO,F] (λ_:WtR=> .tuple #[]) (λx=>Row x.mC 155 2 x.cA (cl++ [(⟨k,v⟩:Chg)]).length x.cc (qDo (cl++ [(⟨k,v⟩:Chg)]))∧Row x.mO 9 1 x.oA (no++ [nt]).length x.oc (qAH (no++ [nt]))) (λx=> [blk gs [v0,v1,v2,v3,v4,v5,v6,.slice x.cA (cl++ [(⟨k,v⟩:Chg)]).length x.cc,.slice x.oA (no++ [nt]).length x.oc,v9,v10] 129,x.mC,x.mO,F]):=by
 refine Ct.walk func62 O ntmps62 O (λw0 hw0=>?_)
 refine J.f λ_ j1=>J.k (qAd O O O) O λg5 _=>J.c j1<|J.f λ_ j2=>J.j 2 O<|J.g (qAB O O) O<|J.V 8 qBJ qB5 O O O O O<|J.a6 0 qCO O O O O O<|J.b O<|J.k (qAF (l:= [.tmp 11]) (xs:= [[Str (nt)]]) O O O O qAm el9 O xC xC xD) O λg12 _=>J.k (qAc (i:=2) (m2:=blk g12 [Str (nt)] 9) O O O qAm qAm el9 O hro xD ((qBf (q:=True) (qAH [nt]) O (by simp [qAH]) O).sl) O xB xB) O ?_
 rintro⟨A13,c13,m13⟩ h13
 try dsimp only at h13
 replace h13:Row m13 9 1 A13 (no.length+1) c13 (qAH (no++ [nt])):=by rw [qCA];exact h13
 rw [show no.length+1=(no++ [nt]).length by rw [jA];rfl] at h13⊢
 refine J.g (qAB O O) O<|J.V 8 qBJ qB5 O O O O O<|J.a8 (qAa (i:=0) O O O O O qB5 O xD) O O λ_ _=>?_
 change J _ _ _ [blk gs [v0,v1,v2,v3,v4,v5,v6,.slice cA cl.length cc,.slice A13 ((no++ [nt]).length) c13,v9,v10] 129,_,_,_,_,_] _
 refine J.c j2<|J.b2 [blk gs [v0,v1,v2,v3,v4,v5,v6,.slice cA cl.length cc,.slice A13 ((no++ [nt]).length) c13,v9,v10] 129,blk g5 [Str (k),Str (v)] 155] [10] (.y 0 (.y 1 (.y 2 (.y 3 (.y 4 (.y 5 (.e 6 (.e 7 (.y 8 (.y 9 (.e 10 .nil))))))))))) Tryz.wide xF xD ?_
 refine J.G ?_
 refine J.G ?_
 refine J.p O (qAB O O) O O<|J.p O (qAA O O qBJ O sizeOf126 O) O O<|J.p O (qAC 0 O O O isAgg126 O) O O<|J.p O (qAW 1 O O O isAgg155 qGH O) O O<|J.a1 O (qAF (l:= [.tmp 21]) (xs:= [[Str (k),Str (v)]]) O O O O qGL el155 O xC xC xD) O xD λg22 _=>J.a1 O (qAc (i:=1) (m2:=blk g22 [Str (k),Str (v)] 155) O O O qGL qGL el155 O hrc xD ((qAp (q:=True) (xs:=qDo [(⟨k,v⟩:Chg)]) O (by intro x hx;rw [List.mem_singleton.1 hx];rfl)).sl) O xB xB) O xD ?_
 rintro⟨A23,c23,m23⟩ h23
 try dsimp only at h23
 replace h23:Row m23 155 2 A23 (cl.length+1) c23 (qDo (cl++ [(⟨k,v⟩:Chg)])):=by rw [qIh];exact h23
 rw [show cl.length+1=(cl++ [(⟨k,v⟩:Chg)]).length by rw [jA];rfl] at h23⊢
 exact J.p O (qAB O O) O O<|J.p O (qAA O O qBJ O sizeOf126 O) O O<|J.c1 O (qAa (i:=0) O O O O O sizeOf126 O xD) O O O λ_ _=>J.b1<|J.d3 hw0 (λ_ _ h=>h) (qII O) (qAi (⟨A23,c23,m23,A13,c13,m13⟩:WtR) O ⟨h23,h13⟩ [0,1,2,3] O xC)
structure AdR where
 nA:Option Addr
 nc:Nat
 mN:Hp
 tA:Option Addr
 tc:Nat
 mT:Hp
 hA:Option Addr
 hc:Nat
 mH:Hp
def adH(par:xA)(dp rn:Nat)(hd:List RhD)(kv:List Sm.PR)(A:Option Addr)(c:Nat):RhD:=⟨hd.length,par,dp,rn,A,c,qAn kv dp⟩
structure AdP (par:xA) (dp rn gt:Nat) (tg:List Nat) (hd:List RhD) (kv:List Sm.PR) (x:AdR):Prop where
 nd:Row x.mN 9 1 x.nA (qAn kv dp).length x.nc (qAH (qAn kv dp))
 rt:Row x.mT 130 1 x.tA (tg++ [gt]).length x.tc (qDn (tg++ [gt]))
 rh:Row x.mH 52 5 x.hA (hd++ [adH par dp rn hd kv x.nA x.nc]).length x.hc (qDW (hd++ [adH par dp rn hd kv x.nA x.nc]))
theorem qQC(F mT mH:Hp)(hK:qAG F ⟨3,0,none⟩ (Sha.K.map W32))(gs dp rB:Nat)(v1 v2 v3 v4 v5 v7 v8:Value)(tA:Option Addr)(tc:Nat)(tg:List Nat)(hrt:Row mT 130 1 tA tg.length tc (qDn tg))(htg:tg.length≤100000)(hA:Option Addr)(hc:Nat)(hd:List RhD)(hrh:Row mH 52 5 hA hd.length hc (qDW hd))(hhd:hd.length≤100000)(hdp:dp≤4)(gt:Nat)(kv:List Sm.PR)(hT:qCd F gt kv)(hf:qCF kv)(RA:Option Addr)(rn rc:Nat)(au:List Aud)(hR:qAG F ⟨rB,0,none⟩ [.slice RA rn rc])(hRs:Sl F 4 RA rn rc (qBp au))(par:xA):Ct prog 50 [Ptr gs,Ptr gt,Str par] [blk gs [I (dp:Nat),v1,v2,v3,v4,v5,Ptr rB,v7,v8,.slice tA tg.length tc,.slice hA hd.length hc] 129,mT,mH,F] (λ_:AdR=> .tuple #[]) (AdP par dp rn gt tg hd kv) (λx=> [blk gs [I (dp:Nat),v1,v2,v3,v4,v5,Ptr rB,v7,v8,.slice x.tA (tg++ [gt]).length x.tc,.slice x.hA (hd++ [adH par dp rn hd kv x.nA x.nc]).length x.hc] 129,x.mT,x.mH,F,x.mN]):=by
 refine Ct.walk func50 O ntmps50 O (λw0 hw0=>?_)
 refine J.f λ_ j1=>J.j 2 O<|J.g (qAB O O) O<|J.V 0 qBJ z3_ O O O O O<|J.a6 0 b3_ O O O O O<|J.k (qBP O O (λF' hF=>qSC F' (hK.mo hF) gt kv (hT.mono (Fa hF)) xG dp xB)) O ?_
 rintro⟨A14,c14,m14⟩ h14
 try dsimp only at h14
 refine J.j 5 O<|J.c j1<|J.f λ_ j2=>J.j 2 O<|J.g (qAB O O) O<|J.V 9 qBJ sizeOf127 O O O O O<|J.a6 0 isAgg127 O O O O O<|J.b O<|J.k (qAF (l:= [.tmp 22]) (xs:= [[Ptr gt]]) O O O O qOO el130 O xC xC xD) O λg23 _=>J.k (qAc (i:=1) (m2:=blk g23 [Ptr gt] 130) O O O qOO qOO el130 O hrt xD ((qBf (q:=True) (qDn [gt]) O (by simp [qDn]) O).sl) O xB xB) O ?_
 rintro⟨A24,c24,m24⟩ h24
 try dsimp only at h24
 replace h24:Row m24 130 1 A24 (tg.length+1) c24 (qDn (tg++ [gt])):=by rw [qOe];exact h24
 rw [show tg.length+1=(tg++ [gt]).length by rw [jA];rfl] at h24⊢
 refine J.g (qAB O O) O<|J.V 9 qBJ sizeOf127 O O O O O<|J.a8 (qAa (i:=0) O O O O O sizeOf127 O xD) O O λ_ _=>?_
 change J _ _ _ [blk gs [I (dp:Nat),v1,v2,v3,v4,v5,Ptr rB,v7,v8,.slice A24 ((tg++ [gt]).length) c24,.slice hA hd.length hc] 129,_,_,_,_,_] _
 refine J.c j2<|J.b2 [blk gs [I (dp:Nat),v1,v2,v3,v4,v5,Ptr rB,v7,v8,.slice A24 ((tg++ [gt]).length) c24,.slice hA hd.length hc] 129] [28] (.y 0 (.y 1 (.y 2 (.y 3 (.y 4 (.y 5 (.y 6 (.y 7 (.y 8 (.y 9 (.y 10 (.y 11 (.y 12 (.y 13 (.y 14 (.y 15 (.y 16 (.y 17 (.y 18 (.y 19 (.y 20 (.y 22 (.e 21 (.y 23 (.e 24 (.e 25 (.y 26 (.y 27 (.e 28 .nil))))))))))))))))))))))))))))) Tryz.wide xF xD ?_
 refine J.G ?_
 refine J.G ?_
 refine J.p O (qAB O O) O O<|J.p O (qAA O O qBJ O qLZ O) O O<|J.p O (qAC 0 O O O qPM O) O O<|J.G ?_
 refine J.p O (qAB O O) O O<|J.p O (qAA O O qBJ O qLZ O) O O<|J.p O (qAC 0 O O O qPM O) O O<|J.p O (qAQ qGy O O) O O<|J.p O (qEP O O u3_ qEp xB) O O<|J.G ?_
 refine J.G ?_
 refine J.p O (qAB O O) O O<|J.p O (qAA O O qBJ O z3_ O) O O<|J.p O (qAC 0 O O O b3_ O) O O<|J.G ?_
 refine J.p O (qAB O O) O O<|J.p O (qAA O O qBJ O qCi O) O O<|J.p O (qAA O O qEs O sizeOf121 O) O O<|J.p O (qAC 0 (v:=Ptr rB) O O O isAgg121 O) O O<|J.G ?_
 refine J.a1 O (qAY O O (λF' hF=>qNA F' rB RA rn rc (hR.mono (Fa hF)))) O xD λg48 _=>J.p O (qAM (places:= [(0,1),(1,1),(2,1),(3,1),(4,1)]) (r:= [N64 (hd.length),Str (par),I (dp:Nat),I (rn:Nat),.slice A14 ((qAn kv dp).length) c14]) O O O qEH qXj (λ_=>xH) O) O O<|J.a1 O (qAF (l:= [.tmp 50]) (xs:= [[N64 (hd.length),Str (par),I (dp:Nat),I (rn:Nat),.slice A14 ((qAn kv dp).length) c14]]) O O O O qGy el52 O xC xC xD) O xD λg51 _=>J.a1 O (qAc (i:=2) (m2:=blk g51 [N64 (hd.length),Str (par),I (dp:Nat),I (rn:Nat),.slice A14 ((qAn kv dp).length) c14] 52) O O O qGy qGy el52 O hrh xD ((qAp (q:=True) (xs:=qDW [(⟨hd.length,par,dp,rn,A14,c14,(qAn kv dp)⟩:RhD)]) O (by intro x hx;rw [List.mem_singleton.1 hx];rfl)).sl) O xB xB) O xD ?_
 rintro⟨A52,c52,m52⟩ h52
 try dsimp only at h52
 replace h52:Row m52 52 5 A52 (hd.length+1) c52 (qDW (hd++ [(adH par dp rn hd kv A14 c14)])):=by rw [qKN];exact h52
 rw [show hd.length+1=(hd++ [(adH par dp rn hd kv A14 c14)]).length by rw [jA];rfl] at h52⊢
 exact J.p O (qAB O O) O O<|J.p O (qAA O O qBJ O qLZ O) O O<|J.c1 O (qAa (i:=0) O O O O O qLZ O xD) O O O λ_ _=>J.b1<|J.d3 hw0 (λ_ _ h=>h) (qII O) (qAi (⟨A14,c14,m14,A24,c24,m24,A52,c52,m52⟩:AdR) O ⟨h14,h24,h52⟩ [0,1,2,3,4] O xC)
theorem qKE(F:Hp)(gs:Nat)(v0 v1 v2 v3 v4 v5 v6 v7 v8 v9:Value)(A:Option Addr)(n c:Nat)(l:List RhD)(hs:Sl F 5 A n c (qDW l))(h0:0<n)(hn:n≤1000000)(hp:qAG F ⟨gs,0,none⟩ [v0,v1,v2,v3,v4,v5,v6,v7,v8,v9,.slice A n c]):Cz prog 68 [Ptr gs] F (.agg #[N64 ((l.getD (n-1) qAX).ep),Str ((l.getD (n-1) qAX).par),I ((l.getD (n-1) qAX).dep:Nat),I ((l.getD (n-1) qAX).aud:Nat),.slice (l.getD (n-1) qAX).nsA (l.getD (n-1) qAX).ns.length (l.getD (n-1) qAX).nsc]):=by
 refine Ct.walk func68 O ntmps68 O (λw0 hw0=>?_)
 exact J.f λ_ j1=>J.k (qAJ O qXj O) O λg2 _=>J.c j1<|J.f λ_ j2=>J.b O<|J.g (qAB O O) O<|J.V 10 qBJ qLZ O O O O O<|J.g (qAL O O qPM (m:=F) xD (hp.at (i:=10) O)) O<|J.k (qAY O O (λF' hF=>qS4 F' A n c l (hs.mono (Fa hF)) xB xB)) O λg7 _=>J.a8 (qAD (i:=1) (l:= [.int .u64 0,Str [],I 0,I 0,.slice none 0 0]) (vs:= [N64 ((l.getD (n-1) qAX).ep),Str ((l.getD (n-1) qAX).par),I ((l.getD (n-1) qAX).dep:Nat),I ((l.getD (n-1) qAX).aud:Nat),.slice (l.getD (n-1) qAX).nsA (l.getD (n-1) qAX).ns.length (l.getD (n-1) qAX).nsc]) O O O O O qDM O O) O O λ_ _=>J.c j2<|J.A<|J.a9 hw0 (λ_ _ h=>h) (rv1 O (RV.blkA 1 O O qGG qDM)) (qAi () O trivial [0] O xC)
def cmB(n e:Nat):xA:= [99]++(Sha.numB (UInt64.ofNat n) 2++Sha.numB (UInt64.ofNat e) 4)
theorem qRw(n e:Nat):(cmB n e).length=7:=by unfold cmB;simp only [jA,Sha.numB_length,jJ]
def qCm(l:List xA):Nat:=(l.map λr=>qBg r.length).sum
theorem qBx(l:List xA)(s:xA):qCm (l++ [s])=qCm l+qBg s.length:=by unfold qCm;rw [jN,List.sum_append];rfl
theorem qJ9(l:List xA){i:Nat}(h:i<l.length):l.take (i+1)=l.take i++ [l.getD i []]:=by
 rw [List.take_add_one,jC h,jB,jC h];rfl
theorem qIS{l:List xA}{i:Nat}(h:i<l.length):qCm (l.take (i+1))=qCm (l.take i)+qBg (l.getD i []).length:=by rw [qJ9 l h,qBx]
theorem qNc{l:List xA}{i:Nat}:qCm (l.take i)≤qCm l:=by
 unfold qCm
 induction l generalizing i with
 |nil=>simp
 |cons a l ih=>
  cases i with
  |zero=>simp
  |succ i=>
   rw [List.take_succ_cons,ja,ja,List.sum_cons,List.sum_cons]
   have:=ih (i:=i);omega
structure CbL (x y:CbR) (l:List xA):Prop where
 gd:y.gd=x.gd
 f0:y.f0=x.f0
 sz:y.size=x.size
 e:y.e=x.e+qCm l
 R:y.R=x.R++l
 ln:y.d.last.length=x.d.last.length
theorem CbL.nil(x:CbR):CbL x x []:=⟨rfl,rfl,rfl,rfl,(jP _).symm,rfl⟩
theorem CbL.snoc{x y z:CbR}{l:List xA}{s:xA}(h:CbL x y l)(hs:CbN y z s):CbL x z (l++ [s]):=
 ⟨hs.gd.trans h.gd,hs.f0.trans h.f0,hs.sz.trans h.sz,by rw [hs.e,h.e,qBx,Nat.add_assoc],by rw [hs.R,h.R,jV],hs.ln.trans h.ln⟩
theorem qNe{l:List xA}{i:Nat}(h:i<l.length):l.getD i []∈l:=by
 rw [jB,jC h];exact jT h
structure WrR where
 x:CbR
 md:Hp
 N:Hp
theorem qPt(F md N:Hp)(hK:qAG F ⟨3,0,none⟩ (Sha.K.map W32))(gs gb:Nat)(v0 v2 v3 v4 v5 v6 v7 v9:Value)(oA:Option Addr)(oc:Nat)(no:List xA)(hsO:Sl F 1 oA no.length oc (qAH no))(hno:no.length≤256)(h9: ∀s∈no,s.length≤900)(hA:Option Addr)(hn hc:Nat)(hhn:hn≤100000)(hp:qAG F ⟨gs,0,none⟩ [v0,Ptr gb,v2,v3,v4,v5,v6,v7,.slice oA no.length oc,v9,.slice hA hn hc])(x:CbR)(hb:CbP N md x)(hfit:x.e+qCm (no++ [cmB no.length hn])≤x.size)(hsz:x.size≤100000)(hR:x.R.length+no.length<65535):Ct prog 66 [Ptr gs] [x.blk gb,md,N,F] (λ_:WrR=>I (0:Nat)) (λy=>CbP y.N y.md y.x∧CbL x y.x (no++ [cmB no.length hn])) (λy=> [y.x.blk gb,y.md,y.N,F]):=by
 refine Ct.walk func66 O ntmps66 O (λw0 hw0=>?_)
 refine J.f λ_ j1=>J.b O<|J.c j1<|J.f λ_ j2=>J.k (qAJ O qLA O) O λg3 _=>J.c j2<|J.q λ_ j3=>J.b2 [F] [] (.y 0 (.y 1 (.y 2 (.y 3 (.y 4 (.y 5 (.y 7 (.y 8 (.y 9 (.y 10 (.y 11 (.y 12 (.e 6 (.e 13 (.e 14 (.y 15 (.y 16 (.y 17 (.y 18 (.y 19 .nil)))))))))))))))))))) Tryz.wide xF xD ?_
 refine J.G ?_
 refine J.p O (qAB O O) O O<|J.p O (qAA O O qBJ O qB5 O) O O<|J.p O (qAL O O qCO (m:=F) xD (hp.at (i:=8) O)) O O<|J.p O (qAQ qAm O O) O O<|J.p O (qEP O O u3_ qEp xB) O O<|J.G ?_
 refine J.p O (qAB O O) O O<|J.p O (qAA O O qBJ O qLZ O) O O<|J.p O (qAL O O qPM (m:=F) xD (hp.at (i:=10) O)) O O<|J.p O (qAQ qGy O O) O O<|J.p O (qEP O O u3_ qEp xB) O O<|J.a1 O (qAI O O ent (Ct.use1 4 O (λF' hF=>qQx F' (blk g3 [.pointer none,.slice none 0 0,I 0] 148) g3 ([]) (wtrN g3) (by first|decide|omega|(simp only [jA,jD,jF,jJ,Sha.numB_length,qF7]<;>omega)) no.length 2 xC xC xN))) O xD ?_
 rintro m20 hw20
 rw [jq] at hw20
 refine J.a1 O (qAI O O ent (Ct.use1 4 O (λF' hF=>qQx F' m20 g3 (Sha.numB (UInt64.ofNat no.length) 2) hw20 (by first|decide|omega|(simp only [jA,jD,jF,jJ,Sha.numB_length,qF7]<;>omega)) hn 4 xC xC xN))) O xD ?_
 rintro m27 hw27
 refine J.a1 O (qAI O O ent (Ct.use1 4 O (λF' hF=>qLJ F' m27 g3 (Sha.numB (UInt64.ofNat no.length) 2++Sha.numB (UInt64.ofNat hn) 4) hw27 (by first|decide|omega|(simp only [jA,jD,jF,jJ,Sha.numB_length,qF7]<;>omega))))) O xD ?_
 rintro m28 hw28
 refine J.G ?_
 refine J.c6 (Str (Sha.numB (UInt64.ofNat no.length) 2++Sha.numB (UInt64.ofNat hn) 4)) ?_
 refine J.c6 (I (0:Nat)) ?_
 refine J.b7 ?_
 refine J.b7 ?_
 refine J.b1<|J.u (J.D j3 ?_)
 refine J.q λ_ j4=>J.f λ_ j5=>J.b O<|J.g ((qAf O O O).no xC) O<|J.c j5<|J.a3 ?_
 refine J.M j4<|J.q λ_ j6=>?_
 have hl9: ∀s∈(no++ [cmB no.length hn]),s.length≤900:=λs hs=>by
  rcases List.mem_append.1 hs with h|h
  · exact h9 s h
  · rw [List.mem_singleton.1 h,qRw];decide
 have hnl:(no++ [cmB no.length hn]).length=no.length+1:=by rw [jA];rfl
 have hef:=hb.ef
 refine J.L<|J.b O<|J.g (qAB O O) O<|J.V 8 qBJ qB5 O O O O O<|J.g (qAL O O qCO (m:=F) xD (hp.at (i:=8) O)) O<|J.k (qBP O O (λF' hF=>qJk F' oA no.length oc no (hsO.mono (Fa hF)) xB)) O ?_
 rintro⟨A38,c38,m38⟩ h38
 try dsimp only at h38
 refine J.b O<|J.g ((qBb O O O (by simp only [jA,Sha.numB_length,jD,jF];omega)).as (v':=Str (cmB no.length hn)) O) O<|J.k (qAF (l:= [.tmp 40]) (xs:= [[Str (cmB no.length hn)]]) O O O O qAm el9 O xC xC xD) O λg41 _=>J.k (qAc (i:=5) (m2:=blk g41 [Str (cmB no.length hn)] 9) O O O qAm qAm el9 O h38 xD ((qBf (q:=True) (qAH [cmB no.length hn]) O (by simp [qAH]) O).sl) O xB xB) O ?_
 rintro⟨A42,c42,m42⟩ h42
 try dsimp only at h42
 replace h42:Row m42 9 1 A42 (no.length+1) c42 (qAH (no++ [(cmB no.length hn)])):=by rw [qCA];exact h42
 rw [show no.length+1=(no++ [(cmB no.length hn)]).length by rw [jA];rfl] at h42⊢
 refine J.b O<|J.c j6<|J.f λ_ j7=>J.b O<|J.c j7<|J.q λ_ j8=>J.f λ_ j9=>J.b O<|J.g (qAQ qAm O O) O<|J.b O<|J.c j9<|J.T<|J.b8 (X:=Nat) (λζ=> [(0,Ptr gs),(6,.slice A42 ((no++ [cmB no.length hn]).length) c42),(7,I (qCm ((no++ [cmB no.length hn]).take ζ):Nat)),(43,.slice A42 ((no++ [cmB no.length hn]).length) c42),(44,I ((no++ [cmB no.length hn]).length:Nat)),(45,I (ζ:Nat))]) (λζ=> [x.blk gb,md,N,F,m28,m42,blk g41 [Str (cmB no.length hn)] 9]) (λζ=>ζ≤(no++ [cmB no.length hn]).length) (λζ=>(no++ [cmB no.length hn]).length-ζ) 0 (jG _) ⟨O,O,O,O,O,O,trivial⟩ (λ_ h=>h) ?_
 rintro i hi I0 hI0
 refine J.f λ_ j10=>J.g (qAS O O O) O<|J.c j10<|J.q λ_ j11=>J.Z O (λh46=>?_) (λh46=>?_)
 ·
  refine J.M j11<|J.q λ_ j12=>J.T<|J.f λ_ j13=>J.g (qAE O O O qAm z9_ h42.sl xB) O<|J.g (qAL O O b9_ (m:=m42) xD (h42.sl.elem (qAe (qAk [] xB)))) O<|J.b O<|J.c j13 ?_
  have hp9:=hl9 _ (qNe (l:=(no++ [cmB no.length hn])) (i:=i) xB)
  have hp24:=qFJ hp9
  have hnle:=qNc (l:=(no++ [cmB no.length hn])) (i:=i)
  refine J.L<|J.j 2 O<|J.g (qAv u9_ O O) O<|J.k (qAY O O (λF' hF=>qHH F' ((no++ [cmB no.length hn]).getD i []).length xB)) O λg52 _=>J.g ((qAR O O O xB).as (v':=I (qCm ((no++ [cmB no.length hn]).take i)+(qBg ((no++ [cmB no.length hn]).getD i []).length):Nat)) (congrArg I xB)) O<|J.b O<|J.a5<|J.a4<|J.u (J.D j12 ?_)
  exact J.L<|J.g ((qAR O O O xB).nat (i+1) xB) O<|J.b O<|J.a5<|J.u<|J.b0 (i+1) (λη (hη:_∧(no++ [cmB no.length hn]).length-η<(no++ [cmB no.length hn]).length-i)=>hI0 η hη.1 hη.2) ⟨xB,by first|omega|(dsimp only;omega)⟩ ⟨O,O,by rw [qIS xB];rfl,O,O,O,trivial⟩ (λ_ h=>h)
 refine J.b5<|J.a0<|J.a0<|J.b6 ?_
 refine J.u (J.D j8 ?_)
 refine J.q λ_ j14=>J.q λ_ j15=>?_
 obtain rfl:i=(no++ [cmB no.length hn]).length:=by omega
 rw [jo]
 refine J.L<|J.j 2 O<|J.g (qAB O O) O<|J.V 1 qBJ sizeOf125 O O O O O<|J.g (qAL O O isAgg125 (m:=F) xD (hp.at (i:=1) O)) O<|J.k (qAY O O (λF' hF=>qRG F' gb x.gd ((x.f0:Nat):Int) x.size (x.hat:Nat) x.ht ((x.e:Nat):Int) x.A x.R.length x.c false (qAG.blk0.mono (hF (x.blk gb) xD)) xB xB)) O λg60 _=>J.g ((qA7 O O O).no xB) O<|J.c j15<|J.a3 ?_
 refine J.M j14<|J.q λ_ j16=>J.f λ_ j17=>J.b O<|J.g (qAQ qAm O O) O<|J.b O<|J.c j17<|J.T<|J.b8 (X:=Nat×CbR×Hp×Hp) (λζ=> [(0,Ptr gs),(62,.slice A42 ((no++ [cmB no.length hn]).length) c42),(63,I ((no++ [cmB no.length hn]).length:Nat)),(64,I (ζ.1:Nat))]) (λζ=> [ζ.2.1.blk gb,ζ.2.2.1,F,ζ.2.2.2,m28,m42]) (λζ=>ζ.1≤(no++ [cmB no.length hn]).length∧CbP ζ.2.2.2 ζ.2.2.1 ζ.2.1∧CbL x ζ.2.1 ((no++ [cmB no.length hn]).take ζ.1)) (λζ=>(no++ [cmB no.length hn]).length-ζ.1) (0,x,md,N) (⟨jG _,hb,CbL.nil x⟩) ⟨O,O,O,O,trivial⟩ (λ_ h=>h.pick [0,1,3,2,4,5] xC) ?_
 rintro⟨i,y,md2,N2⟩ ⟨hi,hy,hL⟩ I2 hI2
 dsimp only at hi hy hL⊢
 refine J.f λ_ j18=>J.g (qAS O O O) O<|J.c j18<|J.q λ_ j19=>J.Z O (λh65=>?_) (λh65=>?_)
 ·
  refine J.M j19<|J.q λ_ j20=>J.T<|J.f λ_ j21=>J.g (qAE O O O qAm z9_ h42.sl xB) O<|J.g (qAL O O b9_ (m:=m42) xD (h42.sl.elem (qAe (qAk [] xB)))) O<|J.b O<|J.c j21<|J.f λ_ j22=>J.b O<|J.g (qAB O O) O<|J.V 1 qBJ sizeOf125 O O O O O<|J.g (qAL O O isAgg125 (m:=F) xD (hp.at (i:=1) O)) O<|J.b O<|J.k (qAI O O ent (Ct.useA [y.blk gb,md2] [F,N2,m28,m42] (A':=λz:CbR×Hp×Hp=> [z.1.blk gb,z.2.1]) (new:=λz=> [z.2.2]) (λF' hF=>qXo F' md2 (hK.mo hF) gb y (hy.mono (Fa hF)) ((no++ [cmB no.length hn]).getD i []) (hl9 _ (qNe xB)) (by rw [hL.e,hL.sz];have:=qNc (l:=(no++ [cmB no.length hn])) (i:=i+1);rw [qIS xB] at this;omega) (by rw [hL.R,jA,jE];omega)))) O ?_
  rintro⟨y2,md3,N3⟩ ⟨hy2,hn2⟩
  refine J.b O<|J.c j22<|J.f λ_ j23=>J.b O<|J.g ((qAf O O O).no xC) O<|J.c j23<|J.a3 ?_
  refine J.b3<|J.a4<|J.u (J.D j20 ?_)
  exact J.L<|J.g ((qAR O O O xB).nat (i+1) xB) O<|J.b O<|J.a5<|J.u<|J.b0 (i+1,y2,md3,N3) (λη (hη:_∧(no++ [cmB no.length hn]).length-η.1<(no++ [cmB no.length hn]).length-i)=>hI2 η hη.1 hη.2) ⟨⟨by dsimp only;omega,hy2,by dsimp only;rw [qJ9 _ xB];exact hL.snoc hn2⟩,by dsimp only;omega⟩ ⟨O,O,O,O,trivial⟩ (λ_ h=>h.pick [0,1,2,6,4,5] xC)
 refine J.b5<|J.a0<|J.a0<|J.b6 ?_
 refine J.u (J.D j16 ?_)
 exact J.f λ_ j24=>J.b O<|J.c j24<|J.A<|J.E hw0 O (⟨y,md2,N2⟩:WrR) O ⟨hy,by rw [show(no++ [cmB no.length hn]).take i=(no++ [cmB no.length hn]) from jY xB] at hL;exact hL⟩ [0,1,3,2] O xC
abbrev aX(l:List Aud)(i:Nat):Aud:=l.getD i qAu
structure qYC (gl:List Aud):Prop where
 len:gl.length≤15
 sm: ∀x∈gl,x.nm.length≤1000000∧x.op.length≤1048576∧x.rt.length≤1048576
 ok: ∀i,i<gl.length→qOB (gl.take i) (aX gl i).nm (aX gl i).op (aX gl i).rt (aX gl i).ht=0
theorem qYC.at{gl:List Aud}(h:qYC gl){i:Nat}(hi:i<gl.length):(aX gl i).nm.length≤1000000∧(aX gl i).op.length≤1048576∧(aX gl i).rt.length≤1048576:=by
 refine h.sm _ ?_
 show gl.getD i qAu∈gl
 rw [jB,jC hi];exact jT hi
theorem qYC.step{gl:List Aud}(h:qYC gl){i:Nat}(hi:i<gl.length):qSR (gl.take i) (aX gl i).nm (aX gl i).op (aX gl i).rt (aX gl i).ht=gl.take (i+1):=by
 unfold qSR
 rw [if_pos (h.ok i hi),qEI gl i qAu hi]
theorem qPF(x:Aud):(qVk x).length≤16:=by
 unfold qVk
 split
 · rw [Sha.tagged_length];exact jK _
 · exact jG _
theorem qHV(l:List Aud): ∀{n:Nat},n≤15→qCF (qGZ [] l n)
 |0,_=>⟨List.Pairwise.nil,(λp h=>by cases h),(λp h=>by cases h),jG _⟩
 |n+1,h=>by
  have h2:=qJW l (n:=n) xB
  exact(qHV l xB).put (qBl n) (jX (qPF _) xC) xB
structure NwR where
 gs:Nat
 gA:Nat
 gR:Nat
 mR:Hp
 gt:Nat
 mt:Hp
 cp:CpR
 ad:AdR
 gb:Nat
structure NwP (gl:List Aud) (dp:Nat) (x:NwR):Prop where
 ro:qSg x.mR x.gR gl
 tr:qGO x.mt x.gt (qGZ [] gl gl.length)
 cp:CpP [] gl x.cp
 ad:AdP qAj dp gl.length x.gt [] [] (qGZ [] gl gl.length) x.ad
theorem qLt(F:Hp)(gs:Nat)(A:Option Addr)(c:Nat):Cz prog 52 [Ptr gs,.slice A 0 c] F (.bool true):=by
 refine Ct.walk func52 O ntmps52 O (λw0 hw0=>?_)
 refine J.f λ_ j1=>J.b O<|J.c j1<|J.f λ_ j2=>J.b O<|J.c j2<|J.q λ_ j3=>J.f λ_ j4=>J.b O<|J.g (qAQ qAm O O) O<|J.b O<|J.c j4<|J.T<|J.b8 (X:=Nat×Value) (λζ=> [(0,Ptr gs),(5,ζ.2),(13,.slice A 0 c),(14,I (0:Nat)),(15,I (ζ.1:Nat))]) (λζ=> [F]) (λζ=>ζ.1=0) (λζ=>0) (0,.slice none 0 0) (O) ⟨O,O,O,O,O,trivial⟩ (λ_ h=>h) ?_
 rintro⟨i,v5⟩ hi I0 hI0
 dsimp only at hi⊢
 refine J.f λ_ j5=>J.g ((qAS O O O).no xB) O<|J.c j5<|J.q λ_ j6=>J.a3 ?_
 refine J.b5<|J.a0<|J.a0<|J.b6 ?_
 refine J.u (J.D j3 ?_)
 exact J.f λ_ j7=>J.b O<|J.c j7<|J.A<|J.E hw0 O () O trivial [0] O xC
theorem qWD(F md:Hp)(hK:qAG F ⟨3,0,none⟩ (Sha.K.map W32))(hA:qAG F ⟨0,0,none⟩ qBd)(hT:qB7 F)(gd n:Nat)(hb:Dsk md gd (Dk.new n) none 0)(hn4:4≤n)(hn:n≤1000)(first count:Nat)(h8:8≤count)(hfc:first+count≤n)(dp:Nat)(hdp:dp≤4)(GA:Option Addr)(gc:Nat)(gl:List Aud)(hgl:Sl F 4 GA gl.length gc (qBp gl))(hg:qYC gl):Ct prog 9 [Ptr gd,I (first:Nat),I (count:Nat),I (dp:Nat),.slice GA gl.length gc] [md,F] (λx:NwR=> .tuple #[Ptr x.gs,I (0:Nat)]) (NwP gl dp) (λx=> [md,F,qAK x.gA (.map #[] 0),x.mR,x.mt,blk x.gs [I (dp:Nat),Ptr x.gb,.bool false,.map (some x.gA),Ptr x.gR,.map (some x.cp.g),Ptr x.cp.r,.slice none 0 0,.slice none 0 0,.slice x.ad.tA (([]:List Nat)++ [x.gt]).length x.ad.tc,.slice x.ad.hA (([]:List RhD)++ [adH qAj dp gl.length [] (qGZ [] gl gl.length) x.ad.nA x.ad.nc]).length x.ad.hc] 129,x.cp.mm,x.cp.M,x.cp.mr,x.ad.mT,x.ad.mH,x.ad.mN,(CbR.blk x.gb ⟨gd,first,count/2,first,0,0,none,0,[],Dk.new n⟩)]):=by
 obtain ⟨hp1,hp16⟩:=qNJ hdp
 have hcnt:cnt ((dp:Nat):Int)=2^dp:=qDA hdp
 have hg15:=hg.len
 obtain ⟨dA,dc,dB,de,hdc,hdL,hdW⟩:=hb.see
 have hll:=qJW gl (n:=gl.length) hg15
 have hlast:(Dk.new n).last.length=n:=by unfold Dk.new;exact jI
 refine Ct.walk func9 O ntmps9 O (λw0 hw0=>?_)
 refine J.f λ_ j1=>J.j 2 O<|J.c j1<|J.q λ_ j2=>J.f λ_ j3=>J.b O<|J.k (qAY O O (λF' hF=>by have:=qCN F' ((dp:Nat):Int);rw [hcnt] at this;exact this)) O λg21 _=>J.g ((qAU O O O).no xB) O<|J.c j3<|J.a3 ?_
 refine J.M j2<|J.f λ_ j4=>J.b O<|J.k (qDF O) O ?_
 rintro g24 _
 refine J.k (qBP O O (λF' hF=>Ct.swap2 (qWT F'))) O ?_
 rintro⟨g25,m25⟩ h25
 try dsimp only at h25
 refine J.g (qAM (places:= [(0,1),(1,1)]) (r:= [.map (some g24),Ptr g25]) O O O qEs zeroValue124 (λ_=>xH) O) O<|J.g (qAM (places:= [(0,1),(1,1),(2,1),(3,2),(5,2),(7,1),(8,1),(9,1),(10,1)]) (r:= [I (dp:Nat),.pointer none,.bool false,.map (some g24),Ptr g25,.map none,.pointer none,.slice none 0 0,.slice none 0 0,.slice none 0 0,.slice none 0 0]) O O O qBJ zeroValue129 (λ_=>xH) xH) O<|J.k (qAd O O O) O λg28 _=>J.b O<|J.c j4<|J.q λ_ j5=>J.f λ_ j6=>J.b O<|J.g (qAQ qDm O O) O<|J.b O<|J.c j6<|J.T<|J.b8 (X:=Nat×Hp) (λζ=> [(0,Ptr gd),(1,I (first:Nat)),(2,I (count:Nat)),(12,Ptr g28),(29,.slice GA gl.length gc),(30,I (gl.length:Nat)),(31,I (ζ.1:Nat))]) (λζ=> [ζ.2,md,F,qAK g24 (.map #[] 0),blk g28 [I (dp:Nat),.pointer none,.bool false,.map (some g24),Ptr g25,.map none,.pointer none,.slice none 0 0,.slice none 0 0,.slice none 0 0,.slice none 0 0] 129]) (λζ=>ζ.1≤gl.length∧qSg ζ.2 g25 (gl.take ζ.1)) (λζ=>gl.length-ζ.1) (0,m25) (⟨jG _,h25⟩) ⟨O,O,O,O,O,O,O,trivial⟩ (λ_ h=>h.pick [3,0,1,2,4] xC) ?_
 rintro⟨i,mo⟩ ⟨hi,hro⟩ I0 hI0
 dsimp only at hi hro⊢
 refine J.f λ_ j7=>J.g (qAS O O O) O<|J.c j7<|J.q λ_ j8=>J.Z O (λh32=>?_) (λh32=>?_)
 ·
  refine J.M j8<|J.q λ_ j9=>J.T<|J.q λ_ j10=>?_
  obtain ⟨hx1,hx2,hx3⟩:=hg.at (i:=i) xB
  have htk:(gl.take i).length≤1000000:=by rw [jE];omega
  refine J.L<|J.g (qAE O O O qDm qDq hgl xB) O<|J.g (qAT O O qLO qDq (m:=F) xD (hgl.elem (qFj xB)) O) O<|J.k (qAJ O qRo O) O λg14 _=>J.a8 (qAD (i:=5) (l:= [Str [],Str [],Str [],I 0]) (vs:= [Str ((gl.getD i qAu).nm),Str ((gl.getD i qAu).op),Str ((gl.getD i qAu).rt),I ((gl.getD i qAu).ht)]) O O O O O qDq O O) O O λ_ _=>J.c j10<|J.q λ_ j11=>J.b2 [blk g28 [I (dp:Nat),.pointer none,.bool false,.map (some g24),Ptr g25,.map none,.pointer none,.slice none 0 0,.slice none 0 0,.slice none 0 0,.slice none 0 0] 129,blk g14 [Str ((gl.getD i qAu).nm),Str ((gl.getD i qAu).op),Str ((gl.getD i qAu).rt),I ((gl.getD i qAu).ht)] 34] [] (.y 0 (.y 1 (.y 2 (.y 3 (.y 4 (.y 5 (.e 6 (.y 7 (.y 8 (.y 9 (.y 10 (.y 11 .nil)))))))))))) Tryz.wide xF xD ?_
  refine J.G ?_
  refine J.p O (qAB O O) O O<|J.p O (qAA O O qBJ O qCi O) O O<|J.p O (qAA O O qEs O sizeOf121 O) O O<|J.p O (qAC 0 O O O isAgg121 O) O O<|J.p O (qAW 1 O O O qLO qDq O) O O<|J.a1 O (qAI O O ent (Ct.use1 0 O (λF' hF=>qWg F' mo g25 (gl.take i) hro (hA.mono (Fa hF)) (hT.mono (Fa hF)) ((gl.getD i qAu).nm) ((gl.getD i qAu).op) ((gl.getD i qAu).rt) ((gl.getD i qAu).ht) (by first|omega|exact jf O|(rw [jQ];omega)) (by first|omega|exact jf O|(rw [jQ];omega)) (by first|omega|exact jf O|(rw [jQ];omega)) (by first|omega|exact jf O|(rw [jQ];omega))))) O xD ?_
  rintro m42 h42
  rw [hg.ok i xB]
  replace h42:=(congrArg (qSg m42 g25) (hg.step (i:=i) xB)).mp h42
  refine J.G ?_
  refine J.c6 (I (qH1 (gl.take i) (aX gl i).nm (aX gl i).op (aX gl i).rt (aX gl i).ht)) ?_
  refine J.c6 (I (0:Nat)) ?_
  refine J.b7 ?_
  refine J.b7 ?_
  refine J.b1<|J.u (J.D j11 ?_)
  refine J.f λ_ j12=>J.b O<|J.g ((qAf O O O).no xC) O<|J.c j12<|J.a3 ?_
  refine J.b3<|J.a4<|J.u (J.D j9 ?_)
  exact J.L<|J.g ((qAR O O O xB).nat (i+1) xB) O<|J.b O<|J.a5<|J.u<|J.b0 (i+1,m42) (λη (hη:_∧gl.length-η.1<gl.length-i)=>hI0 η hη.1 hη.2) ⟨⟨by dsimp only;omega,h42⟩,by dsimp only;omega⟩ ⟨O,O,O,O,O,O,O,trivial⟩ (λ_ h=>h.pick [0,1,2,3,4] xC)
 refine J.b5<|J.a0<|J.a0<|J.b6 ?_
 refine J.u (J.D j5 ?_)
 refine J.q λ_ j13=>?_
 obtain rfl:i=gl.length:=by omega
 rw [jo] at hro
 obtain ⟨A3,n3,c3,hcA,hsA,_⟩:=hro.see
 obtain rfl:gl.length=n3:=by have:=hsA.1;rw [qED] at this;exact this
 refine J.L<|J.k (qBP O O (λF' hF=>Ct.swap2 (qVy F'))) O ?_
 rintro⟨g49,m49⟩ h49
 try dsimp only at h49
 refine J.b O<|J.c j13<|J.f λ_ j14=>J.b O<|J.g (qAB O O) O<|J.V 3 qBJ qCi O O O O O<|J.V 4 qEs sizeOf121 O O O O O<|J.a6 4 isAgg121 O O O O O<|J.b O<|J.k (qAI O O ent (Ct.use1 5 O (λF' hF=>qWV F' m49 (hK.mo hF) g25 A3 gl.length c3 gl (hsA.mono (Fa hF)) xB (hcA.mono (Fa hF)) g49 [] h49 hg.sm xB))) O ?_
 rintro m56 h56
 refine J.c j14<|J.f λ_ j15=>J.j 2 O<|J.g (qAB O O) O<|J.V 3 qBJ qCi O O O O O<|J.g (qAT O O isAgg124 qCi (m:=blk g28 [I (dp:Nat),.pointer none,.bool false,.map (some g24),Ptr g25,.map none,.pointer none,.slice none 0 0,.slice none 0 0,.slice none 0 0,.slice none 0 0] 129) xD (qAG.blk0.sub 3 2) O) O<|J.k (qBP O O (λF' hF=>qM7 F' g24 g25 [] ((MapS.nil g24).at.mono (hF (qAK g24 (.map #[] 0)) xD)) (λ_ h=>by cases h) List.nodup_nil (λ_ h=>by cases h) A3 gl.length c3 gl (hcA.mono (Fa hF)) (hsA.mono (Fa hF)) xB)) O ?_
 rintro r62 hp62
 refine J.g (qAB O O) O<|J.V 5 qBJ qCi O O O O O<|J.a8 (qAa (i:=4) O O O O O qCi O xD) O O λ_ _=>J.c j15<|J.q λ_ j16=>?_
 obtain ⟨A4,n4,c4,hcB,hsB,_⟩:=hp62.ro.see
 obtain rfl:gl.length=n4:=by have:=hsB.1;rw [qED] at this;exact this
 refine J.c7 [0,1,2,3,4,5,6,7,8,9] [mo,md,F,qAK g24 (.map #[] 0),blk g28 [I (dp:Nat),.pointer none,.bool false,.map (some g24),Ptr g25,.map (some r62.g),Ptr r62.r,.slice none 0 0,.slice none 0 0,.slice none 0 0,.slice none 0 0] 129,m56,r62.mm,r62.M,r62.mr,(λ_=>none)] O xC<|J.c7 [0,1,2,3,4,5,6,7,8,9,10] [mo,md,F,qAK g24 (.map #[] 0),blk g28 [I (dp:Nat),.pointer none,.bool false,.map (some g24),Ptr g25,.map (some r62.g),Ptr r62.r,.slice none 0 0,.slice none 0 0,.slice none 0 0,.slice none 0 0] 129,m56,r62.mm,r62.M,r62.mr,(λ_=>none),(λ_=>none)] O xC<|J.c4 [4,9,10,1,2,3,0,5,6,7,8] [blk g28 [I (dp:Nat),.pointer none,.bool false,.map (some g24),Ptr g25,.map (some r62.g),Ptr r62.r,.slice none 0 0,.slice none 0 0,.slice none 0 0,.slice none 0 0] 129,(λ_=>none),(λ_=>none),md,F,qAK g24 (.map #[] 0),mo,m56,r62.mm,r62.M,r62.mr] O xC<|J.L<|J.j 2 O<|J.k (qAI O O ent (Ct.useA [blk g28 [I (dp:Nat),.pointer none,.bool false,.map (some g24),Ptr g25,.map (some r62.g),Ptr r62.r,.slice none 0 0,.slice none 0 0,.slice none 0 0,.slice none 0 0] 129,(λ_=>none),(λ_=>none)] [md,F,qAK g24 (.map #[] 0),mo,m56,r62.mm,r62.M,r62.mr] (A':=λx:AdR=> [blk g28 [I (dp:Nat),.pointer none,.bool false,.map (some g24),Ptr g25,.map (some r62.g),Ptr r62.r,.slice none 0 0,.slice none 0 0,.slice x.tA (([]:List Nat)++ [g49]).length x.tc,.slice x.hA (([]:List RhD)++ [adH qAj dp gl.length [] (qGZ [] gl gl.length) x.nA x.nc]).length x.hc] 129,x.mT,x.mH]) (new:=λx=> [x.mN]) (λF' hF=>qQC F' (λ_=>none) (λ_=>none) (hK.mo hF) g28 dp r62.r (.pointer none) (.bool false) (.map (some g24)) (Ptr g25) (.map (some r62.g)) (.slice none 0 0) (.slice none 0 0) none 0 [] qBc.nil (jG _) none 0 [] qBc.nil (jG _) hdp g49 (qGZ [] gl gl.length) (h56.at.mono (Fa hF)) (qHV gl hg15) A4 gl.length c4 gl (hcB.mono (Fa hF)) (hsB.mono (Fa hF)) qAj))) O ?_
 rintro r67 hp67
 refine J.c j16<|J.f λ_ j17=>J.j 3 O<|J.k (qBP O O (λF' hF=>qOl F' (hK.mo hF) gd (Dk.new n) dA dc dB de none 0 (hdc.mono (Fa hF)) (hdL.mono (Fa hF)) (hdW.mono (Fa hF)) xB (jG _) first count h8 xB qTw)) O ?_
 rintro g72 _
 change J _ ((72,.tuple #[Ptr g72,I (0:Nat)])::_) _ [_,_,_,_,_,_,_,_,_,_,_,_,(CbR.blk g72 ⟨gd,first,count/2,first,0,0,none,0,[],Dk.new n⟩)] _
 refine J.j 5 O<|J.c j17<|J.q λ_ j18=>J.f λ_ j19=>J.b O<|J.g ((qAf O O O).no xC) O<|J.c j19<|J.a3 ?_
 refine J.M j18<|J.f λ_ j20=>J.j 2 O<|J.g (qAB O O) O<|J.V 1 qBJ sizeOf125 O O O O O<|J.a8 (qAa (i:=0) (l:= [I (dp:Nat),.pointer none,.bool false,.map (some g24),Ptr g25,.map (some r62.g),Ptr r62.r,.slice none 0 0,.slice none 0 0,.slice r67.tA (([]:List Nat)++ [g49]).length r67.tc,.slice r67.hA (([]:List RhD)++ [adH qAj dp gl.length [] (qGZ [] gl gl.length) r67.nA r67.nc]).length r67.hc]) (vs:= [Ptr g72]) O O O O O sizeOf125 O xD) O O λ_ _=>?_
 change J _ _ _ [blk g28 [I (dp:Nat),Ptr g72,.bool false,.map (some g24),Ptr g25,.map (some r62.g),Ptr r62.r,.slice none 0 0,.slice none 0 0,.slice r67.tA (([]:List Nat)++ [g49]).length r67.tc,.slice r67.hA (([]:List RhD)++ [adH qAj dp gl.length [] (qGZ [] gl gl.length) r67.nA r67.nc]).length r67.hc] 129,_,_,_,_,_,_,_,_,_,_,_,_] _
 refine J.c j20<|J.q λ_ j21=>J.f λ_ j22=>J.j 2 O<|J.k (qAI O O ent (Ct.use (new:=λx:Option Addr×Nat×Hp=> [x.2.2]) (λF' hF=>qOb F' g72 gd ((first:Nat):Int) (count/2) ((first:Nat):Int) 0 ((0:Nat):Int) none 0 0 false (qAG.blk0.mono (hF (CbR.blk g72 ⟨gd,first,count/2,first,0,0,none,0,[],Dk.new n⟩) xD)) [] O Sl.nil (jG _)))) O ?_
 rintro⟨A84,c84,m84⟩ h84
 try dsimp only at h84
 refine J.k (qAY O O (λF' hF=>qLt F' g28 A84 c84)) O λg85 _=>J.g ((qAq O O).as (v':= .bool false) O) O<|J.c j22<|J.a3 ?_
 exact J.M j21<|J.f λ_ j23=>J.j 3 O<|J.c j23<|J.A<|J.a9 hw0 (λ_ _ h=>h) (qBs O O O) (qAi (⟨g28,g24,g25,mo,g49,m56,r62,r67,g72⟩:NwR) O ⟨hro,h56,hp62,hp67⟩ [3,4,5,6,7,0,8,9,10,1,2,11,12] O xC)
end Go.Proofs.YtmemgokiolfdoaaGreatDoor