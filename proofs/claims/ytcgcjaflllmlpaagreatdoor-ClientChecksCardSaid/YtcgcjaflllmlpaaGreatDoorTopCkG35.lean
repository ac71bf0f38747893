/- A part of the proof. -/
import Derived.Test.YtcgcjaflllmlpaaGreatDoorTopCkG31
import Derived.Test.YtcgcjaflllmlpaaGreatDoorTopCkG33
import Derived.Test.YtcgcjaflllmlpaaGreatDoorTopCkG34
import Derived.Test.YtcgcjaflllmlpaaGreatDoorTopCkG29
set_option maxRecDepth 100000
set_option maxHeartbeats 1000000
set_option linter.unusedSimpArgs false
set_option linter.unusedVariables false
namespace Go.Proofs.YtcgcjaflllmlpaaGreatDoor
open Go Go.Fw Go.Proofs.Tryz
structure RhD where
 ep:Nat
 par:xA
 dep:Nat
 aud:Nat
 nsA:Option Addr
 nsc:Nat
 ns:List xA
def RhD.cells(x:RhD):List Value:= [N64 (x.ep),Str (x.par),I (x.dep:Nat),I (x.aud:Nat),.slice x.nsA x.ns.length x.nsc]
def qAc:RhD:=⟨0,[],0,0,none,0,[]⟩
def qCk(l:List RhD):List (List Value):=l.map RhD.cells
theorem qB3{l:List RhD}{k:Nat}(h:k<l.length):(qCk l)[k]?=some (l.getD k qAc).cells:=by
 unfold qCk
 rw [jN,qAi qAc h];rfl
theorem qKG(a:List RhD)(x:RhD):qCk (a++ [x])=qCk a++ [x.cells]:=by simp [qCk]
theorem qXd(a:List RhD):(qCk a).all (λx=>x.all Value.oneCell')=true:=qL3 RhD.cells (λ_=>rfl) a
structure TrD where
 b:Nat
 d:Nat
 old:xA
 nw:xA
 stA:Option Addr
 stc:Nat
 st:List qBi
def TrD.cells(x:TrD):List Value:= [I (x.b:Nat),I (x.d:Nat),Str (x.old),Str (x.nw),.slice x.stA x.st.length x.stc]
def noTrD:TrD:=⟨0,0,[],[],none,0,[]⟩
def qJ1(l:List TrD):List (List Value):=l.map TrD.cells
theorem qOa(a:List TrD)(x:TrD):qJ1 (a++ [x])=qJ1 a++ [x.cells]:=by simp [qJ1]
def qDD(l:List En):List (List Value):=l.map En.cells
theorem qNy{l:List En}{k:Nat}(h:k<l.length):(qDD l)[k]?=some (l.getD k qA9).cells:=by
 unfold qDD
 rw [jN,qAi qA9 h];rfl
theorem qR3(a:List En)(x:En):qDD (a++ [x])=qDD a++ [x.cells]:=by simp [qDD]
theorem qL5(a:List En):(qDD a).all (λx=>x.all Value.oneCell')=true:=qL3 En.cells (λ_=>rfl) a
def qBw(l:List Nat):List (List Value):=l.map λg=> [Ptr g]
theorem qGs{l:List Nat}{k:Nat}(h:k<l.length):(qBw l)[k]?=some [Ptr (l.getD k 0)]:=by
 unfold qBw;rw [jN,jC h,jB,jC h];rfl
theorem qEF(a:List Nat)(x:Nat):qBw (a++ [x])=qBw a++ [[Ptr x]]:=by simp [qBw]
theorem qZ2(l:List Hp)(m:Hp):U (l++ [m])=U [U l,m]:=by
 induction l with
 |nil=>rfl
 |cons a l ih=>
  funext g
  show(match a g with|some o=>some o|none=>U (l++ [m]) g)=match (match a g with|some o=>some o|none=>U l g) with|some o=>some o|none=>U [m] g
  rw [ih]
  cases a g<;>rfl
theorem qVU{l:List Hp}{m:Hp}(h:Djs l)(hd:Dj (U l) m):Djs (l++ [m]):=by
 rw [qAd,jV]
 refine⟨qAd.1 h,by simp,λa ha b hb=>?_⟩
 rw [List.mem_singleton.1 hb]
 exact(Dj.U_right.1 hd.symm a ha).symm
structure Lb where
 nm:xA
 A:Option Addr
 c:Nat
 l:List En
 m:Hp
abbrev LE:=List (xA×List En)
def lbV(ls:List Lb):MP:=ls.map λx=>(x.nm,.slice x.A x.l.length x.c)
def lbE(ls:List Lb):LE:=ls.map λx=>(x.nm,x.l)
def qCp:List Lb→xA→Option Lb
 | [],_=>none
 |x::r,k=>if x.nm=k then some x else qCp r k
def qDf:LE→xA→List En
 | [],_=> []
 |x::r,k=>if x.1=k then x.2 else qDf r k
def qXz(ls:List Lb)(k:xA):Option Addr:=match qCp ls k with|some x=>x.A|none=>none
def qXy(ls:List Lb)(k:xA):Nat:=match qCp ls k with|some x=>x.c|none=>0
theorem qJS(ls:List Lb)(k:xA):qDf (lbE ls) k=match qCp ls k with|some x=>x.l|none=> []:=by
 induction ls with
 |nil=>rfl
 |cons x r ih=>
  show(if x.nm=k then x.l else qDf (lbE r) k)=match (if x.nm=k then some x else qCp r k) with|some x=>x.l|none=> []
  by_cases h:x.nm=k
  · rw [if_pos h,if_pos h]
  · rw [if_neg h,if_neg h];exact ih
theorem qFe(ls:List Lb)(k:xA):qKo (lbV ls) k=(qCp ls k).map λx=> .slice x.A x.l.length x.c:=by
 induction ls with
 |nil=>rfl
 |cons x r ih=>
  show(if x.nm=k then some _ else qKo (lbV r) k)=(if x.nm=k then some x else qCp r k).map _
  by_cases h:x.nm=k
  · rw [if_pos h,if_pos h];rfl
  · rw [if_neg h,if_neg h];exact ih
theorem qVx(ls:List Lb)(k:xA):(qKo (lbV ls) k).getD (.slice none 0 0)= .slice (qXz ls k) (qDf (lbE ls) k).length (qXy ls k):=by
 rw [qFe,qJS]
 unfold qXz qXy
 cases qCp ls k<;>rfl
theorem qKp{ls:List Lb}{k:xA}{x:Lb}(h:qCp ls k=some x):x∈ls∧x.nm=k:=by
 induction ls with
 |nil=>cases h
 |cons y r ih=>
  rw [qCp] at h
  split at h
  · rename_i hk;cases h;exact⟨.head _,hk⟩
  · have:=ih h;exact⟨.tail _ this.1,this.2⟩
def LbA(F:Hp)(ls:List Lb):Prop:= ∀x∈ls,Sl F 5 x.A x.l.length x.c (qDD x.l)
theorem LbA.mono{F F':Hp}{ls:List Lb}(h:LbA F ls)(hl:Le F F'):LbA F' ls:=λx hx=>(h x hx).mono hl
theorem LbA.at{F:Hp}{ls:List Lb}(h:LbA F ls)(k:xA):Sl F 5 (qXz ls k) (qDf (lbE ls) k).length (qXy ls k) (qDD (qDf (lbE ls) k)):=by
 rw [qJS]
 unfold qXz qXy
 cases hg:qCp ls k with
 |none=>exact Sl.nil
 |some x=>exact h x (qKp hg).1
structure NxS (M:Hp) (ls:List Lb):Prop where
 eq:M=U (ls.map Lb.m)
 dj:Djs (ls.map Lb.m)
 row: ∀x∈ls,Row x.m 61 5 x.A x.l.length x.c (qDD x.l)
theorem NxS.nil:NxS (λ_=>none) []:=⟨rfl,trivial,λx h=>by cases h⟩
theorem NxS.at{M:Hp}{ls:List Lb}(h:NxS M ls):LbA M ls:=λx hx=>by
 rw [h.eq]
 exact(h.row x hx).sl.mono (qFO h.dj (List.mem_map.2 ⟨x,hx,O⟩))
theorem NxS.snoc{M m':Hp}{ls:List Lb}(h:NxS M ls){k:xA}{A:Option Addr}{c:Nat}{l:List En}(hr:Row m' 61 5 A l.length c (qDD l))(hd:Dj M m'):NxS (U [M,m']) (ls++ [⟨k,A,c,l,m'⟩]):=by
  refine⟨?_,?_,λx hx=>?_⟩
  · rw [jM,h.eq];exact(qZ2 _ _).symm
  · rw [jM]
    exact qVU h.dj (h.eq▸hd)
  · rcases List.mem_append.1 hx with hx|hx
    · exact h.row x hx
    · rw [List.mem_singleton.1 hx];exact hr
theorem qI0{l:MP}{k:xA}(h:qKo l k=none)(v:Value):qNE l k v=l++ [(k,v)]:=by
  induction l with
  |nil=>rfl
  |cons x r ih=>
    rw [qKo] at h
    split at h
    · cases h
    · rename_i hn
      show(if x.1=k then _ else x::qNE r k v)=_
      rw [if_neg hn,ih h];rfl
theorem qJP(ls:List Lb)(x:Lb):lbV (ls++ [x])=lbV ls++ [(x.nm,.slice x.A x.l.length x.c)]:=by unfold lbV;rw [jM];rfl
theorem qNj(ls:List Lb)(x:Lb):lbE (ls++ [x])=lbE ls++ [(x.nm,x.l)]:=by unfold lbE;rw [jM];rfl
def qMf(l:LE):Prop:=(l.map Prod.fst).Nodup
theorem qKr{l:LE}{k:xA}(h:k∉l.map Prod.fst):qDf l k= []:=by
 induction l with
 |nil=>rfl
 |cons x r ih=>
  rw [jd,zd,not_or] at h
  rw [qDf,if_neg (λe=>h.1 e.symm),ih h.2]
theorem qIN{ls:List Lb}{k:xA}:qCp ls k=none↔k∉(lbE ls).map Prod.fst:=by
  induction ls with
  |nil=>simp [qCp,lbE]
  |cons x r ih=>
    show(if x.nm=k then some x else qCp r k)=none↔k∉x.nm::(lbE r).map Prod.fst
    rw [zd,not_or,←ih]
    by_cases h:x.nm=k
    · rw [if_pos h];simp [h]
    · rw [if_neg h]
      exact⟨λe=>⟨λe=>h e.symm,e⟩,λe=>e.2⟩
theorem qNv{l:LE}(h:qMf l){k:xA}{v:List En}(hm:(k,v)∈l):qDf l k=v:=by
 induction l with
 |nil=>cases hm
 |cons x r ih=>
  obtain ⟨h1,h2⟩:=List.nodup_cons.1 (show(x.1::r.map Prod.fst).Nodup from h)
  cases hm with
  |head=>rw [qDf,if_pos rfl]
  |tail _ hm=>
   rw [qDf,if_neg,ih h2 hm]
   rintro rfl
   exact h1 (List.mem_map.2 ⟨_,hm,O⟩)
theorem qRt{l l':LE}(h:qMf l)(hp:l.Perm l')(k:xA):qDf l k=qDf l' k:=by
  have h':qMf l':=(hp.map _).nodup_iff.1 h
  by_cases hk:k∈l.map Prod.fst
  · obtain ⟨x,hx,rfl⟩:=List.mem_map.1 hk
    rw [qNv h (v:=x.2) hx,qNv h' (v:=x.2) (hp.subset hx)]
  · rw [qKr hk,qKr (λe=>hk ((hp.map _).mem_iff.2 e))]
structure CbR where
 gd:Nat
 f0:Nat
 size:Nat
 hat:Nat
 ht:UInt64
 e:Nat
 A:Option Addr
 c:Nat
 R:List xA
 d:Dk
abbrev CbR.blk(gb:Nat)(x:CbR):Hp:=Fw.blk gb [Ptr x.gd,I (x.f0:Nat),I (x.size:Nat),I (x.hat:Nat),W64 x.ht,I (x.e:Nat),.slice x.A x.R.length x.c,.bool false] 218
structure CbP (G md:Hp) (x:CbR):Prop where
 dk:Dsk md x.gd x.d none 0
 ok:x.d.ok
 on:x.d.off=false
 ar:x.d.armed=false
 wt:x.d.wait= []
 kp:x.d.keep= []
 rs:Sl G 1 x.A x.R.length x.c (qAG x.R)
 fit:x.hat+x.size≤x.d.last.length
 ln:x.d.last.length≤1000
 tn:x.ht.toNat≤1
 ef:x.e≤x.size
theorem CbP.mono{G G' md:Hp}{x:CbR}(h:CbP G md x)(hl:Le G G'):CbP G' md x:={h with rs:=h.rs.mono hl}
structure CbN (x y:CbR) (s:xA):Prop where
 gd:y.gd=x.gd
 f0:y.f0=x.f0
 sz:y.size=x.size
 e:y.e=x.e+qBg s.length
 R:y.R=x.R++ [s]
 ln:y.d.last.length=x.d.last.length
theorem qYI(F md:Hp)(hK:KF F)(gb:Nat)(x:CbR)(h:CbP F md x)(s:xA)(hs:s.length≤900)(hf:x.e+qBg s.length≤x.size)(hr:x.R.length<65536):
    Ct prog 71 [Ptr gb,Str s] [x.blk gb,md,F] (λ_:CbR×Hp×Hp=>I 0) (λy=>CbP y.2.2 y.2.1 y.1∧CbN x y.1 s) (λy=> [y.1.blk gb,y.2.1,F,y.2.2]):=λw0 w hw=>by
  have hn24:=qE1 hs
  have hfit:=h.fit
  have hln:=h.ln
  have hnr:(UInt64.ofNat x.R.length).toNat<2^(8*2):=by rw [qBF xB];exact hr
  have hc:=qPn h.ok h.on h.ar (p:=x.hat+x.e) (n:=qBg s.length) xB (qQj (turn:=1) (num:=UInt64.ofNat x.R.length) (s:=s) xC hnr hn24)
  have hm:(((1:UInt64).toNat:Nat):Int)=max (x.ht.toNat:Int) 1:=by
    have:=h.tn
    rw [show(1:UInt64).toNat=1 from rfl];omega
  refine(qLB F md hK gb x.gd ((x.f0:Nat):Int) x.size x.hat x.ht x.e x.A x.R.length x.c x.d none 0 h.dk h.ok (by rw [h.wt];exact jG _) (by rw [h.kp];exact Sl.nil) (by rw [h.kp];exact jG _) x.R O h.rs s hs _ O 1 hm xC hr xB hf hc.1 w0 w hw).mono λv w' ⟨y,he,⟨hd,hrow⟩,hst⟩=>?_
  obtain ⟨_,c1,c2,c3,c4,c5,c6⟩:=hc
  have e1:(x.R++ [s]).length=x.R.length+1:=by rw [jA];rfl
  refine⟨(⟨x.gd,x.f0,x.size,x.hat,1,x.e+qBg s.length,y.2.1,y.2.2.1,x.R++ [s],_⟩,y.1,y.2.2.2),he,⟨⟨hd,c6,c1,c2,c4,by rw [c5,h.kp],by rw [e1];exact hrow.sl,by show x.hat+x.size≤_;rw [c3];exact hfit,by show List.length _≤_;rw [c3];exact hln,(by show(1:UInt64).toNat≤1;decide),hf⟩,⟨O,O,O,O,O,c3⟩⟩,?_⟩
  show St w0 [Fw.blk gb [Ptr x.gd,I (x.f0:Nat),I (x.size:Nat),I (x.hat:Nat),W64 1,I (x.e+qBg s.length:Nat),.slice y.2.1 (x.R++ [s]).length y.2.2.1,.bool false] 218,y.1,F,y.2.2.2] w'
  rw [e1];exact hst
theorem qH6{d:Nat}(h:d≤4):1≤2^d∧2^d≤16:=by
 rcases d with _|_|_|_|_|d
 all_goals first|decide|omega
def qF4(G:Hp)(gs:List Nat):Prop:= ∀j,j<gs.length→qVS G (gs.getD j 0) (qAP j) 2
theorem qF4.mono{G G':Hp}{gs:List Nat}(h:qF4 G gs)(hl:Le G G'):qF4 G' gs:=λj hj=>(h j hj).mono hl
theorem qF4.nil(G:Hp):qF4 G []:=λj hj=>absurd hj (jy j)
theorem qF4.snoc{G:Hp}{gs:List Nat}{g i:Nat}(h:qF4 G gs)(hi:gs.length=i)(hk:qVS G g (qAP i) 2):qF4 G (gs++ [g]):=λj hj=>by
 rw [jA,jI] at hj
 rw [qFf gs g 0 j hj]
 split
 · exact h j xB
 · rw [show j=i by omega];exact hk
def pW(a d:Nat):Hd:=⟨0,qAh,((d:Nat):Int),((a:Nat):Int),qAq (qAN a) d⟩
theorem qD2{a:Nat}(h:a≤3):qCE (qAN a):=by
  have hk: ∀i,i<a→(qBq i).length=16:=λi _=>Sha.tagged_length _ _
  refine⟨?_,?_,?_,?_⟩
  · unfold Sm.Once qAN
    rw [List.pairwise_map]
    refine List.Pairwise.imp_of_mem (λ{i j} hi hj hij=>?_) List.pairwise_lt_range
    have h1:=List.mem_range.1 hi
    have h2:=List.mem_range.1 hj
    show qBq i≠qBq j
    rw [←qUe xB,←qUe xB]
    exact qKK xB xB xB
  · intro p hp
    obtain ⟨i,_,rfl⟩:=List.mem_map.1 hp
    exact Sha.tagged_length _ _
  · intro p hp
    obtain ⟨i,_,rfl⟩:=List.mem_map.1 hp
    show(qCF i).length≤_
    unfold qCF;rw [Sha.tagged_length];decide
  · unfold qAN;rw [jO,zX];omega
theorem qL8(a:Nat){d:Nat}(hd:d≤0):(qAq (qAN a) d).length≤16:=by
 rw [qBe]
 match d,hd with
 |0,_=>decide
 |1,_=>decide
theorem qLv(a:Nat){d:Nat}(hd:d≤0):(pW a d).good:=⟨by show 0<_;decide,by show qAh.length≤_;decide,by have:=qL8 a hd;show(qAq (qAN a) d).length≤_;omega⟩
theorem qMu(F:Hp)(A:Option Addr)(n c:Nat)(l:List Nat)(hs:Sl F 1 A n c (qBw l))(h0:0<n)(hn:n≤1000000):Cz prog 38 [.slice A n c] F (Ptr (l.getD (n-1) 0)):=by
 have hln:l.length=n:=by have:=hs.1;simpa [qBw] using this
 refine Ct.walk func38 O ntmps38 O (λw0 hw0=>?_)
 refine J.g λ_ j1=>J.b O<|J.c j1 ?_
 refine J.g λ_ j2=>J.k 2 O<|J.f (qAR qYi O O) O<|J.f ((qA3 O O O xB).nat (n-1) xB) O<|J.f (qAF O O O qYi sizeOf118 hs xB) O<|J.f (qAI O O isAgg118 (m:=F) xD (hs.elem (qGs xB))) O<|J.b O<|J.c j2 ?_
 exact J.A<|J.E hw0 O () O trivial [0] O xC
theorem qTQ(F:Hp)(A:Option Addr)(n c:Nat)(l:List RhD)(hs:Sl F 5 A n c (qCk l))(h0:0<n)(hn:n≤1000000):Cz prog 74 [.slice A n c] F (.agg #[N64 ((l.getD (n-1) qAc).ep),Str ((l.getD (n-1) qAc).par),I ((l.getD (n-1) qAc).dep:Nat),I ((l.getD (n-1) qAc).aud:Nat),.slice (l.getD (n-1) qAc).nsA (l.getD (n-1) qAc).ns.length (l.getD (n-1) qAc).nsc]):=by
 have hln:l.length=n:=by have:=hs.1;simpa [qCk] using this
 refine Ct.walk func74 O ntmps74 O (λw0 hw0=>?_)
 refine J.g λ_ j1=>J.p (qAJ O qUv O) O λg2 _=>J.c j1 ?_
 refine J.g λ_ j2=>J.k 2 O<|J.f (qAR qEY O O) O<|J.f ((qA3 O O O xB).nat (n-1) xB) O<|J.f (qAF O O O qEY qBv hs xB) O<|J.f (qAV O O qDF qBv (m:=F) xD (hs.elem (qB3 xB)) O) O<|J.a6 (qAD (i:=1) (l:= [.int .u64 0,Str [],I 0,I 0,.slice none 0 0]) (vs:= [N64 ((l.getD (n-1) qAc).ep),Str ((l.getD (n-1) qAc).par),I ((l.getD (n-1) qAc).dep:Nat),I ((l.getD (n-1) qAc).aud:Nat),.slice (l.getD (n-1) qAc).nsA (l.getD (n-1) qAc).ns.length (l.getD (n-1) qAc).nsc]) O O O O O qBv O O) O O λ_ _=>J.c j2 ?_
 exact J.A<|J.b0 hw0 (λ_ _ h=>h) (rv1 O (RV.blkA 1 O O qDF qBv)) (qAn () O trivial [0] O xC)
theorem qMx(F:Hp)(gm:Nat)(vr:Value)(ls:List Lb)(hm:Fw.MapAt F gm (lbV ls))(hl:LbA F ls)(s:xA)(hn:(qDf (lbE ls) s).length≤1000000)(h0:qDf (lbE ls) s= []):Cz prog 63 [.agg #[.map (some gm),vr],Str (s)] F (.tuple #[.agg #[.int .u64 0,Str [],Str [],I 0,Str []],.bool false]):=by
 have hl0:(qDf (lbE ls) s).length=0:=by rw [h0];rfl
 refine Ct.walk func63 O ntmps63 O (λw0 hw0=>?_)
 refine J.g λ_ j1=>J.p (qAZ O O O) O λg2 _=>J.p (qAJ O qFh O) O λg4 _=>J.b O<|J.c j1 ?_
 refine J.g λ_ j2=>J.M 0 qLd qVW O O O O O<|J.a7 1 isAgg92 O O O O O<|J.b O<|J.f ((qC9 O O O qVc u9_ zeroValue51 (m:=F) xD hm).as (v':= .slice (qXz ls s) (qDf (lbE ls) s).length (qXy ls s)) (qVx ls s)) O<|J.b O<|J.c j2 ?_
 refine J.q λ_ j3=>J.g λ_ j4=>J.b O<|J.f (qAR qDJ O O) O<|J.f ((qAX O O O).yes xB) O<|J.c j4 ?_
 refine J.c3 ?_
 refine J.g λ_ j5=>J.f (qAH (places:= [(0,1),(1,3),(4,1)]) (r:= [.int .u64 0,Str [],Str [],I 0,Str []]) O O O qFQ qFh (λ_=>xI) O) O<|J.a6 (qAD (i:=2) O O O O O qBY O O) O O λ_ _=>J.b O<|J.c j5 ?_
 exact J.A<|J.W<|J.b0 hw0 (λ_ _ h=>h) (rv2 O (RV.blkA 2 O O qC6 qBY) O) (qAn () O trivial [0] O xC)
theorem qK5(F:Hp)(A:Option Addr)(n c:Nat)(l:List En)(hs:Sl F 5 A n c (qDD l))(hnb:n≤1000000):Ct prog 40 [.slice A n c] [F] (λx:Option Addr×Nat×Hp=> .slice x.1 (l).length x.2.1) (λx=>Row x.2.2 61 5 x.1 (l).length x.2.1 (qDD l)) (λx=> [F,x.2.2]):=by
 have hkn:l.length=n:=by have:=hs.1;simpa [qDD] using this
 refine Ct.walk func40 O ntmps40 O (λw0 hw0=>?_)
 refine J.g λ_ j1=>J.b O<|J.c j1 ?_
 refine J.q λ_ j2=>J.g λ_ j3=>J.b O<|J.f ((qE4 qDJ O O O).as (v':= .bool (decide (A.isNone=true))) (congrArg Value.bool (by cases A<;>rfl))) O<|J.c j3 ?_
 refine J.a0 O (λh4=>?_) (λh4=>?_)
 ·
  refine J.g λ_ j4=>J.b O<|J.c j4 ?_
  refine J.A<|J.W ?_
  have hk0:l= []:=by
   refine jU ?_
   rcases yR n with h|h
   · omega
   · obtain ⟨g,o,rfl⟩:=hs.at h;cases h4
  exact J.d0 [0,1] [F,(λ_=>none)] O xC<|J.E hw0 O (none,0,(λ_=>none)) (by rw [hk0];rfl) (by rw [hk0];exact qBh.nil) [0,1] O xC
 refine J.T j2 ?_
 refine J.g λ_ j5=>J.p (qBV O qDJ el61) O λg5 _=>J.b O<|J.p (qAU (i:=1) (m2:=F) O O O qDJ qDJ el61 O (qAl (q:=True) (xs:=qDD ([])) O (by intro x hx;first|exact absurd hx (jz)|(rw [List.mem_singleton.1 hx];rfl))) xD (hs) (qL5 _) xB xB) O ?_
 rintro⟨A7,c7,m7⟩ h7
 try dsimp only at h7
 replace h7:Row m7 61 5 A7 (0+n) c7 (qDD (l)):=h7
 refine J.b O<|J.c j5 ?_
 refine J.A ?_
 rw [show 0+n=l.length by omega] at h7
 exact J.E hw0 O (A7,c7,m7) (by rw [←hkn,jX]) h7 [0,1] O xC
theorem qRZ{L:List Lb}{a b:MP}{p:xA×Value}(h:lbV L=a++p::b): ∃ra x rb,L=ra++x::rb∧a=lbV ra∧p=(x.nm,.slice x.A x.l.length x.c)∧b=lbV rb:=by
 unfold lbV at h
 obtain ⟨l1,l2,rfl,h1,h2⟩:=List.map_eq_append_iff.1 h
 obtain ⟨x,l3,rfl,h3,h4⟩:=List.map_eq_cons_iff.1 h2
 exact⟨l1,x,l3,O,h1.symm,h3.symm,h4.symm⟩
theorem qXx(a b:List Lb):lbV (a++b)=lbV a++lbV b:=by unfold lbV;rw [jM]
theorem qRa(a b:List Lb):lbE (a++b)=lbE a++lbE b:=by unfold lbE;rw [jM]
structure CpR where
 g:Nat
 ls:List Lb
 mm:Hp
 M:Hp
 r:Nat
 mr:Hp
structure CpP (ls:List Lb) (au:List Aud) (x:CpR):Prop where
 mp:MapS x.mm x.g (lbV x.ls)
 nx:NxS x.M x.ls
 pm:(lbE x.ls).Perm (lbE ls)
 ro:qS3 x.mr x.r au
theorem qYJ{dn ra rb ls:List Lb}{x y:Lb}(hu:qMf (lbE ls))(h:(lbE dn++lbE (ra++x::rb)).Perm (lbE ls))(h1:y.nm=x.nm)(h2:y.l=x.l):qKo (lbV dn) x.nm=none∧(lbE (dn++ [y])++lbE (ra++rb)).Perm (lbE ls):=by
  have e:lbE (dn++ [y])++lbE (ra++rb)=lbE dn++((y.nm,y.l)::(lbE ra++lbE rb)):=by rw [qNj,qRa,jW];rfl
  have e2:lbE dn++lbE (ra++x::rb)=lbE dn++(lbE ra++(x.nm,x.l)::lbE rb):=by rw [qRa];rfl
  rw [e2] at h
  refine⟨?_,?_⟩
  · rw [qFe,Option.map_eq_none_iff,qIN]
    have h3:qMf (lbE dn++(lbE ra++(x.nm,x.l)::lbE rb)):=(h.map _).nodup_iff.2 hu
    unfold qMf at h3
    rw [jM,List.nodup_append] at h3
    intro hm
    exact h3.2.2 _ hm _ (List.mem_map.2 ⟨(x.nm,x.l),jY _ (.head _),O⟩) O
  · rw [e,h1,h2]
    exact(List.Perm.append_left _ List.perm_middle.symm).trans h
theorem qM3(F:Hp)(gm gr:Nat)(ls:List Lb)(hm:Fw.MapAt F gm (lbV ls))(hl:LbA F ls)(hu:qMf (lbE ls))(hln: ∀x∈ls,x.l.length≤1000000)(RA:Option Addr)(rn rc:Nat)(au:List Aud)(hR:qAM F ⟨gr,0,none⟩ [.slice RA rn rc])(hRs:Sl F 4 RA rn rc (qBc au))(hrn:rn≤1000000):Ct prog 56 [.agg #[.map (some gm),Ptr gr]] [F] (λx:CpR=> .agg #[.map (some x.g),Ptr x.r]) (CpP ls au) (λx=> [F,x.mm,x.M,x.mr]):=by
  obtain ⟨es,ck,hg,hst,hkv⟩:=hm
  refine Ct.walk func56 O ntmps56 O (λw0 hw0=>?_)
  refine J.g λ_ j1=>J.p (qAZ O O O) O λg1 _=>J.p (qAJ O zeroValue95 O) O λg2 _=>J.c j1 ?_
  refine J.g λ_ j2=>J.p (qEM O) O ?_
  rintro g6 _
  refine J.M 1 qLd sizeOf93 O O O O O<|J.a7 1 isAgg93 O O O O O<|J.p (qBr O O (λF' hF=>Ct.swap2 (qT0 F' gr RA rn rc au (hRs.mono (Fa hF)) xB (hR.mono (Fa hF))))) O ?_
  rintro⟨g9,m9⟩ h9
  try dsimp only at h9
  refine J.f (qAH (places:= [(0,1),(1,1)]) (r:= [.map (some g6),Ptr g9]) O O O qLd zeroValue95 (λ_=>xI) O) O<|J.p (qAJ O zeroValue95 O) O λg3 _=>J.a6 (qAD (i:=5) (l:= [.map none,.pointer none]) (vs:= [.map (some g6),Ptr g9]) O O O O O qGS O O) O O λ_ _=>J.c j2 ?_
  refine J.q λ_ j3=>J.g λ_ j4=>J.M 0 qLd qVW O O O O O<|J.a7 1 isAgg92 O O O O O<|J.p (qKS O O qVc xD hg hkv) O ?_
  rintro⟨g13,mi⟩ hit
  try dsimp only at hit
  refine J.c j4 ?_
  refine J.V<|J.b6 (X:=List Lb×List Lb×Hp×Hp×Hp) (λζ=> [(2,Ptr g2),(3,Ptr g3),(13,Ptr g13)]) (λζ=> [ζ.2.2.2.2,F,blk g1 [.map (some gm),Ptr gr] 95,blk g2 [.map none,.pointer none] 95,m9,blk g3 [.map (some g6),Ptr g9] 95,ζ.2.2.2.1,ζ.2.2.1]) (λζ=>ItM ζ.2.2.1 g13 gm es ck (lbV ζ.1)∧MapS ζ.2.2.2.1 g6 (lbV ζ.2.1)∧NxS ζ.2.2.2.2 ζ.2.1∧(lbE ζ.2.1++lbE ζ.1).Perm (lbE ls)∧ ∀x∈ζ.1,x∈ls) (λζ=>ζ.1.length) (ls,[],mi,qAO g6 (.map #[] 0),(λ_=>none)) (⟨hit,MapS.nil _,NxS.nil,List.Perm.refl _,λ_ h=>h⟩) ⟨O,O,O,trivial⟩ (λ_ h=>h.empty.pick [7,0,1,2,4,5,3,6] xC) ?_
  rintro⟨rem,dn,mi,mm,M⟩ ⟨hit,hmp,hnxs,hpm,hsub⟩ I0 hI0
  dsimp only at hit hmp hnxs hpm hsub⊢
  refine J.g λ_ j5=>J.p (qNP (i:=7) O O (m:=F) xD hg hst O hit) O ?_
  rintro⟨on,mj⟩ hnx
  try dsimp only at hnx
  refine J.f ((qAb O (congrArg some (qRD on)) (qVo on))) O<|J.c j5 ?_
  refine J.q λ_ j6=>J.c7 O (λh15=>?_) (λh15=>?_)
  ·
    obtain ⟨x,ra,rb,rfl,hrem,hl2⟩: ∃x ra rb,on=some (x.nm,Value.slice x.A x.l.length x.c)∧rem=ra++x::rb∧ItL mj g13 gm es ck (lbV (ra++rb)) (x.nm,Value.slice x.A x.l.length x.c):=by
      rcases hnx with ⟨h1,_,_⟩|⟨p,a,b,h1,h2,h3⟩
      · rw [h1] at h15;cases h15
      · obtain ⟨ra,x,rb,e1,rfl,rfl,rfl⟩:=qRZ h2
        exact⟨x,ra,rb,h1,e1,by rw [qXx];exact h3⟩
    rw [hrem] at hpm hsub
    have hxm:x∈ls:=hsub x (jY _ (.head _))
    have hxl:=hl x hxm
    have hxn:=hln x hxm
    refine J.T j6 ?_
    refine J.V<|J.g λ_ j7=>J.f ((qKU (mi:=mj) (p:=(x.nm,.slice x.A x.l.length x.c)) O O xD hg hst xD hl2)) O<|J.f ((qAb O O O)) O<|J.f ((qAb O O O)) O<|J.k 2 O<|J.c j7 ?_
    have hstp:=λy=>qYJ (y:=y) hu hpm
    refine J.b1 [blk g3 [.map (some g6),Ptr g9] 95,F] [5] (.y 0 (.y 1 (.y 2 (.y 3 (.e 4 (.e 5 .nil)))))) Tryz.wide xF xD ?_
    refine J.j O (qAA O O qLd O qVW O) O O<|J.j O (qAC 0 O O O isAgg92 O) O O<|J.L ?_
    refine J.L ?_
    refine J.Z O (qBr O O (λF' hF=>qK5 F' x.A x.l.length x.c x.l (hxl.mono (Fa hF)) xP)) O xD ?_
    rintro⟨A23,c23,m23⟩ h23
    try dsimp only at h23
    refine J.c1 O (qCw (i:=6) O O O O qVc u9_ O hmp) O O O ?_
    rintro mu hmu
    rw [qI0 (hstp ⟨x.nm,A23,c23,x.l,m23⟩ rfl rfl).1,←qJP dn ⟨x.nm,A23,c23,x.l,m23⟩] at hmu
    refine J.c5 [0,8,1,2,3,4,5,6,7] [M,m23,F,blk g1 [.map (some gm),Ptr gr] 95,blk g2 [.map none,.pointer none] 95,m9,blk g3 [.map (some g6),Ptr g9] 95,mu,mj] O xC<|J.d6 (λhj=>?_)
    exact J.a9<|J.a3<|J.u<|J.a5 (ra++rb,dn++ [⟨x.nm,A23,c23,x.l,m23⟩],mj,mu,U [M,m23]) (λη (hη:_∧η.1.length<rem.length)=>hI0 η hη.1 hη.2) ⟨⟨hl2.it,hmu,hnxs.snoc h23 hj,(hstp ⟨x.nm,A23,c23,x.l,m23⟩ O O).2,λy hy=>hsub y (by rcases List.mem_append.1 hy with h|h;exact jg _ h;exact jY _ (.tail _ h))⟩,by dsimp only;rw [hrem,jA,jA,jD];omega⟩ ⟨O,O,O,trivial⟩ (λ_ h=>h)
  obtain rfl:rem= []:=by
    rcases hnx with ⟨_,h1,_⟩|⟨p,a,b,h1,_⟩
    · cases rem with
      |nil=>rfl
      |cons x r=>cases h1
    · rw [h1] at h15;cases h15
  refine J.b3<|J.a1<|J.a1<|J.b4 ?_
  refine J.u (J.G j3 ?_)
  refine J.g λ_ j8=>J.b8 5 isAgg95 qGS O O O O O<|J.a6 (qAD (i:=3) (l:= [.map none,.pointer none]) (vs:= [.map (some g6),Ptr g9]) O O O O O qGS O O) O O λ_ _=>J.c j8 ?_
  refine J.A ?_
  rw [show lbE dn++lbE []=lbE dn from jR _] at hpm
  exact J.b0 hw0 (λ_ _ h=>h) (rv1 O (RV.blkA 3 O O isAgg95 qGS)) (qAn (⟨g6,dn,mm,M,g9,m9⟩:CpR) O ⟨hmp,hnxs,hpm,h9⟩ [1,6,0,4] O xC)
theorem el34:qCt prog 34 [.int .u64 0,Str [],.int .i64 0,.int .i64 0,.slice none 0 0] 64:=qCt.of xI O
theorem el118:qCt prog 118 [.pointer none] 8:=qCt.of xI O
theorem el153:qCt prog 153 [Str [],Str []] 32:=qCt.of xI O
structure WtR where
 cA:Option Addr
 cc:Nat
 mC:Hp
 oA:Option Addr
 oc:Nat
 mO:Hp
theorem qMv(F mC mO:Hp)(gs:Nat)(v0 v1 v2 v3 v4 v5 v6 v9 v10:Value)(cA:Option Addr)(cc:Nat)(cl:List Chg)(hrc:Row mC 153 2 cA cl.length cc (qDi cl))(hcl:cl.length≤100000)(oA:Option Addr)(oc:Nat)(no:List xA)(hro:Row mO 9 1 oA no.length oc (qAG no))(hno:no.length≤100000)(nt k v:xA):Ct prog 66 [Ptr gs,Str nt,.agg #[Str k,Str v]] [blk gs [v0,v1,v2,v3,v4,v5,v6,.slice cA cl.length cc,.slice oA no.length oc,v9,v10] 99,mC,mO,F] (λ_:WtR=> .tuple #[]) (λx=>Row x.mC 153 2 x.cA (cl++ [(⟨k,v⟩:Chg)]).length x.cc (qDi (cl++ [(⟨k,v⟩:Chg)]))∧Row x.mO 9 1 x.oA (no++ [nt]).length x.oc (qAG (no++ [nt]))) (λx=> [blk gs [v0,v1,v2,v3,v4,v5,v6,.slice x.cA (cl++ [(⟨k,v⟩:Chg)]).length x.cc,.slice x.oA (no++ [nt]).length x.oc,v9,v10] 99,x.mC,x.mO,F]):=by
 refine Ct.walk func66 O ntmps66 O (λw0 hw0=>?_)
 refine J.g λ_ j1=>J.p (qAZ O O O) O λg5 _=>J.c j1<|J.g λ_ j2=>J.k 2 O<|J.f (qAB O O) O<|J.M 8 qCi qB1 O O O O O<|J.a7 0 qCC O O O O O<|J.b O<|J.p (qAE (l:= [.tmp 11]) (xs:= [[Str (nt)]]) O O O O qAk el9 O xC xC xD) O λg12 _=>J.p (qAU (i:=2) (m2:=blk g12 [Str (nt)] 9) O O O qAk qAk el9 O hro xD ((qA7 (q:=True) (qAG [nt]) O (by simp [qAG]) O).sl) O xB xB) O ?_
 rintro⟨A13,c13,m13⟩ h13
 try dsimp only at h13
 replace h13:Row m13 9 1 A13 (no.length+1) c13 (qAG (no++ [nt])):=by rw [qCG];exact h13
 rw [show no.length+1=(no++ [nt]).length by rw [jA];rfl] at h13⊢
 refine J.f (qAB O O) O<|J.M 8 qCi qB1 O O O O O<|J.a6 (qAT (i:=0) O O O O O qB1 O xD) O O λ_ _=>?_
 change J _ _ _ [blk gs [v0,v1,v2,v3,v4,v5,v6,.slice cA cl.length cc,.slice A13 ((no++ [nt]).length) c13,v9,v10] 99,_,_,_,_,_] _
 refine J.c j2<|J.b1 [blk gs [v0,v1,v2,v3,v4,v5,v6,.slice cA cl.length cc,.slice A13 ((no++ [nt]).length) c13,v9,v10] 99,blk g5 [Str (k),Str (v)] 153] [10] (.y 0 (.y 1 (.y 2 (.y 3 (.y 4 (.y 5 (.e 6 (.e 7 (.y 8 (.y 9 (.e 10 .nil))))))))))) Tryz.wide xF xD ?_
 refine J.L ?_
 refine J.L ?_
 refine J.j O (qAB O O) O O<|J.j O (qAA O O qCi O sizeOf96 O) O O<|J.j O (qAC 0 O O O isAgg96 O) O O<|J.j O (qAW 1 O O O isAgg153 qFx O) O O<|J.Z O (qAE (l:= [.tmp 21]) (xs:= [[Str (k),Str (v)]]) O O O O qPY el153 O xC xC xD) O xD λg22 _=>J.Z O (qAU (i:=1) (m2:=blk g22 [Str (k),Str (v)] 153) O O O qPY qPY el153 O hrc xD ((qAl (q:=True) (xs:=qDi [(⟨k,v⟩:Chg)]) O (by intro x hx;rw [List.mem_singleton.1 hx];rfl)).sl) O xB xB) O xD ?_
 rintro⟨A23,c23,m23⟩ h23
 try dsimp only at h23
 replace h23:Row m23 153 2 A23 (cl.length+1) c23 (qDi (cl++ [(⟨k,v⟩:Chg)])):=by rw [qIT];exact h23
 rw [show cl.length+1=(cl++ [(⟨k,v⟩:Chg)]).length by rw [jA];rfl] at h23⊢
 exact J.j O (qAB O O) O O<|J.j O (qAA O O qCi O sizeOf96 O) O O<|J.c1 O (qAT (i:=0) O O O O O sizeOf96 O xD) O O O λ_ _=>J.a9<|J.d8 hw0 (λ_ _ h=>h) (qJn O) (qAn (⟨A23,c23,m23,A13,c13,m13⟩:WtR) O ⟨h23,h13⟩ [0,1,2,3] O xC)
structure AdR where
 nA:Option Addr
 nc:Nat
 mN:Hp
 tA:Option Addr
 tc:Nat
 mT:Hp
 hA:Option Addr
 hc:Nat
 mH:Hp
def adH(par:xA)(dp rn:Nat)(hd:List RhD)(kv:List Sm.PR)(A:Option Addr)(c:Nat):RhD:=⟨hd.length,par,dp,rn,A,c,qAq kv dp⟩
structure AdP (par:xA) (dp rn gt:Nat) (tg:List Nat) (hd:List RhD) (kv:List Sm.PR) (x:AdR):Prop where
 nd:Row x.mN 9 1 x.nA (qAq kv dp).length x.nc (qAG (qAq kv dp))
 rt:Row x.mT 118 1 x.tA (tg++ [gt]).length x.tc (qBw (tg++ [gt]))
 rh:Row x.mH 34 5 x.hA (hd++ [adH par dp rn hd kv x.nA x.nc]).length x.hc (qCk (hd++ [adH par dp rn hd kv x.nA x.nc]))
theorem qQR(F mT mH:Hp)(hK:KF F)(gs dp rB:Nat)(v1 v2 v3 v4 v5 v7 v8:Value)(tA:Option Addr)(tc:Nat)(tg:List Nat)(hrt:Row mT 118 1 tA tg.length tc (qBw tg))(htg:tg.length≤100000)(hA:Option Addr)(hc:Nat)(hd:List RhD)(hrh:Row mH 34 5 hA hd.length hc (qCk hd))(hhd:hd.length≤100000)(hdp:dp≤4)(gt:Nat)(kv:List Sm.PR)(hT:qCh F gt kv)(hf:qCE kv)(RA:Option Addr)(rn rc:Nat)(au:List Aud)(hR:qAM F ⟨rB,0,none⟩ [.slice RA rn rc])(hRs:Sl F 4 RA rn rc (qBc au))(par:xA):Ct prog 57 [Ptr gs,Ptr gt,Str par] [blk gs [I (dp:Nat),v1,v2,v3,v4,v5,Ptr rB,v7,v8,.slice tA tg.length tc,.slice hA hd.length hc] 99,mT,mH,F] (λ_:AdR=> .tuple #[]) (AdP par dp rn gt tg hd kv) (λx=> [blk gs [I (dp:Nat),v1,v2,v3,v4,v5,Ptr rB,v7,v8,.slice x.tA (tg++ [gt]).length x.tc,.slice x.hA (hd++ [adH par dp rn hd kv x.nA x.nc]).length x.hc] 99,x.mT,x.mH,F,x.mN]):=by
 refine Ct.walk func57 O ntmps57 O (λw0 hw0=>?_)
 refine J.g λ_ j1=>J.k 2 O<|J.f (qAB O O) O<|J.M 0 qCi z3_ O O O O O<|J.a7 0 b3_ O O O O O<|J.p (qBr O O (λF' hF=>qSY F' (hK.mo hF) gt kv (hT.mono (Fa hF)) xG dp xB)) O ?_
 rintro⟨A14,c14,m14⟩ h14
 try dsimp only at h14
 refine J.k 5 O<|J.c j1<|J.g λ_ j2=>J.k 2 O<|J.f (qAB O O) O<|J.M 9 qCi sizeOf97 O O O O O<|J.a7 0 isAgg97 O O O O O<|J.b O<|J.p (qAE (l:= [.tmp 22]) (xs:= [[Ptr gt]]) O O O O qYi el118 O xC xC xD) O λg23 _=>J.p (qAU (i:=1) (m2:=blk g23 [Ptr gt] 118) O O O qYi qYi el118 O hrt xD ((qA7 (q:=True) (qBw [gt]) O (by simp [qBw]) O).sl) O xB xB) O ?_
 rintro⟨A24,c24,m24⟩ h24
 try dsimp only at h24
 replace h24:Row m24 118 1 A24 (tg.length+1) c24 (qBw (tg++ [gt])):=by rw [qEF];exact h24
 rw [show tg.length+1=(tg++ [gt]).length by rw [jA];rfl] at h24⊢
 refine J.f (qAB O O) O<|J.M 9 qCi sizeOf97 O O O O O<|J.a6 (qAT (i:=0) O O O O O sizeOf97 O xD) O O λ_ _=>?_
 change J _ _ _ [blk gs [I (dp:Nat),v1,v2,v3,v4,v5,Ptr rB,v7,v8,.slice A24 ((tg++ [gt]).length) c24,.slice hA hd.length hc] 99,_,_,_,_,_] _
 refine J.c j2<|J.b1 [blk gs [I (dp:Nat),v1,v2,v3,v4,v5,Ptr rB,v7,v8,.slice A24 ((tg++ [gt]).length) c24,.slice hA hd.length hc] 99] [28] (.y 0 (.y 1 (.y 2 (.y 3 (.y 4 (.y 5 (.y 6 (.y 7 (.y 8 (.y 9 (.y 10 (.y 11 (.y 12 (.y 13 (.y 14 (.y 15 (.y 16 (.y 17 (.y 18 (.y 19 (.y 20 (.y 22 (.e 21 (.y 23 (.e 24 (.e 25 (.y 26 (.y 27 (.e 28 .nil))))))))))))))))))))))))))))) Tryz.wide xF xD ?_
 refine J.L ?_
 refine J.L ?_
 refine J.j O (qAB O O) O O<|J.j O (qAA O O qCi O qJp O) O O<|J.j O (qAC 0 O O O qPS O) O O<|J.L ?_
 refine J.j O (qAB O O) O O<|J.j O (qAA O O qCi O qJp O) O O<|J.j O (qAC 0 O O O qPS O) O O<|J.j O (qAR qEY O O) O O<|J.j O (qEO O O u3_ qEd xB) O O<|J.L ?_
 refine J.L ?_
 refine J.j O (qAB O O) O O<|J.j O (qAA O O qCi O z3_ O) O O<|J.j O (qAC 0 O O O b3_ O) O O<|J.L ?_
 refine J.j O (qAB O O) O O<|J.j O (qAA O O qCi O qGS O) O O<|J.j O (qAA O O qLd O sizeOf93 O) O O<|J.j O (qAC 0 (v:=Ptr rB) O O O isAgg93 O) O O<|J.L ?_
 refine J.Z O (qAa O O (λF' hF=>qM7 F' rB RA rn rc (hR.mono (Fa hF)))) O xD λg48 _=>J.j O (qAH (places:= [(0,1),(1,1),(2,1),(3,1),(4,1)]) (r:= [N64 (hd.length),Str (par),I (dp:Nat),I (rn:Nat),.slice A14 ((qAq kv dp).length) c14]) O O O qDn qUv (λ_=>xI) O) O O<|J.Z O (qAE (l:= [.tmp 50]) (xs:= [[N64 (hd.length),Str (par),I (dp:Nat),I (rn:Nat),.slice A14 ((qAq kv dp).length) c14]]) O O O O qEY el34 O xC xC xD) O xD λg51 _=>J.Z O (qAU (i:=2) (m2:=blk g51 [N64 (hd.length),Str (par),I (dp:Nat),I (rn:Nat),.slice A14 ((qAq kv dp).length) c14] 34) O O O qEY qEY el34 O hrh xD ((qAl (q:=True) (xs:=qCk [(⟨hd.length,par,dp,rn,A14,c14,(qAq kv dp)⟩:RhD)]) O (by intro x hx;rw [List.mem_singleton.1 hx];rfl)).sl) O xB xB) O xD ?_
 rintro⟨A52,c52,m52⟩ h52
 try dsimp only at h52
 replace h52:Row m52 34 5 A52 (hd.length+1) c52 (qCk (hd++ [(adH par dp rn hd kv A14 c14)])):=by rw [qKG];exact h52
 rw [show hd.length+1=(hd++ [(adH par dp rn hd kv A14 c14)]).length by rw [jA];rfl] at h52⊢
 exact J.j O (qAB O O) O O<|J.j O (qAA O O qCi O qJp O) O O<|J.c1 O (qAT (i:=0) O O O O O qJp O xD) O O O λ_ _=>J.a9<|J.d8 hw0 (λ_ _ h=>h) (qJn O) (qAn (⟨A14,c14,m14,A24,c24,m24,A52,c52,m52⟩:AdR) O ⟨h14,h24,h52⟩ [0,1,2,3,4] O xC)
theorem qJ7(F:Hp)(gs:Nat)(v0 v1 v2 v3 v4 v5 v6 v7 v8 v9:Value)(A:Option Addr)(n c:Nat)(l:List RhD)(hs:Sl F 5 A n c (qCk l))(h0:0<n)(hn:n≤1000000)(hp:qAM F ⟨gs,0,none⟩ [v0,v1,v2,v3,v4,v5,v6,v7,v8,v9,.slice A n c]):Cz prog 28 [Ptr gs] F (.agg #[N64 ((l.getD (n-1) qAc).ep),Str ((l.getD (n-1) qAc).par),I ((l.getD (n-1) qAc).dep:Nat),I ((l.getD (n-1) qAc).aud:Nat),.slice (l.getD (n-1) qAc).nsA (l.getD (n-1) qAc).ns.length (l.getD (n-1) qAc).nsc]):=by
 refine Ct.walk func28 O ntmps28 O (λw0 hw0=>?_)
 exact J.g λ_ j1=>J.p (qAJ O qUv O) O λg2 _=>J.c j1<|J.g λ_ j2=>J.b O<|J.f (qAB O O) O<|J.M 10 qCi qJp O O O O O<|J.f (qAI O O qPS (m:=F) xD (hp.at (i:=10) O)) O<|J.p (qAa O O (λF' hF=>qTQ F' A n c l (hs.mono (Fa hF)) xB xB)) O λg7 _=>J.a6 (qAD (i:=1) (l:= [.int .u64 0,Str [],I 0,I 0,.slice none 0 0]) (vs:= [N64 ((l.getD (n-1) qAc).ep),Str ((l.getD (n-1) qAc).par),I ((l.getD (n-1) qAc).dep:Nat),I ((l.getD (n-1) qAc).aud:Nat),.slice (l.getD (n-1) qAc).nsA (l.getD (n-1) qAc).ns.length (l.getD (n-1) qAc).nsc]) O O O O O qBv O O) O O λ_ _=>J.c j2<|J.A<|J.b0 hw0 (λ_ _ h=>h) (rv1 O (RV.blkA 1 O O qDF qBv)) (qAn () O trivial [0] O xC)
def cmB(n e:Nat):xA:= [99]++(Sha.numB (UInt64.ofNat n) 2++Sha.numB (UInt64.ofNat e) 4)
theorem qSI(n e:Nat):(cmB n e).length=7:=by unfold cmB;simp only [jA,Sha.numB_length,jI]
def qCd(l:List xA):Nat:=(l.map λr=>qBg r.length).sum
theorem qBz(l:List xA)(s:xA):qCd (l++ [s])=qCd l+qBg s.length:=by unfold qCd;rw [jM,List.sum_append];rfl
theorem qJ2(l:List xA){i:Nat}(h:i<l.length):l.take (i+1)=l.take i++ [l.getD i []]:=by
 rw [List.take_add_one,jC h,jB,jC h];rfl
theorem qIF{l:List xA}{i:Nat}(h:i<l.length):qCd (l.take (i+1))=qCd (l.take i)+qBg (l.getD i []).length:=by rw [qJ2 l h,qBz]
theorem qNa{l:List xA}{i:Nat}:qCd (l.take i)≤qCd l:=by
 unfold qCd
 induction l generalizing i with
 |nil=>simp
 |cons a l ih=>
  cases i with
  |zero=>simp
  |succ i=>
   rw [List.take_succ_cons,jd,jd,List.sum_cons,List.sum_cons]
   have:=ih (i:=i);omega
structure CbL (x y:CbR) (l:List xA):Prop where
 gd:y.gd=x.gd
 f0:y.f0=x.f0
 sz:y.size=x.size
 e:y.e=x.e+qCd l
 R:y.R=x.R++l
 ln:y.d.last.length=x.d.last.length
theorem CbL.nil(x:CbR):CbL x x []:=⟨rfl,rfl,rfl,rfl,(jR _).symm,rfl⟩
theorem CbL.snoc{x y z:CbR}{l:List xA}{s:xA}(h:CbL x y l)(hs:CbN y z s):CbL x z (l++ [s]):=
 ⟨hs.gd.trans h.gd,hs.f0.trans h.f0,hs.sz.trans h.sz,by rw [hs.e,h.e,qBz,Nat.add_assoc],by rw [hs.R,h.R,jW],hs.ln.trans h.ln⟩
theorem qNc{l:List xA}{i:Nat}(h:i<l.length):l.getD i []∈l:=by
 rw [jB,jC h];exact ja h
structure WrR where
 x:CbR
 md:Hp
 N:Hp
theorem qP9(F md N:Hp)(hK:KF F)(gs gb:Nat)(v0 v2 v3 v4 v5 v6 v7 v9:Value)(oA:Option Addr)(oc:Nat)(no:List xA)(hsO:Sl F 1 oA no.length oc (qAG no))(hno:no.length≤256)(h9: ∀s∈no,s.length≤900)(hA:Option Addr)(hn hc:Nat)(hhn:hn≤100000)(hp:qAM F ⟨gs,0,none⟩ [v0,Ptr gb,v2,v3,v4,v5,v6,v7,.slice oA no.length oc,v9,.slice hA hn hc])(x:CbR)(hb:CbP N md x)(hfit:x.e+qCd (no++ [cmB no.length hn])≤x.size)(hsz:x.size≤100000)(hR:x.R.length+no.length<65535):Ct prog 26 [Ptr gs] [x.blk gb,md,N,F] (λ_:WrR=>I (0:Nat)) (λy=>CbP y.N y.md y.x∧CbL x y.x (no++ [cmB no.length hn])) (λy=> [y.x.blk gb,y.md,y.N,F]):=by
 refine Ct.walk func26 O ntmps26 O (λw0 hw0=>?_)
 refine J.g λ_ j1=>J.b O<|J.c j1<|J.g λ_ j2=>J.p (qAJ O qKy O) O λg3 _=>J.c j2<|J.q λ_ j3=>J.b1 [F] [] (.y 0 (.y 1 (.y 2 (.y 3 (.y 4 (.y 5 (.y 7 (.y 8 (.y 9 (.y 10 (.y 11 (.y 12 (.e 6 (.e 13 (.e 14 (.y 15 (.y 16 (.y 17 (.y 18 (.y 19 .nil)))))))))))))))))))) Tryz.wide xF xD ?_
 refine J.L ?_
 refine J.j O (qAB O O) O O<|J.j O (qAA O O qCi O qB1 O) O O<|J.j O (qAI O O qCC (m:=F) xD (hp.at (i:=8) O)) O O<|J.j O (qAR qAk O O) O O<|J.j O (qEO O O u3_ qEd xB) O O<|J.L ?_
 refine J.j O (qAB O O) O O<|J.j O (qAA O O qCi O qJp O) O O<|J.j O (qAI O O qPS (m:=F) xD (hp.at (i:=10) O)) O O<|J.j O (qAR qEY O O) O O<|J.j O (qEO O O u3_ qEd xB) O O<|J.Z O (qAK O O ent (Ct.use1 4 O (λF' hF=>qRE F' (blk g3 [.pointer none,.slice none 0 0,I 0] 158) g3 ([]) (wtrN g3) (by first|decide|omega|(simp only [jA,jD,jE,jI,Sha.numB_length,qFo]<;>omega)) no.length 2 xC xC xM))) O xD ?_
 rintro m20 hw20
 rw [jq] at hw20
 refine J.Z O (qAK O O ent (Ct.use1 4 O (λF' hF=>qRE F' m20 g3 (Sha.numB (UInt64.ofNat no.length) 2) hw20 (by first|decide|omega|(simp only [jA,jD,jE,jI,Sha.numB_length,qFo]<;>omega)) hn 4 xC xC xM))) O xD ?_
 rintro m27 hw27
 refine J.Z O (qAK O O ent (Ct.use1 4 O (λF' hF=>qK9 F' m27 g3 (Sha.numB (UInt64.ofNat no.length) 2++Sha.numB (UInt64.ofNat hn) 4) hw27 (by first|decide|omega|(simp only [jA,jD,jE,jI,Sha.numB_length,qFo]<;>omega))))) O xD ?_
 rintro m28 hw28
 refine J.L ?_
 refine J.c2 (Str (Sha.numB (UInt64.ofNat no.length) 2++Sha.numB (UInt64.ofNat hn) 4)) ?_
 refine J.c2 (I (0:Nat)) ?_
 refine J.b7 ?_
 refine J.b7 ?_
 refine J.a9<|J.u (J.G j3 ?_)
 refine J.q λ_ j4=>J.g λ_ j5=>J.b O<|J.f ((qAe O O O).no xC) O<|J.c j5<|J.a2 ?_
 refine J.T j4<|J.q λ_ j6=>?_
 have hl9: ∀s∈(no++ [cmB no.length hn]),s.length≤900:=λs hs=>by
  rcases List.mem_append.1 hs with h|h
  · exact h9 s h
  · rw [List.mem_singleton.1 h,qSI];decide
 have hnl:(no++ [cmB no.length hn]).length=no.length+1:=by rw [jA];rfl
 have hef:=hb.ef
 refine J.H<|J.b O<|J.f (qAB O O) O<|J.M 8 qCi qB1 O O O O O<|J.f (qAI O O qCC (m:=F) xD (hp.at (i:=8) O)) O<|J.p (qBr O O (λF' hF=>qJc F' oA no.length oc no (hsO.mono (Fa hF)) xB)) O ?_
 rintro⟨A38,c38,m38⟩ h38
 try dsimp only at h38
 refine J.b O<|J.f ((qBN O O O (by simp only [jA,Sha.numB_length,jD,jE];omega)).as (v':=Str (cmB no.length hn)) O) O<|J.p (qAE (l:= [.tmp 40]) (xs:= [[Str (cmB no.length hn)]]) O O O O qAk el9 O xC xC xD) O λg41 _=>J.p (qAU (i:=5) (m2:=blk g41 [Str (cmB no.length hn)] 9) O O O qAk qAk el9 O h38 xD ((qA7 (q:=True) (qAG [cmB no.length hn]) O (by simp [qAG]) O).sl) O xB xB) O ?_
 rintro⟨A42,c42,m42⟩ h42
 try dsimp only at h42
 replace h42:Row m42 9 1 A42 (no.length+1) c42 (qAG (no++ [(cmB no.length hn)])):=by rw [qCG];exact h42
 rw [show no.length+1=(no++ [(cmB no.length hn)]).length by rw [jA];rfl] at h42⊢
 refine J.b O<|J.c j6<|J.g λ_ j7=>J.b O<|J.c j7<|J.q λ_ j8=>J.g λ_ j9=>J.b O<|J.f (qAR qAk O O) O<|J.b O<|J.c j9<|J.V<|J.b6 (X:=Nat) (λζ=> [(0,Ptr gs),(6,.slice A42 ((no++ [cmB no.length hn]).length) c42),(7,I (qCd ((no++ [cmB no.length hn]).take ζ):Nat)),(43,.slice A42 ((no++ [cmB no.length hn]).length) c42),(44,I ((no++ [cmB no.length hn]).length:Nat)),(45,I (ζ:Nat))]) (λζ=> [x.blk gb,md,N,F,m28,m42,blk g41 [Str (cmB no.length hn)] 9]) (λζ=>ζ≤(no++ [cmB no.length hn]).length) (λζ=>(no++ [cmB no.length hn]).length-ζ) 0 (jG _) ⟨O,O,O,O,O,O,trivial⟩ (λ_ h=>h) ?_
 rintro i hi I0 hI0
 refine J.g λ_ j10=>J.f (qAS O O O) O<|J.c j10<|J.q λ_ j11=>J.a0 O (λh46=>?_) (λh46=>?_)
 ·
  refine J.T j11<|J.q λ_ j12=>J.V<|J.g λ_ j13=>J.f (qAF O O O qAk z9_ h42.sl xB) O<|J.f (qAI O O b9_ (m:=m42) xD (h42.sl.elem (qAY (qAi [] xB)))) O<|J.b O<|J.c j13 ?_
  have hp9:=hl9 _ (qNc (l:=(no++ [cmB no.length hn])) (i:=i) xB)
  have hp24:=qE1 hp9
  have hnle:=qNa (l:=(no++ [cmB no.length hn])) (i:=i)
  refine J.H<|J.k 2 O<|J.f (qAs u9_ O O) O<|J.p (qAa O O (λF' hF=>qGy F' ((no++ [cmB no.length hn]).getD i []).length xB)) O λg52 _=>J.f ((qAQ O O O xB).as (v':=I (qCd ((no++ [cmB no.length hn]).take i)+(qBg ((no++ [cmB no.length hn]).getD i []).length):Nat)) (congrArg I xB)) O<|J.b O<|J.a4<|J.a3<|J.u (J.G j12 ?_)
  exact J.H<|J.f ((qAQ O O O xB).nat (i+1) xB) O<|J.b O<|J.a4<|J.u<|J.a5 (i+1) (λη (hη:_∧(no++ [cmB no.length hn]).length-η<(no++ [cmB no.length hn]).length-i)=>hI0 η hη.1 hη.2) ⟨xB,by first|omega|(dsimp only;omega)⟩ ⟨O,O,by rw [qIF xB];rfl,O,O,O,trivial⟩ (λ_ h=>h)
 refine J.b3<|J.a1<|J.a1<|J.b4 ?_
 refine J.u (J.G j8 ?_)
 refine J.q λ_ j14=>J.q λ_ j15=>?_
 obtain rfl:i=(no++ [cmB no.length hn]).length:=by omega
 rw [jp]
 refine J.H<|J.k 2 O<|J.f (qAB O O) O<|J.M 1 qCi sizeOf91 O O O O O<|J.f (qAI O O isAgg91 (m:=F) xD (hp.at (i:=1) O)) O<|J.p (qAa O O (λF' hF=>qRU F' gb x.gd ((x.f0:Nat):Int) x.size (x.hat:Nat) x.ht ((x.e:Nat):Int) x.A x.R.length x.c false (qAM.blk0.mono (hF (x.blk gb) xD)) xB xB)) O λg60 _=>J.f ((qAz O O O).no xB) O<|J.c j15<|J.a2 ?_
 refine J.T j14<|J.q λ_ j16=>J.g λ_ j17=>J.b O<|J.f (qAR qAk O O) O<|J.b O<|J.c j17<|J.V<|J.b6 (X:=Nat×CbR×Hp×Hp) (λζ=> [(0,Ptr gs),(62,.slice A42 ((no++ [cmB no.length hn]).length) c42),(63,I ((no++ [cmB no.length hn]).length:Nat)),(64,I (ζ.1:Nat))]) (λζ=> [ζ.2.1.blk gb,ζ.2.2.1,F,ζ.2.2.2,m28,m42]) (λζ=>ζ.1≤(no++ [cmB no.length hn]).length∧CbP ζ.2.2.2 ζ.2.2.1 ζ.2.1∧CbL x ζ.2.1 ((no++ [cmB no.length hn]).take ζ.1)) (λζ=>(no++ [cmB no.length hn]).length-ζ.1) (0,x,md,N) (⟨jG _,hb,CbL.nil x⟩) ⟨O,O,O,O,trivial⟩ (λ_ h=>h.pick [0,1,3,2,4,5] xC) ?_
 rintro⟨i,y,md2,N2⟩ ⟨hi,hy,hL⟩ I2 hI2
 dsimp only at hi hy hL⊢
 refine J.g λ_ j18=>J.f (qAS O O O) O<|J.c j18<|J.q λ_ j19=>J.a0 O (λh65=>?_) (λh65=>?_)
 ·
  refine J.T j19<|J.q λ_ j20=>J.V<|J.g λ_ j21=>J.f (qAF O O O qAk z9_ h42.sl xB) O<|J.f (qAI O O b9_ (m:=m42) xD (h42.sl.elem (qAY (qAi [] xB)))) O<|J.b O<|J.c j21<|J.g λ_ j22=>J.b O<|J.f (qAB O O) O<|J.M 1 qCi sizeOf91 O O O O O<|J.f (qAI O O isAgg91 (m:=F) xD (hp.at (i:=1) O)) O<|J.b O<|J.p (qAK O O ent (Ct.useA [y.blk gb,md2] [F,N2,m28,m42] (A':=λz:CbR×Hp×Hp=> [z.1.blk gb,z.2.1]) (new:=λz=> [z.2.2]) (λF' hF=>qYI F' md2 (hK.mo hF) gb y (hy.mono (Fa hF)) ((no++ [cmB no.length hn]).getD i []) (hl9 _ (qNc xB)) (by rw [hL.e,hL.sz];have:=qNa (l:=(no++ [cmB no.length hn])) (i:=i+1);rw [qIF xB] at this;omega) (by rw [hL.R,jA,jF];omega)))) O ?_
  rintro⟨y2,md3,N3⟩ ⟨hy2,hn2⟩
  refine J.b O<|J.c j22<|J.g λ_ j23=>J.b O<|J.f ((qAe O O O).no xC) O<|J.c j23<|J.a2 ?_
  refine J.b5<|J.a3<|J.u (J.G j20 ?_)
  exact J.H<|J.f ((qAQ O O O xB).nat (i+1) xB) O<|J.b O<|J.a4<|J.u<|J.a5 (i+1,y2,md3,N3) (λη (hη:_∧(no++ [cmB no.length hn]).length-η.1<(no++ [cmB no.length hn]).length-i)=>hI2 η hη.1 hη.2) ⟨⟨by dsimp only;omega,hy2,by dsimp only;rw [qJ2 _ xB];exact hL.snoc hn2⟩,by dsimp only;omega⟩ ⟨O,O,O,O,trivial⟩ (λ_ h=>h.pick [0,1,2,6,4,5] xC)
 refine J.b3<|J.a1<|J.a1<|J.b4 ?_
 refine J.u (J.G j16 ?_)
 exact J.g λ_ j24=>J.b O<|J.c j24<|J.A<|J.E hw0 O (⟨y,md2,N2⟩:WrR) O ⟨hy,by rw [show(no++ [cmB no.length hn]).take i=(no++ [cmB no.length hn]) from jf xB] at hL;exact hL⟩ [0,1,3,2] O xC
abbrev aX(l:List Aud)(i:Nat):Aud:=l.getD i qAu
structure qYg (gl:List Aud):Prop where
 len:gl.length≤15
 sm: ∀x∈gl,x.nm.length≤1000000∧x.op.length≤1048576∧x.rt.length≤1048576
 ok: ∀i,i<gl.length→qOJ (gl.take i) (aX gl i).nm (aX gl i).op (aX gl i).rt (aX gl i).ht=0
theorem qYg.at{gl:List Aud}(h:qYg gl){i:Nat}(hi:i<gl.length):(aX gl i).nm.length≤1000000∧(aX gl i).op.length≤1048576∧(aX gl i).rt.length≤1048576:=by
 refine h.sm _ ?_
 show gl.getD i qAu∈gl
 rw [jB,jC hi];exact ja hi
theorem qYg.step{gl:List Aud}(h:qYg gl){i:Nat}(hi:i<gl.length):qSo (gl.take i) (aX gl i).nm (aX gl i).op (aX gl i).rt (aX gl i).ht=gl.take (i+1):=by
 unfold qSo
 rw [if_pos (h.ok i hi),qEC gl i qAu hi]
theorem qPU(x:Aud):(qVH x).length≤16:=by
 unfold qVH
 split
 · rw [Sha.tagged_length];exact jK _
 · exact jG _
theorem qHG(l:List Aud): ∀{n:Nat},n≤15→qCE (qGE [] l n)
 |0,_=>⟨List.Pairwise.nil,(λp h=>by cases h),(λp h=>by cases h),jG _⟩
 |n+1,h=>by
  have h2:=qJQ l (n:=n) xB
  exact(qHG l xB).put (qBx n) (jZ (qPU _) xC) xB
structure NwR where
 gs:Nat
 gA:Nat
 gR:Nat
 mR:Hp
 gt:Nat
 mt:Hp
 cp:CpR
 ad:AdR
 gb:Nat
structure NwP (gl:List Aud) (dp:Nat) (x:NwR):Prop where
 ro:qS3 x.mR x.gR gl
 tr:qF3 x.mt x.gt (qGE [] gl gl.length)
 cp:CpP [] gl x.cp
 ad:AdP qAh dp gl.length x.gt [] [] (qGE [] gl gl.length) x.ad
theorem qLj(F:Hp)(gs:Nat)(A:Option Addr)(c:Nat):Cz prog 59 [Ptr gs,.slice A 0 c] F (.bool true):=by
 refine Ct.walk func59 O ntmps59 O (λw0 hw0=>?_)
 refine J.g λ_ j1=>J.b O<|J.c j1<|J.g λ_ j2=>J.b O<|J.c j2<|J.q λ_ j3=>J.g λ_ j4=>J.b O<|J.f (qAR qAk O O) O<|J.b O<|J.c j4<|J.V<|J.b6 (X:=Nat×Value) (λζ=> [(0,Ptr gs),(5,ζ.2),(13,.slice A 0 c),(14,I (0:Nat)),(15,I (ζ.1:Nat))]) (λζ=> [F]) (λζ=>ζ.1=0) (λζ=>0) (0,.slice none 0 0) (O) ⟨O,O,O,O,O,trivial⟩ (λ_ h=>h) ?_
 rintro⟨i,v5⟩ hi I0 hI0
 dsimp only at hi⊢
 refine J.g λ_ j5=>J.f ((qAS O O O).no xB) O<|J.c j5<|J.q λ_ j6=>J.a2 ?_
 refine J.b3<|J.a1<|J.a1<|J.b4 ?_
 refine J.u (J.G j3 ?_)
 exact J.g λ_ j7=>J.b O<|J.c j7<|J.A<|J.E hw0 O () O trivial [0] O xC
theorem qWn(F md:Hp)(hK:KF F)(hA:qAM F ⟨2,0,none⟩ qBd)(hT:qCI F)(gd n:Nat)(hb:Dsk md gd (Dk.new n) none 0)(hn4:4≤n)(hn:n≤1000)(first count:Nat)(h8:8≤count)(hfc:first+count≤n)(dp:Nat)(hdp:dp≤4)(GA:Option Addr)(gc:Nat)(gl:List Aud)(hgl:Sl F 4 GA gl.length gc (qBc gl))(hg:qYg gl):Ct prog 21 [Ptr gd,I (first:Nat),I (count:Nat),I (dp:Nat),.slice GA gl.length gc] [md,F] (λx:NwR=> .tuple #[Ptr x.gs,I (0:Nat)]) (NwP gl dp) (λx=> [md,F,qAO x.gA (.map #[] 0),x.mR,x.mt,blk x.gs [I (dp:Nat),Ptr x.gb,.bool false,.map (some x.gA),Ptr x.gR,.map (some x.cp.g),Ptr x.cp.r,.slice none 0 0,.slice none 0 0,.slice x.ad.tA (([]:List Nat)++ [x.gt]).length x.ad.tc,.slice x.ad.hA (([]:List RhD)++ [adH qAh dp gl.length [] (qGE [] gl gl.length) x.ad.nA x.ad.nc]).length x.ad.hc] 99,x.cp.mm,x.cp.M,x.cp.mr,x.ad.mT,x.ad.mH,x.ad.mN,(CbR.blk x.gb ⟨gd,first,count/2,first,0,0,none,0,[],Dk.new n⟩)]):=by
 obtain ⟨hp1,hp16⟩:=qH6 hdp
 have hcnt:cnt ((dp:Nat):Int)=2^dp:=qC5 hdp
 have hg15:=hg.len
 obtain ⟨dA,dc,dB,de,hdc,hdL,hdW⟩:=hb.see
 have hll:=qJQ gl (n:=gl.length) hg15
 have hlast:(Dk.new n).last.length=n:=by unfold Dk.new;exact jJ
 refine Ct.walk func21 O ntmps21 O (λw0 hw0=>?_)
 refine J.g λ_ j1=>J.k 2 O<|J.c j1<|J.q λ_ j2=>J.g λ_ j3=>J.b O<|J.p (qAa O O (λF' hF=>by have:=qCT F' ((dp:Nat):Int);rw [hcnt] at this;exact this)) O λg21 _=>J.f ((qAX O O O).no xB) O<|J.c j3<|J.a2 ?_
 refine J.T j2<|J.g λ_ j4=>J.b O<|J.p (qEM O) O ?_
 rintro g24 _
 refine J.p (qBr O O (λF' hF=>Ct.swap2 (qW3 F'))) O ?_
 rintro⟨g25,m25⟩ h25
 try dsimp only at h25
 refine J.f (qAH (places:= [(0,1),(1,1)]) (r:= [.map (some g24),Ptr g25]) O O O qLd zeroValue95 (λ_=>xI) O) O<|J.f (qAH (places:= [(0,1),(1,1),(2,1),(3,2),(5,2),(7,1),(8,1),(9,1),(10,1)]) (r:= [I (dp:Nat),.pointer none,.bool false,.map (some g24),Ptr g25,.map none,.pointer none,.slice none 0 0,.slice none 0 0,.slice none 0 0,.slice none 0 0]) O O O qCi zeroValue99 (λ_=>xI) xI) O<|J.p (qAZ O O O) O λg28 _=>J.b O<|J.c j4<|J.q λ_ j5=>J.g λ_ j6=>J.b O<|J.f (qAR qGd O O) O<|J.b O<|J.c j6<|J.V<|J.b6 (X:=Nat×Hp) (λζ=> [(0,Ptr gd),(1,I (first:Nat)),(2,I (count:Nat)),(12,Ptr g28),(29,.slice GA gl.length gc),(30,I (gl.length:Nat)),(31,I (ζ.1:Nat))]) (λζ=> [ζ.2,md,F,qAO g24 (.map #[] 0),blk g28 [I (dp:Nat),.pointer none,.bool false,.map (some g24),Ptr g25,.map none,.pointer none,.slice none 0 0,.slice none 0 0,.slice none 0 0,.slice none 0 0] 99]) (λζ=>ζ.1≤gl.length∧qS3 ζ.2 g25 (gl.take ζ.1)) (λζ=>gl.length-ζ.1) (0,m25) (⟨jG _,h25⟩) ⟨O,O,O,O,O,O,O,trivial⟩ (λ_ h=>h.pick [3,0,1,2,4] xC) ?_
 rintro⟨i,mo⟩ ⟨hi,hro⟩ I0 hI0
 dsimp only at hi hro⊢
 refine J.g λ_ j7=>J.f (qAS O O O) O<|J.c j7<|J.q λ_ j8=>J.a0 O (λh32=>?_) (λh32=>?_)
 ·
  refine J.T j8<|J.q λ_ j9=>J.V<|J.q λ_ j10=>?_
  obtain ⟨hx1,hx2,hx3⟩:=hg.at (i:=i) xB
  have htk:(gl.take i).length≤1000000:=by rw [jF];omega
  refine J.H<|J.f (qAF O O O qGd qDk hgl xB) O<|J.f (qAV O O qLE qDk (m:=F) xD (hgl.elem (qFN xB)) O) O<|J.p (qAJ O qPa O) O λg14 _=>J.a6 (qAD (i:=5) (l:= [Str [],Str [],Str [],I 0]) (vs:= [Str ((gl.getD i qAu).nm),Str ((gl.getD i qAu).op),Str ((gl.getD i qAu).rt),I ((gl.getD i qAu).ht)]) O O O O O qDk O O) O O λ_ _=>J.c j10<|J.q λ_ j11=>J.b1 [blk g28 [I (dp:Nat),.pointer none,.bool false,.map (some g24),Ptr g25,.map none,.pointer none,.slice none 0 0,.slice none 0 0,.slice none 0 0,.slice none 0 0] 99,blk g14 [Str ((gl.getD i qAu).nm),Str ((gl.getD i qAu).op),Str ((gl.getD i qAu).rt),I ((gl.getD i qAu).ht)] 72] [] (.y 0 (.y 1 (.y 2 (.y 3 (.y 4 (.y 5 (.e 6 (.y 7 (.y 8 (.y 9 (.y 10 (.y 11 .nil)))))))))))) Tryz.wide xF xD ?_
  refine J.L ?_
  refine J.j O (qAB O O) O O<|J.j O (qAA O O qCi O qGS O) O O<|J.j O (qAA O O qLd O sizeOf93 O) O O<|J.j O (qAC 0 O O O isAgg93 O) O O<|J.j O (qAW 1 O O O qLE qDk O) O O<|J.Z O (qAK O O ent (Ct.use1 0 O (λF' hF=>qXG F' mo g25 (gl.take i) hro (hA.mono (Fa hF)) (hT.mono (Fa hF)) ((gl.getD i qAu).nm) ((gl.getD i qAu).op) ((gl.getD i qAu).rt) ((gl.getD i qAu).ht) (by first|omega|exact jm O|(rw [jO];omega)) (by first|omega|exact jm O|(rw [jO];omega)) (by first|omega|exact jm O|(rw [jO];omega)) (by first|omega|exact jm O|(rw [jO];omega))))) O xD ?_
  rintro m42 h42
  rw [hg.ok i xB]
  replace h42:=(congrArg (qS3 m42 g25) (hg.step (i:=i) xB)).mp h42
  refine J.L ?_
  refine J.c2 (I (qHn (gl.take i) (aX gl i).nm (aX gl i).op (aX gl i).rt (aX gl i).ht)) ?_
  refine J.c2 (I (0:Nat)) ?_
  refine J.b7 ?_
  refine J.b7 ?_
  refine J.a9<|J.u (J.G j11 ?_)
  refine J.g λ_ j12=>J.b O<|J.f ((qAe O O O).no xC) O<|J.c j12<|J.a2 ?_
  refine J.b5<|J.a3<|J.u (J.G j9 ?_)
  exact J.H<|J.f ((qAQ O O O xB).nat (i+1) xB) O<|J.b O<|J.a4<|J.u<|J.a5 (i+1,m42) (λη (hη:_∧gl.length-η.1<gl.length-i)=>hI0 η hη.1 hη.2) ⟨⟨by dsimp only;omega,h42⟩,by dsimp only;omega⟩ ⟨O,O,O,O,O,O,O,trivial⟩ (λ_ h=>h.pick [0,1,2,3,4] xC)
 refine J.b3<|J.a1<|J.a1<|J.b4 ?_
 refine J.u (J.G j5 ?_)
 refine J.q λ_ j13=>?_
 obtain rfl:i=gl.length:=by omega
 rw [jp] at hro
 obtain ⟨A3,n3,c3,hcA,hsA,_⟩:=hro.see
 obtain rfl:gl.length=n3:=by have:=hsA.1;rw [qD7] at this;exact this
 refine J.H<|J.p (qBr O O (λF' hF=>Ct.swap2 (qWY F'))) O ?_
 rintro⟨g49,m49⟩ h49
 try dsimp only at h49
 refine J.b O<|J.c j13<|J.g λ_ j14=>J.b O<|J.f (qAB O O) O<|J.M 3 qCi qGS O O O O O<|J.M 4 qLd sizeOf93 O O O O O<|J.a7 4 isAgg93 O O O O O<|J.b O<|J.p (qAK O O ent (Ct.use1 5 O (λF' hF=>qW5 F' m49 (hK.mo hF) g25 A3 gl.length c3 gl (hsA.mono (Fa hF)) xB (hcA.mono (Fa hF)) g49 [] h49 hg.sm xB))) O ?_
 rintro m56 h56
 refine J.c j14<|J.g λ_ j15=>J.k 2 O<|J.f (qAB O O) O<|J.M 3 qCi qGS O O O O O<|J.f (qAV O O isAgg95 qGS (m:=blk g28 [I (dp:Nat),.pointer none,.bool false,.map (some g24),Ptr g25,.map none,.pointer none,.slice none 0 0,.slice none 0 0,.slice none 0 0,.slice none 0 0] 99) xD (qAM.blk0.sub 3 2) O) O<|J.p (qBr O O (λF' hF=>qM3 F' g24 g25 [] ((MapS.nil g24).at.mono (hF (qAO g24 (.map #[] 0)) xD)) (λ_ h=>by cases h) List.nodup_nil (λ_ h=>by cases h) A3 gl.length c3 gl (hcA.mono (Fa hF)) (hsA.mono (Fa hF)) xB)) O ?_
 rintro r62 hp62
 refine J.f (qAB O O) O<|J.M 5 qCi qGS O O O O O<|J.a6 (qAT (i:=4) O O O O O qGS O xD) O O λ_ _=>J.c j15<|J.q λ_ j16=>?_
 obtain ⟨A4,n4,c4,hcB,hsB,_⟩:=hp62.ro.see
 obtain rfl:gl.length=n4:=by have:=hsB.1;rw [qD7] at this;exact this
 refine J.d0 [0,1,2,3,4,5,6,7,8,9] [mo,md,F,qAO g24 (.map #[] 0),blk g28 [I (dp:Nat),.pointer none,.bool false,.map (some g24),Ptr g25,.map (some r62.g),Ptr r62.r,.slice none 0 0,.slice none 0 0,.slice none 0 0,.slice none 0 0] 99,m56,r62.mm,r62.M,r62.mr,(λ_=>none)] O xC<|J.d0 [0,1,2,3,4,5,6,7,8,9,10] [mo,md,F,qAO g24 (.map #[] 0),blk g28 [I (dp:Nat),.pointer none,.bool false,.map (some g24),Ptr g25,.map (some r62.g),Ptr r62.r,.slice none 0 0,.slice none 0 0,.slice none 0 0,.slice none 0 0] 99,m56,r62.mm,r62.M,r62.mr,(λ_=>none),(λ_=>none)] O xC<|J.c5 [4,9,10,1,2,3,0,5,6,7,8] [blk g28 [I (dp:Nat),.pointer none,.bool false,.map (some g24),Ptr g25,.map (some r62.g),Ptr r62.r,.slice none 0 0,.slice none 0 0,.slice none 0 0,.slice none 0 0] 99,(λ_=>none),(λ_=>none),md,F,qAO g24 (.map #[] 0),mo,m56,r62.mm,r62.M,r62.mr] O xC<|J.H<|J.k 2 O<|J.p (qAK O O ent (Ct.useA [blk g28 [I (dp:Nat),.pointer none,.bool false,.map (some g24),Ptr g25,.map (some r62.g),Ptr r62.r,.slice none 0 0,.slice none 0 0,.slice none 0 0,.slice none 0 0] 99,(λ_=>none),(λ_=>none)] [md,F,qAO g24 (.map #[] 0),mo,m56,r62.mm,r62.M,r62.mr] (A':=λx:AdR=> [blk g28 [I (dp:Nat),.pointer none,.bool false,.map (some g24),Ptr g25,.map (some r62.g),Ptr r62.r,.slice none 0 0,.slice none 0 0,.slice x.tA (([]:List Nat)++ [g49]).length x.tc,.slice x.hA (([]:List RhD)++ [adH qAh dp gl.length [] (qGE [] gl gl.length) x.nA x.nc]).length x.hc] 99,x.mT,x.mH]) (new:=λx=> [x.mN]) (λF' hF=>qQR F' (λ_=>none) (λ_=>none) (hK.mo hF) g28 dp r62.r (.pointer none) (.bool false) (.map (some g24)) (Ptr g25) (.map (some r62.g)) (.slice none 0 0) (.slice none 0 0) none 0 [] qBh.nil (jG _) none 0 [] qBh.nil (jG _) hdp g49 (qGE [] gl gl.length) (h56.at.mono (Fa hF)) (qHG gl hg15) A4 gl.length c4 gl (hcB.mono (Fa hF)) (hsB.mono (Fa hF)) qAh))) O ?_
 rintro r67 hp67
 refine J.c j16<|J.g λ_ j17=>J.k 3 O<|J.p (qBr O O (λF' hF=>qOx F' (hK.mo hF) gd (Dk.new n) dA dc dB de none 0 (hdc.mono (Fa hF)) (hdL.mono (Fa hF)) (hdW.mono (Fa hF)) xB (jG _) first count h8 xB qUI)) O ?_
 rintro g72 _
 change J _ ((72,.tuple #[Ptr g72,I (0:Nat)])::_) _ [_,_,_,_,_,_,_,_,_,_,_,_,(CbR.blk g72 ⟨gd,first,count/2,first,0,0,none,0,[],Dk.new n⟩)] _
 refine J.k 5 O<|J.c j17<|J.q λ_ j18=>J.g λ_ j19=>J.b O<|J.f ((qAe O O O).no xC) O<|J.c j19<|J.a2 ?_
 refine J.T j18<|J.g λ_ j20=>J.k 2 O<|J.f (qAB O O) O<|J.M 1 qCi sizeOf91 O O O O O<|J.a6 (qAT (i:=0) (l:= [I (dp:Nat),.pointer none,.bool false,.map (some g24),Ptr g25,.map (some r62.g),Ptr r62.r,.slice none 0 0,.slice none 0 0,.slice r67.tA (([]:List Nat)++ [g49]).length r67.tc,.slice r67.hA (([]:List RhD)++ [adH qAh dp gl.length [] (qGE [] gl gl.length) r67.nA r67.nc]).length r67.hc]) (vs:= [Ptr g72]) O O O O O sizeOf91 O xD) O O λ_ _=>?_
 change J _ _ _ [blk g28 [I (dp:Nat),Ptr g72,.bool false,.map (some g24),Ptr g25,.map (some r62.g),Ptr r62.r,.slice none 0 0,.slice none 0 0,.slice r67.tA (([]:List Nat)++ [g49]).length r67.tc,.slice r67.hA (([]:List RhD)++ [adH qAh dp gl.length [] (qGE [] gl gl.length) r67.nA r67.nc]).length r67.hc] 99,_,_,_,_,_,_,_,_,_,_,_,_] _
 refine J.c j20<|J.q λ_ j21=>J.g λ_ j22=>J.k 2 O<|J.p (qAK O O ent (Ct.use (new:=λx:Option Addr×Nat×Hp=> [x.2.2]) (λF' hF=>qOo F' g72 gd ((first:Nat):Int) (count/2) ((first:Nat):Int) 0 ((0:Nat):Int) none 0 0 false (qAM.blk0.mono (hF (CbR.blk g72 ⟨gd,first,count/2,first,0,0,none,0,[],Dk.new n⟩) xD)) [] O Sl.nil (jG _)))) O ?_
 rintro⟨A84,c84,m84⟩ h84
 try dsimp only at h84
 refine J.p (qAa O O (λF' hF=>qLj F' g28 A84 c84)) O λg85 _=>J.f ((qAt O O).as (v':= .bool false) O) O<|J.c j22<|J.a2 ?_
 exact J.T j21<|J.g λ_ j23=>J.k 3 O<|J.c j23<|J.A<|J.b0 hw0 (λ_ _ h=>h) (qCK O O O) (qAn (⟨g28,g24,g25,mo,g49,m56,r62,r67,g72⟩:NwR) O ⟨hro,h56,hp62,hp67⟩ [3,4,5,6,7,0,8,9,10,1,2,11,12] O xC)
attribute [local irreducible] SN.tagN Sha.tagged SN.sumN
namespace Wn
open Sha Wd
def okW(ws:List Nat)(a:Nat):Nat→Bool
 |0=>true
 |k+1=>okW ws a k&&(decide (a-k<2)||decide (ws.getD k 0<18446744073709551615-18446744073709551615%(a-k)))
def swL(l:List Int)(k j:Nat):List Int:=(l.set k (l.getD j 0)).set j (l.getD k 0)
def swW(ws:List Nat)(a:Nat):Nat→List Int
 |0=>Wd.start a
 |k+1=>swL (swW ws a k) k (k+ws.getD k 0%(a-k))
theorem okW_le{ws:List Nat}{a:Nat}: ∀{m k:Nat},k≤m→okW ws a m=true→okW ws a k=true
  |0,k,hk,h=>by rw [show k=0 by omega];rfl
  |m+1,k,hk,h=>by
    by_cases e:k=m+1
    · rw [e];exact h
    · rw [okW,jS] at h
      exact okW_le (m:=m) xB h.1
theorem wins_w(seed:xA)(hs:seed.length≤1000000)(a:Nat)(ha:a≤1000000)(ws:List Nat)(hw: ∀k,k<a→ws.getD k 0=wordN (seed.map UInt8.toNat) k): ∀k,k<a→okW ws a (k+1)=true→ ∃y,wins 1 a (Strm.new seed) (k+1)=some y∧y.1=swW ws a (k+1)∧(2≤a-k→y.2=nxt (Strm.new seed) (k+1)):=by
  have step: ∀k (x:List Int×Strm),k<a→okW ws a (k+1)=true→wins 1 a (Strm.new seed) k=some x→x.1=swW ws a k→x.2=nxt (Strm.new seed) k→ ∃y,wins 1 a (Strm.new seed) (k+1)=some y∧y.1=swW ws a (k+1)∧(2≤a-k→y.2=nxt (Strm.new seed) (k+1)):=λk x hk hok hx hl hn=>by
    have hn2:(UInt64.ofNat (a-k)).toNat=a-k:=by rw [zB];exact jb xB
    rw [okW,jS,yO,decide_eq_true_eq,decide_eq_true_eq] at hok
    by_cases h2:2≤a-k
    · have hwd:ws.getD k 0<18446744073709551615-18446744073709551615%(a-k):=by
        rcases hok.2 with h|h
        · omega
        · exact h
      have hst:(stop (UInt64.ofNat (a-k))).toNat=18446744073709551615-18446744073709551615%(a-k):=by
        unfold stop
        have hle:(18446744073709551615%UInt64.ofNat (a-k):UInt64)≤18446744073709551615:=by
          rw [UInt64.le_iff_toNat_le,UInt64.toNat_mod]
          exact Nat.mod_le _ _
        rw [UInt64.toNat_sub_of_le _ _ hle,UInt64.toNat_mod,hn2];rfl
      have hnum:x.2.num.toNat=ws.getD k 0:=by rw [hn,qUG seed hs xB,hw k hk]
      have hd:draw (stop (UInt64.ofNat (a-k))) 1 x.2=some (x.2.num,x.2.next):=by
        unfold draw
        rw [if_pos]
        rw [hst,hnum]
        exact hwd
      refine⟨(swL x.1 k (k+(x.2.num%UInt64.ofNat (a-k)).toNat),x.2.next),?_,?_,λ_=>by dsimp only;rw [hn];rfl⟩
      · show(wins 1 a (Strm.new seed) k).bind _=_
        rw [hx]
        unfold drawN
        simp only [zz]
        rw [if_neg (by rw [hn2];omega),hd]
        rfl
      · dsimp only
        rw [swW,hl,UInt64.toNat_mod,hn2,hnum]
    · refine⟨(swL x.1 k (k+(0:UInt64).toNat),x.2),?_,?_,λh=>absurd h h2⟩
      · show(wins 1 a (Strm.new seed) k).bind _=_
        rw [hx]
        unfold drawN
        simp only [zz]
        rw [if_pos (by rw [hn2];omega)]
        rfl
      · dsimp only
        rw [swW,hl,show a-k=1 by omega,Nat.mod_one];rfl
  intro k
  induction k with
  |zero=>intro hk hok;exact step 0 _ hk hok O O O
  |succ k ih=>
    intro hk hok
    have hok1:okW ws a (k+1)=true:=okW_le xB hok
    obtain ⟨y,h3,h5,h4⟩:=ih xB hok1
    exact step (k+1) y hk hok h3 h5 (h4 xB)
end Wn
def ndN2(m:List Nat):List Nat:=Tn.nat (Sha.numB (UInt64.ofNat m.length) 2)++m
theorem qXq(s:xA):Tn.nat (ndB s)=ndN2 (Tn.nat s):=by
 unfold ndB ndN2 Tn.nat
 rw [jM,jO]
theorem qNx: ∀(l:List xA),Tn.nat ((l.map ndB).flatten)=((l.map Tn.nat).map ndN2).flatten
 | []=>rfl
 |s::r=>by
  have:=qNx r
  unfold Tn.nat at this⊢
  rw [jd,jc,jM,this]
  have h2:=qXq s
  unfold Tn.nat at h2
  rw [h2];rfl
def qWF(ep:Nat)(par:List Nat)(d a:Nat)(M:List (List Nat)):List Nat:=Tn.nat (Sha.numB (UInt64.ofNat ep) 4)++par++ [d%256]++ [a%256]++(M.map ndN2).flatten
theorem qSS{ep:Nat}{par:xA}{d a:Nat}{ns:List xA}{P:List Nat}{M:List (List Nat)}(hp:Tn.nat par=P)(h:ns.map Tn.nat=M):Tn.nat (⟨ep,par,((d:Nat):Int),((a:Nat):Int),ns⟩:Hd).bytes=qWF ep P d a M:=by
 have e: ∀k:Nat,(UInt8.ofNat k).toNat=k%256:=λk=>zT
 unfold Hd.bytes qWF
 dsimp only
 rw [←h,←hp,←qNx]
 unfold Tn.nat
 rw [jM,jM,jM,jM,zo,zo,e,e,jP,jP]
theorem digN{x:Hd}{n:List Nat}(he:x.err=0)(hb:Tn.nat x.bytes=n)(hl:n.length≤1000):Tn.nat x.dig=SN.tagN 14 [n]:=by
 unfold Hd.dig
 rw [if_pos he,←hb]
 have h1:x.bytes.length≤1000:=by rw [←hb] at hl;simpa [Tn.nat] using hl
 exact(SN.tagN_eq 14 [x.bytes] (by simp only [jc,js,jR,jD,jE];omega)).symm
theorem qWu{dg:xA}{D:List Nat}(h:Tn.nat dg=D)(hl:dg.length=16)(b:Nat):Tn.nat (Wd.seedOf dg b)=SN.tagN 17 [D,[b%256]]:=by
 have:=(SN.tagN_eq 17 [dg,[UInt8.ofNat b]] xO).symm
 unfold Wd.seedOf
 rw [←h]
 exact this
theorem qJH(l:List Sm.PR):qAq l 0= [Sm.nd 128 l]:=by
 show [Sm.nd 128 (Sm.bel l (kF 0 0) 0)]=_
 rw [Sm.bel_zero]
theorem hdOk{l:List Sm.PR}(hf:qCE l){ep:Nat}(he:ep≤4294967295){par:xA}(hp:par.length=16){d:Nat}(hd:d≤4){a:Nat}(ha:a≤64):(⟨ep,par,((d:Nat):Int),((a:Nat):Int),qAq l d⟩:Hd).err=0:=by
  refine qZk ?_ ?_ λs hs=>?_
  · unfold Hd.out
    dsimp only
    rw [qC5 hd]
    have:=qXL hd
    omega
  · show¬(qAq l d).length≠cnt (d:Int)
    rw [qBe,qC5 hd];exact λh=>h O
  · unfold qAq qCZ at hs
    obtain ⟨j,_,rfl⟩:=List.mem_map.1 hs
    rcases qJL (Sm.bel_wf hf.once hf.k16 (qIJ j d) (d:=d) xB) with h|⟨h1,h2⟩
    · exact .inl h
    · exact .inr ⟨h1,h2.imp (λh=>UInt8.toNat_inj.1 h) (λh=>UInt8.toNat_inj.1 h)⟩
attribute [local irreducible] Sm.nd Hd.dig
theorem qMR{a d:Nat}(ha:a≤3)(hd:d≤0):(pW a d).err=0:=hdOk (qD2 ha) (ep:=0) xC (par:=qAh) O (d:=d) xB (a:=a) xB
theorem qDE{a d:Nat}(ha:a≤3)(hd:d≤0):(pW a d).dig.length=16:=qMW (qMR ha hd)
theorem qFC:Tn.nat qAh=List.replicate 16 0:=by decide
theorem qSB:Tn.nat (pW 1 0).dig= [187,56,70,227,245,3,126,148,132,140,150,244,87,129,148,200]:=by
 have hn:(pW 1 0).nodes.map Tn.nat= [[1,238,227,159,201,246,222,37,82,179,40,184,102,102,32,228,23]]:=by
  show List.map Tn.nat (qAq (qAN 1) 0)=_
  rw [qJH,zo,qZP]
 refine(digN (qMR xC xC) (qSS (ep:=0) (d:=0) (a:=1) qFC hn) xF).trans ?_
 decide+kernel
theorem qSA:Tn.nat (pW 2 0).dig= [46,46,4,60,234,58,251,216,174,196,17,81,38,184,159,221]:=by
 have hn:(pW 2 0).nodes.map Tn.nat= [[2,130,35,49,183,102,82,165,250,168,254,82,193,186,49,175,116]]:=by
  show List.map Tn.nat (qAq (qAN 2) 0)=_
  rw [qJH,zo,qZO]
 refine(digN (qMR xC xC) (qSS (ep:=0) (d:=0) (a:=2) qFC hn) xF).trans ?_
 decide+kernel
theorem qR9:Tn.nat (pW 3 0).dig= [101,252,49,218,35,45,205,65,229,67,35,42,13,25,3,168]:=by
 have hn:(pW 3 0).nodes.map Tn.nat= [[2,148,32,134,241,150,96,103,162,143,48,199,58,226,85,100,187]]:=by
  show List.map Tn.nat (qAq (qAN 3) 0)=_
  rw [qJH,zo,qZN]
 refine(digN (qMR xC xC) (qSS (ep:=0) (d:=0) (a:=3) qFC hn) xF).trans ?_
 decide+kernel
theorem qOS: ∀k,k<1→([10625539847341542065]:List Nat).getD k 0=Wn.wordN (Tn.nat (Wd.seedOf (pW 1 0).dig 0)) k:=by
 have h:Tn.nat (Wd.seedOf (pW 1 0).dig 0)= [120,169,46,34,87,165,20,173,202,96,199,150,249,251,29,229]:=by
  rw [qWu qSB (qDE xC xC)]
  decide+kernel
 rw [h]
 decide+kernel
theorem qOR: ∀k,k<2→([15228727670780089412,16813781577792110858]:List Nat).getD k 0=Wn.wordN (Tn.nat (Wd.seedOf (pW 2 0).dig 0)) k:=by
 have h:Tn.nat (Wd.seedOf (pW 2 0).dig 0)= [5,92,46,219,126,24,197,25,34,221,118,90,243,8,199,202]:=by
  rw [qWu qSA (qDE xC xC)]
  decide+kernel
 rw [h]
 decide+kernel
theorem qOQ: ∀k,k<3→([10901641792274269772,15373722404534543456,8362213576977507739]:List Nat).getD k 0=Wn.wordN (Tn.nat (Wd.seedOf (pW 3 0).dig 0)) k:=by
 have h:Tn.nat (Wd.seedOf (pW 3 0).dig 0)= [110,160,226,222,19,37,175,231,196,58,188,79,102,109,223,83]:=by
  rw [qWu qR9 (qDE xC xC)]
  decide+kernel
 rw [h]
 decide+kernel
def ws23(a d b:Nat):List Nat:=match a,d,b with
 |1,0,0=> [10625539847341542065]
 |2,0,0=> [15228727670780089412,16813781577792110858]
 |3,0,0=> [10901641792274269772,15373722404534543456,8362213576977507739]
 |_,_,_=> []
theorem wd23{a d b:Nat}(h1:1≤a)(ha:a≤3)(hd:d≤0)(hb:b<2^d): ∀k,k<a→(ws23 a d b).getD k 0=Wn.wordN (Tn.nat (Wd.seedOf (pW a d).dig b)) k:=by
 have hb2:d=0∧b=0:=by
  obtain rfl:d=0:=by omega
  have:b<1:=hb
  omega
 obtain ⟨rfl,rfl⟩:=hb2
 rcases(show a=1∨a=2∨a=3 by omega) with rfl|rfl|rfl
 exact qOS
 exact qOR
 exact qOQ
def qBj(a d sl b:Nat):List Int:=Wn.swW (ws23 a d b) a sl
theorem ok23: ∀a:Fin 4,∀d b:Fin 1,1≤a.val→b.val<2^d.val→Wn.okW (ws23 a d b) a a=true:=by decide+kernel
theorem qMV{a d sl:Nat}(ha:a≤3)(hd:d≤0)(h1:1≤sl)(h2:sl≤a):qMh (pW a d).dig (2^d) a sl (qBj a d sl):=λb hb=>by
 have hb2:b<1:=zK hb (jZ (jh xC hd) xC)
 have hok:=ok23 ⟨a,xB⟩ ⟨d,xB⟩ ⟨b,hb2⟩ (by dsimp only;omega) hb
 obtain ⟨sl',rfl⟩: ∃k,sl=k+1:=⟨sl-1,xB⟩
 obtain ⟨y,h3,h4,_⟩:=Wn.wins_w (Wd.seedOf (pW a d).dig b) (jZ (Nat.le_of_eq (Sha.tagged_length _ _)) xC) a xB (ws23 a d b) (wd23 xB ha hd hb) sl' xB (Wn.okW_le xB hok)
 exact⟨y.2,by rw [h3];exact congrArg some (Prod.ext h4 O)⟩
def qV7(a d sl b:Nat):Bool:=(qBj a d sl b).length==a&&decide (((qBj a d sl b).take sl).Nodup)&&((qBj a d sl b).take sl).all λx=>decide (0≤x)&&decide (x<((a:Nat):Int))
theorem qPJ: ∀a:Fin 4,∀d b:Fin 1,∀sl:Fin 4,1≤sl.val→sl.val≤a.val→b.val<2^d.val→qV7 a d sl b=true:=by decide+kernel
theorem qIg{a d sl b:Nat}(ha:a≤3)(hd:d≤0)(h1:1≤sl)(h2:sl≤a)(hb:b<2^d):(qBj a d sl b).length=a∧((qBj a d sl b).take sl).Nodup∧ ∀i,i<sl→0≤(qBj a d sl b).getD i 0∧(qBj a d sl b).getD i 0<((a:Nat):Int):=by
 have hb2:b<1:=zK hb (jZ (jh xC hd) xC)
 have h:=qPJ ⟨a,xB⟩ ⟨d,xB⟩ ⟨b,hb2⟩ ⟨sl,xB⟩ h1 h2 hb
 unfold qV7 at h
 rw [jS,jS,decide_eq_true_eq,beq_iff_eq] at h
 obtain ⟨⟨h3,h4⟩,h5⟩:=h
 refine⟨h3,h4,λi hi=>?_⟩
 have hil:i<(qBj a d sl b).length:=by rw [h3];show i<a;omega
 have hm:(qBj a d sl b).getD i 0∈(qBj a d sl b).take sl:=by
  rw [jB,jC hil]
  exact List.mem_take_iff_getElem.2 ⟨i,xB,O⟩
 have h6:=List.all_eq_true.1 h5 _ hm
 rw [jS,decide_eq_true_eq,decide_eq_true_eq] at h6
 exact h6
end Go.Proofs.YtcgcjaflllmlpaaGreatDoor