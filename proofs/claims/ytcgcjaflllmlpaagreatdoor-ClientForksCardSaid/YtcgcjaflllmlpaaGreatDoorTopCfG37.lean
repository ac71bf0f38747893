/- A part of the proof. -/
import Derived.Test.YtcgcjaflllmlpaaGreatDoorTopCfG33
import Derived.Test.YtcgcjaflllmlpaaGreatDoorTopCfG27
import Derived.Test.YtcgcjaflllmlpaaGreatDoorTopCfG35
import Derived.Test.YtcgcjaflllmlpaaGreatDoorTopCfG25
import Derived.Test.YtcgcjaflllmlpaaGreatDoorTopCfG36
import Derived.Test.YtcgcjaflllmlpaaGreatDoorTopCfG12
import Derived.Test.YtcgcjaflllmlpaaGreatDoorTopCfG31
import Derived.Test.YtcgcjaflllmlpaaGreatDoorTopCfG8
set_option linter.unusedSimpArgs false
set_option linter.unusedVariables false
namespace Go.Proofs.YtcgcjaflllmlpaaGreatDoor
open Go Go.Fw Go.Proofs.Tryz
set_option maxRecDepth 100000
set_option maxHeartbeats 1000000
structure RhD where
 ep:Nat
 par:List UInt8
 dep:Nat
 aud:Nat
 nsA:Option Addr
 nsc:Nat
 ns:List (List UInt8)
def RhD.cells(x:RhD):List Value:= [N64 (x.ep),Str (x.par),I ((x.dep:Nat):Int),I ((x.aud:Nat):Int),.slice x.nsA x.ns.length x.nsc]
def qAc:RhD:=⟨0,[],0,0,none,0,[]⟩
def qCu(l:List RhD):List (List Value):=l.map RhD.cells
theorem qDC{l:List RhD}{k:Nat}(h:k<l.length):(qCu l)[k]?=some (l.getD k qAc).cells:=by
 unfold qCu
 rw [jO,qAj qAc h];rfl
theorem qJt(a:List RhD)(x:RhD):qCu (a++ [x])=qCu a++ [x.cells]:=by simp [qCu]
theorem qWm(a:List RhD):(qCu a).all (λx=>x.all Value.oneCell')=true:=qLf RhD.cells (λ_=>rfl) a
structure TrD where
 b:Nat
 d:Nat
 old:List UInt8
 nw:List UInt8
 stA:Option Addr
 stc:Nat
 st:List qBe
def TrD.cells(x:TrD):List Value:= [I ((x.b:Nat):Int),I ((x.d:Nat):Int),Str (x.old),Str (x.nw),.slice x.stA x.st.length x.stc]
def noTrD:TrD:=⟨0,0,[],[],none,0,[]⟩
def qJe(l:List TrD):List (List Value):=l.map TrD.cells
theorem qNz(a:List TrD)(x:TrD):qJe (a++ [x])=qJe a++ [x.cells]:=by simp [qJe]
def qHy(l:List En):List (List Value):=l.map En.cells
theorem qUE{l:List En}{k:Nat}(h:k<l.length):(qHy l)[k]?=some (l.getD k qBt).cells:=by
 unfold qHy
 rw [jO,qAj qBt h];rfl
theorem qWn(a:List En):(qHy a).all (λx=>x.all Value.oneCell')=true:=qLf En.cells (λ_=>rfl) a
def qBp(l:List Nat):List (List Value):=l.map λg=> [Ptr g]
theorem qGT{l:List Nat}{k:Nat}(h:k<l.length):(qBp l)[k]?=some [Ptr (l.getD k 0)]:=by
 unfold qBp;rw [jO,jC h,jB,jC h];rfl
theorem qDw(a:List Nat)(x:Nat):qBp (a++ [x])=qBp a++ [[Ptr x]]:=by simp [qBp]
theorem qY4(l:List Hp)(m:Hp):U (l++ [m])=U [U l,m]:=by
 induction l with
 |nil=>rfl
 |cons a l ih=>
  funext g
  show(match a g with|some o=>some o|none=>U (l++ [m]) g)=match (match a g with|some o=>some o|none=>U l g) with|some o=>some o|none=>U [m] g
  rw [ih]
  cases a g<;>rfl
theorem qUp{l:List Hp}{m:Hp}(h:Djs l)(hd:Dj (U l) m):Djs (l++ [m]):=by
 rw [qAZ,jS]
 refine⟨qAZ.1 h,by simp,λa ha b hb=>?_⟩
 rw [List.mem_singleton.1 hb]
 exact(Dj.U_right.1 hd.symm a ha).symm
structure Lb where
 nm:List UInt8
 A:Option Addr
 c:Nat
 l:List En
 m:Hp
abbrev LE:=List (List UInt8×List En)
def lbV(ls:List Lb):MP:=ls.map λx=>(x.nm,.slice x.A x.l.length x.c)
def lbE(ls:List Lb):LE:=ls.map λx=>(x.nm,x.l)
def qCq:List Lb→List UInt8→Option Lb
 | [],_=>none
 |x::r,k=>if x.nm=k then some x else qCq r k
def qED:LE→List UInt8→List En
 | [],_=> []
 |x::r,k=>if x.1=k then x.2 else qED r k
def qW9(ls:List Lb)(k:List UInt8):Option Addr:=match qCq ls k with|some x=>x.A|none=>none
def qW8(ls:List Lb)(k:List UInt8):Nat:=match qCq ls k with|some x=>x.c|none=>0
theorem qI5(ls:List Lb)(k:List UInt8):qED (lbE ls) k=match qCq ls k with|some x=>x.l|none=> []:=by
 induction ls with
 |nil=>rfl
 |cons x r ih=>
  show(if x.nm=k then x.l else qED (lbE r) k)=match (if x.nm=k then some x else qCq r k) with|some x=>x.l|none=> []
  by_cases h:x.nm=k
  · rw [if_pos h,if_pos h]
  · rw [if_neg h,if_neg h];exact ih
theorem qFF(ls:List Lb)(k:List UInt8):qKR (lbV ls) k=(qCq ls k).map λx=> .slice x.A x.l.length x.c:=by
 induction ls with
 |nil=>rfl
 |cons x r ih=>
  show(if x.nm=k then some _ else qKR (lbV r) k)=(if x.nm=k then some x else qCq r k).map _
  by_cases h:x.nm=k
  · rw [if_pos h,if_pos h];rfl
  · rw [if_neg h,if_neg h];exact ih
theorem qVF(ls:List Lb)(k:List UInt8):(qKR (lbV ls) k).getD (.slice none 0 0)= .slice (qW9 ls k) (qED (lbE ls) k).length (qW8 ls k):=by
 rw [qFF,qI5]
 unfold qW9 qW8
 cases qCq ls k<;>rfl
theorem qKS{ls:List Lb}{k:List UInt8}{x:Lb}(h:qCq ls k=some x):x∈ls∧x.nm=k:=by
 induction ls with
 |nil=>cases h
 |cons y r ih=>
  rw [qCq] at h
  split at h
  · rename_i hk;cases h;exact⟨.head _,hk⟩
  · have:=ih h;exact⟨.tail _ this.1,this.2⟩
def LbA(F:Hp)(ls:List Lb):Prop:= ∀x∈ls,Sl F 5 x.A x.l.length x.c (qHy x.l)
theorem LbA.mono{F F':Hp}{ls:List Lb}(h:LbA F ls)(hl:Le F F'):LbA F' ls:=λx hx=>(h x hx).mono hl
theorem LbA.at{F:Hp}{ls:List Lb}(h:LbA F ls)(k:List UInt8):Sl F 5 (qW9 ls k) (qED (lbE ls) k).length (qW8 ls k) (qHy (qED (lbE ls) k)):=by
 rw [qI5]
 unfold qW9 qW8
 cases hg:qCq ls k with
 |none=>exact Sl.nil
 |some x=>exact h x (qKS hg).1
structure NxS (M:Hp) (ls:List Lb):Prop where
 eq:M=U (ls.map Lb.m)
 dj:Djs (ls.map Lb.m)
 row: ∀x∈ls,Row x.m 61 5 x.A x.l.length x.c (qHy x.l)
theorem NxS.nil:NxS (λ_=>none) []:=⟨rfl,trivial,λx h=>by cases h⟩
theorem NxS.at{M:Hp}{ls:List Lb}(h:NxS M ls):LbA M ls:=λx hx=>by
 rw [h.eq]
 exact(h.row x hx).sl.mono (qEy h.dj (List.mem_map.2 ⟨x,hx,rfl⟩))
theorem NxS.snoc{M m':Hp}{ls:List Lb}(h:NxS M ls){k:List UInt8}{A:Option Addr}{c:Nat}{l:List En}(hr:Row m' 61 5 A l.length c (qHy l))(hd:Dj M m'):NxS (U [M,m']) (ls++ [⟨k,A,c,l,m'⟩]):=by
  refine⟨?_,?_,λx hx=>?_⟩
  · rw [jM,h.eq];exact(qY4 _ _).symm
  · rw [jM]
    exact qUp h.dj (h.eq▸hd)
  · rcases List.mem_append.1 hx with hx|hx
    · exact h.row x hx
    · rw [List.mem_singleton.1 hx];exact hr
theorem qIY{l:MP}{k:List UInt8}(h:qKR l k=none)(v:Value):qMo l k v=l++ [(k,v)]:=by
  induction l with
  |nil=>rfl
  |cons x r ih=>
    rw [qKR] at h
    split at h
    · cases h
    · rename_i hn
      show(if x.1=k then _ else x::qMo r k v)=_
      rw [if_neg hn,ih h];rfl
theorem qIz(ls:List Lb)(x:Lb):lbV (ls++ [x])=lbV ls++ [(x.nm,.slice x.A x.l.length x.c)]:=by unfold lbV;rw [jM];rfl
theorem qNL(ls:List Lb)(x:Lb):lbE (ls++ [x])=lbE ls++ [(x.nm,x.l)]:=by unfold lbE;rw [jM];rfl
def qMG(l:LE):Prop:=(l.map Prod.fst).Nodup
theorem qKU{l:LE}{k:List UInt8}(h:k∉l.map Prod.fst):qED l k= []:=by
 induction l with
 |nil=>rfl
 |cons x r ih=>
  rw [jZ,zd,not_or] at h
  rw [qED,if_neg (λe=>h.1 e.symm),ih h.2]
theorem qHv{ls:List Lb}{k:List UInt8}:qCq ls k=none↔k∉(lbE ls).map Prod.fst:=by
  induction ls with
  |nil=>simp [qCq,lbE]
  |cons x r ih=>
    show(if x.nm=k then some x else qCq r k)=none↔k∉x.nm::(lbE r).map Prod.fst
    rw [zd,not_or,←ih]
    by_cases h:x.nm=k
    · rw [if_pos h];simp [h]
    · rw [if_neg h]
      exact⟨λe=>⟨λe=>h e.symm,e⟩,λe=>e.2⟩
theorem qNT{l:LE}(h:qMG l){k:List UInt8}{v:List En}(hm:(k,v)∈l):qED l k=v:=by
 induction l with
 |nil=>cases hm
 |cons x r ih=>
  obtain ⟨h1,h2⟩:=List.nodup_cons.1 (show(x.1::r.map Prod.fst).Nodup from h)
  cases hm with
  |head=>rw [qED,if_pos rfl]
  |tail _ hm=>
   rw [qED,if_neg,ih h2 hm]
   rintro rfl
   exact h1 (List.mem_map.2 ⟨_,hm,rfl⟩)
theorem qRG{l l':LE}(h:qMG l)(hp:l.Perm l')(k:List UInt8):qED l k=qED l' k:=by
  have h':qMG l':=(hp.map _).nodup_iff.1 h
  by_cases hk:k∈l.map Prod.fst
  · obtain ⟨x,hx,rfl⟩:=List.mem_map.1 hk
    rw [qNT h (v:=x.2) hx,qNT h' (v:=x.2) (hp.subset hx)]
  · rw [qKU hk,qKU (λe=>hk ((hp.map _).mem_iff.2 e))]
structure CbR where
 gd:Nat
 f0:Nat
 size:Nat
 hat:Nat
 ht:UInt64
 e:Nat
 A:Option Addr
 c:Nat
 R:List (List UInt8)
 d:Dk
abbrev CbR.blk(gb:Nat)(x:CbR):Hp:=Fw.blk gb [Ptr x.gd,I ((x.f0:Nat):Int),I (x.size:Nat),I (x.hat:Nat),W64 x.ht,I (x.e:Nat),.slice x.A x.R.length x.c,.bool false] 218
structure CbP (G md:Hp) (x:CbR):Prop where
 dk:Dsk md x.gd x.d none 0
 ok:x.d.ok
 on:x.d.off=false
 ar:x.d.armed=false
 wt:x.d.wait= []
 kp:x.d.keep= []
 rs:Sl G 1 x.A x.R.length x.c (qAI x.R)
 fit:x.hat+x.size≤x.d.last.length
 ln:x.d.last.length≤1000
 tn:x.ht.toNat≤1
 ef:x.e≤x.size
theorem CbP.mono{G G' md:Hp}{x:CbR}(h:CbP G md x)(hl:Le G G'):CbP G' md x:={h with rs:=h.rs.mono hl}
structure CbN (x y:CbR) (s:List UInt8):Prop where
 gd:y.gd=x.gd
 f0:y.f0=x.f0
 sz:y.size=x.size
 e:y.e=x.e+qBc s.length
 R:y.R=x.R++ [s]
 ln:y.d.last.length=x.d.last.length
theorem qXR(F md:Hp)(hK:KF F)(gb:Nat)(x:CbR)(h:CbP F md x)(s:List UInt8)(hs:s.length≤900)(hf:x.e+qBc s.length≤x.size)(hr:x.R.length<65536):
    Ct prog 71 [Ptr gb,Str s] [x.blk gb,md,F] (λ_:CbR×Hp×Hp=>I 0) (λy=>CbP y.2.2 y.2.1 y.1∧CbN x y.1 s) (λy=> [y.1.blk gb,y.2.1,F,y.2.2]):=λw0 w hw=>by
  have hn24:=qEe hs
  have hfit:=h.fit
  have hln:=h.ln
  have hnr:(UInt64.ofNat x.R.length).toNat<2^(8*2):=by rw [qBE (by omega)];exact hr
  have hc:=qPC h.ok h.on h.ar (p:=x.hat+x.e) (n:=qBc s.length) (by omega) (qQA (turn:=1) (num:=UInt64.ofNat x.R.length) (s:=s) (by decide) hnr hn24)
  have hm:(((1:UInt64).toNat:Nat):Int)=max (x.ht.toNat:Int) 1:=by
    have:=h.tn
    rw [show(1:UInt64).toNat=1 from rfl];omega
  refine(qKn F md hK gb x.gd ((x.f0:Nat):Int) x.size x.hat x.ht x.e x.A x.R.length x.c x.d none 0 h.dk h.ok (by rw [h.wt];exact jG _) (by rw [h.kp];exact Sl.nil) (by rw [h.kp];exact jG _) x.R rfl h.rs s hs _ rfl 1 hm (by decide) hr (by omega) hf hc.1 w0 w hw).mono λv w' ⟨y,he,⟨hd,hrow⟩,hst⟩=>?_
  obtain ⟨_,c1,c2,c3,c4,c5,c6⟩:=hc
  have e1:(x.R++ [s]).length=x.R.length+1:=by rw [jA];rfl
  refine⟨(⟨x.gd,x.f0,x.size,x.hat,1,x.e+qBc s.length,y.2.1,y.2.2.1,x.R++ [s],_⟩,y.1,y.2.2.2),he,⟨⟨hd,c6,c1,c2,c4,by rw [c5,h.kp],by rw [e1];exact hrow.sl,by show x.hat+x.size≤_;rw [c3];exact hfit,by show List.length _≤_;rw [c3];exact hln,(by show(1:UInt64).toNat≤1;decide),hf⟩,⟨rfl,rfl,rfl,rfl,rfl,c3⟩⟩,?_⟩
  show St w0 [Fw.blk gb [Ptr x.gd,I ((x.f0:Nat):Int),I (x.size:Nat),I (x.hat:Nat),W64 1,I ((x.e+qBc s.length:Nat):Int),.slice y.2.1 (x.R++ [s]).length y.2.2.1,.bool false] 218,y.1,F,y.2.2.2] w'
  rw [e1];exact hst
theorem qHd{d:Nat}(h:d≤4):1≤2^d∧2^d≤16:=by
 rcases d with _|_|_|_|_|d
 all_goals first|decide|omega
def qFh(G:Hp)(gs:List Nat):Prop:= ∀j,j<gs.length→qUo G (gs.getD j 0) (qAQ j) 2
theorem qFh.mono{G G':Hp}{gs:List Nat}(h:qFh G gs)(hl:Le G G'):qFh G' gs:=λj hj=>(h j hj).mono hl
theorem qFh.nil(G:Hp):qFh G []:=λj hj=>absurd hj (zA j)
theorem qFh.snoc{G:Hp}{gs:List Nat}{g i:Nat}(h:qFh G gs)(hi:gs.length=i)(hk:qUo G g (qAQ i) 2):qFh G (gs++ [g]):=λj hj=>by
 rw [jA,jH] at hj
 rw [qFG gs g 0 j hj]
 split
 · exact h j (by omega)
 · rw [show j=i by omega];exact hk
def pW(a d:Nat):Hd:=⟨0,qAm,((d:Nat):Int),((a:Nat):Int),qAp (qAO a) d⟩
theorem qC1{a:Nat}(h:a≤3):qCJ (qAO a):=by
  have hk: ∀i,i<a→(qCf i).length=16:=λi _=>Sha.tagged_length _ _
  refine⟨?_,?_,?_,?_⟩
  · unfold Sm.Once qAO
    rw [List.pairwise_map]
    refine List.Pairwise.imp_of_mem (λ{i j} hi hj hij=>?_) List.pairwise_lt_range
    have h1:=List.mem_range.1 hi
    have h2:=List.mem_range.1 hj
    show qCf i≠qCf j
    rw [←qT0 (by omega),←qT0 (by omega)]
    exact qJz (by omega) (by omega) (by omega)
  · intro p hp
    obtain ⟨i,_,rfl⟩:=List.mem_map.1 hp
    exact Sha.tagged_length _ _
  · intro p hp
    obtain ⟨i,_,rfl⟩:=List.mem_map.1 hp
    show(qCY i).length≤_
    unfold qCY;rw [Sha.tagged_length];decide
  · unfold qAO;rw [jN,zV];omega
theorem qLj(a:Nat){d:Nat}(hd:d≤0):(qAp (qAO a) d).length≤16:=by
 rw [qBa]
 match d,hd with
 |0,_=>decide
 |1,_=>decide
theorem qLV(a:Nat){d:Nat}(hd:d≤0):(pW a d).good:=⟨by show 0<_;decide,by show qAm.length≤_;decide,by have:=qLj a hd;show(qAp (qAO a) d).length≤_;omega⟩
theorem ent40:qAD prog 40:=qAD.of func40 rfl (by kernel_rfl)
theorem ent120:qAD prog 120:=qAD.of func120 rfl (by kernel_rfl)
theorem qMU(F:Hp)(A:Option Addr)(n c:Nat)(l:List Nat)(hs:Sl F 1 A n c (qBp l))(h0:0<n)(hn:n≤1000000):Cz prog 38 [.slice A n c] F (Ptr (l.getD (n-1) 0)):=by
 have hln:l.length=n:=by have:=hs.1;simpa [qBp] using this
 refine Ct.walk func38 rfl ntmps38 rfl (λw0 hw0=>?_)
 refine J.f λ_ j1=>J.b O<|J.c j1 ?_
 refine J.f λ_ j2=>J.q 2 O<|J.g (qAU qXs O O) O<|J.g ((qA4 O O O (by omega)).nat (n-1) (by omega)) O<|J.g (qAH O O O qXs sizeOf118 hs (by omega)) O<|J.g (qAJ O O isAgg118 (m:=F) (by simp) (hs.elem (qGT (by omega)))) rfl<|J.b rfl<|J.c j2 ?_
 exact J.A<|J.E hw0 O () O trivial [0] O (by decide)
theorem qSl(F:Hp)(A:Option Addr)(n c:Nat)(l:List RhD)(hs:Sl F 5 A n c (qCu l))(h0:0<n)(hn:n≤1000000):Cz prog 74 [.slice A n c] F (.agg #[N64 ((l.getD (n-1) qAc).ep),Str ((l.getD (n-1) qAc).par),I (((l.getD (n-1) qAc).dep:Nat):Int),I (((l.getD (n-1) qAc).aud:Nat):Int),.slice (l.getD (n-1) qAc).nsA (l.getD (n-1) qAc).ns.length (l.getD (n-1) qAc).nsc]):=by
 have hln:l.length=n:=by have:=hs.1;simpa [qCu] using this
 refine Ct.walk func74 rfl ntmps74 rfl (λw0 hw0=>?_)
 refine J.f λ_ j1=>J.p (qAL O qRU O) O λg2 _=>J.c j1 ?_
 refine J.f λ_ j2=>J.q 2 O<|J.g (qAU qFP O O) O<|J.g ((qA4 O O O (by omega)).nat (n-1) (by omega)) O<|J.g (qAH O O O qFP qBz hs (by omega)) O<|J.g (qAX O O qDT qBz (m:=F) (by simp) (hs.elem (qDC (by omega))) rfl) rfl<|J.a6 (qAF (i:=1) (l:= [.int .u64 0,Str [],I 0,I 0,.slice none 0 0]) (vs:= [N64 ((l.getD (n-1) qAc).ep),Str ((l.getD (n-1) qAc).par),I (((l.getD (n-1) qAc).dep:Nat):Int),I (((l.getD (n-1) qAc).aud:Nat):Int),.slice (l.getD (n-1) qAc).nsA (l.getD (n-1) qAc).ns.length (l.getD (n-1) qAc).nsc]) rfl rfl rfl rfl rfl qBz rfl rfl) rfl rfl λ_ _=>J.c j2 ?_
 exact J.A<|J.a9 hw0 (λ_ _ h=>h) (rv1 O (RV.blkA 1 O O qDT qBz)) (qAq () O trivial [0] O (by decide))
theorem qMY(F:Hp)(gm:Nat)(vr:Value)(ls:List Lb)(hm:Fw.MapAt F gm (lbV ls))(hl:LbA F ls)(s:List UInt8)(hn:(qED (lbE ls) s).length≤1000000)(h0:qED (lbE ls) s= []):Cz prog 63 [.agg #[.map (some gm),vr],Str (s)] F (.tuple #[.agg #[.int .u64 0,Str [],Str [],I 0,Str []],.bool false]):=by
 have hl0:(qED (lbE ls) s).length=0:=by rw [h0];rfl
 refine Ct.walk func63 rfl ntmps63 rfl (λw0 hw0=>?_)
 refine J.f λ_ j1=>J.p (qAd O O O) O λg2 _=>J.p (qAL O qOn O) O λg4 _=>J.b O<|J.c j1 ?_
 refine J.f λ_ j2=>J.T 0 qLE qUr O O O O O<|J.a5 1 isAgg92 O O O O O<|J.b O<|J.g ((qCx O O O qUx u9_ zeroValue51 (m:=F) (by simp) hm).as (v':= .slice (qW9 ls s) (qED (lbE ls) s).length (qW8 ls s)) (qVF ls s)) rfl<|J.b rfl<|J.c j2 ?_
 refine J.k λ_ j3=>J.f λ_ j4=>J.b O<|J.g (qAU qFj O O) O<|J.g ((qAg O O O).yes (by omega)) O<|J.c j4 ?_
 refine J.c4 ?_
 refine J.f λ_ j5=>J.g (qAK (places:= [(0,1),(1,3),(4,1)]) (r:= [.int .u64 0,Str [],Str [],I 0,Str []]) O O O qJN qOn (λ_=>by kernel_rfl) O) O<|J.a6 (qAF (i:=2) O O O O O qBy O O) O O λ_ _=>J.b O<|J.c j5 ?_
 exact J.A<|J.V<|J.a9 hw0 (λ_ _ h=>h) (rv2 O (RV.blkA 2 O O qEV qBy) O) (qAq () O trivial [0] O (by decide))
theorem qKi(F:Hp)(A:Option Addr)(n c:Nat)(l:List En)(hs:Sl F 5 A n c (qHy l))(hnb:n≤1000000):Ct prog 40 [.slice A n c] [F] (λx:Option Addr×Nat×Hp=> .slice x.1 (l).length x.2.1) (λx=>Row x.2.2 61 5 x.1 (l).length x.2.1 (qHy l)) (λx=> [F,x.2.2]):=by
 have hkn:l.length=n:=by have:=hs.1;simpa [qHy] using this
 refine Ct.walk func40 rfl ntmps40 rfl (λw0 hw0=>?_)
 refine J.f λ_ j1=>J.b O<|J.c j1 ?_
 refine J.k λ_ j2=>J.f λ_ j3=>J.b O<|J.g ((qEh qFj O O O).as (v':= .bool (decide (A.isNone=true))) (congrArg Value.bool (by cases A<;>rfl))) rfl<|J.c j3 ?_
 refine J.W O (λh4=>?_) (λh4=>?_)
 ·
  refine J.f λ_ j4=>J.b O<|J.c j4 ?_
  refine J.A<|J.V ?_
  have hk0:l= []:=by
   refine jU ?_
   rcases yO n with h|h
   · omega
   · obtain ⟨g,o,rfl⟩:=hs.at h;cases h4
  exact J.c7 [0,1] [F,(λ_=>none)] O (by decide)<|J.E hw0 O (none,0,(λ_=>none)) (by rw [hk0];rfl) (by rw [hk0];exact qBb.nil) [0,1] rfl (by decide)
 refine J.M j2 ?_
 refine J.f λ_ j5=>J.p (qBZ O qFj el61) O λg5 _=>J.b O<|J.p (qAV (i:=1) (m2:=F) O O O qFj qFj el61 O (qAl (q:=True) (xs:=qHy ([])) O (by intro x hx;first|exact absurd hx (zC)|(rw [List.mem_singleton.1 hx];rfl))) (by simp) (hs) (qWn _) (by omega) (by omega)) rfl ?_
 rintro⟨A7,c7,m7⟩ h7
 try dsimp only at h7
 replace h7:Row m7 61 5 A7 (0+n) c7 (qHy (l)):=h7
 refine J.b O<|J.c j5 ?_
 refine J.A ?_
 rw [show 0+n=l.length by omega] at h7
 exact J.E hw0 O (A7,c7,m7) (by rw [←hkn,jj]) h7 [0,1] rfl (by decide)
theorem qQy{L:List Lb}{a b:MP}{p:List UInt8×Value}(h:lbV L=a++p::b): ∃ra x rb,L=ra++x::rb∧a=lbV ra∧p=(x.nm,.slice x.A x.l.length x.c)∧b=lbV rb:=by
 unfold lbV at h
 obtain ⟨l1,l2,rfl,h1,h2⟩:=List.map_eq_append_iff.1 h
 obtain ⟨x,l3,rfl,h3,h4⟩:=List.map_eq_cons_iff.1 h2
 exact⟨l1,x,l3,rfl,h1.symm,h3.symm,h4.symm⟩
theorem qW7(a b:List Lb):lbV (a++b)=lbV a++lbV b:=by unfold lbV;rw [jM]
theorem qQz(a b:List Lb):lbE (a++b)=lbE a++lbE b:=by unfold lbE;rw [jM]
structure CpR where
 g:Nat
 ls:List Lb
 mm:Hp
 M:Hp
 r:Nat
 mr:Hp
structure CpP (ls:List Lb) (au:List Aud) (x:CpR):Prop where
 mp:MapS x.mm x.g (lbV x.ls)
 nx:NxS x.M x.ls
 pm:(lbE x.ls).Perm (lbE ls)
 ro:qSP x.mr x.r au
theorem qXS{dn ra rb ls:List Lb}{x y:Lb}(hu:qMG (lbE ls))(h:(lbE dn++lbE (ra++x::rb)).Perm (lbE ls))(h1:y.nm=x.nm)(h2:y.l=x.l):qKR (lbV dn) x.nm=none∧(lbE (dn++ [y])++lbE (ra++rb)).Perm (lbE ls):=by
  have e:lbE (dn++ [y])++lbE (ra++rb)=lbE dn++((y.nm,y.l)::(lbE ra++lbE rb)):=by rw [qNL,qQz,jV];rfl
  have e2:lbE dn++lbE (ra++x::rb)=lbE dn++(lbE ra++(x.nm,x.l)::lbE rb):=by rw [qQz];rfl
  rw [e2] at h
  refine⟨?_,?_⟩
  · rw [qFF,Option.map_eq_none_iff,qHv]
    have h3:qMG (lbE dn++(lbE ra++(x.nm,x.l)::lbE rb)):=(h.map _).nodup_iff.2 hu
    unfold qMG at h3
    rw [jM,List.nodup_append] at h3
    intro hm
    exact h3.2.2 _ hm _ (List.mem_map.2 ⟨(x.nm,x.l),jW _ (.head _),rfl⟩) rfl
  · rw [e,h1,h2]
    exact(List.Perm.append_left _ List.perm_middle.symm).trans h
theorem qMe(F:Hp)(gm gr:Nat)(ls:List Lb)(hm:Fw.MapAt F gm (lbV ls))(hl:LbA F ls)(hu:qMG (lbE ls))(hln: ∀x∈ls,x.l.length≤1000000)(RA:Option Addr)(rn rc:Nat)(au:List Aud)(hR:qAR F ⟨gr,0,none⟩ [.slice RA rn rc])(hRs:Sl F 4 RA rn rc (qBX au))(hrn:rn≤1000000):Ct prog 56 [.agg #[.map (some gm),Ptr gr]] [F] (λx:CpR=> .agg #[.map (some x.g),Ptr x.r]) (CpP ls au) (λx=> [F,x.mm,x.M,x.mr]):=by
  obtain ⟨es,ck,hg,hst,hkv⟩:=hm
  refine Ct.walk func56 rfl ntmps56 rfl (λw0 hw0=>?_)
  refine J.f λ_ j1=>J.p (qAd O O O) O λg1 _=>J.p (qAL O zeroValue95 O) O λg2 _=>J.c j1 ?_
  refine J.f λ_ j2=>J.p (qD0 O) O ?_
  rintro g6 _
  refine J.T 1 qLE sizeOf93 O O O O O<|J.a5 1 isAgg93 O O O O O<|J.p (qAB O O ent120 (Ct.use (λF' hF=>Ct.swap2 (qTM F' gr RA rn rc au (hRs.mono (Fa hF)) (by omega) (hR.mono (Fa hF)))))) O ?_
  rintro⟨g9,m9⟩ h9
  try dsimp only at h9
  refine J.g (qAK (places:= [(0,1),(1,1)]) (r:= [.map (some g6),Ptr g9]) O O O qLE zeroValue95 (λ_=>by kernel_rfl) O) O<|J.p (qAL O zeroValue95 O) O λg3 _=>J.a6 (qAF (i:=5) (l:= [.map none,.pointer none]) (vs:= [.map (some g6),Ptr g9]) O O O O O qF2 O O) O O λ_ _=>J.c j2 ?_
  refine J.k λ_ j3=>J.f λ_ j4=>J.T 0 qLE qUr O O O O O<|J.a5 1 isAgg92 O O O O O<|J.p (qJ6 O O qUx (by simp) hg hkv) rfl ?_
  rintro⟨g13,mi⟩ hit
  try dsimp only at hit
  refine J.c j4 ?_
  refine J.O<|J.b4 (X:=List Lb×List Lb×Hp×Hp×Hp) (λζ=> [(2,Ptr g2),(3,Ptr g3),(13,Ptr g13)]) (λζ=> [ζ.2.2.2.2,F,blk g1 [.map (some gm),Ptr gr] 95,blk g2 [.map none,.pointer none] 95,m9,blk g3 [.map (some g6),Ptr g9] 95,ζ.2.2.2.1,ζ.2.2.1]) (λζ=>ItM ζ.2.2.1 g13 gm es ck (lbV ζ.1)∧MapS ζ.2.2.2.1 g6 (lbV ζ.2.1)∧NxS ζ.2.2.2.2 ζ.2.1∧(lbE ζ.2.1++lbE ζ.1).Perm (lbE ls)∧ ∀x∈ζ.1,x∈ls) (λζ=>ζ.1.length) (ls,[],mi,qAP g6 (.map #[] 0),(λ_=>none)) (⟨hit,MapS.nil _,NxS.nil,List.Perm.refl _,λ_ h=>h⟩) ⟨O,O,O,trivial⟩ (λ_ h=>h.empty.pick [7,0,1,2,4,5,3,6] (by decide)) ?_
  rintro⟨rem,dn,mi,mm,M⟩ ⟨hit,hmp,hnxs,hpm,hsub⟩ I0 hI0
  dsimp only at hit hmp hnxs hpm hsub⊢
  refine J.f λ_ j5=>J.p (qM1 (i:=7) O O (m:=F) (by simp) hg hst rfl hit) rfl ?_
  rintro⟨on,mj⟩ hnx
  try dsimp only at hnx
  refine J.g ((qAh O (congrArg some (qQf on)) (qU7 on))) O<|J.c j5 ?_
  refine J.k λ_ j6=>J.c6 O (λh15=>?_) (λh15=>?_)
  ·
    obtain ⟨x,ra,rb,rfl,hrem,hl2⟩: ∃x ra rb,on=some (x.nm,Value.slice x.A x.l.length x.c)∧rem=ra++x::rb∧ItL mj g13 gm es ck (lbV (ra++rb)) (x.nm,Value.slice x.A x.l.length x.c):=by
      rcases hnx with ⟨h1,_,_⟩|⟨p,a,b,h1,h2,h3⟩
      · rw [h1] at h15;cases h15
      · obtain ⟨ra,x,rb,e1,rfl,rfl,rfl⟩:=qQy h2
        exact⟨x,ra,rb,h1,e1,by rw [qW7];exact h3⟩
    rw [hrem] at hpm hsub
    have hxm:x∈ls:=hsub x (jW _ (.head _))
    have hxl:=hl x hxm
    have hxn:=hln x hxm
    refine J.M j6 ?_
    refine J.O<|J.f λ_ j7=>J.g ((qJ8 (mi:=mj) (p:=(x.nm,.slice x.A x.l.length x.c)) O O (by simp) hg hst (by simp) hl2)) rfl<|J.g ((qAh rfl rfl rfl)) rfl<|J.g ((qAh rfl rfl rfl)) rfl<|J.q 2 rfl<|J.c j7 ?_
    have hstp:=λy=>qXS (y:=y) hu hpm
    refine J.b0 [blk g3 [.map (some g6),Ptr g9] 95,F] [5] (.y 0 (.y 1 (.y 2 (.y 3 (.e 4 (.e 5 .nil)))))) Tryz.wide (by decide+kernel) (by simp) ?_
    refine J.j O (qAA O O qLE O qUr O) O O<|J.j O (qAE 0 O O O isAgg92 O) O O<|J.L ?_
    refine J.L ?_
    refine J.Z O (qAB O O ent40 (Ct.use (λF' hF=>qKi F' x.A x.l.length x.c x.l (hxl.mono (Fa hF)) (by first|omega|assumption)))) O (by simp) ?_
    rintro⟨A23,c23,m23⟩ h23
    try dsimp only at h23
    refine J.c2 O (qCh (i:=6) O O O O qUx u9_ O hmp) O O O ?_
    rintro mu hmu
    rw [qIY (hstp ⟨x.nm,A23,c23,x.l,m23⟩ rfl rfl).1,←qIz dn ⟨x.nm,A23,c23,x.l,m23⟩] at hmu
    refine J.c1 [0,8,1,2,3,4,5,6,7] [M,m23,F,blk g1 [.map (some gm),Ptr gr] 95,blk g2 [.map none,.pointer none] 95,m9,blk g3 [.map (some g6),Ptr g9] 95,mu,mj] O (by decide)<|J.d1 (λhj=>?_)
    exact J.a8<|J.a2<|J.u<|J.a4 (ra++rb,dn++ [⟨x.nm,A23,c23,x.l,m23⟩],mj,mu,U [M,m23]) (λη (hη:_∧η.1.length<rem.length)=>hI0 η hη.1 hη.2) ⟨⟨hl2.it,hmu,hnxs.snoc h23 hj,(hstp ⟨x.nm,A23,c23,x.l,m23⟩ rfl O).2,λy hy=>hsub y (by rcases List.mem_append.1 hy with h|h;exact je _ h;exact jW _ (.tail _ h))⟩,by dsimp only;rw [hrem,jA,jA,jD];omega⟩ ⟨rfl,rfl,rfl,trivial⟩ (λ_ h=>h)
  obtain rfl:rem= []:=by
    rcases hnx with ⟨_,h1,_⟩|⟨p,a,b,h1,_⟩
    · cases rem with
      |nil=>rfl
      |cons x r=>cases h1
    · rw [h1] at h15;cases h15
  refine J.b2<|J.a0<|J.a0<|J.b3 ?_
  refine J.u (J.D j3 ?_)
  refine J.f λ_ j8=>J.b7 5 isAgg95 qF2 O O O O O<|J.a6 (qAF (i:=3) (l:= [.map none,.pointer none]) (vs:= [.map (some g6),Ptr g9]) O O O O O qF2 O O) O O λ_ _=>J.c j8 ?_
  refine J.A ?_
  rw [show lbE dn++lbE []=lbE dn from jQ _] at hpm
  exact J.a9 hw0 (λ_ _ h=>h) (rv1 O (RV.blkA 3 O O isAgg95 qF2)) (qAq (⟨g6,dn,mm,M,g9,m9⟩:CpR) O ⟨hmp,hnxs,hpm,h9⟩ [1,6,0,4] O (by decide))
theorem ent74:qAD prog 74:=qAD.of func74 rfl (by kernel_rfl)
theorem ent121:qAD prog 121:=qAD.of func121 rfl (by kernel_rfl)
theorem el34:qCe prog 34 [.int .u64 0,Str [],.int .i64 0,.int .i64 0,.slice none 0 0] 64:=qCe.of (by kernel_rfl) rfl
theorem el118:qCe prog 118 [.pointer none] 8:=qCe.of (by kernel_rfl) rfl
theorem el153:qCe prog 153 [Str [],Str []] 32:=qCe.of (by kernel_rfl) rfl
structure WtR where
 cA:Option Addr
 cc:Nat
 mC:Hp
 oA:Option Addr
 oc:Nat
 mO:Hp
theorem qMV(F mC mO:Hp)(gs:Nat)(v0 v1 v2 v3 v4 v5 v6 v9 v10:Value)(cA:Option Addr)(cc:Nat)(cl:List Chg)(hrc:Row mC 153 2 cA cl.length cc (qDR cl))(hcl:cl.length≤100000)(oA:Option Addr)(oc:Nat)(no:List (List UInt8))(hro:Row mO 9 1 oA no.length oc (qAI no))(hno:no.length≤100000)(nt k v:List UInt8):Ct prog 66 [Ptr gs,Str nt,.agg #[Str k,Str v]] [blk gs [v0,v1,v2,v3,v4,v5,v6,.slice cA cl.length cc,.slice oA no.length oc,v9,v10] 99,mC,mO,F] (λ_:WtR=> .tuple #[]) (λx=>Row x.mC 153 2 x.cA (cl++ [(⟨k,v⟩:Chg)]).length x.cc (qDR (cl++ [(⟨k,v⟩:Chg)]))∧Row x.mO 9 1 x.oA (no++ [nt]).length x.oc (qAI (no++ [nt]))) (λx=> [blk gs [v0,v1,v2,v3,v4,v5,v6,.slice x.cA (cl++ [(⟨k,v⟩:Chg)]).length x.cc,.slice x.oA (no++ [nt]).length x.oc,v9,v10] 99,x.mC,x.mO,F]):=by
 refine Ct.walk func66 rfl ntmps66 rfl (λw0 hw0=>?_)
 refine J.f λ_ j1=>J.p (qAd O O O) O λg5 _=>J.c j1<|J.f λ_ j2=>J.q 2 O<|J.g (qAC O O) O<|J.T 8 qCV qBs O O O O O<|J.a5 0 qB8 O O O O O<|J.b O<|J.p (qAG (l:= [.tmp 11]) (xs:= [[Str (nt)]]) O O O O qAk el9 O (by decide) (by decide) (by simp)) rfl λg12 _=>J.p (qAV (i:=2) (m2:=blk g12 [Str (nt)] 9) rfl rfl rfl qAk qAk el9 rfl hro (by simp) ((qBD (q:=True) (qAI [nt]) rfl (by simp [qAI]) rfl).sl) rfl (by omega) (by omega)) rfl ?_
 rintro⟨A13,c13,m13⟩ h13
 try dsimp only at h13
 replace h13:Row m13 9 1 A13 (no.length+1) c13 (qAI (no++ [nt])):=by rw [qB4];exact h13
 rw [show no.length+1=(no++ [nt]).length by rw [jA];rfl] at h13⊢
 refine J.g (qAC O O) O<|J.T 8 qCV qBs O O O O O<|J.a6 (qAW (i:=0) O O O O O qBs O (by simp)) rfl rfl λ_ _=>?_
 change J _ _ _ [blk gs [v0,v1,v2,v3,v4,v5,v6,.slice cA cl.length cc,.slice A13 ((no++ [nt]).length) c13,v9,v10] 99,_,_,_,_,_] _
 refine J.c j2<|J.b0 [blk gs [v0,v1,v2,v3,v4,v5,v6,.slice cA cl.length cc,.slice A13 ((no++ [nt]).length) c13,v9,v10] 99,blk g5 [Str (k),Str (v)] 153] [10] (.y 0 (.y 1 (.y 2 (.y 3 (.y 4 (.y 5 (.e 6 (.e 7 (.y 8 (.y 9 (.e 10 .nil))))))))))) Tryz.wide (by decide+kernel) (by simp) ?_
 refine J.L ?_
 refine J.L ?_
 refine J.j O (qAC O O) O O<|J.j O (qAA O O qCV O sizeOf96 O) O O<|J.j O (qAE 0 O O O isAgg96 O) O O<|J.j O (qAY 1 O O O isAgg153 qFZ O) O O<|J.Z O (qAG (l:= [.tmp 21]) (xs:= [[Str (k),Str (v)]]) O O O O qOw el153 O (by decide) (by decide) (by simp)) rfl (by simp) λg22 _=>J.Z rfl (qAV (i:=1) (m2:=blk g22 [Str (k),Str (v)] 153) rfl rfl rfl qOw qOw el153 rfl hrc (by simp) ((qAl (q:=True) (xs:=qDR [(⟨k,v⟩:Chg)]) rfl (by intro x hx;rw [List.mem_singleton.1 hx];rfl)).sl) rfl (by omega) (by omega)) rfl (by simp) ?_
 rintro⟨A23,c23,m23⟩ h23
 try dsimp only at h23
 replace h23:Row m23 153 2 A23 (cl.length+1) c23 (qDR (cl++ [(⟨k,v⟩:Chg)])):=by rw [qH1];exact h23
 rw [show cl.length+1=(cl++ [(⟨k,v⟩:Chg)]).length by rw [jA];rfl] at h23⊢
 exact J.j O (qAC O O) O O<|J.j O (qAA O O qCV O sizeOf96 O) O O<|J.c2 O (qAW (i:=0) O O O O O sizeOf96 O (by simp)) rfl rfl rfl λ_ _=>J.a8<|J.d7 hw0 (λ_ _ h=>h) (qJP rfl) (qAq (⟨A23,c23,m23,A13,c13,m13⟩:WtR) rfl ⟨h23,h13⟩ [0,1,2,3] rfl (by decide))
structure AdR where
 nA:Option Addr
 nc:Nat
 mN:Hp
 tA:Option Addr
 tc:Nat
 mT:Hp
 hA:Option Addr
 hc:Nat
 mH:Hp
def adH(par:List UInt8)(dp rn:Nat)(hd:List RhD)(kv:List Sm.PR)(A:Option Addr)(c:Nat):RhD:=⟨hd.length,par,dp,rn,A,c,qAp kv dp⟩
structure AdP (par:List UInt8) (dp rn gt:Nat) (tg:List Nat) (hd:List RhD) (kv:List Sm.PR) (x:AdR):Prop where
 nd:Row x.mN 9 1 x.nA (qAp kv dp).length x.nc (qAI (qAp kv dp))
 rt:Row x.mT 118 1 x.tA (tg++ [gt]).length x.tc (qBp (tg++ [gt]))
 rh:Row x.mH 34 5 x.hA (hd++ [adH par dp rn hd kv x.nA x.nc]).length x.hc (qCu (hd++ [adH par dp rn hd kv x.nA x.nc]))
theorem qPq(F mT mH:Hp)(hK:KF F)(gs dp rB:Nat)(v1 v2 v3 v4 v5 v7 v8:Value)(tA:Option Addr)(tc:Nat)(tg:List Nat)(hrt:Row mT 118 1 tA tg.length tc (qBp tg))(htg:tg.length≤100000)(hA:Option Addr)(hc:Nat)(hd:List RhD)(hrh:Row mH 34 5 hA hd.length hc (qCu hd))(hhd:hd.length≤100000)(hdp:dp≤4)(gt:Nat)(kv:List Sm.PR)(hT:qCU F gt kv)(hf:qCJ kv)(RA:Option Addr)(rn rc:Nat)(au:List Aud)(hR:qAR F ⟨rB,0,none⟩ [.slice RA rn rc])(hRs:Sl F 4 RA rn rc (qBX au))(par:List UInt8):Ct prog 57 [Ptr gs,Ptr gt,Str par] [blk gs [I ((dp:Nat):Int),v1,v2,v3,v4,v5,Ptr rB,v7,v8,.slice tA tg.length tc,.slice hA hd.length hc] 99,mT,mH,F] (λ_:AdR=> .tuple #[]) (AdP par dp rn gt tg hd kv) (λx=> [blk gs [I ((dp:Nat):Int),v1,v2,v3,v4,v5,Ptr rB,v7,v8,.slice x.tA (tg++ [gt]).length x.tc,.slice x.hA (hd++ [adH par dp rn hd kv x.nA x.nc]).length x.hc] 99,x.mT,x.mH,F,x.mN]):=by
 refine Ct.walk func57 rfl ntmps57 rfl (λw0 hw0=>?_)
 refine J.f λ_ j1=>J.q 2 O<|J.g (qAC O O) O<|J.T 0 qCV z3_ O O O O O<|J.a5 0 b3_ O O O O O<|J.p (qAB O O ent121 (Ct.use (λF' hF=>qRu F' (hK.mo hF) gt kv (hT.mono (Fa hF)) (by assumption) dp (by omega)))) O ?_
 rintro⟨A14,c14,m14⟩ h14
 try dsimp only at h14
 refine J.q 5 O<|J.c j1<|J.f λ_ j2=>J.q 2 O<|J.g (qAC O O) O<|J.T 9 qCV sizeOf97 O O O O O<|J.a5 0 isAgg97 O O O O O<|J.b O<|J.p (qAG (l:= [.tmp 22]) (xs:= [[Ptr gt]]) O O O O qXs el118 O (by decide) (by decide) (by simp)) rfl λg23 _=>J.p (qAV (i:=1) (m2:=blk g23 [Ptr gt] 118) rfl rfl rfl qXs qXs el118 rfl hrt (by simp) ((qBD (q:=True) (qBp [gt]) rfl (by simp [qBp]) rfl).sl) rfl (by omega) (by omega)) rfl ?_
 rintro⟨A24,c24,m24⟩ h24
 try dsimp only at h24
 replace h24:Row m24 118 1 A24 (tg.length+1) c24 (qBp (tg++ [gt])):=by rw [qDw];exact h24
 rw [show tg.length+1=(tg++ [gt]).length by rw [jA];rfl] at h24⊢
 refine J.g (qAC O O) O<|J.T 9 qCV sizeOf97 O O O O O<|J.a6 (qAW (i:=0) O O O O O sizeOf97 O (by simp)) rfl rfl λ_ _=>?_
 change J _ _ _ [blk gs [I ((dp:Nat):Int),v1,v2,v3,v4,v5,Ptr rB,v7,v8,.slice A24 ((tg++ [gt]).length) c24,.slice hA hd.length hc] 99,_,_,_,_,_] _
 refine J.c j2<|J.b0 [blk gs [I ((dp:Nat):Int),v1,v2,v3,v4,v5,Ptr rB,v7,v8,.slice A24 ((tg++ [gt]).length) c24,.slice hA hd.length hc] 99] [28] (.y 0 (.y 1 (.y 2 (.y 3 (.y 4 (.y 5 (.y 6 (.y 7 (.y 8 (.y 9 (.y 10 (.y 11 (.y 12 (.y 13 (.y 14 (.y 15 (.y 16 (.y 17 (.y 18 (.y 19 (.y 20 (.y 22 (.e 21 (.y 23 (.e 24 (.e 25 (.y 26 (.y 27 (.e 28 .nil))))))))))))))))))))))))))))) Tryz.wide (by decide+kernel) (by simp) ?_
 refine J.L ?_
 refine J.L ?_
 refine J.j O (qAC O O) O O<|J.j O (qAA O O qCV O qJS O) O O<|J.j O (qAE 0 O O O qOr O) O O<|J.L ?_
 refine J.j O (qAC O O) O O<|J.j O (qAA O O qCV O qJS O) O O<|J.j O (qAE 0 O O O qOr O) O O<|J.j O (qAU qFP O O) O O<|J.j O (qD2 O O u3_ qEU (by omega)) O O<|J.L ?_
 refine J.L ?_
 refine J.j O (qAC O O) O O<|J.j O (qAA O O qCV O z3_ O) O O<|J.j O (qAE 0 O O O b3_ O) O O<|J.L ?_
 refine J.j O (qAC O O) O O<|J.j O (qAA O O qCV O qF2 O) O O<|J.j O (qAA O O qLE O sizeOf93 O) O O<|J.j O (qAE 0 (v:=Ptr rB) O O O isAgg93 O) O O<|J.L ?_
 refine J.Z O (qAB O O ent122 (Ct.use0 (λF' hF=>qMh F' rB RA rn rc (hR.mono (Fa hF))))) O (by simp) λg48 _=>J.j rfl (qAK (places:= [(0,1),(1,1),(2,1),(3,1),(4,1)]) (r:= [N64 (hd.length),Str (par),I ((dp:Nat):Int),I ((rn:Nat):Int),.slice A14 ((qAp kv dp).length) c14]) rfl rfl rfl qDW qRU (λ_=>by kernel_rfl) rfl) rfl rfl<|J.Z rfl (qAG (l:= [.tmp 50]) (xs:= [[N64 (hd.length),Str (par),I ((dp:Nat):Int),I ((rn:Nat):Int),.slice A14 ((qAp kv dp).length) c14]]) rfl rfl rfl rfl qFP el34 rfl (by decide) (by decide) (by simp)) rfl (by simp) λg51 _=>J.Z rfl (qAV (i:=2) (m2:=blk g51 [N64 (hd.length),Str (par),I ((dp:Nat):Int),I ((rn:Nat):Int),.slice A14 ((qAp kv dp).length) c14] 34) rfl rfl rfl qFP qFP el34 rfl hrh (by simp) ((qAl (q:=True) (xs:=qCu [(⟨hd.length,par,dp,rn,A14,c14,(qAp kv dp)⟩:RhD)]) rfl (by intro x hx;rw [List.mem_singleton.1 hx];rfl)).sl) rfl (by omega) (by omega)) rfl (by simp) ?_
 rintro⟨A52,c52,m52⟩ h52
 try dsimp only at h52
 replace h52:Row m52 34 5 A52 (hd.length+1) c52 (qCu (hd++ [(adH par dp rn hd kv A14 c14)])):=by rw [qJt];exact h52
 rw [show hd.length+1=(hd++ [(adH par dp rn hd kv A14 c14)]).length by rw [jA];rfl] at h52⊢
 exact J.j O (qAC O O) O O<|J.j O (qAA O O qCV O qJS O) O O<|J.c2 O (qAW (i:=0) O O O O O qJS O (by simp)) rfl rfl rfl λ_ _=>J.a8<|J.d7 hw0 (λ_ _ h=>h) (qJP rfl) (qAq (⟨A14,c14,m14,A24,c24,m24,A52,c52,m52⟩:AdR) rfl ⟨h14,h24,h52⟩ [0,1,2,3,4] rfl (by decide))
theorem qJk(F:Hp)(gs:Nat)(v0 v1 v2 v3 v4 v5 v6 v7 v8 v9:Value)(A:Option Addr)(n c:Nat)(l:List RhD)(hs:Sl F 5 A n c (qCu l))(h0:0<n)(hn:n≤1000000)(hp:qAR F ⟨gs,0,none⟩ [v0,v1,v2,v3,v4,v5,v6,v7,v8,v9,.slice A n c]):Cz prog 28 [Ptr gs] F (.agg #[N64 ((l.getD (n-1) qAc).ep),Str ((l.getD (n-1) qAc).par),I (((l.getD (n-1) qAc).dep:Nat):Int),I (((l.getD (n-1) qAc).aud:Nat):Int),.slice (l.getD (n-1) qAc).nsA (l.getD (n-1) qAc).ns.length (l.getD (n-1) qAc).nsc]):=by
 refine Ct.walk func28 rfl ntmps28 rfl (λw0 hw0=>?_)
 exact J.f λ_ j1=>J.p (qAL O qRU O) O λg2 _=>J.c j1<|J.f λ_ j2=>J.b O<|J.g (qAC O O) O<|J.T 10 qCV qJS O O O O O<|J.g (qAJ O O qOr (m:=F) (by simp) (hp.at (i:=10) rfl)) rfl<|J.p (qAB rfl rfl ent74 (Ct.use0 (λF' hF=>qSl F' A n c l (hs.mono (Fa hF)) (by omega) (by omega)))) rfl λg7 _=>J.a6 (qAF (i:=1) (l:= [.int .u64 0,Str [],I 0,I 0,.slice none 0 0]) (vs:= [N64 ((l.getD (n-1) qAc).ep),Str ((l.getD (n-1) qAc).par),I (((l.getD (n-1) qAc).dep:Nat):Int),I (((l.getD (n-1) qAc).aud:Nat):Int),.slice (l.getD (n-1) qAc).nsA (l.getD (n-1) qAc).ns.length (l.getD (n-1) qAc).nsc]) rfl rfl rfl rfl rfl qBz rfl rfl) rfl rfl λ_ _=>J.c j2<|J.A<|J.a9 hw0 (λ_ _ h=>h) (rv1 rfl (RV.blkA 1 rfl rfl qDT qBz)) (qAq () rfl trivial [0] rfl (by decide))
theorem ent71:qAD prog 71:=qAD.of func71 rfl (by kernel_rfl)
def cmB(n e:Nat):List UInt8:= [99]++(Sha.numB (UInt64.ofNat n) 2++Sha.numB (UInt64.ofNat e) 4)
theorem qRe(n e:Nat):(cmB n e).length=7:=by unfold cmB;simp only [jA,Sha.numB_length,jH]
def qCz(l:List (List UInt8)):Nat:=(l.map λr=>qBc r.length).sum
theorem qCy(l:List (List UInt8))(s:List UInt8):qCz (l++ [s])=qCz l+qBc s.length:=by unfold qCz;rw [jM,List.sum_append];rfl
theorem qJf(l:List (List UInt8)){i:Nat}(h:i<l.length):l.take (i+1)=l.take i++ [l.getD i []]:=by
 rw [List.take_add_one,jC h,jB,jC h];rfl
theorem qHm{l:List (List UInt8)}{i:Nat}(h:i<l.length):qCz (l.take (i+1))=qCz (l.take i)+qBc (l.getD i []).length:=by rw [qJf l h,qCy]
theorem qNC{l:List (List UInt8)}{i:Nat}:qCz (l.take i)≤qCz l:=by
 unfold qCz
 induction l generalizing i with
 |nil=>simp
 |cons a l ih=>
  cases i with
  |zero=>simp
  |succ i=>
   rw [List.take_succ_cons,jZ,jZ,List.sum_cons,List.sum_cons]
   have:=ih (i:=i);omega
structure CbL (x y:CbR) (l:List (List UInt8)):Prop where
 gd:y.gd=x.gd
 f0:y.f0=x.f0
 sz:y.size=x.size
 e:y.e=x.e+qCz l
 R:y.R=x.R++l
 ln:y.d.last.length=x.d.last.length
theorem CbL.nil(x:CbR):CbL x x []:=⟨rfl,rfl,rfl,rfl,(jQ _).symm,rfl⟩
theorem CbL.snoc{x y z:CbR}{l:List (List UInt8)}{s:List UInt8}(h:CbL x y l)(hs:CbN y z s):CbL x z (l++ [s]):=
 ⟨hs.gd.trans h.gd,hs.f0.trans h.f0,hs.sz.trans h.sz,by rw [hs.e,h.e,qCy,Nat.add_assoc],by rw [hs.R,h.R,jV],hs.ln.trans h.ln⟩
theorem qNE{l:List (List UInt8)}{i:Nat}(h:i<l.length):l.getD i []∈l:=by
 rw [jB,jC h];exact jX h
structure WrR where
 x:CbR
 md:Hp
 N:Hp
theorem qPY(F md N:Hp)(hK:KF F)(gs gb:Nat)(v0 v2 v3 v4 v5 v6 v7 v9:Value)(oA:Option Addr)(oc:Nat)(no:List (List UInt8))(hsO:Sl F 1 oA no.length oc (qAI no))(hno:no.length≤256)(h9: ∀s∈no,s.length≤900)(hA:Option Addr)(hn hc:Nat)(hhn:hn≤100000)(hp:qAR F ⟨gs,0,none⟩ [v0,Ptr gb,v2,v3,v4,v5,v6,v7,.slice oA no.length oc,v9,.slice hA hn hc])(x:CbR)(hb:CbP N md x)(hfit:x.e+qCz (no++ [cmB no.length hn])≤x.size)(hsz:x.size≤100000)(hR:x.R.length+no.length<65535):Ct prog 26 [Ptr gs] [x.blk gb,md,N,F] (λ_:WrR=>I ((0:Nat):Int)) (λy=>CbP y.N y.md y.x∧CbL x y.x (no++ [cmB no.length hn])) (λy=> [y.x.blk gb,y.md,y.N,F]):=by
 refine Ct.walk func26 rfl ntmps26 rfl (λw0 hw0=>?_)
 refine J.f λ_ j1=>J.b O<|J.c j1<|J.f λ_ j2=>J.p (qAL O qKb O) O λg3 _=>J.c j2<|J.k λ_ j3=>J.b0 [F] [] (.y 0 (.y 1 (.y 2 (.y 3 (.y 4 (.y 5 (.y 7 (.y 8 (.y 9 (.y 10 (.y 11 (.y 12 (.e 6 (.e 13 (.e 14 (.y 15 (.y 16 (.y 17 (.y 18 (.y 19 .nil)))))))))))))))))))) Tryz.wide (by decide+kernel) (by simp) ?_
 refine J.L ?_
 refine J.j O (qAC O O) O O<|J.j O (qAA O O qCV O qBs O) O O<|J.j O (qAJ O O qB8 (m:=F) (by simp) (hp.at (i:=8) rfl)) rfl rfl<|J.j rfl (qAU qAk rfl rfl) rfl rfl<|J.j rfl (qD2 rfl rfl u3_ qEU (by omega)) rfl rfl<|J.L ?_
 refine J.j O (qAC O O) O O<|J.j O (qAA O O qCV O qJS O) O O<|J.j O (qAJ O O qOr (m:=F) (by simp) (hp.at (i:=10) rfl)) rfl rfl<|J.j rfl (qAU qFP rfl rfl) rfl rfl<|J.j rfl (qD2 rfl rfl u3_ qEU (by omega)) rfl rfl<|J.Z rfl (qAB rfl rfl ent67 (Ct.use1 4 rfl (λF' hF=>qQg F' (blk g3 [.pointer none,.slice none 0 0,I 0] 158) g3 ([]) (wtrN g3) (by first|decide|omega|(simp only [jA,jD,jE,jH,Sha.numB_length,qFQ]<;>omega)) no.length 2 (by decide) (by decide) (by first|decide|omega|assumption)))) rfl (by simp) ?_
 rintro m20 hw20
 rw [jq] at hw20
 refine J.Z O (qAB O O ent67 (Ct.use1 4 O (λF' hF=>qQg F' m20 g3 (Sha.numB (UInt64.ofNat no.length) 2) hw20 (by first|decide|omega|(simp only [jA,jD,jE,jH,Sha.numB_length,qFQ]<;>omega)) hn 4 (by decide) (by decide) (by first|decide|omega|assumption)))) rfl (by simp) ?_
 rintro m27 hw27
 refine J.Z O (qAB O O ent68 (Ct.use1 4 O (λF' hF=>qKl F' m27 g3 (Sha.numB (UInt64.ofNat no.length) 2++Sha.numB (UInt64.ofNat hn) 4) hw27 (by first|decide|omega|(simp only [jA,jD,jE,jH,Sha.numB_length,qFQ]<;>omega))))) rfl (by simp) ?_
 rintro m28 hw28
 refine J.L ?_
 refine J.c3 (Str (Sha.numB (UInt64.ofNat no.length) 2++Sha.numB (UInt64.ofNat hn) 4)) ?_
 refine J.c3 (I ((0:Nat):Int)) ?_
 refine J.b6 ?_
 refine J.b6 ?_
 refine J.a8<|J.u (J.D j3 ?_)
 refine J.k λ_ j4=>J.f λ_ j5=>J.b O<|J.g ((qAe O O O).no (by decide)) O<|J.c j5<|J.a1 ?_
 refine J.M j4<|J.k λ_ j6=>?_
 have hl9: ∀s∈(no++ [cmB no.length hn]),s.length≤900:=λs hs=>by
  rcases List.mem_append.1 hs with h|h
  · exact h9 s h
  · rw [List.mem_singleton.1 h,qRe];decide
 have hnl:(no++ [cmB no.length hn]).length=no.length+1:=by rw [jA];rfl
 have hef:=hb.ef
 refine J.H<|J.b O<|J.g (qAC O O) O<|J.T 8 qCV qBs O O O O O<|J.g (qAJ O O qB8 (m:=F) (by simp) (hp.at (i:=8) rfl)) rfl<|J.p (qAB rfl rfl ent31 (Ct.use (λF' hF=>qJG F' oA no.length oc no (hsO.mono (Fa hF)) (by omega)))) rfl ?_
 rintro⟨A38,c38,m38⟩ h38
 try dsimp only at h38
 refine J.b O<|J.g ((qBI O O O (by simp only [jA,Sha.numB_length,jD,jE];omega)).as (v':=Str (cmB no.length hn)) rfl) rfl<|J.p (qAG (l:= [.tmp 40]) (xs:= [[Str (cmB no.length hn)]]) rfl rfl rfl rfl qAk el9 rfl (by decide) (by decide) (by simp)) rfl λg41 _=>J.p (qAV (i:=5) (m2:=blk g41 [Str (cmB no.length hn)] 9) rfl rfl rfl qAk qAk el9 rfl h38 (by simp) ((qBD (q:=True) (qAI [cmB no.length hn]) rfl (by simp [qAI]) rfl).sl) rfl (by omega) (by omega)) rfl ?_
 rintro⟨A42,c42,m42⟩ h42
 try dsimp only at h42
 replace h42:Row m42 9 1 A42 (no.length+1) c42 (qAI (no++ [(cmB no.length hn)])):=by rw [qB4];exact h42
 rw [show no.length+1=(no++ [(cmB no.length hn)]).length by rw [jA];rfl] at h42⊢
 refine J.b O<|J.c j6<|J.f λ_ j7=>J.b O<|J.c j7<|J.k λ_ j8=>J.f λ_ j9=>J.b O<|J.g (qAU qAk O O) O<|J.b O<|J.c j9<|J.O<|J.b4 (X:=Nat) (λζ=> [(0,Ptr gs),(6,.slice A42 ((no++ [cmB no.length hn]).length) c42),(7,I ((qCz ((no++ [cmB no.length hn]).take ζ):Nat):Int)),(43,.slice A42 ((no++ [cmB no.length hn]).length) c42),(44,I (((no++ [cmB no.length hn]).length:Nat):Int)),(45,I ((ζ:Nat):Int))]) (λζ=> [x.blk gb,md,N,F,m28,m42,blk g41 [Str (cmB no.length hn)] 9]) (λζ=>ζ≤(no++ [cmB no.length hn]).length) (λζ=>(no++ [cmB no.length hn]).length-ζ) 0 (jG _) ⟨O,O,O,O,O,O,trivial⟩ (λ_ h=>h) ?_
 rintro i hi I0 hI0
 refine J.f λ_ j10=>J.g (qAT O O O) O<|J.c j10<|J.k λ_ j11=>J.W O (λh46=>?_) (λh46=>?_)
 ·
  refine J.M j11<|J.k λ_ j12=>J.O<|J.f λ_ j13=>J.g (qAH O O O qAk z9_ h42.sl (by omega)) O<|J.g (qAJ O O b9_ (m:=m42) (by simp) (h42.sl.elem (qAa (qAj [] (by omega))))) rfl<|J.b rfl<|J.c j13 ?_
  have hp9:=hl9 _ (qNE (l:=(no++ [cmB no.length hn])) (i:=i) (by omega))
  have hp24:=qEe hp9
  have hnle:=qNC (l:=(no++ [cmB no.length hn])) (i:=i)
  refine J.H<|J.q 2 O<|J.g (qAt u9_ O O) O<|J.p (qAB O O ent69 (Ct.use0 (λF' hF=>qGX F' ((no++ [cmB no.length hn]).getD i []).length (by omega)))) O λg52 _=>J.g ((qAS O O O (by omega)).as (v':=I ((qCz ((no++ [cmB no.length hn]).take i)+(qBc ((no++ [cmB no.length hn]).getD i []).length):Nat):Int)) (congrArg I (by omega))) O<|J.b O<|J.a3<|J.a2<|J.u (J.D j12 ?_)
  exact J.H<|J.g ((qAS O O O (by omega)).nat (i+1) (by omega)) O<|J.b O<|J.a3<|J.u<|J.a4 (i+1) (λη (hη:_∧(no++ [cmB no.length hn]).length-η<(no++ [cmB no.length hn]).length-i)=>hI0 η hη.1 hη.2) ⟨(by omega),by first|omega|(dsimp only;omega)⟩ ⟨O,O,by rw [qHm (by omega)];rfl,rfl,rfl,rfl,trivial⟩ (λ_ h=>h)
 refine J.b2<|J.a0<|J.a0<|J.b3 ?_
 refine J.u (J.D j8 ?_)
 refine J.k λ_ j14=>J.k λ_ j15=>?_
 obtain rfl:i=(no++ [cmB no.length hn]).length:=by omega
 rw [jo]
 refine J.H<|J.q 2 O<|J.g (qAC O O) O<|J.T 1 qCV sizeOf91 O O O O O<|J.g (qAJ O O isAgg91 (m:=F) (by simp) (hp.at (i:=1) rfl)) rfl<|J.p (qAB rfl rfl ent70 (Ct.use0 (λF' hF=>qQw F' gb x.gd ((x.f0:Nat):Int) x.size (x.hat:Nat) x.ht ((x.e:Nat):Int) x.A x.R.length x.c false (qAR.blk0.mono (hF (x.blk gb) (by simp))) (by omega) (by omega)))) rfl λg60 _=>J.g ((qA5 rfl rfl rfl).no (by omega)) rfl<|J.c j15<|J.a1 ?_
 refine J.M j14<|J.k λ_ j16=>J.f λ_ j17=>J.b O<|J.g (qAU qAk O O) O<|J.b O<|J.c j17<|J.O<|J.b4 (X:=Nat×CbR×Hp×Hp) (λζ=> [(0,Ptr gs),(62,.slice A42 ((no++ [cmB no.length hn]).length) c42),(63,I (((no++ [cmB no.length hn]).length:Nat):Int)),(64,I ((ζ.1:Nat):Int))]) (λζ=> [ζ.2.1.blk gb,ζ.2.2.1,F,ζ.2.2.2,m28,m42]) (λζ=>ζ.1≤(no++ [cmB no.length hn]).length∧CbP ζ.2.2.2 ζ.2.2.1 ζ.2.1∧CbL x ζ.2.1 ((no++ [cmB no.length hn]).take ζ.1)) (λζ=>(no++ [cmB no.length hn]).length-ζ.1) (0,x,md,N) (⟨jG _,hb,CbL.nil x⟩) ⟨O,O,O,O,trivial⟩ (λ_ h=>h.pick [0,1,3,2,4,5] (by decide)) ?_
 rintro⟨i,y,md2,N2⟩ ⟨hi,hy,hL⟩ I2 hI2
 dsimp only at hi hy hL⊢
 refine J.f λ_ j18=>J.g (qAT O O O) O<|J.c j18<|J.k λ_ j19=>J.W O (λh65=>?_) (λh65=>?_)
 ·
  refine J.M j19<|J.k λ_ j20=>J.O<|J.f λ_ j21=>J.g (qAH O O O qAk z9_ h42.sl (by omega)) O<|J.g (qAJ O O b9_ (m:=m42) (by simp) (h42.sl.elem (qAa (qAj [] (by omega))))) rfl<|J.b rfl<|J.c j21<|J.f λ_ j22=>J.b rfl<|J.g (qAC rfl rfl) rfl<|J.T 1 qCV sizeOf91 rfl rfl rfl rfl rfl<|J.g (qAJ rfl rfl isAgg91 (m:=F) (by simp) (hp.at (i:=1) rfl)) rfl<|J.b rfl<|J.p (qAB rfl rfl ent71 (Ct.useA [y.blk gb,md2] [F,N2,m28,m42] (A':=λz:CbR×Hp×Hp=> [z.1.blk gb,z.2.1]) (new:=λz=> [z.2.2]) (λF' hF=>qXR F' md2 (hK.mo hF) gb y (hy.mono (Fa hF)) ((no++ [cmB no.length hn]).getD i []) (hl9 _ (qNE (by omega))) (by rw [hL.e,hL.sz];have:=qNC (l:=(no++ [cmB no.length hn])) (i:=i+1);rw [qHm (by omega)] at this;omega) (by rw [hL.R,jA,jF];omega)))) rfl ?_
  rintro⟨y2,md3,N3⟩ ⟨hy2,hn2⟩
  refine J.b O<|J.c j22<|J.f λ_ j23=>J.b O<|J.g ((qAe O O O).no (by decide)) O<|J.c j23<|J.a1 ?_
  refine J.b5<|J.a2<|J.u (J.D j20 ?_)
  exact J.H<|J.g ((qAS O O O (by omega)).nat (i+1) (by omega)) O<|J.b O<|J.a3<|J.u<|J.a4 (i+1,y2,md3,N3) (λη (hη:_∧(no++ [cmB no.length hn]).length-η.1<(no++ [cmB no.length hn]).length-i)=>hI2 η hη.1 hη.2) ⟨⟨by dsimp only;omega,hy2,by dsimp only;rw [qJf _ (by omega)];exact hL.snoc hn2⟩,by dsimp only;omega⟩ ⟨rfl,rfl,rfl,rfl,trivial⟩ (λ_ h=>h.pick [0,1,2,6,4,5] (by decide))
 refine J.b2<|J.a0<|J.a0<|J.b3 ?_
 refine J.u (J.D j16 ?_)
 exact J.f λ_ j24=>J.b O<|J.c j24<|J.A<|J.E hw0 O (⟨y,md2,N2⟩:WrR) O ⟨hy,by rw [show(no++ [cmB no.length hn]).take i=(no++ [cmB no.length hn]) from jc (by omega)] at hL;exact hL⟩ [0,1,3,2] rfl (by decide)
theorem ent52:qAD prog 52:=qAD.of func52 rfl (by kernel_rfl)
theorem ent53:qAD prog 53:=qAD.of func53 rfl (by kernel_rfl)
theorem ent54:qAD prog 54:=qAD.of func54 rfl (by kernel_rfl)
theorem ent55:qAD prog 55:=qAD.of func55 rfl (by kernel_rfl)
theorem ent58:qAD prog 58:=qAD.of func58 rfl (by kernel_rfl)
theorem ent59:qAD prog 59:=qAD.of func59 rfl (by kernel_rfl)
theorem ent60:qAD prog 60:=qAD.of func60 rfl (by kernel_rfl)
abbrev aX(l:List Aud)(i:Nat):Aud:=l.getD i qAs
structure qXq (gl:List Aud):Prop where
 len:gl.length≤15
 sm: ∀x∈gl,x.nm.length≤1000000∧x.op.length≤1048576∧x.rt.length≤1048576
 ok: ∀i,i<gl.length→qNj (gl.take i) (aX gl i).nm (aX gl i).op (aX gl i).rt (aX gl i).ht=0
theorem qXq.at{gl:List Aud}(h:qXq gl){i:Nat}(hi:i<gl.length):(aX gl i).nm.length≤1000000∧(aX gl i).op.length≤1048576∧(aX gl i).rt.length≤1048576:=by
 refine h.sm _ ?_
 show gl.getD i qAs∈gl
 rw [jB,jC hi];exact jX hi
theorem qXq.step{gl:List Aud}(h:qXq gl){i:Nat}(hi:i<gl.length):qR9 (gl.take i) (aX gl i).nm (aX gl i).op (aX gl i).rt (aX gl i).ht=gl.take (i+1):=by
 unfold qR9
 rw [if_pos (h.ok i hi),qDt gl i qAs hi]
theorem qOt(x:Aud):(qUd x).length≤16:=by
 unfold qUd
 split
 · rw [Sha.tagged_length];exact jK _
 · exact jG _
theorem qGm(l:List Aud): ∀{n:Nat},n≤15→qCJ (qFp [] l n)
 |0,_=>⟨List.Pairwise.nil,(λp h=>by cases h),(λp h=>by cases h),jG _⟩
 |n+1,h=>by
  have h2:=qI0 l (n:=n) (by omega)
  exact(qGm l (by omega)).put (qBq n) (jb (qOt _) (by decide)) (by omega)
structure NwR where
 gs:Nat
 gA:Nat
 gR:Nat
 mR:Hp
 gt:Nat
 mt:Hp
 cp:CpR
 ad:AdR
 gb:Nat
structure NwP (gl:List Aud) (dp:Nat) (x:NwR):Prop where
 ro:qSP x.mR x.gR gl
 tr:qFg x.mt x.gt (qFp [] gl gl.length)
 cp:CpP [] gl x.cp
 ad:AdP qAm dp gl.length x.gt [] [] (qFp [] gl gl.length) x.ad
theorem qLL(F:Hp)(gs:Nat)(A:Option Addr)(c:Nat):Cz prog 59 [Ptr gs,.slice A 0 c] F (.bool true):=by
 refine Ct.walk func59 rfl ntmps59 rfl (λw0 hw0=>?_)
 refine J.f λ_ j1=>J.b O<|J.c j1<|J.f λ_ j2=>J.b O<|J.c j2<|J.k λ_ j3=>J.f λ_ j4=>J.b O<|J.g (qAU qAk O O) O<|J.b O<|J.c j4<|J.O<|J.b4 (X:=Nat×Value) (λζ=> [(0,Ptr gs),(5,ζ.2),(13,.slice A 0 c),(14,I ((0:Nat):Int)),(15,I ((ζ.1:Nat):Int))]) (λζ=> [F]) (λζ=>ζ.1=0) (λζ=>0) (0,.slice none 0 0) (O) ⟨O,O,O,O,O,trivial⟩ (λ_ h=>h) ?_
 rintro⟨i,v5⟩ hi I0 hI0
 dsimp only at hi⊢
 refine J.f λ_ j5=>J.g ((qAT O O O).no (by omega)) O<|J.c j5<|J.k λ_ j6=>J.a1 ?_
 refine J.b2<|J.a0<|J.a0<|J.b3 ?_
 refine J.u (J.D j3 ?_)
 exact J.f λ_ j7=>J.b O<|J.c j7<|J.A<|J.E hw0 O () O trivial [0] O (by decide)
theorem qVw(F md:Hp)(hK:KF F)(hA:qAR F ⟨2,0,none⟩ qBY)(hT:qB5 F)(gd n:Nat)(hb:Dsk md gd (Dk.new n) none 0)(hn4:4≤n)(hn:n≤1000)(first count:Nat)(h8:8≤count)(hfc:first+count≤n)(dp:Nat)(hdp:dp≤4)(GA:Option Addr)(gc:Nat)(gl:List Aud)(hgl:Sl F 4 GA gl.length gc (qBX gl))(hg:qXq gl):Ct prog 21 [Ptr gd,I ((first:Nat):Int),I ((count:Nat):Int),I ((dp:Nat):Int),.slice GA gl.length gc] [md,F] (λx:NwR=> .tuple #[Ptr x.gs,I ((0:Nat):Int)]) (NwP gl dp) (λx=> [md,F,qAP x.gA (.map #[] 0),x.mR,x.mt,blk x.gs [I ((dp:Nat):Int),Ptr x.gb,.bool false,.map (some x.gA),Ptr x.gR,.map (some x.cp.g),Ptr x.cp.r,.slice none 0 0,.slice none 0 0,.slice x.ad.tA (([]:List Nat)++ [x.gt]).length x.ad.tc,.slice x.ad.hA (([]:List RhD)++ [adH qAm dp gl.length [] (qFp [] gl gl.length) x.ad.nA x.ad.nc]).length x.ad.hc] 99,x.cp.mm,x.cp.M,x.cp.mr,x.ad.mT,x.ad.mH,x.ad.mN,(CbR.blk x.gb ⟨gd,first,count/2,first,0,0,none,0,[],Dk.new n⟩)]):=by
 obtain ⟨hp1,hp16⟩:=qHd hdp
 have hcnt:cnt ((dp:Nat):Int)=2^dp:=qCt hdp
 have hg15:=hg.len
 obtain ⟨dA,dc,dB,de,hdc,hdL,hdW⟩:=hb.see
 have hll:=qI0 gl (n:=gl.length) hg15
 have hlast:(Dk.new n).last.length=n:=by unfold Dk.new;exact jJ
 refine Ct.walk func21 rfl ntmps21 rfl (λw0 hw0=>?_)
 refine J.f λ_ j1=>J.q 2 O<|J.c j1<|J.k λ_ j2=>J.f λ_ j3=>J.b O<|J.p (qAB O O ent51 (Ct.use0 (λF' hF=>by have:=qCF F' ((dp:Nat):Int);rw [hcnt] at this;exact this))) rfl λg21 _=>J.g ((qAg rfl rfl rfl).no (by omega)) rfl<|J.c j3<|J.a1 ?_
 refine J.M j2<|J.f λ_ j4=>J.b O<|J.p (qD0 O) O ?_
 rintro g24 _
 refine J.p (qAB O O ent52 (Ct.use (λF' hF=>Ct.swap2 (qWC F')))) O ?_
 rintro⟨g25,m25⟩ h25
 try dsimp only at h25
 refine J.g (qAK (places:= [(0,1),(1,1)]) (r:= [.map (some g24),Ptr g25]) O O O qLE zeroValue95 (λ_=>by kernel_rfl) O) O<|J.g (qAK (places:= [(0,1),(1,1),(2,1),(3,2),(5,2),(7,1),(8,1),(9,1),(10,1)]) (r:= [I ((dp:Nat):Int),.pointer none,.bool false,.map (some g24),Ptr g25,.map none,.pointer none,.slice none 0 0,.slice none 0 0,.slice none 0 0,.slice none 0 0]) O O O qCV zeroValue99 (λ_=>by kernel_rfl) (by kernel_rfl)) O<|J.p (qAd O O O) O λg28 _=>J.b O<|J.c j4<|J.k λ_ j5=>J.f λ_ j6=>J.b O<|J.g (qAU qGF O O) O<|J.b O<|J.c j6<|J.O<|J.b4 (X:=Nat×Hp) (λζ=> [(0,Ptr gd),(1,I ((first:Nat):Int)),(2,I ((count:Nat):Int)),(12,Ptr g28),(29,.slice GA gl.length gc),(30,I ((gl.length:Nat):Int)),(31,I ((ζ.1:Nat):Int))]) (λζ=> [ζ.2,md,F,qAP g24 (.map #[] 0),blk g28 [I ((dp:Nat):Int),.pointer none,.bool false,.map (some g24),Ptr g25,.map none,.pointer none,.slice none 0 0,.slice none 0 0,.slice none 0 0,.slice none 0 0] 99]) (λζ=>ζ.1≤gl.length∧qSP ζ.2 g25 (gl.take ζ.1)) (λζ=>gl.length-ζ.1) (0,m25) (⟨jG _,h25⟩) ⟨O,O,O,O,O,O,O,trivial⟩ (λ_ h=>h.pick [3,0,1,2,4] (by decide)) ?_
 rintro⟨i,mo⟩ ⟨hi,hro⟩ I0 hI0
 dsimp only at hi hro⊢
 refine J.f λ_ j7=>J.g (qAT O O O) O<|J.c j7<|J.k λ_ j8=>J.W O (λh32=>?_) (λh32=>?_)
 ·
  refine J.M j8<|J.k λ_ j9=>J.O<|J.k λ_ j10=>?_
  obtain ⟨hx1,hx2,hx3⟩:=hg.at (i:=i) (by omega)
  have htk:(gl.take i).length≤1000000:=by rw [jF];omega
  refine J.H<|J.g (qAH O O O qGF qDV hgl (by omega)) O<|J.g (qAX O O qKq qDV (m:=F) (by simp) (hgl.elem (qEx (by omega))) rfl) rfl<|J.p (qAL rfl qOy rfl) rfl λg14 _=>J.a6 (qAF (i:=5) (l:= [Str [],Str [],Str [],I 0]) (vs:= [Str ((gl.getD i qAs).nm),Str ((gl.getD i qAs).op),Str ((gl.getD i qAs).rt),I ((gl.getD i qAs).ht)]) rfl rfl rfl rfl rfl qDV rfl rfl) rfl rfl λ_ _=>J.c j10<|J.k λ_ j11=>J.b0 [blk g28 [I ((dp:Nat):Int),.pointer none,.bool false,.map (some g24),Ptr g25,.map none,.pointer none,.slice none 0 0,.slice none 0 0,.slice none 0 0,.slice none 0 0] 99,blk g14 [Str ((gl.getD i qAs).nm),Str ((gl.getD i qAs).op),Str ((gl.getD i qAs).rt),I ((gl.getD i qAs).ht)] 72] [] (.y 0 (.y 1 (.y 2 (.y 3 (.y 4 (.y 5 (.e 6 (.y 7 (.y 8 (.y 9 (.y 10 (.y 11 .nil)))))))))))) Tryz.wide (by decide+kernel) (by simp) ?_
  refine J.L ?_
  refine J.j O (qAC O O) O O<|J.j O (qAA O O qCV O qF2 O) O O<|J.j O (qAA O O qLE O sizeOf93 O) O O<|J.j O (qAE 0 O O O isAgg93 O) O O<|J.j O (qAY 1 O O O qKq qDV O) O O<|J.Z O (qAB O O ent53 (Ct.use1 0 O (λF' hF=>qWP F' mo g25 (gl.take i) hro (hA.mono (Fa hF)) (hT.mono (Fa hF)) ((gl.getD i qAs).nm) ((gl.getD i qAs).op) ((gl.getD i qAs).rt) ((gl.getD i qAs).ht) (by first|omega|exact jk O|(rw [jN];omega)) (by first|omega|exact jk rfl|(rw [jN];omega)) (by first|omega|exact jk rfl|(rw [jN];omega)) (by first|omega|exact jk rfl|(rw [jN];omega))))) rfl (by simp) ?_
  rintro m42 h42
  rw [hg.ok i (by omega)]
  replace h42:=(congrArg (qSP m42 g25) (hg.step (i:=i) (by omega))).mp h42
  refine J.L ?_
  refine J.c3 (I (qHL (gl.take i) (aX gl i).nm (aX gl i).op (aX gl i).rt (aX gl i).ht)) ?_
  refine J.c3 (I ((0:Nat):Int)) ?_
  refine J.b6 ?_
  refine J.b6 ?_
  refine J.a8<|J.u (J.D j11 ?_)
  refine J.f λ_ j12=>J.b O<|J.g ((qAe O O O).no (by decide)) O<|J.c j12<|J.a1 ?_
  refine J.b5<|J.a2<|J.u (J.D j9 ?_)
  exact J.H<|J.g ((qAS O O O (by omega)).nat (i+1) (by omega)) O<|J.b O<|J.a3<|J.u<|J.a4 (i+1,m42) (λη (hη:_∧gl.length-η.1<gl.length-i)=>hI0 η hη.1 hη.2) ⟨⟨by dsimp only;omega,h42⟩,by dsimp only;omega⟩ ⟨O,O,O,O,O,O,O,trivial⟩ (λ_ h=>h.pick [0,1,2,3,4] (by decide))
 refine J.b2<|J.a0<|J.a0<|J.b3 ?_
 refine J.u (J.D j5 ?_)
 refine J.k λ_ j13=>?_
 obtain rfl:i=gl.length:=by omega
 rw [jo] at hro
 obtain ⟨A3,n3,c3,hcA,hsA,_⟩:=hro.see
 obtain rfl:gl.length=n3:=by have:=hsA.1;rw [qDp] at this;exact this
 refine J.H<|J.p (qAB O O ent54 (Ct.use (λF' hF=>Ct.swap2 (qVh F')))) O ?_
 rintro⟨g49,m49⟩ h49
 try dsimp only at h49
 refine J.b O<|J.c j13<|J.f λ_ j14=>J.b O<|J.g (qAC O O) O<|J.T 3 qCV qF2 O O O O O<|J.T 4 qLE sizeOf93 O O O O O<|J.a5 4 isAgg93 O O O O O<|J.b O<|J.p (qAB O O ent55 (Ct.use1 5 O (λF' hF=>qWE F' m49 (hK.mo hF) g25 A3 gl.length c3 gl (hsA.mono (Fa hF)) (by omega) (hcA.mono (Fa hF)) g49 [] h49 hg.sm (by omega)))) O ?_
 rintro m56 h56
 refine J.c j14<|J.f λ_ j15=>J.q 2 O<|J.g (qAC O O) O<|J.T 3 qCV qF2 O O O O O<|J.g (qAX O O isAgg95 qF2 (m:=blk g28 [I ((dp:Nat):Int),.pointer none,.bool false,.map (some g24),Ptr g25,.map none,.pointer none,.slice none 0 0,.slice none 0 0,.slice none 0 0,.slice none 0 0] 99) (by simp) (qAR.blk0.sub 3 2) rfl) rfl<|J.p (qAB rfl rfl ent56 (Ct.use (λF' hF=>qMe F' g24 g25 [] ((MapS.nil g24).at.mono (hF (qAP g24 (.map #[] 0)) (by simp))) (λ_ h=>by cases h) List.nodup_nil (λ_ h=>by cases h) A3 gl.length c3 gl (hcA.mono (Fa hF)) (hsA.mono (Fa hF)) (by omega)))) rfl ?_
 rintro r62 hp62
 refine J.g (qAC O O) O<|J.T 5 qCV qF2 O O O O O<|J.a6 (qAW (i:=4) O O O O O qF2 O (by simp)) rfl rfl λ_ _=>J.c j15<|J.k λ_ j16=>?_
 obtain ⟨A4,n4,c4,hcB,hsB,_⟩:=hp62.ro.see
 obtain rfl:gl.length=n4:=by have:=hsB.1;rw [qDp] at this;exact this
 refine J.c7 [0,1,2,3,4,5,6,7,8,9] [mo,md,F,qAP g24 (.map #[] 0),blk g28 [I ((dp:Nat):Int),.pointer none,.bool false,.map (some g24),Ptr g25,.map (some r62.g),Ptr r62.r,.slice none 0 0,.slice none 0 0,.slice none 0 0,.slice none 0 0] 99,m56,r62.mm,r62.M,r62.mr,(λ_=>none)] O (by decide)<|J.c7 [0,1,2,3,4,5,6,7,8,9,10] [mo,md,F,qAP g24 (.map #[] 0),blk g28 [I ((dp:Nat):Int),.pointer none,.bool false,.map (some g24),Ptr g25,.map (some r62.g),Ptr r62.r,.slice none 0 0,.slice none 0 0,.slice none 0 0,.slice none 0 0] 99,m56,r62.mm,r62.M,r62.mr,(λ_=>none),(λ_=>none)] O (by decide)<|J.c1 [4,9,10,1,2,3,0,5,6,7,8] [blk g28 [I ((dp:Nat):Int),.pointer none,.bool false,.map (some g24),Ptr g25,.map (some r62.g),Ptr r62.r,.slice none 0 0,.slice none 0 0,.slice none 0 0,.slice none 0 0] 99,(λ_=>none),(λ_=>none),md,F,qAP g24 (.map #[] 0),mo,m56,r62.mm,r62.M,r62.mr] O (by decide)<|J.H<|J.q 2 O<|J.p (qAB O O ent57 (Ct.useA [blk g28 [I ((dp:Nat):Int),.pointer none,.bool false,.map (some g24),Ptr g25,.map (some r62.g),Ptr r62.r,.slice none 0 0,.slice none 0 0,.slice none 0 0,.slice none 0 0] 99,(λ_=>none),(λ_=>none)] [md,F,qAP g24 (.map #[] 0),mo,m56,r62.mm,r62.M,r62.mr] (A':=λx:AdR=> [blk g28 [I ((dp:Nat):Int),.pointer none,.bool false,.map (some g24),Ptr g25,.map (some r62.g),Ptr r62.r,.slice none 0 0,.slice none 0 0,.slice x.tA (([]:List Nat)++ [g49]).length x.tc,.slice x.hA (([]:List RhD)++ [adH qAm dp gl.length [] (qFp [] gl gl.length) x.nA x.nc]).length x.hc] 99,x.mT,x.mH]) (new:=λx=> [x.mN]) (λF' hF=>qPq F' (λ_=>none) (λ_=>none) (hK.mo hF) g28 dp r62.r (.pointer none) (.bool false) (.map (some g24)) (Ptr g25) (.map (some r62.g)) (.slice none 0 0) (.slice none 0 0) none 0 [] qBb.nil (jG _) none 0 [] qBb.nil (jG _) hdp g49 (qFp [] gl gl.length) (h56.at.mono (Fa hF)) (qGm gl hg15) A4 gl.length c4 gl (hcB.mono (Fa hF)) (hsB.mono (Fa hF)) qAm))) rfl ?_
 rintro r67 hp67
 refine J.c j16<|J.f λ_ j17=>J.q 3 O<|J.p (qAB O O ent58 (Ct.use (λF' hF=>qON F' (hK.mo hF) gd (Dk.new n) dA dc dB de none 0 (hdc.mono (Fa hF)) (hdL.mono (Fa hF)) (hdW.mono (Fa hF)) (by omega) (jG _) first count h8 (by omega) qTf))) O ?_
 rintro g72 _
 change J _ ((72,.tuple #[Ptr g72,I ((0:Nat):Int)])::_) _ [_,_,_,_,_,_,_,_,_,_,_,_,(CbR.blk g72 ⟨gd,first,count/2,first,0,0,none,0,[],Dk.new n⟩)] _
 refine J.q 5 O<|J.c j17<|J.k λ_ j18=>J.f λ_ j19=>J.b O<|J.g ((qAe O O O).no (by decide)) O<|J.c j19<|J.a1 ?_
 refine J.M j18<|J.f λ_ j20=>J.q 2 O<|J.g (qAC O O) O<|J.T 1 qCV sizeOf91 O O O O O<|J.a6 (qAW (i:=0) (l:= [I ((dp:Nat):Int),.pointer none,.bool false,.map (some g24),Ptr g25,.map (some r62.g),Ptr r62.r,.slice none 0 0,.slice none 0 0,.slice r67.tA (([]:List Nat)++ [g49]).length r67.tc,.slice r67.hA (([]:List RhD)++ [adH qAm dp gl.length [] (qFp [] gl gl.length) r67.nA r67.nc]).length r67.hc]) (vs:= [Ptr g72]) O O O O O sizeOf91 O (by simp)) rfl rfl λ_ _=>?_
 change J _ _ _ [blk g28 [I ((dp:Nat):Int),Ptr g72,.bool false,.map (some g24),Ptr g25,.map (some r62.g),Ptr r62.r,.slice none 0 0,.slice none 0 0,.slice r67.tA (([]:List Nat)++ [g49]).length r67.tc,.slice r67.hA (([]:List RhD)++ [adH qAm dp gl.length [] (qFp [] gl gl.length) r67.nA r67.nc]).length r67.hc] 99,_,_,_,_,_,_,_,_,_,_,_,_] _
 refine J.c j20<|J.k λ_ j21=>J.f λ_ j22=>J.q 2 O<|J.p (qAB O O ent60 (Ct.use (new:=λx:Option Addr×Nat×Hp=> [x.2.2]) (λF' hF=>qOE F' g72 gd ((first:Nat):Int) (count/2) ((first:Nat):Int) 0 ((0:Nat):Int) none 0 0 false (qAR.blk0.mono (hF (CbR.blk g72 ⟨gd,first,count/2,first,0,0,none,0,[],Dk.new n⟩) (by simp))) [] rfl Sl.nil (jG _)))) rfl ?_
 rintro⟨A84,c84,m84⟩ h84
 try dsimp only at h84
 refine J.p (qAB O O ent59 (Ct.use0 (λF' hF=>qLL F' g28 A84 c84))) O λg85 _=>J.g ((qAy O O).as (v':= .bool false) O) O<|J.c j22<|J.a1 ?_
 exact J.M j21<|J.f λ_ j23=>J.q 3 O<|J.c j23<|J.A<|J.a9 hw0 (λ_ _ h=>h) (qCG O O O) (qAq (⟨g28,g24,g25,mo,g49,m56,r62,r67,g72⟩:NwR) O ⟨hro,h56,hp62,hp67⟩ [3,4,5,6,7,0,8,9,10,1,2,11,12] O (by decide))
end Go.Proofs.YtcgcjaflllmlpaaGreatDoor
