/- A part of the proof. -/
import Derived.Test.YtllnfioplpipiaaGreatDoorTopOrG20
import Derived.Test.YtllnfioplpipiaaGreatDoorTopOrG22
import Derived.Test.YtllnfioplpipiaaGreatDoorTopOrG25
import Derived.Test.YtllnfioplpipiaaGreatDoorTopOrG31
import Derived.Test.YtllnfioplpipiaaGreatDoorTopOrG32
import Derived.Test.YtllnfioplpipiaaGreatDoorTopOrG12
import Derived.Test.YtllnfioplpipiaaGreatDoorTopOrG8
set_option linter.unusedSimpArgs false
set_option linter.unusedVariables false
namespace Go.Proofs.YtllnfioplpipiaaGreatDoor
open Go Go.Fw Go.Proofs.Tryz
set_option maxRecDepth 100000
set_option maxHeartbeats 1000000
structure RhD where
 ep:Nat
 par:List UInt8
 dep:Nat
 aud:Nat
 nsA:Option Addr
 nsc:Nat
 ns:List (List UInt8)
def RhD.cells(x:RhD):List Value:= [N64 (x.ep),Str (x.par),I ((x.dep:Nat):Int),I ((x.aud:Nat):Int),.slice x.nsA x.ns.length x.nsc]
def qAo:RhD:=⟨0,[],0,0,none,0,[]⟩
def qIH(l:List RhD):List (List Value):=l.map RhD.cells
theorem qPm{l:List RhD}{k:Nat}(h:k<l.length):(qIH l)[k]?=some (l.getD k qAo).cells:=by
 unfold qIH
 rw [List.getElem?_map,qAc qAo h];rfl
theorem qM8(a:List RhD)(x:RhD):qIH (a++ [x])=qIH a++ [x.cells]:=by simp [qIH]
structure TrD where
 b:Nat
 d:Nat
 old:List UInt8
 nw:List UInt8
 stA:Option Addr
 stc:Nat
 st:List qBP
def TrD.cells(x:TrD):List Value:= [I ((x.b:Nat):Int),I ((x.d:Nat):Int),Str (x.old),Str (x.nw),.slice x.stA x.st.length x.stc]
def noTrD:TrD:=⟨0,0,[],[],none,0,[]⟩
def qGz(l:List TrD):List (List Value):=l.map TrD.cells
theorem qLc(a:List TrD)(x:TrD):qGz (a++ [x])=qGz a++ [x.cells]:=by simp [qGz]
def qGe(l:List En):List (List Value):=l.map En.cells
theorem qQl{l:List En}{k:Nat}(h:k<l.length):(qGe l)[k]?=some (l.getD k qD1).cells:=by
 unfold qGe
 rw [List.getElem?_map,qAc qD1 h];rfl
theorem qSo(a:List En):(qGe a).all (λx=>x.all Value.oneCell')=true:=qNc En.cells (λ_=>rfl) a
def qCu(l:List Nat):List (List Value):=l.map λg=> [Ptr g]
theorem qND{l:List Nat}{k:Nat}(h:k<l.length):(qCu l)[k]?=some [Ptr (l.getD k 0)]:=by
 unfold qCu;rw [List.getElem?_map,List.getElem?_eq_getElem h,List.getD_eq_getElem?_getD,List.getElem?_eq_getElem h];rfl
theorem qLm(a:List Nat)(x:Nat):qCu (a++ [x])=qCu a++ [[Ptr x]]:=by simp [qCu]
theorem qUk(l:List Hp)(m:Hp):U (l++ [m])=U [U l,m]:=by
 induction l with
 |nil=>rfl
 |cons a l ih=>
  funext g
  show(match a g with|some o=>some o|none=>U (l++ [m]) g)=match (match a g with|some o=>some o|none=>U l g) with|some o=>some o|none=>U [m] g
  rw [ih]
  cases a g<;>rfl
theorem qRE{l:List Hp}{m:Hp}(h:Djs l)(hd:Dj (U l) m):Djs (l++ [m]):=by
 rw [qAS,List.pairwise_append]
 refine⟨qAS.1 h,by simp,λa ha b hb=>?_⟩
 rw [List.mem_singleton.1 hb]
 exact(Dj.U_right.1 hd.symm a ha).symm
structure Lb where
 nm:List UInt8
 A:Option Addr
 c:Nat
 l:List En
 m:Hp
abbrev LE:=List (List UInt8×List En)
def lbV(ls:List Lb):MP:=ls.map λx=>(x.nm,.slice x.A x.l.length x.c)
def lbE(ls:List Lb):LE:=ls.map λx=>(x.nm,x.l)
def qCH:List Lb→List UInt8→Option Lb
 | [],_=>none
 |x::r,k=>if x.nm=k then some x else qCH r k
def qCs:LE→List UInt8→List En
 | [],_=> []
 |x::r,k=>if x.1=k then x.2 else qCs r k
def qS6(ls:List Lb)(k:List UInt8):Option Addr:=match qCH ls k with|some x=>x.A|none=>none
def qS5(ls:List Lb)(k:List UInt8):Nat:=match qCH ls k with|some x=>x.c|none=>0
theorem qHZ(ls:List Lb)(k:List UInt8):qCs (lbE ls) k=match qCH ls k with|some x=>x.l|none=> []:=by
 induction ls with
 |nil=>rfl
 |cons x r ih=>
  show(if x.nm=k then x.l else qCs (lbE r) k)=match (if x.nm=k then some x else qCH r k) with|some x=>x.l|none=> []
  by_cases h:x.nm=k
  · rw [if_pos h,if_pos h]
  · rw [if_neg h,if_neg h];exact ih
theorem qEO(ls:List Lb)(k:List UInt8):qIk (lbV ls) k=(qCH ls k).map λx=> .slice x.A x.l.length x.c:=by
 induction ls with
 |nil=>rfl
 |cons x r ih=>
  show(if x.nm=k then some _ else qIk (lbV r) k)=(if x.nm=k then some x else qCH r k).map _
  by_cases h:x.nm=k
  · rw [if_pos h,if_pos h];rfl
  · rw [if_neg h,if_neg h];exact ih
theorem qRV(ls:List Lb)(k:List UInt8):(qIk (lbV ls) k).getD (.slice none 0 0)= .slice (qS6 ls k) (qCs (lbE ls) k).length (qS5 ls k):=by
 rw [qEO,qHZ]
 unfold qS6 qS5
 cases qCH ls k<;>rfl
theorem qIl{ls:List Lb}{k:List UInt8}{x:Lb}(h:qCH ls k=some x):x∈ls∧x.nm=k:=by
 induction ls with
 |nil=>cases h
 |cons y r ih=>
  rw [qCH] at h
  split at h
  · rename_i hk;cases h;exact⟨.head _,hk⟩
  · have:=ih h;exact⟨.tail _ this.1,this.2⟩
def LbA(F:Hp)(ls:List Lb):Prop:= ∀x∈ls,Sl F 5 x.A x.l.length x.c (qGe x.l)
theorem LbA.mono{F F':Hp}{ls:List Lb}(h:LbA F ls)(hl:Le F F'):LbA F' ls:=λx hx=>(h x hx).mono hl
theorem LbA.at{F:Hp}{ls:List Lb}(h:LbA F ls)(k:List UInt8):Sl F 5 (qS6 ls k) (qCs (lbE ls) k).length (qS5 ls k) (qGe (qCs (lbE ls) k)):=by
 rw [qHZ]
 unfold qS6 qS5
 cases hg:qCH ls k with
 |none=>exact Sl.nil
 |some x=>exact h x (qIl hg).1
structure NxS (M:Hp) (ls:List Lb):Prop where
 eq:M=U (ls.map Lb.m)
 dj:Djs (ls.map Lb.m)
 row: ∀x∈ls,Row x.m 43 5 x.A x.l.length x.c (qGe x.l)
theorem NxS.nil:NxS (λ_=>none) []:=⟨rfl,trivial,λx h=>by cases h⟩
theorem NxS.at{M:Hp}{ls:List Lb}(h:NxS M ls):LbA M ls:=λx hx=>by
 rw [h.eq]
 exact(h.row x hx).sl.mono (qEf h.dj (List.mem_map.2 ⟨x,hx,rfl⟩))
theorem NxS.snoc{M m':Hp}{ls:List Lb}(h:NxS M ls){k:List UInt8}{A:Option Addr}{c:Nat}{l:List En}(hr:Row m' 43 5 A l.length c (qGe l))(hd:Dj M m'):NxS (U [M,m']) (ls++ [⟨k,A,c,l,m'⟩]):=by
  refine⟨?_,?_,λx hx=>?_⟩
  · rw [List.map_append,h.eq];exact(qUk _ _).symm
  · rw [List.map_append]
    exact qRE h.dj (h.eq▸hd)
  · rcases List.mem_append.1 hx with hx|hx
    · exact h.row x hx
    · rw [List.mem_singleton.1 hx];exact hr
theorem qHC{l:MP}{k:List UInt8}(h:qIk l k=none)(v:Value):qKj l k v=l++ [(k,v)]:=by
  induction l with
  |nil=>rfl
  |cons x r ih=>
    rw [qIk] at h
    split at h
    · cases h
    · rename_i hn
      show(if x.1=k then _ else x::qKj r k v)=_
      rw [if_neg hn,ih h];rfl
theorem qHV(ls:List Lb)(x:Lb):lbV (ls++ [x])=lbV ls++ [(x.nm,.slice x.A x.l.length x.c)]:=by unfold lbV;rw [List.map_append];rfl
theorem qHW(ls:List Lb)(x:Lb):lbE (ls++ [x])=lbE ls++ [(x.nm,x.l)]:=by unfold lbE;rw [List.map_append];rfl
def qKJ(l:LE):Prop:=(l.map Prod.fst).Nodup
theorem qIm{l:LE}{k:List UInt8}(h:k∉l.map Prod.fst):qCs l k= []:=by
 induction l with
 |nil=>rfl
 |cons x r ih=>
  rw [List.map_cons,List.mem_cons,not_or] at h
  rw [qCs,if_neg (λe=>h.1 e.symm),ih h.2]
theorem qDI{ls:List Lb}{k:List UInt8}:qCH ls k=none↔k∉(lbE ls).map Prod.fst:=by
  induction ls with
  |nil=>simp [qCH,lbE]
  |cons x r ih=>
    show(if x.nm=k then some x else qCH r k)=none↔k∉x.nm::(lbE r).map Prod.fst
    rw [List.mem_cons,not_or,←ih]
    by_cases h:x.nm=k
    · rw [if_pos h];simp [h]
    · rw [if_neg h]
      exact⟨λe=>⟨λe=>h e.symm,e⟩,λe=>e.2⟩
theorem qLC{l:LE}(h:qKJ l){k:List UInt8}{v:List En}(hm:(k,v)∈l):qCs l k=v:=by
 induction l with
 |nil=>cases hm
 |cons x r ih=>
  obtain ⟨h1,h2⟩:=List.nodup_cons.1 (show(x.1::r.map Prod.fst).Nodup from h)
  cases hm with
  |head=>rw [qCs,if_pos rfl]
  |tail _ hm=>
   rw [qCs,if_neg,ih h2 hm]
   rintro rfl
   exact h1 (List.mem_map.2 ⟨_,hm,rfl⟩)
theorem qOG{l l':LE}(h:qKJ l)(hp:l.Perm l')(k:List UInt8):qCs l k=qCs l' k:=by
  have h':qKJ l':=(hp.map _).nodup_iff.1 h
  by_cases hk:k∈l.map Prod.fst
  · obtain ⟨x,hx,rfl⟩:=List.mem_map.1 hk
    rw [qLC h (v:=x.2) hx,qLC h' (v:=x.2) (hp.subset hx)]
  · rw [qIm hk,qIm (λe=>hk ((hp.map _).mem_iff.2 e))]
structure CbR where
 gd:Nat
 f0:Nat
 size:Nat
 hat:Nat
 ht:UInt64
 e:Nat
 A:Option Addr
 c:Nat
 R:List (List UInt8)
 d:Dk
abbrev CbR.blk(gb:Nat)(x:CbR):Hp:=Fw.blk gb [Ptr x.gd,I ((x.f0:Nat):Int),I (x.size:Nat),I (x.hat:Nat),W64 x.ht,I (x.e:Nat),.slice x.A x.R.length x.c,.bool false] 183
structure CbP (G md:Hp) (x:CbR):Prop where
 dk:Dsk md x.gd x.d none 0
 ok:x.d.ok
 on:x.d.off=false
 ar:x.d.armed=false
 wt:x.d.wait= []
 kp:x.d.keep= []
 rs:Sl G 1 x.A x.R.length x.c (qAG x.R)
 fit:x.hat+x.size≤x.d.last.length
 ln:x.d.last.length≤1000
 tn:x.ht.toNat≤1
 ef:x.e≤x.size
theorem CbP.mono{G G' md:Hp}{x:CbR}(h:CbP G md x)(hl:Le G G'):CbP G' md x:={h with rs:=h.rs.mono hl}
structure CbN (x y:CbR) (s:List UInt8):Prop where
 gd:y.gd=x.gd
 f0:y.f0=x.f0
 sz:y.size=x.size
 e:y.e=x.e+qBM s.length
 R:y.R=x.R++ [s]
 ln:y.d.last.length=x.d.last.length
theorem qTX(F md:Hp)(hK:KF F)(gb:Nat)(x:CbR)(h:CbP F md x)(s:List UInt8)(hs:s.length≤900)(hf:x.e+qBM s.length≤x.size)(hr:x.R.length<65536):
    Ct prog 111 [Ptr gb,Str s] [x.blk gb,md,F] (λ_:CbR×Hp×Hp=>I 0) (λy=>CbP y.2.2 y.2.1 y.1∧CbN x y.1 s) (λy=> [y.1.blk gb,y.2.1,F,y.2.2]):=λw0 w hw=>by
  have hn24:=qDo hs
  have hfit:=h.fit
  have hln:=h.ln
  have hnr:(UInt64.ofNat x.R.length).toNat<2^(8*2):=by rw [qBD (by omega)];exact hr
  have hc:=qMW h.ok h.on h.ar (p:=x.hat+x.e) (n:=qBM s.length) (by omega) (qNH (turn:=1) (num:=UInt64.ofNat x.R.length) (s:=s) (by decide) hnr hn24)
  have hm:(((1:UInt64).toNat:Nat):Int)=max (x.ht.toNat:Int) 1:=by
    have:=h.tn
    rw [show(1:UInt64).toNat=1 from rfl];omega
  refine(qI8 F md hK gb x.gd ((x.f0:Nat):Int) x.size x.hat x.ht x.e x.A x.R.length x.c x.d none 0 h.dk h.ok (by rw [h.wt];exact Nat.zero_le _) (by rw [h.kp];exact Sl.nil) (by rw [h.kp];exact Nat.zero_le _) x.R rfl h.rs s hs _ rfl 1 hm (by decide) hr (by omega) hf hc.1 w0 w hw).mono λv w' ⟨y,he,⟨hd,hrow⟩,hst⟩=>?_
  obtain ⟨_,c1,c2,c3,c4,c5,c6⟩:=hc
  have e1:(x.R++ [s]).length=x.R.length+1:=by rw [List.length_append];rfl
  refine⟨(⟨x.gd,x.f0,x.size,x.hat,1,x.e+qBM s.length,y.2.1,y.2.2.1,x.R++ [s],_⟩,y.1,y.2.2.2),he,⟨⟨hd,c6,c1,c2,c4,by rw [c5,h.kp],by rw [e1];exact hrow.sl,by show x.hat+x.size≤_;rw [c3];exact hfit,by show List.length _≤_;rw [c3];exact hln,(by show(1:UInt64).toNat≤1;decide),hf⟩,⟨rfl,rfl,rfl,rfl,rfl,c3⟩⟩,?_⟩
  show St w0 [Fw.blk gb [Ptr x.gd,I ((x.f0:Nat):Int),I (x.size:Nat),I (x.hat:Nat),W64 1,I ((x.e+qBM s.length:Nat):Int),.slice y.2.1 (x.R++ [s]).length y.2.2.1,.bool false] 183,y.1,F,y.2.2.2] w'
  rw [e1];exact hst
theorem qIN{d:Nat}(h:d≤4):1≤2^d∧2^d≤16:=by
 rcases d with _|_|_|_|_|d
 all_goals first|decide|omega
theorem ent50:qAD prog 50:=qAD.of func50 rfl (by kernel_rfl)
theorem ent74:qAD prog 74:=qAD.of func74 rfl (by kernel_rfl)
theorem qKY(F:Hp)(A:Option Addr)(n c:Nat)(l:List Nat)(hs:Sl F 1 A n c (qCu l))(h0:0<n)(hn:n≤1000000):Ct prog 73 [.slice A n c] [F] (λ_:Unit=>Ptr (l.getD (n-1) 0)) (λ_=>True) (λ_=> [F]):=by
 have hln:l.length=n:=by have:=hs.1;simpa [qCu] using this
 refine Ct.walk func73 rfl ntmps73 rfl (λw0 hw0=>?_)
 change J _ [(0,_)] _ _ _
 refine J.g λK1 hK1=>J.b O<|J.c hK1<|J.u 0 ?_
 refine J.g λK2 hK2=>J.p 2 O<|J.f (qAP qMh O O) O<|J.f ((qAw O O O (by omega)).nat (n-1) (by omega)) O<|J.f (qAH (i:=n-1) O O O qMh sizeOf103 hs (by omega)) O<|J.f (qAJ O O isAgg103 (m:=F) (by simp) (hs.elem (qND (by omega)))) rfl<|J.b rfl<|J.c hK2<|J.u 2 ?_
 exact J.D<|J.M hw0 O () O trivial [0] O (by decide)
theorem qPK(F:Hp)(A:Option Addr)(n c:Nat)(l:List RhD)(hs:Sl F 5 A n c (qIH l))(h0:0<n)(hn:n≤1000000):Ct prog 114 [.slice A n c] [F] (λ_:Unit=> .agg #[N64 ((l.getD (n-1) qAo).ep),Str ((l.getD (n-1) qAo).par),I (((l.getD (n-1) qAo).dep:Nat):Int),I (((l.getD (n-1) qAo).aud:Nat):Int),.slice (l.getD (n-1) qAo).nsA (l.getD (n-1) qAo).ns.length (l.getD (n-1) qAo).nsc]) (λ_=>True) (λ_=> [F]):=by
 have hln:l.length=n:=by have:=hs.1;simpa [qIH] using this
 refine Ct.walk func114 rfl ntmps114 rfl (λw0 hw0=>?_)
 change J _ [(0,_)] _ _ _
 refine J.g λK1 hK1=>J.k (qAN (l:= [.int .u64 0,Str [],I 0,I 0,.slice none 0 0]) O qRe O) O λg2 _=>?_
 change J _ _ _ [F,blk g2 [.int .u64 0,Str [],I 0,I 0,.slice none 0 0] 52] _
 refine J.c hK1<|J.E 0 2 ?_
 refine J.g λK2 hK2=>J.p 2 O<|J.f (qAP qRs O O) O<|J.f ((qAw O O O (by omega)).nat (n-1) (by omega)) O<|J.f (qAH (i:=n-1) O O O qRs qHw hs (by omega)) O<|J.f (qAd (vs:= [N64 ((l.getD (n-1) qAo).ep),Str ((l.getD (n-1) qAo).par),I (((l.getD (n-1) qAo).dep:Nat):Int),I (((l.getD (n-1) qAo).aud:Nat):Int),.slice (l.getD (n-1) qAo).nsA (l.getD (n-1) qAo).ns.length (l.getD (n-1) qAo).nsc]) O O isAgg52 qHw (m:=F) (by simp) (hs.elem (qPm (by omega))) rfl) rfl<|J.b0 (qAI (i:=1) (l:= [.int .u64 0,Str [],I 0,I 0,.slice none 0 0]) (vs:= [N64 ((l.getD (n-1) qAo).ep),Str ((l.getD (n-1) qAo).par),I (((l.getD (n-1) qAo).dep:Nat):Int),I (((l.getD (n-1) qAo).aud:Nat):Int),.slice (l.getD (n-1) qAo).nsA (l.getD (n-1) qAo).ns.length (l.getD (n-1) qAo).nsc]) rfl rfl rfl rfl rfl qHw rfl rfl) rfl rfl λ_ _=>?_
 change J _ _ _ [_,blk g2 [N64 ((l.getD (n-1) qAo).ep),Str ((l.getD (n-1) qAo).par),I (((l.getD (n-1) qAo).dep:Nat):Int),I (((l.getD (n-1) qAo).aud:Nat):Int),.slice (l.getD (n-1) qAo).nsA (l.getD (n-1) qAo).ns.length (l.getD (n-1) qAo).nsc] 52] _
 refine J.c hK2<|J.u 2 ?_
 exact J.D<|J.b2 hw0 (λ_ _ h=>h) (rv1 O (RV.blkA 1 O O isAgg52 qHw)) (qAn () O trivial [0] O (by decide))
theorem qKb(F:Hp)(gm:Nat)(vr:Value)(ls:List Lb)(hm:Fw.MapAt F gm (lbV ls))(hl:LbA F ls)(s:List UInt8)(hn:(qCs (lbE ls) s).length≤1000000)(h0:qCs (lbE ls) s= []):Ct prog 40 [.agg #[.map (some gm),vr],Str (s)] [F] (λ_:Unit=> .tuple #[.agg #[.int .u64 0,Str [],Str [],I 0,Str []],.bool false]) (λ_=>True) (λ_=> [F]):=by
 have hl0:(qCs (lbE ls) s).length=0:=by rw [h0];rfl
 refine Ct.walk func40 rfl ntmps40 rfl (λw0 hw0=>?_)
 change J _ [(0,_),(1,_)] _ _ _
 refine J.g λK1 hK1=>J.k (qAi (l:= [.map (some gm),vr]) O O O) O λg2 _=>?_
 change J _ _ _ [F,blk g2 [.map (some gm),vr] 97] _
 refine J.k (qAN (l:= [.int .u64 0,Str [],Str [],I 0,Str []]) O qUe O) O λg4 _=>?_
 change J _ _ _ [_,_,blk g4 [.int .u64 0,Str [],Str [],I 0,Str []] 43] _
 refine J.b O<|J.c hK1<|J.G 1 2 4 ?_
 refine J.g λK2 hK2=>J.a3 0 qKR qRG O O O O O<|J.f (qAE 1 (v:= .map (some gm)) O O O isAgg93 O) O<|J.b O<|J.f ((qCT (l:=lbV ls) O O O qRI u9_ zeroValue78 (m:=F) (by simp) hm).as (v':= .slice (qS6 ls s) (qCs (lbE ls) s).length (qS5 ls s)) (qRV ls s)) rfl<|J.b rfl<|J.c hK2<|J.E 4 6 ?_
 refine J.j λK3 hK3=>J.g λK4 hK4=>J.b O<|J.f (qAP qFz O O) O<|J.f ((qAY O O O).yes (by omega)) O<|J.c hK4<|J.G 4 6 13 ?_
 refine J.d0 ?_
 refine J.g λK5 hK5=>J.f (qAM (l:= []) (vs:= []) (places:= [(0,1),(1,3),(4,1)]) (r:= [.int .u64 0,Str [],Str [],I 0,Str []]) O O O qKT qUe (λ_=>by kernel_rfl) O) O<|J.b0 (qAI (i:=2) (l:= [.int .u64 0,Str [],Str [],I 0,Str []]) (vs:= [.int .u64 0,Str [],Str [],I 0,Str []]) O O O O O qCR O O) O O λ_ _=>?_
 change J _ _ _ [_,_,_] _
 refine J.b O<|J.c hK5<|J.E 4 5 ?_
 exact J.D<|J.a4<|J.b2 hw0 (λ_ _ h=>h) (rv2 O (RV.blkA 2 O O qFy qCR) O) (qAn () O trivial [0] O (by decide))
theorem qI1(F:Hp)(A:Option Addr)(n c:Nat)(l:List En)(hs:Sl F 5 A n c (qGe l))(hnb:n≤1000000):Ct prog 74 [.slice A n c] [F] (λx:Option Addr×Nat×Hp=> .slice x.1 (l).length x.2.1) (λx=>Row x.2.2 43 5 x.1 (l).length x.2.1 (qGe l)) (λx=> [F,x.2.2]):=by
 have hkn:l.length=n:=by have:=hs.1;simpa [qGe] using this
 refine Ct.walk func74 rfl ntmps74 rfl (λw0 hw0=>?_)
 change J _ [(0,_)] _ _ _
 refine J.g λK1 hK1=>J.b O<|J.c hK1<|J.u 0 ?_
 refine J.j λK2 hK2=>J.g λK3 hK3=>J.b O<|J.f ((qEl qFz O O O).as (v':= .bool (decide (A.isNone=true))) (congrArg Value.bool (by cases A<;>rfl))) rfl<|J.c hK3<|J.E 0 4 ?_
 refine J.a2 O (λh4=>?_) (λh4=>?_)
 ·
  refine J.g λK4 hK4=>J.b O<|J.c hK4<|J.u 2 ?_
  refine J.D<|J.a4 ?_
  have hk0:l= []:=by
   refine List.eq_nil_of_length_eq_zero ?_
   rcases Nat.eq_zero_or_pos n with h|h
   · omega
   · obtain ⟨g,o,rfl⟩:=hs.at h;cases h4
  exact J.d5 [0,1] [F,(λ_=>none)] O (by decide)<|J.M hw0 O (none,0,(λ_=>none)) (by rw [hk0];rfl) (by rw [hk0];exact qBU.nil) [0,1] rfl (by decide)
 refine J.W hK2<|J.u 0 ?_
 refine J.g λK5 hK5=>J.k (qBj O qFz el43) O λg5 _=>?_
 change J _ _ _ [F,blk g5 [] 43] _
 refine J.b O<|J.k (qAW (i:=1) (xs:=qGe ([])) (m2:=F) (ys:=qGe l) O O O qFz qFz el43 O (qAk (q:=True) (xs:=qGe ([])) O (by intro x hx;first|exact absurd hx (List.not_mem_nil)|(rw [List.mem_singleton.1 hx];rfl))) (by simp) (hs) (qSo _) (by omega) (by omega)) rfl ?_
 rintro⟨A7,c7,m7⟩ h7
 try dsimp only at h7
 change J _ ((7,.slice A7 (0+n) c7)::_) _ [_,m7] _
 replace h7:Row m7 43 5 A7 (0+n) c7 (qGe (l)):=h7
 refine J.b O<|J.c hK5<|J.u 2 ?_
 refine J.D ?_
 rw [show 0+n=l.length by omega] at h7
 exact J.M hw0 O (A7,c7,m7) (by rw [←hkn,Nat.zero_add]) h7 [0,1] rfl (by decide)
theorem qNx{L:List Lb}{a b:MP}{p:List UInt8×Value}(h:lbV L=a++p::b): ∃ra x rb,L=ra++x::rb∧a=lbV ra∧p=(x.nm,.slice x.A x.l.length x.c)∧b=lbV rb:=by
 unfold lbV at h
 obtain ⟨l1,l2,rfl,h1,h2⟩:=List.map_eq_append_iff.1 h
 obtain ⟨x,l3,rfl,h3,h4⟩:=List.map_eq_cons_iff.1 h2
 exact⟨l1,x,l3,rfl,h1.symm,h3.symm,h4.symm⟩
theorem qS4(a b:List Lb):lbV (a++b)=lbV a++lbV b:=by unfold lbV;rw [List.map_append]
theorem qNy(a b:List Lb):lbE (a++b)=lbE a++lbE b:=by unfold lbE;rw [List.map_append]
structure CpR where
 g:Nat
 ls:List Lb
 mm:Hp
 M:Hp
 r:Nat
 mr:Hp
structure CpP (ls:List Lb) (au:List Aud) (x:CpR):Prop where
 mp:MapS x.mm x.g (lbV x.ls)
 nx:NxS x.M x.ls
 pm:(lbE x.ls).Perm (lbE ls)
 ro:qO2 x.mr x.r au
theorem qTY{dn ra rb ls:List Lb}{x y:Lb}(hu:qKJ (lbE ls))(h:(lbE dn++lbE (ra++x::rb)).Perm (lbE ls))(h1:y.nm=x.nm)(h2:y.l=x.l):qIk (lbV dn) x.nm=none∧(lbE (dn++ [y])++lbE (ra++rb)).Perm (lbE ls):=by
  have e:lbE (dn++ [y])++lbE (ra++rb)=lbE dn++((y.nm,y.l)::(lbE ra++lbE rb)):=by rw [qHW,qNy,List.append_assoc];rfl
  have e2:lbE dn++lbE (ra++x::rb)=lbE dn++(lbE ra++(x.nm,x.l)::lbE rb):=by rw [qNy];rfl
  rw [e2] at h
  refine⟨?_,?_⟩
  · rw [qEO,Option.map_eq_none_iff,qDI]
    have h3:qKJ (lbE dn++(lbE ra++(x.nm,x.l)::lbE rb)):=(h.map _).nodup_iff.2 hu
    unfold qKJ at h3
    rw [List.map_append,List.nodup_append] at h3
    intro hm
    exact h3.2.2 _ hm _ (List.mem_map.2 ⟨(x.nm,x.l),List.mem_append_right _ (.head _),rfl⟩) rfl
  · rw [e,h1,h2]
    exact(List.Perm.append_left _ List.perm_middle.symm).trans h
theorem qKc(F:Hp)(gm gr:Nat)(ls:List Lb)(hm:Fw.MapAt F gm (lbV ls))(hl:LbA F ls)(hu:qKJ (lbE ls))(hln: ∀x∈ls,x.l.length≤1000000)(RA:Option Addr)(rn rc:Nat)(au:List Aud)(hR:qAL F ⟨gr,0,none⟩ [.slice RA rn rc])(hRs:Sl F 4 RA rn rc (qBK au))(hrn:rn≤1000000):Ct prog 32 [.agg #[.map (some gm),Ptr gr]] [F] (λx:CpR=> .agg #[.map (some x.g),Ptr x.r]) (CpP ls au) (λx=> [F,x.mm,x.M,x.mr]):=by
  obtain ⟨es,ck,hg,hst,hkv⟩:=hm
  refine Ct.walk func32 rfl ntmps32 rfl (λw0 hw0=>?_)
  change J _ [(0,_)] _ _ _
  refine J.g λK1 hK1=>J.k (qAi (l:= [.map (some gm),Ptr gr]) O O O) O λg1 _=>?_
  change J _ _ _ [F,blk g1 [.map (some gm),Ptr gr] 97] _
  refine J.k (qAN (l:= [.map none,.pointer none]) O zeroValue97 O) O λg2 _=>?_
  change J _ _ _ [_,_,blk g2 [.map none,.pointer none] 97] _
  refine J.c hK1<|J.E 1 2 ?_
  refine J.g λK2 hK2=>J.k (qEH O) O ?_
  rintro g6 _
  change J _ ((6,.map (some g6))::_) _ [_,_,_,qAK g6 (.map #[] 0)] _
  refine J.a3 1 qKR sizeOf94 O O O O O<|J.f (qAE 1 (v:=Ptr gr) O O O isAgg94 O) O<|J.k (qAA O O ent50 (Ct.use (new:=λx:Nat×Hp=> [x.2]) (λF' hF=>Ct.swap2 (qPs F' gr RA rn rc au (hRs.mono (hF F (by simp))) (by omega) (hR.mono (hF F (by simp))))))) rfl ?_
  rintro⟨g9,m9⟩ h9
  try dsimp only at h9
  change J _ ((9,Ptr g9)::_) _ [_,_,_,_,m9] _
  refine J.f (qAM (l:= [(0,.tmp 6),(1,.tmp 9)]) (vs:= [.map (some g6),Ptr g9]) (places:= [(0,1),(1,1)]) (r:= [.map (some g6),Ptr g9]) O O O qKR zeroValue97 (λ_=>by kernel_rfl) O) O<|J.k (qAN (l:= [.map none,.pointer none]) O zeroValue97 O) O λg3 _=>?_
  change J _ _ _ [_,_,_,_,_,blk g3 [.map none,.pointer none] 97] _
  refine J.b0 (qAI (i:=5) (l:= [.map none,.pointer none]) (vs:= [.map (some g6),Ptr g9]) O O O O O qFx O O) O O λ_ _=>?_
  change J _ _ _ [_,_,_,_,_,blk g3 [.map (some g6),Ptr g9] 97] _
  refine J.c hK2<|J.G 1 2 3 ?_
  refine J.j λK3 hK3=>J.g λK4 hK4=>J.a3 0 qKR qRG O O O O O<|J.f (qAE 1 (v:= .map (some gm)) O O O isAgg93 O) O<|J.k (qIS O O qRI (m:=F) (by simp) hg hkv) rfl ?_
  rintro⟨g13,mi⟩ hit
  try dsimp only at hit
  change J _ ((13,Ptr g13)::_) _ [_,_,_,_,_,_,mi] _
  refine J.c hK4<|J.G 2 3 13 ?_
  refine J.V<|J.b6 (X:=List Lb×List Lb×Hp×Hp×Hp) (λζ=> [(2,Ptr g2),(3,Ptr g3),(13,Ptr g13)]) (λζ=> [ζ.2.2.2.2,F,blk g1 [.map (some gm),Ptr gr] 97,blk g2 [.map none,.pointer none] 97,m9,blk g3 [.map (some g6),Ptr g9] 97,ζ.2.2.2.1,ζ.2.2.1]) (λζ=>ItM ζ.2.2.1 g13 gm es ck (lbV ζ.1)∧MapS ζ.2.2.2.1 g6 (lbV ζ.2.1)∧NxS ζ.2.2.2.2 ζ.2.1∧(lbE ζ.2.1++lbE ζ.1).Perm (lbE ls)∧ ∀x∈ζ.1,x∈ls) (λζ=>ζ.1.length) (ls,[],mi,qAK g6 (.map #[] 0),(λ_=>none)) (⟨hit,MapS.nil _,NxS.nil,List.Perm.refl _,λ_ h=>h⟩) ⟨O,O,O,trivial⟩ (λ_ h=>h.empty.pick [7,0,1,2,4,5,3,6] (by decide)) ?_
  rintro⟨rem,dn,mi,mm,M⟩ ⟨hit,hmp,hnxs,hpm,hsub⟩ I0 hI0
  dsimp only at hit hmp hnxs hpm hsub⊢
  refine J.g λK5 hK5=>J.k (qKp (i:=7) O O (m:=F) (by simp) hg hst rfl hit) rfl ?_
  rintro⟨on,mj⟩ hnx
  try dsimp only at hnx
  change J _ ((14,nxtM on)::_) _ [M,F,blk g1 [.map (some gm),Ptr gr] 97,blk g2 [.map none,.pointer none] 97,m9,blk g3 [.map (some g6),Ptr g9] 97,mm,mj] _
  refine J.f ((qAa (vs:=nxtA on) (v:= .bool on.isSome) O (congrArg some (qNe on)) (qRR on))) O<|J.c hK5<|J.O 2 3 13 15 ?_
  refine J.j λK6 hK6=>J.d6 O (λh15=>?_) (λh15=>?_)
  ·
    obtain ⟨x,ra,rb,rfl,hrem,hl2⟩: ∃x ra rb,on=some (x.nm,Value.slice x.A x.l.length x.c)∧rem=ra++x::rb∧ItL mj g13 gm es ck (lbV (ra++rb)) (x.nm,Value.slice x.A x.l.length x.c):=by
      rcases hnx with ⟨h1,_,_⟩|⟨p,a,b,h1,h2,h3⟩
      · rw [h1] at h15;cases h15
      · obtain ⟨ra,x,rb,e1,rfl,rfl,rfl⟩:=qNx h2
        exact⟨x,ra,rb,h1,e1,by rw [qS4];exact h3⟩
    rw [hrem] at hpm hsub
    have hxm:x∈ls:=hsub x (List.mem_append_right _ (.head _))
    have hxl:=hl x hxm
    have hxn:=hln x hxm
    refine J.W hK6<|J.G 2 3 13 ?_
    refine J.V<|J.g λK7 hK7=>J.f ((qIU (m:=F) (mi:=mj) (p:=(x.nm,.slice x.A x.l.length x.c)) O O (by simp) hg hst (by simp) hl2)) rfl<|J.f ((qAa (v:=Str x.nm) rfl rfl rfl)) rfl<|J.f ((qAa (v:= .slice x.A x.l.length x.c) rfl rfl rfl)) rfl<|J.p 2 rfl<|J.c hK7<|J.a0 2 3 4 5 13 ?_
    have hstp:=λy=>qTY (y:=y) hu hpm
    refine J.c1 [blk g3 [.map (some g6),Ptr g9] 97,F] [5] (.y 0 (.y 1 (.y 2 (.y 3 (.e 4 (.e 5 .nil)))))) Tryz.wide (by decide+kernel) (by simp) ?_
    refine J.q O (qAB (j:=0) O O qKR O qRG O) O O<|J.q O (qAE 0 (v:= .map (some g6)) O O O isAgg93 O) O O<|J.T ?_
    refine J.T ?_
    refine J.a9 O (qAA O O ent74 (Ct.use (new:=λx:Option Addr×Nat×Hp=> [x.2.2]) (λF' hF=>qI1 F' x.A x.l.length x.c x.l (hxl.mono (hF F (by simp))) (by first|omega|assumption)))) rfl (by simp) ?_
    rintro⟨A23,c23,m23⟩ h23
    try dsimp only at h23
    change J _ ((23,.slice A23 (x.l).length c23)::_) _ [_,_,_,_,_,_,_,_,m23] _
    refine J.d3 O (qCJ (i:=6) (s:=x.nm) (u:= .slice A23 x.l.length c23) (l:=lbV dn) O O O O qRI u9_ O hmp) O O O ?_
    rintro mu hmu
    change J _ _ _ [_,_,_,_,_,_,mu,_,_] _
    rw [qHC (hstp ⟨x.nm,A23,c23,x.l,m23⟩ rfl rfl).1,←qHV dn ⟨x.nm,A23,c23,x.l,m23⟩] at hmu
    refine J.c8 [0,8,1,2,3,4,5,6,7] [M,m23,F,blk g1 [.map (some gm),Ptr gr] 97,blk g2 [.map none,.pointer none] 97,m9,blk g3 [.map (some g6),Ptr g9] 97,mu,mj] O (by decide)<|J.e4 (λhj=>?_)
    exact J.b9<|J.a6<|J.A<|J.a8 (ra++rb,dn++ [⟨x.nm,A23,c23,x.l,m23⟩],mj,mu,U [M,m23]) (λη (hη:_∧η.1.length<rem.length)=>hI0 η hη.1 hη.2) ⟨⟨hl2.it,hmu,hnxs.snoc h23 hj,(hstp ⟨x.nm,A23,c23,x.l,m23⟩ rfl O).2,λy hy=>hsub y (by rcases List.mem_append.1 hy with h|h;exact List.mem_append_left _ h;exact List.mem_append_right _ (.tail _ h))⟩,by dsimp only;rw [hrem,List.length_append,List.length_append,List.length_cons];omega⟩ ⟨rfl,rfl,rfl,trivial⟩ (λ_ h=>h)
  obtain rfl:rem= []:=by
    rcases hnx with ⟨_,h1,_⟩|⟨p,a,b,h1,_⟩
    · cases rem with
      |nil=>rfl
      |cons x r=>cases h1
    · rw [h1] at h15;cases h15
  refine J.b4<|J.a1<|J.a1<|J.b5 ?_
  refine J.A (J.H hK3 ?_)
  refine J.E 2 3 ?_
  refine J.g λK8 hK8=>J.c9 5 isAgg97 qFx O O O O O<|J.b0 (qAI (i:=3) (l:= [.map none,.pointer none]) (vs:= [.map (some g6),Ptr g9]) O O O O O qFx O O) O O λ_ _=>?_
  change J _ _ _ [M,F,blk g1 [.map (some gm),Ptr gr] 97,blk g2 [.map (some g6),Ptr g9] 97,m9,blk g3 [.map (some g6),Ptr g9] 97,mm,mj] _
  refine J.c hK8<|J.u 2 ?_
  refine J.D ?_
  rw [show lbE dn++lbE []=lbE dn from List.append_nil _] at hpm
  exact J.b2 hw0 (λ_ _ h=>h) (rv1 O (RV.blkA 3 O O isAgg97 qFx)) (qAn (⟨g6,dn,mm,M,g9,m9⟩:CpR) O ⟨hmp,hnxs,hpm,h9⟩ [1,6,0,4] O (by decide))
theorem ent87:qAD prog 87:=qAD.of func87 rfl (by kernel_rfl)
theorem ent88:qAD prog 88:=qAD.of func88 rfl (by kernel_rfl)
theorem ent114:qAD prog 114:=qAD.of func114 rfl (by kernel_rfl)
theorem el52:qCQ prog 52 [.int .u64 0,Str [],.int .i64 0,.int .i64 0,.slice none 0 0] 64:=qCQ.of (by kernel_rfl) rfl
theorem el103:qCQ prog 103 [.pointer none] 8:=qCQ.of (by kernel_rfl) rfl
theorem el122:qCQ prog 122 [Str [],Str []] 32:=qCQ.of (by kernel_rfl) rfl
structure WtR where
 cA:Option Addr
 cc:Nat
 mC:Hp
 oA:Option Addr
 oc:Nat
 mO:Hp
theorem qKZ(F mC mO:Hp)(gs:Nat)(v0 v1 v2 v3 v4 v5 v6 v9 v10:Value)(cA:Option Addr)(cc:Nat)(cl:List Chg)(hrc:Row mC 122 2 cA cl.length cc (qCW cl))(hcl:cl.length≤100000)(oA:Option Addr)(oc:Nat)(no:List (List UInt8))(hro:Row mO 9 1 oA no.length oc (qAG no))(hno:no.length≤100000)(nt k v:List UInt8):Ct prog 43 [Ptr gs,Str nt,.agg #[Str k,Str v]] [blk gs [v0,v1,v2,v3,v4,v5,v6,.slice cA cl.length cc,.slice oA no.length oc,v9,v10] 102,mC,mO,F] (λ_:WtR=> .tuple #[]) (λx=>Row x.mC 122 2 x.cA (cl++ [(⟨k,v⟩:Chg)]).length x.cc (qCW (cl++ [(⟨k,v⟩:Chg)]))∧Row x.mO 9 1 x.oA (no++ [nt]).length x.oc (qAG (no++ [nt]))) (λx=> [blk gs [v0,v1,v2,v3,v4,v5,v6,.slice x.cA (cl++ [(⟨k,v⟩:Chg)]).length x.cc,.slice x.oA (no++ [nt]).length x.oc,v9,v10] 102,x.mC,x.mO,F]):=by
 refine Ct.walk func43 rfl ntmps43 rfl (λw0 hw0=>?_)
 change J _ [(0,_),(1,_),(2,_)] _ _ _
 refine J.g λK1 hK1=>J.k (qAi (l:= [Str (k),Str (v)]) O O O) O λg5 _=>?_
 change J _ _ _ [blk gs [v0,v1,v2,v3,v4,v5,v6,.slice cA cl.length cc,.slice oA no.length oc,v9,v10] 102,mC,mO,F,blk g5 [Str (k),Str (v)] 122] _
 refine J.c hK1<|J.G 0 1 5 ?_
 refine J.g λK2 hK2=>J.p 2 O<|J.f (qAC O O) O<|J.a3 8 qA7 qBf O O O O O<|J.f (qAE 0 (v:= .slice oA no.length oc) O O O qBo O) O<|J.b O<|J.k (qAF (l:= [.tmp 11]) (xs:= [[Str (nt)]]) O O O O qAe el9 O (by decide) (by decide) (by simp)) rfl λg12 _=>?_
 change J _ _ _ [_,_,_,_,_,blk g12 [Str (nt)] 9] _
 refine J.k (qAW (i:=2) (xs:=qAG no) (m2:=blk g12 [Str (nt)] 9) (ys:= [[Str (nt)]]) O O O qAe qAe el9 O hro (by simp) ((qA4 (q:=True) (qAG [nt]) rfl (by simp [qAG]) rfl).sl) rfl (by omega) (by omega)) rfl ?_
 rintro⟨A13,c13,m13⟩ h13
 try dsimp only at h13
 change J _ ((13,.slice A13 (no.length+1) c13)::_) _ [_,_,m13,_,_,_] _
 replace h13:Row m13 9 1 A13 (no.length+1) c13 (qAG (no++ [nt])):=by rw [qBg];exact h13
 rw [show no.length+1=(no++ [nt]).length by rw [List.length_append];rfl] at h13⊢
 refine J.f (qAC O O) O<|J.a3 8 qA7 qBf O O O O O<|J.b0 (qAZ (i:=0) (l:= [v0,v1,v2,v3,v4,v5,v6,.slice cA cl.length cc,.slice oA no.length oc,v9,v10]) (vs:= [.slice A13 ((no++ [nt]).length) c13]) O O O O O qBf O (by simp)) rfl rfl λ_ _=>?_
 change J _ _ _ [blk gs [v0,v1,v2,v3,v4,v5,v6,.slice cA cl.length cc,.slice A13 ((no++ [nt]).length) c13,v9,v10] 102,_,_,_,_,_] _
 refine J.c hK2<|J.E 0 5 ?_
 refine J.c1 [blk gs [v0,v1,v2,v3,v4,v5,v6,.slice cA cl.length cc,.slice A13 ((no++ [nt]).length) c13,v9,v10] 102,blk g5 [Str (k),Str (v)] 122] [10] (.y 0 (.y 1 (.y 2 (.y 3 (.y 4 (.y 5 (.e 6 (.e 7 (.y 8 (.y 9 (.e 10 .nil))))))))))) Tryz.wide (by decide+kernel) (by simp) ?_
 refine J.T ?_
 refine J.T ?_
 refine J.q O (qAC O O) O O<|J.q O (qAB (j:=7) O O qA7 O sizeOf99 O) O O<|J.q O (qAE 0 (v:= .slice cA cl.length cc) O O O isAgg99 O) O O<|J.q O (qAy 1 O O O isAgg122 qEa O) O O<|J.a9 O (qAF (l:= [.tmp 21]) (xs:= [[Str (k),Str (v)]]) O O O O qMH el122 O (by decide) (by decide) (by simp)) rfl (by simp) λg22 _=>?_
 change J _ _ _ [_,_,_,_,_,_,blk g22 [Str (k),Str (v)] 122] _
 refine J.a9 O (qAW (i:=1) (xs:=qCW cl) (m2:=blk g22 [Str (k),Str (v)] 122) (ys:= [[Str (k),Str (v)]]) O O O qMH qMH el122 O hrc (by simp) ((qAk (q:=True) (xs:=qCW [(⟨k,v⟩:Chg)]) rfl (by intro x hx;rw [List.mem_singleton.1 hx];rfl)).sl) rfl (by omega) (by omega)) rfl (by simp) ?_
 rintro⟨A23,c23,m23⟩ h23
 try dsimp only at h23
 change J _ ((23,.slice A23 (cl.length+1) c23)::_) _ [_,m23,_,_,_,_,_] _
 replace h23:Row m23 122 2 A23 (cl.length+1) c23 (qCW (cl++ [(⟨k,v⟩:Chg)])):=by rw [qGh];exact h23
 rw [show cl.length+1=(cl++ [(⟨k,v⟩:Chg)]).length by rw [List.length_append];rfl] at h23⊢
 refine J.q O (qAC O O) O O<|J.q O (qAB (j:=7) O O qA7 O sizeOf99 O) O O<|J.d3 O (qAZ (i:=0) (l:= [v0,v1,v2,v3,v4,v5,v6,.slice cA cl.length cc,.slice A13 ((no++ [nt]).length) c13,v9,v10]) (vs:= [.slice A23 ((cl++ [(⟨k,v⟩:Chg)]).length) c23]) O O O O O sizeOf99 O (by simp)) rfl rfl rfl λ_ _=>?_
 change J _ _ _ [blk gs [v0,v1,v2,v3,v4,v5,v6,.slice A23 ((cl++ [(⟨k,v⟩:Chg)]).length) c23,.slice A13 ((no++ [nt]).length) c13,v9,v10] 102,_,_,_,_,_,_] _
 exact J.b9<|J.e0 hw0 (λ_ _ h=>h) (qHr O) (qAn (⟨A23,c23,m23,A13,c13,m13⟩:WtR) O ⟨h23,h13⟩ [0,1,2,3] O (by decide))
structure AdR where
 nA:Option Addr
 nc:Nat
 mN:Hp
 tA:Option Addr
 tc:Nat
 mT:Hp
 hA:Option Addr
 hc:Nat
 mH:Hp
def adH(par:List UInt8)(dp rn:Nat)(hd:List RhD)(kv:List Sm.PR)(A:Option Addr)(c:Nat):RhD:=⟨hd.length,par,dp,rn,A,c,qAg kv dp⟩
structure AdP (par:List UInt8) (dp rn gt:Nat) (tg:List Nat) (hd:List RhD) (kv:List Sm.PR) (x:AdR):Prop where
 nd:Row x.mN 9 1 x.nA (qAg kv dp).length x.nc (qAG (qAg kv dp))
 rt:Row x.mT 103 1 x.tA (tg++ [gt]).length x.tc (qCu (tg++ [gt]))
 rh:Row x.mH 52 5 x.hA (hd++ [adH par dp rn hd kv x.nA x.nc]).length x.hc (qIH (hd++ [adH par dp rn hd kv x.nA x.nc]))
theorem qM2(F mT mH:Hp)(hK:KF F)(gs dp rB:Nat)(v1 v2 v3 v4 v5 v7 v8:Value)(tA:Option Addr)(tc:Nat)(tg:List Nat)(hrt:Row mT 103 1 tA tg.length tc (qCu tg))(htg:tg.length≤100000)(hA:Option Addr)(hc:Nat)(hd:List RhD)(hrh:Row mH 52 5 hA hd.length hc (qIH hd))(hhd:hd.length≤100000)(hdp:dp≤4)(gt:Nat)(kv:List Sm.PR)(hT:qCF F gt kv)(hf:qCI kv)(RA:Option Addr)(rn rc:Nat)(au:List Aud)(hR:qAL F ⟨rB,0,none⟩ [.slice RA rn rc])(hRs:Sl F 4 RA rn rc (qBK au))(par:List UInt8):Ct prog 33 [Ptr gs,Ptr gt,Str par] [blk gs [I ((dp:Nat):Int),v1,v2,v3,v4,v5,Ptr rB,v7,v8,.slice tA tg.length tc,.slice hA hd.length hc] 102,mT,mH,F] (λ_:AdR=> .tuple #[]) (AdP par dp rn gt tg hd kv) (λx=> [blk gs [I ((dp:Nat):Int),v1,v2,v3,v4,v5,Ptr rB,v7,v8,.slice x.tA (tg++ [gt]).length x.tc,.slice x.hA (hd++ [adH par dp rn hd kv x.nA x.nc]).length x.hc] 102,x.mT,x.mH,F,x.mN]):=by
 refine Ct.walk func33 rfl ntmps33 rfl (λw0 hw0=>?_)
 change J _ [(0,_),(1,_),(2,_)] _ _ _
 refine J.g λK1 hK1=>J.p 2 O<|J.f (qAC O O) O<|J.a3 0 qA7 z3_ O O O O O<|J.f (qAE 0 (v:=I ((dp:Nat):Int)) O O O b3_ O) O<|J.k (qAA O O ent87 (Ct.use (new:=λx:Option Addr×Nat×Hp=> [x.2.2]) (λF' hF=>qOi F' (hK.mo hF) gt kv (hT.mono (hF F (by simp))) (by assumption) dp (by omega)))) rfl ?_
 rintro⟨A14,c14,m14⟩ h14
 try dsimp only at h14
 change J _ ((14,.tuple #[.slice A14 (qAg kv dp).length c14,I ((0:Nat):Int)])::_) _ [blk gs [I ((dp:Nat):Int),v1,v2,v3,v4,v5,Ptr rB,v7,v8,.slice tA tg.length tc,.slice hA hd.length hc] 102,mT,mH,F,m14] _
 refine J.p 5 O<|J.c hK1<|J.O 0 1 2 6 ?_
 refine J.g λK2 hK2=>J.p 2 O<|J.f (qAC O O) O<|J.a3 9 qA7 sizeOf100 O O O O O<|J.f (qAE 0 (v:= .slice tA tg.length tc) O O O isAgg100 O) O<|J.b O<|J.k (qAF (l:= [.tmp 22]) (xs:= [[Ptr gt]]) O O O O qMh el103 O (by decide) (by decide) (by simp)) rfl λg23 _=>?_
 change J _ _ _ [_,_,_,_,_,blk g23 [Ptr gt] 103] _
 refine J.k (qAW (i:=1) (xs:=qCu tg) (m2:=blk g23 [Ptr gt] 103) (ys:= [[Ptr gt]]) O O O qMh qMh el103 O hrt (by simp) ((qA4 (q:=True) (qCu [gt]) rfl (by simp [qCu]) rfl).sl) rfl (by omega) (by omega)) rfl ?_
 rintro⟨A24,c24,m24⟩ h24
 try dsimp only at h24
 change J _ ((24,.slice A24 (tg.length+1) c24)::_) _ [_,m24,_,_,_,_] _
 replace h24:Row m24 103 1 A24 (tg.length+1) c24 (qCu (tg++ [gt])):=by rw [qLm];exact h24
 rw [show tg.length+1=(tg++ [gt]).length by rw [List.length_append];rfl] at h24⊢
 refine J.f (qAC O O) O<|J.a3 9 qA7 sizeOf100 O O O O O<|J.b0 (qAZ (i:=0) (l:= [I ((dp:Nat):Int),v1,v2,v3,v4,v5,Ptr rB,v7,v8,.slice tA tg.length tc,.slice hA hd.length hc]) (vs:= [.slice A24 ((tg++ [gt]).length) c24]) O O O O O sizeOf100 O (by simp)) rfl rfl λ_ _=>?_
 change J _ _ _ [blk gs [I ((dp:Nat):Int),v1,v2,v3,v4,v5,Ptr rB,v7,v8,.slice A24 ((tg++ [gt]).length) c24,.slice hA hd.length hc] 102,_,_,_,_,_] _
 refine J.c hK2<|J.G 0 2 6 ?_
 refine J.c1 [blk gs [I ((dp:Nat):Int),v1,v2,v3,v4,v5,Ptr rB,v7,v8,.slice A24 ((tg++ [gt]).length) c24,.slice hA hd.length hc] 102] [28] (.y 0 (.y 1 (.y 2 (.y 3 (.y 4 (.y 5 (.y 6 (.y 7 (.y 8 (.y 9 (.y 10 (.y 11 (.y 12 (.y 13 (.y 14 (.y 15 (.y 16 (.y 17 (.y 18 (.y 19 (.y 20 (.y 22 (.e 21 (.y 23 (.e 24 (.e 25 (.y 26 (.y 27 (.e 28 .nil))))))))))))))))))))))))))))) Tryz.wide (by decide+kernel) (by simp) ?_
 refine J.T ?_
 refine J.T ?_
 refine J.q O (qAC O O) O O<|J.q O (qAB (j:=10) O O qA7 O sizeOf67 O) O O<|J.q O (qAE 0 (v:= .slice hA hd.length hc) O O O isAgg67 O) O O<|J.T ?_
 refine J.q O (qAC O O) O O<|J.q O (qAB (j:=10) O O qA7 O sizeOf67 O) O O<|J.q O (qAE 0 (v:= .slice hA hd.length hc) O O O isAgg67 O) O O<|J.q O (qAP qRs O O) O O<|J.q O (qEI (m:=hd.length) O O u3_ qEi (by omega)) O O<|J.T ?_
 refine J.T ?_
 refine J.q O (qAC O O) O O<|J.q O (qAB (j:=0) O O qA7 O z3_ O) O O<|J.q O (qAE 0 (v:=I ((dp:Nat):Int)) O O O b3_ O) O O<|J.T ?_
 refine J.q O (qAC O O) O O<|J.q O (qAB (j:=5) O O qA7 O qFx O) O O<|J.q O (qAB (j:=6) O O qKR O sizeOf94 O) O O<|J.q O (qAE 0 (v:=Ptr rB) O O O isAgg94 O) O O<|J.T ?_
 refine J.a9 O (qAA O O ent88 (Ct.use0 (λF' hF=>qPk F' rB RA rn rc (hR.mono (hF F (by simp)))))) rfl (by simp) λg48 _=>J.q rfl (qAM (l:= [(0,.tmp 37),(1,.tmp 38),(2,.tmp 42),(3,.tmp 48),(4,.tmp 49)]) (vs:= [N64 (hd.length),Str (par),I ((dp:Nat):Int),I ((rn:Nat):Int),.slice A14 ((qAg kv dp).length) c14]) (places:= [(0,1),(1,1),(2,1),(3,1),(4,1)]) (r:= [N64 (hd.length),Str (par),I ((dp:Nat):Int),I ((rn:Nat):Int),.slice A14 ((qAg kv dp).length) c14]) rfl rfl rfl qGx qRe (λ_=>by kernel_rfl) rfl) rfl rfl<|J.a9 rfl (qAF (l:= [.tmp 50]) (xs:= [[N64 (hd.length),Str (par),I ((dp:Nat):Int),I ((rn:Nat):Int),.slice A14 ((qAg kv dp).length) c14]]) rfl rfl rfl rfl qRs el52 rfl (by decide) (by decide) (by simp)) rfl (by simp) λg51 _=>?_
 change J _ _ _ [_,_,_,_,_,_,blk g51 [N64 (hd.length),Str (par),I ((dp:Nat):Int),I ((rn:Nat):Int),.slice A14 ((qAg kv dp).length) c14] 52] _
 refine J.a9 O (qAW (i:=2) (xs:=qIH hd) (m2:=blk g51 [N64 (hd.length),Str (par),I ((dp:Nat):Int),I ((rn:Nat):Int),.slice A14 ((qAg kv dp).length) c14] 52) (ys:= [[N64 (hd.length),Str (par),I ((dp:Nat):Int),I ((rn:Nat):Int),.slice A14 ((qAg kv dp).length) c14]]) O O O qRs qRs el52 O hrh (by simp) ((qAk (q:=True) (xs:=qIH [(⟨hd.length,par,dp,rn,A14,c14,(qAg kv dp)⟩:RhD)]) rfl (by intro x hx;rw [List.mem_singleton.1 hx];rfl)).sl) rfl (by omega) (by omega)) rfl (by simp) ?_
 rintro⟨A52,c52,m52⟩ h52
 try dsimp only at h52
 change J _ ((52,.slice A52 (hd.length+1) c52)::_) _ [_,_,m52,_,_,_,_] _
 replace h52:Row m52 52 5 A52 (hd.length+1) c52 (qIH (hd++ [(adH par dp rn hd kv A14 c14)])):=by rw [qM8];exact h52
 rw [show hd.length+1=(hd++ [(adH par dp rn hd kv A14 c14)]).length by rw [List.length_append];rfl] at h52⊢
 refine J.q O (qAC O O) O O<|J.q O (qAB (j:=10) O O qA7 O sizeOf67 O) O O<|J.d3 O (qAZ (i:=0) (l:= [I ((dp:Nat):Int),v1,v2,v3,v4,v5,Ptr rB,v7,v8,.slice A24 ((tg++ [gt]).length) c24,.slice hA hd.length hc]) (vs:= [.slice A52 ((hd++ [(adH par dp rn hd kv A14 c14)]).length) c52]) O O O O O sizeOf67 O (by simp)) rfl rfl rfl λ_ _=>?_
 change J _ _ _ [blk gs [I ((dp:Nat):Int),v1,v2,v3,v4,v5,Ptr rB,v7,v8,.slice A24 ((tg++ [gt]).length) c24,.slice A52 ((hd++ [(adH par dp rn hd kv A14 c14)]).length) c52] 102,_,_,_,_,_,_] _
 exact J.b9<|J.e0 hw0 (λ_ _ h=>h) (qHr O) (qAn (⟨A14,c14,m14,A24,c24,m24,A52,c52,m52⟩:AdR) O ⟨h14,h24,h52⟩ [0,1,2,3,4] O (by decide))
theorem qIA(F:Hp)(gs:Nat)(v0 v1 v2 v3 v4 v5 v6 v7 v8 v9:Value)(A:Option Addr)(n c:Nat)(l:List RhD)(hs:Sl F 5 A n c (qIH l))(h0:0<n)(hn:n≤1000000)(hp:qAL F ⟨gs,0,none⟩ [v0,v1,v2,v3,v4,v5,v6,v7,v8,v9,.slice A n c]):Ct prog 48 [Ptr gs] [F] (λ_:Unit=> .agg #[N64 ((l.getD (n-1) qAo).ep),Str ((l.getD (n-1) qAo).par),I (((l.getD (n-1) qAo).dep:Nat):Int),I (((l.getD (n-1) qAo).aud:Nat):Int),.slice (l.getD (n-1) qAo).nsA (l.getD (n-1) qAo).ns.length (l.getD (n-1) qAo).nsc]) (λ_=>True) (λ_=> [F]):=by
 refine Ct.walk func48 rfl ntmps48 rfl (λw0 hw0=>?_)
 change J _ [(0,_)] _ _ _
 refine J.g λK1 hK1=>J.k (qAN (l:= [.int .u64 0,Str [],I 0,I 0,.slice none 0 0]) O qRe O) O λg2 _=>?_
 change J _ _ _ [F,blk g2 [.int .u64 0,Str [],I 0,I 0,.slice none 0 0] 52] _
 refine J.c hK1<|J.E 0 2 ?_
 refine J.g λK2 hK2=>J.b O<|J.f (qAC O O) O<|J.a3 10 qA7 sizeOf67 O O O O O<|J.f (qAJ (v:= .slice A n c) O O isAgg67 (m:=F) (by simp) (hp.at (i:=10) rfl)) rfl<|J.k (qAA rfl rfl ent114 (Ct.use0 (λF' hF=>qPK F' A n c l (hs.mono (hF F (by simp))) (by omega) (by omega)))) rfl λg7 _=>J.b0 (qAI (i:=1) (l:= [.int .u64 0,Str [],I 0,I 0,.slice none 0 0]) (vs:= [N64 ((l.getD (n-1) qAo).ep),Str ((l.getD (n-1) qAo).par),I (((l.getD (n-1) qAo).dep:Nat):Int),I (((l.getD (n-1) qAo).aud:Nat):Int),.slice (l.getD (n-1) qAo).nsA (l.getD (n-1) qAo).ns.length (l.getD (n-1) qAo).nsc]) rfl rfl rfl rfl rfl qHw rfl rfl) rfl rfl λ_ _=>?_
 change J _ _ _ [_,blk g2 [N64 ((l.getD (n-1) qAo).ep),Str ((l.getD (n-1) qAo).par),I (((l.getD (n-1) qAo).dep:Nat):Int),I (((l.getD (n-1) qAo).aud:Nat):Int),.slice (l.getD (n-1) qAo).nsA (l.getD (n-1) qAo).ns.length (l.getD (n-1) qAo).nsc] 52] _
 refine J.c hK2<|J.u 2 ?_
 exact J.D<|J.b2 hw0 (λ_ _ h=>h) (rv1 O (RV.blkA 1 O O isAgg52 qHw)) (qAn () O trivial [0] O (by decide))
theorem ent111:qAD prog 111:=qAD.of func111 rfl (by kernel_rfl)
def cmB(n e:Nat):List UInt8:= [99]++(Sha.numB (UInt64.ofNat n) 2++Sha.numB (UInt64.ofNat e) 4)
theorem qOU(n e:Nat):(cmB n e).length=7:=by unfold cmB;simp only [List.length_append,Sha.numB_length,List.length_singleton]
def qCU(l:List (List UInt8)):Nat:=(l.map λr=>qBM r.length).sum
theorem qB0(l:List (List UInt8))(s:List UInt8):qCU (l++ [s])=qCU l+qBM s.length:=by unfold qCU;rw [List.map_append,List.sum_append];rfl
theorem qH7(l:List (List UInt8)){i:Nat}(h:i<l.length):l.take (i+1)=l.take i++ [l.getD i []]:=by
 rw [List.take_add_one,List.getElem?_eq_getElem h,List.getD_eq_getElem?_getD,List.getElem?_eq_getElem h];rfl
theorem qGV{l:List (List UInt8)}{i:Nat}(h:i<l.length):qCU (l.take (i+1))=qCU (l.take i)+qBM (l.getD i []).length:=by rw [qH7 l h,qB0]
theorem qKy{l:List (List UInt8)}{i:Nat}:qCU (l.take i)≤qCU l:=by
 unfold qCU
 induction l generalizing i with
 |nil=>simp
 |cons a l ih=>
  cases i with
  |zero=>simp
  |succ i=>
   rw [List.take_succ_cons,List.map_cons,List.map_cons,List.sum_cons,List.sum_cons]
   have:=ih (i:=i);omega
structure CbL (x y:CbR) (l:List (List UInt8)):Prop where
 gd:y.gd=x.gd
 f0:y.f0=x.f0
 sz:y.size=x.size
 e:y.e=x.e+qCU l
 R:y.R=x.R++l
 ln:y.d.last.length=x.d.last.length
theorem CbL.nil(x:CbR):CbL x x []:=⟨rfl,rfl,rfl,rfl,(List.append_nil _).symm,rfl⟩
theorem CbL.snoc{x y z:CbR}{l:List (List UInt8)}{s:List UInt8}(h:CbL x y l)(hs:CbN y z s):CbL x z (l++ [s]):=
 ⟨hs.gd.trans h.gd,hs.f0.trans h.f0,hs.sz.trans h.sz,by rw [hs.e,h.e,qB0,Nat.add_assoc],by rw [hs.R,h.R,List.append_assoc],hs.ln.trans h.ln⟩
theorem qK0{l:List (List UInt8)}{i:Nat}(h:i<l.length):l.getD i []∈l:=by
 rw [List.getD_eq_getElem?_getD,List.getElem?_eq_getElem h];exact List.getElem_mem h
structure WrR where
 x:CbR
 md:Hp
 N:Hp
theorem qMn(F md N:Hp)(hK:KF F)(gs gb:Nat)(v0 v2 v3 v4 v5 v6 v7 v9:Value)(oA:Option Addr)(oc:Nat)(no:List (List UInt8))(hsO:Sl F 1 oA no.length oc (qAG no))(hno:no.length≤256)(h9: ∀s∈no,s.length≤900)(hA:Option Addr)(hn hc:Nat)(hhn:hn≤100000)(hp:qAL F ⟨gs,0,none⟩ [v0,Ptr gb,v2,v3,v4,v5,v6,v7,.slice oA no.length oc,v9,.slice hA hn hc])(x:CbR)(hb:CbP N md x)(hfit:x.e+qCU (no++ [cmB no.length hn])≤x.size)(hsz:x.size≤100000)(hR:x.R.length+no.length<65535):Ct prog 46 [Ptr gs] [x.blk gb,md,N,F] (λ_:WrR=>I ((0:Nat):Int)) (λy=>CbP y.N y.md y.x∧CbL x y.x (no++ [cmB no.length hn])) (λy=> [y.x.blk gb,y.md,y.N,F]):=by
 refine Ct.walk func46 rfl ntmps46 rfl (λw0 hw0=>?_)
 change J _ [(0,_)] _ _ _
 refine J.g λK1 hK1=>J.b O<|J.c hK1<|J.u 0 ?_
 refine J.g λK2 hK2=>J.k (qAN (l:= [.pointer none,.slice none 0 0,I 0]) O qJ8 O) O λg3 _=>?_
 change J _ _ _ [x.blk gb,md,N,F,blk g3 [.pointer none,.slice none 0 0,I 0] 133] _
 refine J.c hK2<|J.E 0 3 ?_
 refine J.j λK3 hK3=>J.c1 [F] [] (.y 0 (.y 1 (.y 2 (.y 3 (.y 4 (.y 5 (.y 7 (.y 8 (.y 9 (.y 10 (.y 11 (.y 12 (.e 6 (.e 13 (.e 14 (.y 15 (.y 16 (.y 17 (.y 18 (.y 19 .nil)))))))))))))))))))) Tryz.wide (by decide+kernel) (by simp) ?_
 refine J.T ?_
 refine J.q O (qAC O O) O O<|J.q O (qAB (j:=8) O O qA7 O qBf O) O O<|J.q O (qAJ (v:= .slice oA no.length oc) O O qBo (m:=F) (by simp) (hp.at (i:=8) rfl)) rfl rfl<|J.q rfl (qAP qAe rfl rfl) rfl rfl<|J.q rfl (qEI (m:=no.length) rfl rfl u3_ qEi (by omega)) rfl rfl<|J.T ?_
 refine J.q O (qAC O O) O O<|J.q O (qAB (j:=10) O O qA7 O sizeOf67 O) O O<|J.q O (qAJ (v:= .slice hA hn hc) O O isAgg67 (m:=F) (by simp) (hp.at (i:=10) rfl)) rfl rfl<|J.q rfl (qAP qRs rfl rfl) rfl rfl<|J.q rfl (qEI (m:=hn) rfl rfl u3_ qEi (by omega)) rfl rfl<|J.a9 rfl (qAA rfl rfl ent108 (Ct.use1 4 (m':=λx:Hp=>x) (new:=λ_=> []) rfl (λF' hF=>qNg F' (blk g3 [.pointer none,.slice none 0 0,I 0] 133) g3 ([]) (wtrN g3) (by first|decide|omega|(simp only [List.length_append,List.length_cons,List.length_nil,List.length_singleton,Sha.numB_length,qER]<;>omega)) no.length 2 (by decide) (by decide) (by first|decide|omega|assumption)))) rfl (by simp) ?_
 rintro m20 hw20
 change J _ ((20,Ptr g3)::_) _ [_,_,_,_,m20] _
 rw [List.nil_append] at hw20
 refine J.a9 O (qAA O O ent108 (Ct.use1 4 (m':=λx:Hp=>x) (new:=λ_=> []) O (λF' hF=>qNg F' m20 g3 (Sha.numB (UInt64.ofNat no.length) 2) hw20 (by first|decide|omega|(simp only [List.length_append,List.length_cons,List.length_nil,List.length_singleton,Sha.numB_length,qER]<;>omega)) hn 4 (by decide) (by decide) (by first|decide|omega|assumption)))) rfl (by simp) ?_
 rintro m27 hw27
 change J _ ((27,Ptr g3)::_) _ [_,_,_,_,m27] _
 refine J.a9 O (qAA O O ent54 (Ct.use1 4 (m':=λx:Hp=>x) (new:=λ_=> []) O (λF' hF=>qI4 F' m27 g3 (Sha.numB (UInt64.ofNat no.length) 2++Sha.numB (UInt64.ofNat hn) 4) hw27 (by first|decide|omega|(simp only [List.length_append,List.length_cons,List.length_nil,List.length_singleton,Sha.numB_length,qER]<;>omega))))) rfl (by simp) ?_
 rintro m28 hw28
 change J _ ((28,.tuple #[Str (Sha.numB (UInt64.ofNat no.length) 2++Sha.numB (UInt64.ofNat hn) 4),I ((0:Nat):Int)])::_) _ [_,_,_,_,m28] _
 refine J.T ?_
 refine J.d9 (Str (Sha.numB (UInt64.ofNat no.length) 2++Sha.numB (UInt64.ofNat hn) 4)) ?_
 refine J.d9 (I ((0:Nat):Int)) ?_
 refine J.c6 ?_
 refine J.c6 ?_
 refine J.b9<|J.A (J.H hK3 ?_)
 refine J.G 0 4 5 ?_
 refine J.j λK4 hK4=>J.g λK5 hK5=>J.b O<|J.f ((qAb O O O).no (by decide)) O<|J.c hK5<|J.O 0 4 5 32 ?_
 refine J.a5 ?_
 refine J.W hK4<|J.E 0 4 ?_
 refine J.j λK6 hK6=>?_
 have hl9: ∀s∈(no++ [cmB no.length hn]),s.length≤900:=λs hs=>by
  rcases List.mem_append.1 hs with h|h
  · exact h9 s h
  · rw [List.mem_singleton.1 h,qOU];decide
 have hnl:(no++ [cmB no.length hn]).length=no.length+1:=by rw [List.length_append];rfl
 have hef:=hb.ef
 refine J.L<|J.b O<|J.f (qAC O O) O<|J.a3 8 qA7 qBf O O O O O<|J.f (qAJ (v:= .slice oA no.length oc) O O qBo (m:=F) (by simp) (hp.at (i:=8) rfl)) rfl<|J.k (qAA rfl rfl ent95 (Ct.use (new:=λx:Option Addr×Nat×Hp=> [x.2.2]) (λF' hF=>qLK F' oA no.length oc no (hsO.mono (hF F (by simp))) (by omega)))) rfl ?_
 rintro⟨A38,c38,m38⟩ h38
 try dsimp only at h38
 change J _ ((38,.slice A38 (no).length c38)::_) _ [_,_,_,_,_,m38] _
 refine J.b O<|J.f ((qA5 (a:= [99]) (b:=Sha.numB (UInt64.ofNat no.length) 2++Sha.numB (UInt64.ofNat hn) 4) O O O (by simp only [List.length_append,Sha.numB_length,List.length_cons,List.length_nil];omega)).as (v':=Str (cmB no.length hn)) rfl) rfl<|J.k (qAF (l:= [.tmp 40]) (xs:= [[Str (cmB no.length hn)]]) rfl rfl rfl rfl qAe el9 rfl (by decide) (by decide) (by simp)) rfl λg41 _=>?_
 change J _ _ _ [_,_,_,_,_,_,blk g41 [Str (cmB no.length hn)] 9] _
 refine J.k (qAW (i:=5) (xs:=qAG no) (m2:=blk g41 [Str (cmB no.length hn)] 9) (ys:= [[Str (cmB no.length hn)]]) O O O qAe qAe el9 O h38 (by simp) ((qA4 (q:=True) (qAG [cmB no.length hn]) rfl (by simp [qAG]) rfl).sl) rfl (by omega) (by omega)) rfl ?_
 rintro⟨A42,c42,m42⟩ h42
 try dsimp only at h42
 change J _ ((42,.slice A42 (((no).length)+1) c42)::_) _ [_,_,_,_,_,m42,_] _
 replace h42:Row m42 9 1 A42 (no.length+1) c42 (qAG (no++ [(cmB no.length hn)])):=by rw [qBg];exact h42
 rw [show no.length+1=(no++ [(cmB no.length hn)]).length by rw [List.length_append];rfl] at h42⊢
 refine J.b O<|J.c hK6<|J.E 0 6 ?_
 refine J.g λK7 hK7=>J.b O<|J.c hK7<|J.G 0 6 7 ?_
 refine J.j λK8 hK8=>J.g λK9 hK9=>J.b O<|J.f (qAP qAe O O) O<|J.b O<|J.c hK9<|J.b8 0 6 7 43 44 45 ?_
 refine J.V<|J.b6 (X:=Nat) (λζ=> [(0,Ptr gs),(6,.slice A42 ((no++ [cmB no.length hn]).length) c42),(7,I ((qCU ((no++ [cmB no.length hn]).take ζ):Nat):Int)),(43,.slice A42 ((no++ [cmB no.length hn]).length) c42),(44,I (((no++ [cmB no.length hn]).length:Nat):Int)),(45,I ((ζ:Nat):Int))]) (λζ=> [x.blk gb,md,N,F,m28,m42,blk g41 [Str (cmB no.length hn)] 9]) (λζ=>ζ≤(no++ [cmB no.length hn]).length) (λζ=>(no++ [cmB no.length hn]).length-ζ) 0 (Nat.zero_le _) ⟨O,O,O,O,O,O,trivial⟩ (λ_ h=>h) ?_
 rintro i hi I0 hI0
 refine J.g λK10 hK10=>J.f (qAT O O O) O<|J.c hK10<|J.c2 0 6 7 43 44 45 46 ?_
 refine J.j λK11 hK11=>J.a2 O (λh46=>?_) (λh46=>?_)
 ·
  refine J.W hK11<|J.b8 0 6 7 43 44 45 ?_
  refine J.j λK12 hK12=>J.V<|J.g λK13 hK13=>J.f (qAH (i:=i) O O O qAe z9_ h42.sl (by omega)) O<|J.f (qAJ O O b9_ (m:=m42) (by simp) (h42.sl.elem (qAQ (qAc [] (by omega))))) rfl<|J.b rfl<|J.c hK13<|J.c2 0 6 7 9 43 44 45 ?_
  have hp9:=hl9 _ (qK0 (l:=(no++ [cmB no.length hn])) (i:=i) (by omega))
  have hp24:=qDo hp9
  have hnle:=qKy (l:=(no++ [cmB no.length hn])) (i:=i)
  refine J.L<|J.p 2 O<|J.f (qAl u9_ O O) O<|J.k (qAA O O ent109 (Ct.use0 (λF' hF=>qFM F' ((no++ [cmB no.length hn]).getD i []).length (by omega)))) O λg52 _=>J.f ((qAO O O O (by omega)).as (v':=I ((qCU ((no++ [cmB no.length hn]).take i)+(qBM ((no++ [cmB no.length hn]).getD i []).length):Nat):Int)) (congrArg I (by omega))) O<|J.b O<|J.a7<|J.a6<|J.A (J.H hK12 ?_)
  refine J.b8 0 6 7 43 44 45 ?_
  exact J.L<|J.f ((qAO O O O (by omega)).nat (i+1) (by omega)) O<|J.b O<|J.a7<|J.A<|J.a8 (i+1) (λη (hη:_∧(no++ [cmB no.length hn]).length-η<(no++ [cmB no.length hn]).length-i)=>hI0 η hη.1 hη.2) ⟨(by omega),by first|omega|(dsimp only;omega)⟩ ⟨O,O,by rw [qGV (by omega)];rfl,rfl,rfl,rfl,trivial⟩ (λ_ h=>h)
 refine J.b4<|J.a1<|J.a1<|J.b5 ?_
 refine J.A (J.H hK8 ?_)
 refine J.G 0 6 7 ?_
 refine J.j λK14 hK14=>J.j λK15 hK15=>?_
 obtain rfl:i=(no++ [cmB no.length hn]).length:=by omega
 rw [List.take_length]
 refine J.L<|J.p 2 O<|J.f (qAC O O) O<|J.a3 1 qA7 sizeOf98 O O O O O<|J.f (qAJ (v:=Ptr gb) O O isAgg98 (m:=F) (by simp) (hp.at (i:=1) rfl)) rfl<|J.k (qAA rfl rfl ent110 (Ct.use0 (λF' hF=>qNu F' gb x.gd ((x.f0:Nat):Int) x.size (x.hat:Nat) x.ht ((x.e:Nat):Int) x.A x.R.length x.c false (qAL.blk0.mono (hF (x.blk gb) (by simp))) (by omega) (by omega)))) rfl λg60 _=>J.f ((qAz rfl rfl rfl).no (by omega)) rfl<|J.c hK15<|J.G 0 6 61 ?_
 refine J.a5 ?_
 refine J.W hK14<|J.E 0 6 ?_
 refine J.j λK16 hK16=>J.g λK17 hK17=>J.b O<|J.f (qAP qAe O O) O<|J.b O<|J.c hK17<|J.O 0 62 63 64 ?_
 refine J.V<|J.b6 (X:=Nat×CbR×Hp×Hp) (λζ=> [(0,Ptr gs),(62,.slice A42 ((no++ [cmB no.length hn]).length) c42),(63,I (((no++ [cmB no.length hn]).length:Nat):Int)),(64,I ((ζ.1:Nat):Int))]) (λζ=> [ζ.2.1.blk gb,ζ.2.2.1,F,ζ.2.2.2,m28,m42]) (λζ=>ζ.1≤(no++ [cmB no.length hn]).length∧CbP ζ.2.2.2 ζ.2.2.1 ζ.2.1∧CbL x ζ.2.1 ((no++ [cmB no.length hn]).take ζ.1)) (λζ=>(no++ [cmB no.length hn]).length-ζ.1) (0,x,md,N) (⟨Nat.zero_le _,hb,CbL.nil x⟩) ⟨O,O,O,O,trivial⟩ (λ_ h=>h.pick [0,1,3,2,4,5] (by decide)) ?_
 rintro⟨i,y,md2,N2⟩ ⟨hi,hy,hL⟩ I2 hI2
 dsimp only at hi hy hL⊢
 refine J.g λK18 hK18=>J.f (qAT O O O) O<|J.c hK18<|J.a0 0 62 63 64 65 ?_
 refine J.j λK19 hK19=>J.a2 O (λh65=>?_) (λh65=>?_)
 ·
  refine J.W hK19<|J.O 0 62 63 64 ?_
  refine J.j λK20 hK20=>J.V<|J.g λK21 hK21=>J.f (qAH (i:=i) O O O qAe z9_ h42.sl (by omega)) O<|J.f (qAJ O O b9_ (m:=m42) (by simp) (h42.sl.elem (qAQ (qAc [] (by omega))))) rfl<|J.b rfl<|J.c hK21<|J.a0 0 11 62 63 64 ?_
  refine J.g λK22 hK22=>J.b O<|J.f (qAC O O) O<|J.a3 1 qA7 sizeOf98 O O O O O<|J.f (qAJ (v:=Ptr gb) O O isAgg98 (m:=F) (by simp) (hp.at (i:=1) rfl)) rfl<|J.b rfl<|J.k (qAA rfl rfl ent111 (Ct.useA [y.blk gb,md2] [F,N2,m28,m42] (A':=λz:CbR×Hp×Hp=> [z.1.blk gb,z.2.1]) (new:=λz=> [z.2.2]) (λF' hF=>qTX F' md2 (hK.mo hF) gb y (hy.mono (hF N2 (by simp))) ((no++ [cmB no.length hn]).getD i []) (hl9 _ (qK0 (by omega))) (by rw [hL.e,hL.sz];have:=qKy (l:=(no++ [cmB no.length hn])) (i:=i+1);rw [qGV (by omega)] at this;omega) (by rw [hL.R,List.length_append,List.length_take];omega)))) rfl ?_
  rintro⟨y2,md3,N3⟩ ⟨hy2,hn2⟩
  change J _ _ _ [y2.blk gb,md3,F,N2,m28,m42,N3] _
  refine J.b O<|J.c hK22<|J.a0 0 12 62 63 64 ?_
  refine J.g λK23 hK23=>J.b O<|J.f ((qAb O O O).no (by decide)) O<|J.c hK23<|J.b8 0 12 62 63 64 75 ?_
  refine J.a5 ?_
  refine J.b7<|J.a6<|J.A (J.H hK20 ?_)
  refine J.O 0 62 63 64 ?_
  exact J.L<|J.f ((qAO O O O (by omega)).nat (i+1) (by omega)) O<|J.b O<|J.a7<|J.A<|J.a8 (i+1,y2,md3,N3) (λη (hη:_∧(no++ [cmB no.length hn]).length-η.1<(no++ [cmB no.length hn]).length-i)=>hI2 η hη.1 hη.2) ⟨⟨by dsimp only;omega,hy2,by dsimp only;rw [qH7 _ (by omega)];exact hL.snoc hn2⟩,by dsimp only;omega⟩ ⟨rfl,rfl,rfl,rfl,trivial⟩ (λ_ h=>h.pick [0,1,2,6,4,5] (by decide))
 refine J.b4<|J.a1<|J.a1<|J.b5 ?_
 refine J.A (J.H hK16 ?_)
 refine J.c3 [] trivial<|J.g λK24 hK24=>J.b O<|J.c hK24<|J.u 2 ?_
 exact J.D<|J.M hw0 O (⟨y,md2,N2⟩:WrR) O ⟨hy,by rw [show(no++ [cmB no.length hn]).take i=(no++ [cmB no.length hn]) from List.take_of_length_le (by omega)] at hL;exact hL⟩ [0,1,3,2] rfl (by decide)
end Go.Proofs.YtllnfioplpipiaaGreatDoor
