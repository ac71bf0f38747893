/- A part of the proof. -/
import Derived.Test.YtmemgokiolfdoaaGreatDoorTopMsG19
import Derived.Test.YtmemgokiolfdoaaGreatDoorTopMsG27
import Derived.Test.YtmemgokiolfdoaaGreatDoorTopMsG28
set_option maxRecDepth 100000
set_option maxHeartbeats 1000000
set_option linter.unusedSimpArgs false
set_option linter.unusedVariables false
namespace Go.Proofs.YtmemgokiolfdoaaGreatDoor
open Go Go.Fw Go.Proofs.Tryz
structure RhD where
 ep:Nat
 par:xA
 dep:Nat
 aud:Nat
 nsA:Option Addr
 nsc:Nat
 ns:List xA
def RhD.cells(x:RhD):List Value:= [N64 (x.ep),Str (x.par),I (x.dep:Nat),I (x.aud:Nat),.slice x.nsA x.ns.length x.nsc]
def qAY:RhD:=⟨0,[],0,0,none,0,[]⟩
def qDQ(l:List RhD):List (List Value):=l.map RhD.cells
theorem qE4{l:List RhD}{k:Nat}(h:k<l.length):(qDQ l)[k]?=some (l.getD k qAY).cells:=by
 unfold qDQ
 rw [jN,qAi qAY h];rfl
theorem qKT(a:List RhD)(x:RhD):qDQ (a++ [x])=qDQ a++ [x.cells]:=by simp [qDQ]
theorem qXZ(a:List RhD):(qDQ a).all (λx=>x.all Value.oneCell')=true:=qMK RhD.cells (λ_=>rfl) a
structure TrD where
 b:Nat
 d:Nat
 old:xA
 nw:xA
 stA:Option Addr
 stc:Nat
 st:List qBj
def TrD.cells(x:TrD):List Value:= [I (x.b:Nat),I (x.d:Nat),Str (x.old),Str (x.nw),.slice x.stA x.st.length x.stc]
def noTrD:TrD:=⟨0,0,[],[],none,0,[]⟩
def qJ9(l:List TrD):List (List Value):=l.map TrD.cells
theorem qOU(a:List TrD)(x:TrD):qJ9 (a++ [x])=qJ9 a++ [x.cells]:=by simp [qJ9]
def qBz(l:List En):List (List Value):=l.map En.cells
theorem qCk{l:List En}{k:Nat}(h:k<l.length):(qBz l)[k]?=some (l.getD k qAz).cells:=by
 unfold qBz
 rw [jN,qAi qAz h];rfl
theorem qLG(a:List En)(x:En):qBz (a++ [x])=qBz a++ [x.cells]:=by simp [qBz]
theorem qXa(a:List En):(qBz a).all (λx=>x.all Value.oneCell')=true:=qMK En.cells (λ_=>rfl) a
theorem qLF(l:List En)(k:Nat):(qBz l).take k=qBz (l.take k):=by simp [qBz]
theorem qU5(l:List En)(k:Nat)(x:En):(qBz l).set k x.cells=qBz (l.set k x):=by simp [qBz,List.map_set]
def qDn(l:List Nat):List (List Value):=l.map λg=> [Ptr g]
theorem qKX{l:List Nat}{k:Nat}(h:k<l.length):(qDn l)[k]?=some [Ptr (l.getD k 0)]:=by
 unfold qDn;rw [jN,jC h,jB,jC h];rfl
theorem qOl(a:List Nat)(x:Nat):qDn (a++ [x])=qDn a++ [[Ptr x]]:=by simp [qDn]
theorem qZ2(l:List Hp)(m:Hp):U (l++ [m])=U [U l,m]:=by
 induction l with
 |nil=>rfl
 |cons a l ih=>
  funext g
  show(match a g with|some o=>some o|none=>U (l++ [m]) g)=match (match a g with|some o=>some o|none=>U l g) with|some o=>some o|none=>U [m] g
  rw [ih]
  cases a g<;>rfl
theorem qVc{l:List Hp}{m:Hp}(h:Djs l)(hd:Dj (U l) m):Djs (l++ [m]):=by
 rw [qAa,jU]
 refine⟨qAa.1 h,by simp,λa ha b hb=>?_⟩
 rw [List.mem_singleton.1 hb]
 exact(Dj.U_right.1 hd.symm a ha).symm
structure Lb where
 nm:xA
 A:Option Addr
 c:Nat
 l:List En
 m:Hp
abbrev LE:=List (xA×List En)
def lbV(ls:List Lb):MP:=ls.map λx=>(x.nm,.slice x.A x.l.length x.c)
def lbE(ls:List Lb):LE:=ls.map λx=>(x.nm,x.l)
def qDM:List Lb→xA→Option Lb
 | [],_=>none
 |x::r,k=>if x.nm=k then some x else qDM r k
def qBC:LE→xA→List En
 | [],_=> []
 |x::r,k=>if x.1=k then x.2 else qBC r k
def qJZ(ls:List Lb)(k:xA):Option Addr:=match qDM ls k with|some x=>x.A|none=>none
def qJY(ls:List Lb)(k:xA):Nat:=match qDM ls k with|some x=>x.c|none=>0
theorem qFt(ls:List Lb)(k:xA):qBC (lbE ls) k=match qDM ls k with|some x=>x.l|none=> []:=by
 induction ls with
 |nil=>rfl
 |cons x r ih=>
  show(if x.nm=k then x.l else qBC (lbE r) k)=match (if x.nm=k then some x else qDM r k) with|some x=>x.l|none=> []
  by_cases h:x.nm=k
  · rw [if_pos h,if_pos h]
  · rw [if_neg h,if_neg h];exact ih
theorem qRy(ls:List Lb)(k:xA):qK8 (lbV ls) k=(qDM ls k).map λx=> .slice x.A x.l.length x.c:=by
 induction ls with
 |nil=>rfl
 |cons x r ih=>
  show(if x.nm=k then some _ else qK8 (lbV r) k)=(if x.nm=k then some x else qDM r k).map _
  by_cases h:x.nm=k
  · rw [if_pos h,if_pos h];rfl
  · rw [if_neg h,if_neg h];exact ih
theorem qKz(ls:List Lb)(k:xA):(qK8 (lbV ls) k).getD (.slice none 0 0)= .slice (qJZ ls k) (qBC (lbE ls) k).length (qJY ls k):=by
 rw [qRy,qFt]
 unfold qJZ qJY
 cases qDM ls k<;>rfl
theorem qK9{ls:List Lb}{k:xA}{x:Lb}(h:qDM ls k=some x):x∈ls∧x.nm=k:=by
 induction ls with
 |nil=>cases h
 |cons y r ih=>
  rw [qDM] at h
  split at h
  · rename_i hk;cases h;exact⟨.head _,hk⟩
  · have:=ih h;exact⟨.tail _ this.1,this.2⟩
def LbA(F:Hp)(ls:List Lb):Prop:= ∀x∈ls,Sl F 5 x.A x.l.length x.c (qBz x.l)
theorem LbA.mono{F F':Hp}{ls:List Lb}(h:LbA F ls)(hl:Le F F'):LbA F' ls:=λx hx=>(h x hx).mono hl
theorem LbA.at{F:Hp}{ls:List Lb}(h:LbA F ls)(k:xA):Sl F 5 (qJZ ls k) (qBC (lbE ls) k).length (qJY ls k) (qBz (qBC (lbE ls) k)):=by
 rw [qFt]
 unfold qJZ qJY
 cases hg:qDM ls k with
 |none=>exact Sl.nil
 |some x=>exact h x (qK9 hg).1
structure NxS (M:Hp) (ls:List Lb):Prop where
 eq:M=U (ls.map Lb.m)
 dj:Djs (ls.map Lb.m)
 row: ∀x∈ls,Row x.m 102 5 x.A x.l.length x.c (qBz x.l)
theorem NxS.nil:NxS (λ_=>none) []:=⟨rfl,trivial,λx h=>by cases h⟩
theorem NxS.at{M:Hp}{ls:List Lb}(h:NxS M ls):LbA M ls:=λx hx=>by
 rw [h.eq]
 exact(h.row x hx).sl.mono (qFr h.dj (List.mem_map.2 ⟨x,hx,O⟩))
theorem NxS.snoc{M m':Hp}{ls:List Lb}(h:NxS M ls){k:xA}{A:Option Addr}{c:Nat}{l:List En}(hr:Row m' 102 5 A l.length c (qBz l))(hd:Dj M m'):NxS (U [M,m']) (ls++ [⟨k,A,c,l,m'⟩]):=by
  refine⟨?_,?_,λx hx=>?_⟩
  · rw [jO,h.eq];exact(qZ2 _ _).symm
  · rw [jO]
    exact qVc h.dj (h.eq▸hd)
  · rcases List.mem_append.1 hx with hx|hx
    · exact h.row x hx
    · rw [List.mem_singleton.1 hx];exact hr
theorem qT7{l:MP}{k:xA}(h:qK8 l k=none)(v:Value):qNL l k v=l++ [(k,v)]:=by
  induction l with
  |nil=>rfl
  |cons x r ih=>
    rw [qK8] at h
    split at h
    · cases h
    · rename_i hn
      show(if x.1=k then _ else x::qNL r k v)=_
      rw [if_neg hn,ih h];rfl
theorem qUf(ls:List Lb)(x:Lb):lbV (ls++ [x])=lbV ls++ [(x.nm,.slice x.A x.l.length x.c)]:=by unfold lbV;rw [jO];rfl
theorem qUg(ls:List Lb)(x:Lb):lbE (ls++ [x])=lbE ls++ [(x.nm,x.l)]:=by unfold lbE;rw [jO];rfl
def qDG:List Lb→Lb→List Lb
 | [],y=> [y]
 |x::r,y=>if x.nm=y.nm then y::r else x::qDG r y
def qQg:LE→xA→List En→LE
 | [],k,v=> [(k,v)]
 |x::r,k,v=>if x.1=k then(k,v)::r else x::qQg r k v
theorem qRd(ls:List Lb)(y:Lb):lbV (qDG ls y)=qNL (lbV ls) y.nm (.slice y.A y.l.length y.c):=by
 induction ls with
 |nil=>rfl
 |cons x r ih=>
  show lbV (if x.nm=y.nm then y::r else x::qDG r y)=if x.nm=y.nm then _ else _::qNL (lbV r) y.nm _
  split
  · rfl
  · rw [←ih];rfl
theorem qRe(ls:List Lb)(y:Lb):lbE (qDG ls y)=qQg (lbE ls) y.nm y.l:=by
 induction ls with
 |nil=>rfl
 |cons x r ih=>
  show lbE (if x.nm=y.nm then y::r else x::qDG r y)=if x.nm=y.nm then _ else _::qQg (lbE r) y.nm _
  split
  · rfl
  · rw [←ih];rfl
theorem qKW{ls:List Lb}{y z:Lb}(h:z∈qDG ls y):z∈ls∨z=y:=by
  induction ls with
  |nil=>exact .inr (List.mem_singleton.1 h)
  |cons x r ih=>
    rw [qDG] at h
    split at h
    · rcases List.mem_cons.1 h with h|h
      · exact .inr h
      · exact .inl (.tail _ h)
    · rcases List.mem_cons.1 h with h|h
      · exact .inl (h▸ .head _)
      · exact(ih h).imp (.tail _) id
theorem qNy(l:LE)(k:xA)(v:List En)(j:xA):qBC (qQg l k v) j=if k=j then v else qBC l j:=by
  induction l with
  |nil=>rfl
  |cons x r ih=>
    rw [qQg]
    by_cases h:x.1=k
    · rw [if_pos h,qBC,qBC]
      subst h
      by_cases h2:x.1=j
      · rw [if_pos h2];rw [if_pos h2]
      · rw [if_neg h2,if_neg h2,if_neg h2]
    · rw [if_neg h,qBC,qBC,ih]
      by_cases h2:x.1=j
      · rw [if_pos h2,if_neg (λe=>h (h2.trans e.symm)),if_pos h2]
      · rw [if_neg h2,if_neg h2]
theorem qQf{l:LE}{k:xA}{v:List En}{j:xA}:j∈(qQg l k v).map Prod.fst↔j∈l.map Prod.fst∨j=k:=by
  induction l with
  |nil=>simp [qQg]
  |cons x r ih=>
    rw [qQg]
    split
    · rename_i h;subst h;simp only [jb,zM];constructor
      · exact λh=> .inl h
      · rintro(h|h);exact h;exact .inl h
    · simp only [jb,zM,ih,or_assoc]
theorem U2c{a b:Hp}(h:Dj a b):U [a,b]=U [b,a]:=by
 funext g
 simp only [U]
 cases ha:a g<;>cases hb:b g<;>simp
 rcases h g with h|h
 · rw [ha] at h;cases h
 · rw [hb] at h;cases h
theorem NxS.split{M:Hp}{ls:List Lb}(h:NxS M ls)(k:xA): ∃mr mo,M=U [mr,mo]∧Dj mr mo∧Row mo 102 5 (qJZ ls k) (qBC (lbE ls) k).length (qJY ls k) (qBz (qBC (lbE ls) k))∧
    ∀A c l m',Row m' 102 5 A l.length c (qBz l)→Dj mr m'→NxS (U [mr,m']) (qDG ls ⟨k,A,c,l,m'⟩):=by
  obtain ⟨rfl,hd,hr⟩:=h
  suffices hs: ∃mr mo,U (ls.map Lb.m)=U [mr,mo]∧Dj mr mo∧Row mo 102 5 (qJZ ls k) (qBC (lbE ls) k).length (qJY ls k) (qBz (qBC (lbE ls) k))∧
      ∀y:Lb,y.nm=k→Dj mr y.m→U ((qDG ls y).map Lb.m)=U [mr,y.m]∧Djs ((qDG ls y).map Lb.m) by
    obtain ⟨mr,mo,e,d,r,f⟩:=hs
    refine⟨mr,mo,e,d,r,λA c l m' h1 h2=>?_⟩
    have h3:=f ⟨k,A,c,l,m'⟩ O h2
    refine⟨h3.1.symm,h3.2,λx hx=>?_⟩
    rcases qKW hx with hx|rfl
    · exact hr x hx
    · exact h1
  induction ls with
  |nil=>
    refine⟨λ_=>none,λ_=>none,O,λ_=> .inl O,qBZ.nil,λy _ _=>⟨?_,⟨λg=> .inr O,trivial⟩⟩⟩
    rfl
  |cons x r ih=>
    have hd1:Dj x.m (U (r.map Lb.m)):=hd.1
    by_cases hx:x.nm=k
    · refine⟨U (r.map Lb.m),x.m,?_,hd1.symm,?_,λy hy hj=>?_⟩
      · rw [U2c hd1.symm]
        funext g
        show(match x.m g with|some o=>some o|none=>U (r.map Lb.m) g)=match x.m g with|some o=>some o|none=>U [U (r.map Lb.m)] g
        cases x.m g with
        |some o=>rfl
        |none=>show U (r.map Lb.m) g=match U (r.map Lb.m) g with|some o=>some o|none=>none;cases U (r.map Lb.m) g<;>rfl
      · have e1:qDM (x::r) k=some x:=by rw [qDM,if_pos hx]
        have e2:qJZ (x::r) k=x.A:=by unfold qJZ;rw [e1]
        have e3:qJY (x::r) k=x.c:=by unfold qJY;rw [e1]
        have e4:qBC (lbE (x::r)) k=x.l:=by rw [qFt,e1]
        rw [e2,e3,e4];exact hr x (.head _)
      · have e:qDG (x::r) y=y::r:=by rw [qDG,if_pos (hx.trans hy.symm)]
        rw [e]
        refine⟨?_,hj.symm,hd.2⟩
        rw [U2c hj]
        funext g
        show(match y.m g with|some o=>some o|none=>U (r.map Lb.m) g)=match y.m g with|some o=>some o|none=>U [U (r.map Lb.m)] g
        cases y.m g with
        |some o=>rfl
        |none=>show U (r.map Lb.m) g=match U (r.map Lb.m) g with|some o=>some o|none=>none;cases U (r.map Lb.m) g<;>rfl
    · obtain ⟨mr,mo,e,d,hro,f⟩:=ih hd.2 (λy hy=>hr y (.tail _ hy))
      have e1:qDM (x::r) k=qDM r k:=by rw [qDM,if_neg hx]
      have e2:qJZ (x::r) k=qJZ r k:=by unfold qJZ;rw [e1]
      have e3:qJY (x::r) k=qJY r k:=by unfold qJY;rw [e1]
      have e4:qBC (lbE (x::r)) k=qBC (lbE r) k:=by rw [qFt,qFt,e1]
      rw [e] at hd1
      have dj:=Dj.U_right.1 hd1
      have asc: ∀(b:Hp) (l:List Hp),U l=U [mr,b]→U (x.m::l)=U [U [x.m,mr],b]:=λb l hl=>by
        funext g
        show(match x.m g with|some o=>some o|none=>U l g)=match (match x.m g with|some o=>some o|none=>U [mr] g) with|some o=>some o|none=>U [b] g
        rw [hl]
        cases x.m g with
        |some o=>rfl
        |none=>show U [mr,b] g=match (match mr g with|some o=>some o|none=>none) with|some o=>some o|none=>U [b] g;unfold U;cases mr g<;>rfl
      refine⟨U [x.m,mr],mo,asc mo _ e,?_,by rw [e2,e3,e4];exact hro,λy hy hj=>?_⟩
      · refine(Dj.U_right.2 λm' hm=>?_).symm
        rcases List.mem_cons.1 hm with rfl|hm
        · exact(dj mo xD).symm
        · rw [List.mem_singleton.1 hm];exact d.symm
      · have hj2:=Dj.U_right.1 hj.symm
        obtain ⟨f1,f2⟩:=f y hy (hj2 mr xD).symm
        have e5:qDG (x::r) y=x::qDG r y:=by rw [qDG,if_neg (λe=>hx (e.trans hy))]
        rw [e5]
        refine⟨asc y.m _ f1,?_,f2⟩
        show Dj x.m (U ((qDG r y).map Lb.m))
        rw [f1]
        refine Dj.U_right.2 λm' hm=>?_
        rcases List.mem_cons.1 hm with rfl|hm
        · exact dj _ xD
        · rw [List.mem_singleton.1 hm];exact(hj2 x.m xD).symm
def qPQ(l:LE):Prop:=(l.map Prod.fst).Nodup
theorem qLA{l:LE}{k:xA}(h:k∉l.map Prod.fst):qBC l k= []:=by
 induction l with
 |nil=>rfl
 |cons x r ih=>
  rw [jb,zM,not_or] at h
  rw [qBC,if_neg (λe=>h.1 e.symm),ih h.2]
theorem qPD{ls:List Lb}{k:xA}:qDM ls k=none↔k∉(lbE ls).map Prod.fst:=by
  induction ls with
  |nil=>simp [qDM,lbE]
  |cons x r ih=>
    show(if x.nm=k then some x else qDM r k)=none↔k∉x.nm::(lbE r).map Prod.fst
    rw [zM,not_or,←ih]
    by_cases h:x.nm=k
    · rw [if_pos h];simp [h]
    · rw [if_neg h]
      exact⟨λe=>⟨λe=>h e.symm,e⟩,λe=>e.2⟩
theorem qNz{l:LE}(h:qPQ l){k:xA}{v:List En}(hm:(k,v)∈l):qBC l k=v:=by
 induction l with
 |nil=>cases hm
 |cons x r ih=>
  obtain ⟨h1,h2⟩:=List.nodup_cons.1 (show(x.1::r.map Prod.fst).Nodup from h)
  cases hm with
  |head=>rw [qBC,if_pos rfl]
  |tail _ hm=>
   rw [qBC,if_neg,ih h2 hm]
   rintro rfl
   exact h1 (List.mem_map.2 ⟨_,hm,O⟩)
theorem qQe{l:LE}{k:xA}{v:List En}(h:qPQ l):qPQ (qQg l k v):=by
  induction l with
  |nil=>exact List.nodup_cons.2 ⟨λh=>(by cases h),List.nodup_nil⟩
  |cons x r ih=>
    obtain ⟨h1,h2⟩:=List.nodup_cons.1 (show(x.1::r.map Prod.fst).Nodup from h)
    rw [qQg]
    split
    · rename_i e;subst e;exact List.nodup_cons.2 ⟨h1,h2⟩
    · rename_i e
      refine List.nodup_cons.2 ⟨λhm=>?_,ih h2⟩
      rcases qQf.1 hm with hm|hm
      · exact h1 hm
      · exact e hm
theorem qR0{l l':LE}(h:qPQ l)(hp:l.Perm l')(k:xA):qBC l k=qBC l' k:=by
  have h':qPQ l':=(hp.map _).nodup_iff.1 h
  by_cases hk:k∈l.map Prod.fst
  · obtain ⟨x,hx,rfl⟩:=List.mem_map.1 hk
    rw [qNz h (v:=x.2) hx,qNz h' (v:=x.2) (hp.subset hx)]
  · rw [qLA hk,qLA (λe=>hk ((hp.map _).mem_iff.2 e))]
structure CbR where
 gd:Nat
 f0:Nat
 size:Nat
 hat:Nat
 ht:UInt64
 e:Nat
 A:Option Addr
 c:Nat
 R:List xA
 d:Dk
abbrev CbR.blk(gb:Nat)(x:CbR):Hp:=Fw.blk gb [Ptr x.gd,I (x.f0:Nat),I (x.size:Nat),I (x.hat:Nat),W64 x.ht,I (x.e:Nat),.slice x.A x.R.length x.c,.bool false] 244
structure CbP (G md:Hp) (x:CbR):Prop where
 dk:Dsk md x.gd x.d none 0
 ok:x.d.ok
 on:x.d.off=false
 ar:x.d.armed=false
 wt:x.d.wait= []
 kp:x.d.keep= []
 rs:Sl G 1 x.A x.R.length x.c (qAH x.R)
 fit:x.hat+x.size≤x.d.last.length
 ln:x.d.last.length≤1000
 tn:x.ht.toNat≤1
 ef:x.e≤x.size
theorem CbP.mono{G G' md:Hp}{x:CbR}(h:CbP G md x)(hl:Le G G'):CbP G' md x:={h with rs:=h.rs.mono hl}
structure CbN (x y:CbR) (s:xA):Prop where
 gd:y.gd=x.gd
 f0:y.f0=x.f0
 sz:y.size=x.size
 e:y.e=x.e+qBi s.length
 R:y.R=x.R++ [s]
 ln:y.d.last.length=x.d.last.length
theorem qYF(F md:Hp)(hK:qAG F ⟨3,0,none⟩ (Sha.K.map W32))(gb:Nat)(x:CbR)(h:CbP F md x)(s:xA)(hs:s.length≤900)(hf:x.e+qBi s.length≤x.size)(hr:x.R.length<65536):
    Ct prog 137 [Ptr gb,Str s] [x.blk gb,md,F] (λ_:CbR×Hp×Hp=>I 0) (λy=>CbP y.2.2 y.2.1 y.1∧CbN x y.1 s) (λy=> [y.1.blk gb,y.2.1,F,y.2.2]):=λw0 w hw=>by
  have hn24:=qD2 hs
  have hfit:=h.fit
  have hln:=h.ln
  have hnr:(UInt64.ofNat x.R.length).toNat<2^(8*2):=by rw [qBE xB];exact hr
  have hc:=qPj h.ok h.on h.ar (p:=x.hat+x.e) (n:=qBi s.length) xB (qQn (turn:=1) (num:=UInt64.ofNat x.R.length) (s:=s) xC hnr hn24)
  have hm:(((1:UInt64).toNat:Nat):Int)=max (x.ht.toNat:Int) 1:=by
    have:=h.tn
    rw [show(1:UInt64).toNat=1 from rfl];omega
  refine(qLV F md hK gb x.gd ((x.f0:Nat):Int) x.size x.hat x.ht x.e x.A x.R.length x.c x.d none 0 h.dk h.ok (by rw [h.wt];exact jE _) (by rw [h.kp];exact Sl.nil) (by rw [h.kp];exact jE _) x.R O h.rs s hs _ O 1 hm xC hr xB hf hc.1 w0 w hw).mono λv w' ⟨y,he,⟨hd,hrow⟩,hst⟩=>?_
  obtain ⟨_,c1,c2,c3,c4,c5,c6⟩:=hc
  have e1:(x.R++ [s]).length=x.R.length+1:=by rw [jA];rfl
  refine⟨(⟨x.gd,x.f0,x.size,x.hat,1,x.e+qBi s.length,y.2.1,y.2.2.1,x.R++ [s],_⟩,y.1,y.2.2.2),he,⟨⟨hd,c6,c1,c2,c4,by rw [c5,h.kp],by rw [e1];exact hrow.sl,by show x.hat+x.size≤_;rw [c3];exact hfit,by show List.length _≤_;rw [c3];exact hln,(by show(1:UInt64).toNat≤1;decide),hf⟩,⟨O,O,O,O,O,c3⟩⟩,?_⟩
  show St w0 [Fw.blk gb [Ptr x.gd,I (x.f0:Nat),I (x.size:Nat),I (x.hat:Nat),W64 1,I (x.e+qBi s.length:Nat),.slice y.2.1 (x.R++ [s]).length y.2.2.1,.bool false] 244,y.1,F,y.2.2.2] w'
  rw [e1];exact hst
theorem qKc{d:Nat}(h:d≤4):1≤2^d∧2^d≤16:=by
 rcases d with _|_|_|_|_|d
 all_goals first|decide|omega
theorem qM5(F:Hp)(A:Option Addr)(n c:Nat)(l:List Nat)(hs:Sl F 1 A n c (qDn l))(h0:0<n)(hn:n≤1000000):Cz prog 97 [.slice A n c] F (Ptr (l.getD (n-1) 0)):=by
 have hln:l.length=n:=by have:=hs.1;simpa [qDn] using this
 refine Ct.walk func97 O ntmps97 O (λw0 hw0=>?_)
 refine J.f λ_ j1=>J.b O<|J.c j1 ?_
 refine J.f λ_ j2=>J.p 2 O<|J.g (qAO qOT O O) O<|J.g ((qA4 O O O xB).nat (n-1) xB) O<|J.g (qAF O O O qOT sizeOf130 hs xB) O<|J.g (qAI O O isAgg130 (m:=F) xD (hs.elem (qKX xB))) O<|J.b O<|J.c j2 ?_
 exact J.A<|J.E hw0 O () O trivial [0] O xC
theorem qTQ(F:Hp)(A:Option Addr)(n c:Nat)(l:List En)(hs:Sl F 5 A n c (qBz l))(h0:0<n)(hn:n≤1000000):Cz prog 183 [.slice A n c] F (.agg #[N64 ((l.getD (n-1) qAz).v),Str ((l.getD (n-1) qAz).o),Str ((l.getD (n-1) qAz).r),I ((l.getD (n-1) qAz).h),Str ((l.getD (n-1) qAz).p)]):=by
 have hln:l.length=n:=by have:=hs.1;simpa [qBz] using this
 refine Ct.walk func183 O ntmps183 O (λw0 hw0=>?_)
 refine J.f λ_ j1=>J.q (qAJ O qDe O) O λg2 _=>J.c j1 ?_
 refine J.f λ_ j2=>J.p 2 O<|J.g (qAO qCK O O) O<|J.g ((qA4 O O O xB).nat (n-1) xB) O<|J.g (qAF O O O qCK qAj hs xB) O<|J.g (qAP O O qBB qAj (m:=F) xD (hs.elem (qCk xB)) O) O<|J.a7 (qAC (i:=1) (l:= [.int .u64 0,Str [],Str [],I 0,Str []]) (vs:= [N64 ((l.getD (n-1) qAz).v),Str ((l.getD (n-1) qAz).o),Str ((l.getD (n-1) qAz).r),I ((l.getD (n-1) qAz).h),Str ((l.getD (n-1) qAz).p)]) O O O O O qAj O O) O O λ_ _=>J.c j2 ?_
 exact J.A<|J.a9 hw0 (λ_ _ h=>h) (rv1 O (RV.blkA 1 O O qBB qAj)) (qAg () O trivial [0] O xC)
theorem qTP(F:Hp)(A:Option Addr)(n c:Nat)(l:List RhD)(hs:Sl F 5 A n c (qDQ l))(h0:0<n)(hn:n≤1000000):Cz prog 140 [.slice A n c] F (.agg #[N64 ((l.getD (n-1) qAY).ep),Str ((l.getD (n-1) qAY).par),I ((l.getD (n-1) qAY).dep:Nat),I ((l.getD (n-1) qAY).aud:Nat),.slice (l.getD (n-1) qAY).nsA (l.getD (n-1) qAY).ns.length (l.getD (n-1) qAY).nsc]):=by
 have hln:l.length=n:=by have:=hs.1;simpa [qDQ] using this
 refine Ct.walk func140 O ntmps140 O (λw0 hw0=>?_)
 refine J.f λ_ j1=>J.q (qAJ O qYA O) O λg2 _=>J.c j1 ?_
 refine J.f λ_ j2=>J.p 2 O<|J.g (qAO qGl O O) O<|J.g ((qA4 O O O xB).nat (n-1) xB) O<|J.g (qAF O O O qGl qDP hs xB) O<|J.g (qAP O O qGA qDP (m:=F) xD (hs.elem (qE4 xB)) O) O<|J.a7 (qAC (i:=1) (l:= [.int .u64 0,Str [],I 0,I 0,.slice none 0 0]) (vs:= [N64 ((l.getD (n-1) qAY).ep),Str ((l.getD (n-1) qAY).par),I ((l.getD (n-1) qAY).dep:Nat),I ((l.getD (n-1) qAY).aud:Nat),.slice (l.getD (n-1) qAY).nsA (l.getD (n-1) qAY).ns.length (l.getD (n-1) qAY).nsc]) O O O O O qDP O O) O O λ_ _=>J.c j2 ?_
 exact J.A<|J.a9 hw0 (λ_ _ h=>h) (rv1 O (RV.blkA 1 O O qGA qDP)) (qAg () O trivial [0] O xC)
theorem qTf(F:Hp)(gm:Nat)(vr:Value)(ls:List Lb)(hm:Fw.MapAt F gm (lbV ls))(hl:LbA F ls)(s:xA)(hn:(qBC (lbE ls) s).length≤1000000)(h0:qBC (lbE ls) s= []):Cz prog 102 [.agg #[.map (some gm),vr],Str (s)] F (.tuple #[.agg #[.int .u64 0,Str [],Str [],I 0,Str []],.bool false]):=by
 have hl0:(qBC (lbE ls) s).length=0:=by rw [h0];rfl
 refine Ct.walk func102 O ntmps102 O (λw0 hw0=>?_)
 refine J.f λ_ j1=>J.q (qAb O O O) O λg2 _=>J.q (qAJ O qDe O) O λg4 _=>J.b O<|J.c j1 ?_
 refine J.f λ_ j2=>J.W 0 qEW qIo O O O O O<|J.a6 1 isAgg120 O O O O O<|J.b O<|J.g ((qCn O O O qIu u9_ qZr (m:=F) xD hm).as (v':= .slice (qJZ ls s) (qBC (lbE ls) s).length (qJY ls s)) (qKz ls s)) O<|J.b O<|J.c j2 ?_
 refine J.k λ_ j3=>J.f λ_ j4=>J.b O<|J.g (qAO qCK O O) O<|J.g ((qAe O O O).yes xB) O<|J.c j4 ?_
 refine J.c3 ?_
 refine J.f λ_ j5=>J.g (qAL (places:= [(0,1),(1,3),(4,1)]) (r:= [.int .u64 0,Str [],Str [],I 0,Str []]) O O O qCA qDe (λ_=>xI) O) O<|J.a7 (qAC (i:=2) O O O O O qAj O O) O O λ_ _=>J.b O<|J.c j5 ?_
 exact J.A<|J.V<|J.a9 hw0 (λ_ _ h=>h) (rv2 O (RV.blkA 2 O O qBB qAj) O) (qAg () O trivial [0] O xC)
theorem qQE(F:Hp)(gm:Nat)(vr:Value)(ls:List Lb)(hm:Fw.MapAt F gm (lbV ls))(hl:LbA F ls)(s:xA)(hn:(qBC (lbE ls) s).length≤1000000)(h0:0<(qBC (lbE ls) s).length):Cz prog 102 [.agg #[.map (some gm),vr],Str (s)] F (.tuple #[.agg #[N64 (((qBC (lbE ls) s).getD ((qBC (lbE ls) s).length-1) qAz).v),Str (((qBC (lbE ls) s).getD ((qBC (lbE ls) s).length-1) qAz).o),Str (((qBC (lbE ls) s).getD ((qBC (lbE ls) s).length-1) qAz).r),I (((qBC (lbE ls) s).getD ((qBC (lbE ls) s).length-1) qAz).h),Str (((qBC (lbE ls) s).getD ((qBC (lbE ls) s).length-1) qAz).p)],.bool true]):=by
 refine Ct.walk func102 O ntmps102 O (λw0 hw0=>?_)
 refine J.f λ_ j1=>J.q (qAb O O O) O λg2 _=>J.q (qAJ O qDe O) O λg4 _=>J.b O<|J.c j1 ?_
 refine J.f λ_ j2=>J.W 0 qEW qIo O O O O O<|J.a6 1 isAgg120 O O O O O<|J.b O<|J.g ((qCn O O O qIu u9_ qZr (m:=F) xD hm).as (v':= .slice (qJZ ls s) (qBC (lbE ls) s).length (qJY ls s)) (qKz ls s)) O<|J.b O<|J.c j2 ?_
 refine J.k λ_ j3=>J.f λ_ j4=>J.b O<|J.g (qAO qCK O O) O<|J.g ((qAe O O O).no xB) O<|J.c j4 ?_
 refine J.a3 ?_
 refine J.M j3 ?_
 refine J.f λ_ j5=>J.b O<|J.q (qAZ O O (λF' hF=>qTQ F' (qJZ ls s) ((qBC (lbE ls) s).length) (qJY ls s) (qBC (lbE ls) s) ((hl.at s).mono (Fa hF)) xB xB)) O λg16 _=>J.a7 (qAC (i:=2) (l:= [.int .u64 0,Str [],Str [],I 0,Str []]) (vs:= [N64 (((qBC (lbE ls) s).getD (((qBC (lbE ls) s).length)-1) qAz).v),Str (((qBC (lbE ls) s).getD (((qBC (lbE ls) s).length)-1) qAz).o),Str (((qBC (lbE ls) s).getD (((qBC (lbE ls) s).length)-1) qAz).r),I (((qBC (lbE ls) s).getD (((qBC (lbE ls) s).length)-1) qAz).h),Str (((qBC (lbE ls) s).getD (((qBC (lbE ls) s).length)-1) qAz).p)]) O O O O O qAj O O) O O λ_ _=>J.b O<|J.c j5 ?_
 exact J.A<|J.a9 hw0 (λ_ _ h=>h) (rv2 O (RV.blkA 2 O O qBB qAj) O) (qAg () O trivial [0] O xC)
theorem qFQ(F:Hp)(A:Option Addr)(n c:Nat)(l:List En)(hs:Sl F 5 A n c (qBz l))(hnb:n≤1000000):Ct prog 98 [.slice A n c] [F] (λx:Option Addr×Nat×Hp=> .slice x.1 (l).length x.2.1) (λx=>Row x.2.2 102 5 x.1 (l).length x.2.1 (qBz l)) (λx=> [F,x.2.2]):=by
 have hkn:l.length=n:=by have:=hs.1;simpa [qBz] using this
 refine Ct.walk func98 O ntmps98 O (λw0 hw0=>?_)
 refine J.f λ_ j1=>J.b O<|J.c j1 ?_
 refine J.k λ_ j2=>J.f λ_ j3=>J.b O<|J.g ((qFA qCK O O O).as (v':= .bool (decide (A.isNone=true))) (congrArg Value.bool (by cases A<;>rfl))) O<|J.c j3 ?_
 refine J.Z O (λh4=>?_) (λh4=>?_)
 ·
  refine J.f λ_ j4=>J.b O<|J.c j4 ?_
  refine J.A<|J.V ?_
  have hk0:l= []:=by
   refine jT ?_
   rcases yN n with h|h
   · omega
   · obtain ⟨g,o,rfl⟩:=hs.at h;cases h4
  exact J.c6 [0,1] [F,(λ_=>none)] O xC<|J.E hw0 O (none,0,(λ_=>none)) (by rw [hk0];rfl) (by rw [hk0];exact qBZ.nil) [0,1] O xC
 refine J.M j2 ?_
 refine J.f λ_ j5=>J.q (qBs O qCK el102) O λg5 _=>J.b O<|J.q (qAX (i:=1) (m2:=F) O O O qCK qCK el102 O (qAm (q:=True) (xs:=qBz ([])) O (by intro x hx;first|exact absurd hx (zE)|(rw [List.mem_singleton.1 hx];rfl))) xD (hs) (qXa _) xB xB) O ?_
 rintro⟨A7,c7,m7⟩ h7
 try dsimp only at h7
 replace h7:Row m7 102 5 A7 (0+n) c7 (qBz (l)):=h7
 refine J.b O<|J.c j5 ?_
 refine J.A ?_
 rw [show 0+n=l.length by omega] at h7
 exact J.E hw0 O (A7,c7,m7) (by rw [←hkn,jj]) h7 [0,1] O xC
theorem qRc{L:List Lb}{a b:MP}{p:xA×Value}(h:lbV L=a++p::b): ∃ra x rb,L=ra++x::rb∧a=lbV ra∧p=(x.nm,.slice x.A x.l.length x.c)∧b=lbV rb:=by
 unfold lbV at h
 obtain ⟨l1,l2,rfl,h1,h2⟩:=List.map_eq_append_iff.1 h
 obtain ⟨x,l3,rfl,h3,h4⟩:=List.map_eq_cons_iff.1 h2
 exact⟨l1,x,l3,O,h1.symm,h3.symm,h4.symm⟩
theorem qXs(a b:List Lb):lbV (a++b)=lbV a++lbV b:=by unfold lbV;rw [jO]
theorem qRf(a b:List Lb):lbE (a++b)=lbE a++lbE b:=by unfold lbE;rw [jO]
structure CpR where
 g:Nat
 ls:List Lb
 mm:Hp
 M:Hp
 r:Nat
 mr:Hp
structure CpP (ls:List Lb) (au:List Aud) (x:CpR):Prop where
 mp:MapS x.mm x.g (lbV x.ls)
 nx:NxS x.M x.ls
 pm:(lbE x.ls).Perm (lbE ls)
 ro:qS1 x.mr x.r au
theorem qYG{dn ra rb ls:List Lb}{x y:Lb}(hu:qPQ (lbE ls))(h:(lbE dn++lbE (ra++x::rb)).Perm (lbE ls))(h1:y.nm=x.nm)(h2:y.l=x.l):qK8 (lbV dn) x.nm=none∧(lbE (dn++ [y])++lbE (ra++rb)).Perm (lbE ls):=by
  have e:lbE (dn++ [y])++lbE (ra++rb)=lbE dn++((y.nm,y.l)::(lbE ra++lbE rb)):=by rw [qUg,qRf,jX];rfl
  have e2:lbE dn++lbE (ra++x::rb)=lbE dn++(lbE ra++(x.nm,x.l)::lbE rb):=by rw [qRf];rfl
  rw [e2] at h
  refine⟨?_,?_⟩
  · rw [qRy,Option.map_eq_none_iff,qPD]
    have h3:qPQ (lbE dn++(lbE ra++(x.nm,x.l)::lbE rb)):=(h.map _).nodup_iff.2 hu
    unfold qPQ at h3
    rw [jO,List.nodup_append] at h3
    intro hm
    exact h3.2.2 _ hm _ (List.mem_map.2 ⟨(x.nm,x.l),jW _ (.head _),O⟩) O
  · rw [e,h1,h2]
    exact(List.Perm.append_left _ List.perm_middle.symm).trans h
theorem qNB(F:Hp)(gm gr:Nat)(ls:List Lb)(hm:Fw.MapAt F gm (lbV ls))(hl:LbA F ls)(hu:qPQ (lbE ls))(hln: ∀x∈ls,x.l.length≤1000000)(RA:Option Addr)(rn rc:Nat)(au:List Aud)(hR:qAG F ⟨gr,0,none⟩ [.slice RA rn rc])(hRs:Sl F 4 RA rn rc (qBr au))(hrn:rn≤1000000):Ct prog 49 [.agg #[.map (some gm),Ptr gr]] [F] (λx:CpR=> .agg #[.map (some x.g),Ptr x.r]) (CpP ls au) (λx=> [F,x.mm,x.M,x.mr]):=by
  obtain ⟨es,ck,hg,hst,hkv⟩:=hm
  refine Ct.walk func49 O ntmps49 O (λw0 hw0=>?_)
  refine J.f λ_ j1=>J.q (qAb O O O) O λg1 _=>J.q (qAJ O zeroValue124 O) O λg2 _=>J.c j1 ?_
  refine J.f λ_ j2=>J.q (qDI O) O ?_
  rintro g6 _
  refine J.W 1 qEW sizeOf121 O O O O O<|J.a6 1 isAgg121 O O O O O<|J.q (qBb O O (λF' hF=>Ct.swap2 (qT5 F' gr RA rn rc au (hRs.mono (Fa hF)) xB (hR.mono (Fa hF))))) O ?_
  rintro⟨g9,m9⟩ h9
  try dsimp only at h9
  refine J.g (qAL (places:= [(0,1),(1,1)]) (r:= [.map (some g6),Ptr g9]) O O O qEW zeroValue124 (λ_=>xI) O) O<|J.q (qAJ O zeroValue124 O) O λg3 _=>J.a7 (qAC (i:=5) (l:= [.map none,.pointer none]) (vs:= [.map (some g6),Ptr g9]) O O O O O qCp O O) O O λ_ _=>J.c j2 ?_
  refine J.k λ_ j3=>J.f λ_ j4=>J.W 0 qEW qIo O O O O O<|J.a6 1 isAgg120 O O O O O<|J.q (qKl O O qIu xD hg hkv) O ?_
  rintro⟨g13,mi⟩ hit
  try dsimp only at hit
  refine J.c j4 ?_
  refine J.T<|J.b5 (X:=List Lb×List Lb×Hp×Hp×Hp) (λζ=> [(2,Ptr g2),(3,Ptr g3),(13,Ptr g13)]) (λζ=> [ζ.2.2.2.2,F,blk g1 [.map (some gm),Ptr gr] 124,blk g2 [.map none,.pointer none] 124,m9,blk g3 [.map (some g6),Ptr g9] 124,ζ.2.2.2.1,ζ.2.2.1]) (λζ=>ItM ζ.2.2.1 g13 gm es ck (lbV ζ.1)∧MapS ζ.2.2.2.1 g6 (lbV ζ.2.1)∧NxS ζ.2.2.2.2 ζ.2.1∧(lbE ζ.2.1++lbE ζ.1).Perm (lbE ls)∧ ∀x∈ζ.1,x∈ls) (λζ=>ζ.1.length) (ls,[],mi,qAN g6 (.map #[] 0),(λ_=>none)) (⟨hit,MapS.nil _,NxS.nil,List.Perm.refl _,λ_ h=>h⟩) ⟨O,O,O,trivial⟩ (λ_ h=>h.empty.pick [7,0,1,2,4,5,3,6] xC) ?_
  rintro⟨rem,dn,mi,mm,M⟩ ⟨hit,hmp,hnxs,hpm,hsub⟩ I0 hI0
  dsimp only at hit hmp hnxs hpm hsub⊢
  refine J.f λ_ j5=>J.q (qNX (i:=7) O O (m:=F) xD hg hst O hit) O ?_
  rintro⟨on,mj⟩ hnx
  try dsimp only at hnx
  refine J.g ((qAT O (congrArg some (qRC on)) (qVt on))) O<|J.c j5 ?_
  refine J.k λ_ j6=>J.c5 O (λh15=>?_) (λh15=>?_)
  ·
    obtain ⟨x,ra,rb,rfl,hrem,hl2⟩: ∃x ra rb,on=some (x.nm,Value.slice x.A x.l.length x.c)∧rem=ra++x::rb∧ItL mj g13 gm es ck (lbV (ra++rb)) (x.nm,Value.slice x.A x.l.length x.c):=by
      rcases hnx with ⟨h1,_,_⟩|⟨p,a,b,h1,h2,h3⟩
      · rw [h1] at h15;cases h15
      · obtain ⟨ra,x,rb,e1,rfl,rfl,rfl⟩:=qRc h2
        exact⟨x,ra,rb,h1,e1,by rw [qXs];exact h3⟩
    rw [hrem] at hpm hsub
    have hxm:x∈ls:=hsub x (jW _ (.head _))
    have hxl:=hl x hxm
    have hxn:=hln x hxm
    refine J.M j6 ?_
    refine J.T<|J.f λ_ j7=>J.g ((qKo (mi:=mj) (p:=(x.nm,.slice x.A x.l.length x.c)) O O xD hg hst xD hl2)) O<|J.g ((qAT O O O)) O<|J.g ((qAT O O O)) O<|J.p 2 O<|J.c j7 ?_
    have hstp:=λy=>qYG (y:=y) hu hpm
    refine J.b1 [blk g3 [.map (some g6),Ptr g9] 124,F] [5] (.y 0 (.y 1 (.y 2 (.y 3 (.e 4 (.e 5 .nil)))))) Tryz.wide xF xD ?_
    refine J.j O (qAA O O qEW O qIo O) O O<|J.j O (qAD 0 O O O isAgg120 O) O O<|J.L ?_
    refine J.L ?_
    refine J.a1 O (qBb O O (λF' hF=>qFQ F' x.A x.l.length x.c x.l (hxl.mono (Fa hF)) xO)) O xD ?_
    rintro⟨A23,c23,m23⟩ h23
    try dsimp only at h23
    refine J.c1 O (qC2 (i:=6) O O O O qIu u9_ O hmp) O O O ?_
    rintro mu hmu
    rw [qT7 (hstp ⟨x.nm,A23,c23,x.l,m23⟩ rfl rfl).1,←qUf dn ⟨x.nm,A23,c23,x.l,m23⟩] at hmu
    refine J.c2 [0,8,1,2,3,4,5,6,7] [M,m23,F,blk g1 [.map (some gm),Ptr gr] 124,blk g2 [.map none,.pointer none] 124,m9,blk g3 [.map (some g6),Ptr g9] 124,mu,mj] O xC<|J.d5 (λhj=>?_)
    exact J.b0<|J.a2<|J.u<|J.a8 (ra++rb,dn++ [⟨x.nm,A23,c23,x.l,m23⟩],mj,mu,U [M,m23]) (λη (hη:_∧η.1.length<rem.length)=>hI0 η hη.1 hη.2) ⟨⟨hl2.it,hmu,hnxs.snoc h23 hj,(hstp ⟨x.nm,A23,c23,x.l,m23⟩ O O).2,λy hy=>hsub y (by rcases List.mem_append.1 hy with h|h;exact jh _ h;exact jW _ (.tail _ h))⟩,by dsimp only;rw [hrem,jA,jA,jD];omega⟩ ⟨O,O,O,trivial⟩ (λ_ h=>h)
  obtain rfl:rem= []:=by
    rcases hnx with ⟨_,h1,_⟩|⟨p,a,b,h1,_⟩
    · cases rem with
      |nil=>rfl
      |cons x r=>cases h1
    · rw [h1] at h15;cases h15
  refine J.b3<|J.a0<|J.a0<|J.b4 ?_
  refine J.u (J.D j3 ?_)
  refine J.f λ_ j8=>J.c0 5 isAgg124 qCp O O O O O<|J.a7 (qAC (i:=3) (l:= [.map none,.pointer none]) (vs:= [.map (some g6),Ptr g9]) O O O O O qCp O O) O O λ_ _=>J.c j8 ?_
  refine J.A ?_
  rw [show lbE dn++lbE []=lbE dn from jR _] at hpm
  exact J.a9 hw0 (λ_ _ h=>h) (rv1 O (RV.blkA 3 O O isAgg124 qCp)) (qAg (⟨g6,dn,mm,M,g9,m9⟩:CpR) O ⟨hmp,hnxs,hpm,h9⟩ [1,6,0,4] O xC)
theorem el52:qCY prog 52 [.int .u64 0,Str [],.int .i64 0,.int .i64 0,.slice none 0 0] 64:=qCY.of xI O
theorem el130:qCY prog 130 [.pointer none] 8:=qCY.of xI O
theorem el155:qCY prog 155 [Str [],Str []] 32:=qCY.of xI O
structure WtR where
 cA:Option Addr
 cc:Nat
 mC:Hp
 oA:Option Addr
 oc:Nat
 mO:Hp
theorem qM6(F mC mO:Hp)(gs:Nat)(v0 v1 v2 v3 v4 v5 v6 v9 v10:Value)(cA:Option Addr)(cc:Nat)(cl:List Chg)(hrc:Row mC 155 2 cA cl.length cc (qDo cl))(hcl:cl.length≤100000)(oA:Option Addr)(oc:Nat)(no:List xA)(hro:Row mO 9 1 oA no.length oc (qAH no))(hno:no.length≤100000)(nt k v:xA):Ct prog 62 [Ptr gs,Str nt,.agg #[Str k,Str v]] [blk gs [v0,v1,v2,v3,v4,v5,v6,.slice cA cl.length cc,.slice oA no.length oc,v9,v10] 129,mC,mO,F] (λ_:WtR=> .tuple #[]) (λx=>Row x.mC 155 2 x.cA (cl++ [(⟨k,v⟩:Chg)]).length x.cc (qDo (cl++ [(⟨k,v⟩:Chg)]))∧Row x.mO 9 1 x.oA (no++ [nt]).length x.oc (qAH (no++ [nt]))) (λx=> [blk gs [v0,v1,v2,v3,v4,v5,v6,.slice x.cA (cl++ [(⟨k,v⟩:Chg)]).length x.cc,.slice x.oA (no++ [nt]).length x.oc,v9,v10] 129,x.mC,x.mO,F]):=by
 refine Ct.walk func62 O ntmps62 O (λw0 hw0=>?_)
 refine J.f λ_ j1=>J.q (qAb O O O) O λg5 _=>J.c j1<|J.f λ_ j2=>J.p 2 O<|J.g (qAB O O) O<|J.W 8 qBJ qB9 O O O O O<|J.a6 0 qCQ O O O O O<|J.b O<|J.q (qAE (l:= [.tmp 11]) (xs:= [[Str (nt)]]) O O O O qAn el9 O xC xC xD) O λg12 _=>J.q (qAX (i:=2) (m2:=blk g12 [Str (nt)] 9) O O O qAn qAn el9 O hro xD ((qBO (q:=True) (qAH [nt]) O (by simp [qAH]) O).sl) O xB xB) O ?_
 rintro⟨A13,c13,m13⟩ h13
 try dsimp only at h13
 replace h13:Row m13 9 1 A13 (no.length+1) c13 (qAH (no++ [nt])):=by rw [qCD];exact h13
 rw [show no.length+1=(no++ [nt]).length by rw [jA];rfl] at h13⊢
 refine J.g (qAB O O) O<|J.W 8 qBJ qB9 O O O O O<|J.a7 (qAW (i:=0) O O O O O qB9 O xD) O O λ_ _=>?_
 change J _ _ _ [blk gs [v0,v1,v2,v3,v4,v5,v6,.slice cA cl.length cc,.slice A13 ((no++ [nt]).length) c13,v9,v10] 129,_,_,_,_,_] _
 refine J.c j2<|J.b1 [blk gs [v0,v1,v2,v3,v4,v5,v6,.slice cA cl.length cc,.slice A13 ((no++ [nt]).length) c13,v9,v10] 129,blk g5 [Str (k),Str (v)] 155] [10] (.y 0 (.y 1 (.y 2 (.y 3 (.y 4 (.y 5 (.e 6 (.e 7 (.y 8 (.y 9 (.e 10 .nil))))))))))) Tryz.wide xF xD ?_
 refine J.L ?_
 refine J.L ?_
 refine J.j O (qAB O O) O O<|J.j O (qAA O O qBJ O sizeOf126 O) O O<|J.j O (qAD 0 O O O isAgg126 O) O O<|J.j O (qAU 1 O O O isAgg155 qGB O) O O<|J.a1 O (qAE (l:= [.tmp 21]) (xs:= [[Str (k),Str (v)]]) O O O O qGD el155 O xC xC xD) O xD λg22 _=>J.a1 O (qAX (i:=1) (m2:=blk g22 [Str (k),Str (v)] 155) O O O qGD qGD el155 O hrc xD ((qAm (q:=True) (xs:=qDo [(⟨k,v⟩:Chg)]) O (by intro x hx;rw [List.mem_singleton.1 hx];rfl)).sl) O xB xB) O xD ?_
 rintro⟨A23,c23,m23⟩ h23
 try dsimp only at h23
 replace h23:Row m23 155 2 A23 (cl.length+1) c23 (qDo (cl++ [(⟨k,v⟩:Chg)])):=by rw [qIh];exact h23
 rw [show cl.length+1=(cl++ [(⟨k,v⟩:Chg)]).length by rw [jA];rfl] at h23⊢
 exact J.j O (qAB O O) O O<|J.j O (qAA O O qBJ O sizeOf126 O) O O<|J.c1 O (qAW (i:=0) O O O O O sizeOf126 O xD) O O O λ_ _=>J.b0<|J.d3 hw0 (λ_ _ h=>h) (qI7 O) (qAg (⟨A23,c23,m23,A13,c13,m13⟩:WtR) O ⟨h23,h13⟩ [0,1,2,3] O xC)
structure AdR where
 nA:Option Addr
 nc:Nat
 mN:Hp
 tA:Option Addr
 tc:Nat
 mT:Hp
 hA:Option Addr
 hc:Nat
 mH:Hp
def adH(par:xA)(dp rn:Nat)(hd:List RhD)(kv:List Sm.PR)(A:Option Addr)(c:Nat):RhD:=⟨hd.length,par,dp,rn,A,c,qAo kv dp⟩
structure AdP (par:xA) (dp rn gt:Nat) (tg:List Nat) (hd:List RhD) (kv:List Sm.PR) (x:AdR):Prop where
 nd:Row x.mN 9 1 x.nA (qAo kv dp).length x.nc (qAH (qAo kv dp))
 rt:Row x.mT 130 1 x.tA (tg++ [gt]).length x.tc (qDn (tg++ [gt]))
 rh:Row x.mH 52 5 x.hA (hd++ [adH par dp rn hd kv x.nA x.nc]).length x.hc (qDQ (hd++ [adH par dp rn hd kv x.nA x.nc]))
theorem qQP(F mT mH:Hp)(hK:qAG F ⟨3,0,none⟩ (Sha.K.map W32))(gs dp rB:Nat)(v1 v2 v3 v4 v5 v7 v8:Value)(tA:Option Addr)(tc:Nat)(tg:List Nat)(hrt:Row mT 130 1 tA tg.length tc (qDn tg))(htg:tg.length≤100000)(hA:Option Addr)(hc:Nat)(hd:List RhD)(hrh:Row mH 52 5 hA hd.length hc (qDQ hd))(hhd:hd.length≤100000)(hdp:dp≤4)(gt:Nat)(kv:List Sm.PR)(hT:qCl F gt kv)(hf:qCS kv)(RA:Option Addr)(rn rc:Nat)(au:List Aud)(hR:qAG F ⟨rB,0,none⟩ [.slice RA rn rc])(hRs:Sl F 4 RA rn rc (qBr au))(par:xA):Ct prog 50 [Ptr gs,Ptr gt,Str par] [blk gs [I (dp:Nat),v1,v2,v3,v4,v5,Ptr rB,v7,v8,.slice tA tg.length tc,.slice hA hd.length hc] 129,mT,mH,F] (λ_:AdR=> .tuple #[]) (AdP par dp rn gt tg hd kv) (λx=> [blk gs [I (dp:Nat),v1,v2,v3,v4,v5,Ptr rB,v7,v8,.slice x.tA (tg++ [gt]).length x.tc,.slice x.hA (hd++ [adH par dp rn hd kv x.nA x.nc]).length x.hc] 129,x.mT,x.mH,F,x.mN]):=by
 refine Ct.walk func50 O ntmps50 O (λw0 hw0=>?_)
 refine J.f λ_ j1=>J.p 2 O<|J.g (qAB O O) O<|J.W 0 qBJ z3_ O O O O O<|J.a6 0 b3_ O O O O O<|J.q (qBb O O (λF' hF=>qSa F' (hK.mo hF) gt kv (hT.mono (Fa hF)) xG dp xB)) O ?_
 rintro⟨A14,c14,m14⟩ h14
 try dsimp only at h14
 refine J.p 5 O<|J.c j1<|J.f λ_ j2=>J.p 2 O<|J.g (qAB O O) O<|J.W 9 qBJ sizeOf127 O O O O O<|J.a6 0 isAgg127 O O O O O<|J.b O<|J.q (qAE (l:= [.tmp 22]) (xs:= [[Ptr gt]]) O O O O qOT el130 O xC xC xD) O λg23 _=>J.q (qAX (i:=1) (m2:=blk g23 [Ptr gt] 130) O O O qOT qOT el130 O hrt xD ((qBO (q:=True) (qDn [gt]) O (by simp [qDn]) O).sl) O xB xB) O ?_
 rintro⟨A24,c24,m24⟩ h24
 try dsimp only at h24
 replace h24:Row m24 130 1 A24 (tg.length+1) c24 (qDn (tg++ [gt])):=by rw [qOl];exact h24
 rw [show tg.length+1=(tg++ [gt]).length by rw [jA];rfl] at h24⊢
 refine J.g (qAB O O) O<|J.W 9 qBJ sizeOf127 O O O O O<|J.a7 (qAW (i:=0) O O O O O sizeOf127 O xD) O O λ_ _=>?_
 change J _ _ _ [blk gs [I (dp:Nat),v1,v2,v3,v4,v5,Ptr rB,v7,v8,.slice A24 ((tg++ [gt]).length) c24,.slice hA hd.length hc] 129,_,_,_,_,_] _
 refine J.c j2<|J.b1 [blk gs [I (dp:Nat),v1,v2,v3,v4,v5,Ptr rB,v7,v8,.slice A24 ((tg++ [gt]).length) c24,.slice hA hd.length hc] 129] [28] (.y 0 (.y 1 (.y 2 (.y 3 (.y 4 (.y 5 (.y 6 (.y 7 (.y 8 (.y 9 (.y 10 (.y 11 (.y 12 (.y 13 (.y 14 (.y 15 (.y 16 (.y 17 (.y 18 (.y 19 (.y 20 (.y 22 (.e 21 (.y 23 (.e 24 (.e 25 (.y 26 (.y 27 (.e 28 .nil))))))))))))))))))))))))))))) Tryz.wide xF xD ?_
 refine J.L ?_
 refine J.L ?_
 refine J.j O (qAB O O) O O<|J.j O (qAA O O qBJ O qLj O) O O<|J.j O (qAD 0 O O O qPY O) O O<|J.L ?_
 refine J.j O (qAB O O) O O<|J.j O (qAA O O qBJ O qLj O) O O<|J.j O (qAD 0 O O O qPY O) O O<|J.j O (qAO qGl O O) O O<|J.j O (qDK O O u3_ qEV xB) O O<|J.L ?_
 refine J.L ?_
 refine J.j O (qAB O O) O O<|J.j O (qAA O O qBJ O z3_ O) O O<|J.j O (qAD 0 O O O b3_ O) O O<|J.L ?_
 refine J.j O (qAB O O) O O<|J.j O (qAA O O qBJ O qCp O) O O<|J.j O (qAA O O qEW O sizeOf121 O) O O<|J.j O (qAD 0 (v:=Ptr rB) O O O isAgg121 O) O O<|J.L ?_
 refine J.a1 O (qAZ O O (λF' hF=>qND F' rB RA rn rc (hR.mono (Fa hF)))) O xD λg48 _=>J.j O (qAL (places:= [(0,1),(1,1),(2,1),(3,1),(4,1)]) (r:= [N64 (hd.length),Str (par),I (dp:Nat),I (rn:Nat),.slice A14 ((qAo kv dp).length) c14]) O O O qEJ qYA (λ_=>xI) O) O O<|J.a1 O (qAE (l:= [.tmp 50]) (xs:= [[N64 (hd.length),Str (par),I (dp:Nat),I (rn:Nat),.slice A14 ((qAo kv dp).length) c14]]) O O O O qGl el52 O xC xC xD) O xD λg51 _=>J.a1 O (qAX (i:=2) (m2:=blk g51 [N64 (hd.length),Str (par),I (dp:Nat),I (rn:Nat),.slice A14 ((qAo kv dp).length) c14] 52) O O O qGl qGl el52 O hrh xD ((qAm (q:=True) (xs:=qDQ [(⟨hd.length,par,dp,rn,A14,c14,(qAo kv dp)⟩:RhD)]) O (by intro x hx;rw [List.mem_singleton.1 hx];rfl)).sl) O xB xB) O xD ?_
 rintro⟨A52,c52,m52⟩ h52
 try dsimp only at h52
 replace h52:Row m52 52 5 A52 (hd.length+1) c52 (qDQ (hd++ [(adH par dp rn hd kv A14 c14)])):=by rw [qKT];exact h52
 rw [show hd.length+1=(hd++ [(adH par dp rn hd kv A14 c14)]).length by rw [jA];rfl] at h52⊢
 exact J.j O (qAB O O) O O<|J.j O (qAA O O qBJ O qLj O) O O<|J.c1 O (qAW (i:=0) O O O O O qLj O xD) O O O λ_ _=>J.b0<|J.d3 hw0 (λ_ _ h=>h) (qI7 O) (qAg (⟨A14,c14,m14,A24,c24,m24,A52,c52,m52⟩:AdR) O ⟨h14,h24,h52⟩ [0,1,2,3,4] O xC)
theorem qKH(F:Hp)(gs:Nat)(v0 v1 v2 v3 v4 v5 v6 v7 v8 v9:Value)(A:Option Addr)(n c:Nat)(l:List RhD)(hs:Sl F 5 A n c (qDQ l))(h0:0<n)(hn:n≤1000000)(hp:qAG F ⟨gs,0,none⟩ [v0,v1,v2,v3,v4,v5,v6,v7,v8,v9,.slice A n c]):Cz prog 68 [Ptr gs] F (.agg #[N64 ((l.getD (n-1) qAY).ep),Str ((l.getD (n-1) qAY).par),I ((l.getD (n-1) qAY).dep:Nat),I ((l.getD (n-1) qAY).aud:Nat),.slice (l.getD (n-1) qAY).nsA (l.getD (n-1) qAY).ns.length (l.getD (n-1) qAY).nsc]):=by
 refine Ct.walk func68 O ntmps68 O (λw0 hw0=>?_)
 exact J.f λ_ j1=>J.q (qAJ O qYA O) O λg2 _=>J.c j1<|J.f λ_ j2=>J.b O<|J.g (qAB O O) O<|J.W 10 qBJ qLj O O O O O<|J.g (qAI O O qPY (m:=F) xD (hp.at (i:=10) O)) O<|J.q (qAZ O O (λF' hF=>qTP F' A n c l (hs.mono (Fa hF)) xB xB)) O λg7 _=>J.a7 (qAC (i:=1) (l:= [.int .u64 0,Str [],I 0,I 0,.slice none 0 0]) (vs:= [N64 ((l.getD (n-1) qAY).ep),Str ((l.getD (n-1) qAY).par),I ((l.getD (n-1) qAY).dep:Nat),I ((l.getD (n-1) qAY).aud:Nat),.slice (l.getD (n-1) qAY).nsA (l.getD (n-1) qAY).ns.length (l.getD (n-1) qAY).nsc]) O O O O O qDP O O) O O λ_ _=>J.c j2<|J.A<|J.a9 hw0 (λ_ _ h=>h) (rv1 O (RV.blkA 1 O O qGA qDP)) (qAg () O trivial [0] O xC)
def cmB(n e:Nat):xA:= [99]++(Sha.numB (UInt64.ofNat n) 2++Sha.numB (UInt64.ofNat e) 4)
theorem qSK(n e:Nat):(cmB n e).length=7:=by unfold cmB;simp only [jA,Sha.numB_length,jH]
def qCh(l:List xA):Nat:=(l.map λr=>qBi r.length).sum
theorem qCF(l:List xA)(s:xA):qCh (l++ [s])=qCh l+qBi s.length:=by unfold qCh;rw [jO,List.sum_append];rfl
theorem qKA(l:List xA){i:Nat}(h:i<l.length):l.take (i+1)=l.take i++ [l.getD i []]:=by
 rw [List.take_add_one,jC h,jB,jC h];rfl
theorem qIR{l:List xA}{i:Nat}(h:i<l.length):qCh (l.take (i+1))=qCh (l.take i)+qBi (l.getD i []).length:=by rw [qKA l h,qCF]
theorem qNh{l:List xA}{i:Nat}:qCh (l.take i)≤qCh l:=by
 unfold qCh
 induction l generalizing i with
 |nil=>simp
 |cons a l ih=>
  cases i with
  |zero=>simp
  |succ i=>
   rw [List.take_succ_cons,jb,jb,List.sum_cons,List.sum_cons]
   have:=ih (i:=i);omega
structure CbL (x y:CbR) (l:List xA):Prop where
 gd:y.gd=x.gd
 f0:y.f0=x.f0
 sz:y.size=x.size
 e:y.e=x.e+qCh l
 R:y.R=x.R++l
 ln:y.d.last.length=x.d.last.length
theorem CbL.nil(x:CbR):CbL x x []:=⟨rfl,rfl,rfl,rfl,(jR _).symm,rfl⟩
theorem CbL.snoc{x y z:CbR}{l:List xA}{s:xA}(h:CbL x y l)(hs:CbN y z s):CbL x z (l++ [s]):=
 ⟨hs.gd.trans h.gd,hs.f0.trans h.f0,hs.sz.trans h.sz,by rw [hs.e,h.e,qCF,Nat.add_assoc],by rw [hs.R,h.R,jX],hs.ln.trans h.ln⟩
theorem qNj{l:List xA}{i:Nat}(h:i<l.length):l.getD i []∈l:=by
 rw [jB,jC h];exact jQ h
structure WrR where
 x:CbR
 md:Hp
 N:Hp
theorem qP3(F md N:Hp)(hK:qAG F ⟨3,0,none⟩ (Sha.K.map W32))(gs gb:Nat)(v0 v2 v3 v4 v5 v6 v7 v9:Value)(oA:Option Addr)(oc:Nat)(no:List xA)(hsO:Sl F 1 oA no.length oc (qAH no))(hno:no.length≤256)(h9: ∀s∈no,s.length≤900)(hA:Option Addr)(hn hc:Nat)(hhn:hn≤100000)(hp:qAG F ⟨gs,0,none⟩ [v0,Ptr gb,v2,v3,v4,v5,v6,v7,.slice oA no.length oc,v9,.slice hA hn hc])(x:CbR)(hb:CbP N md x)(hfit:x.e+qCh (no++ [cmB no.length hn])≤x.size)(hsz:x.size≤100000)(hR:x.R.length+no.length<65535):Ct prog 66 [Ptr gs] [x.blk gb,md,N,F] (λ_:WrR=>I (0:Nat)) (λy=>CbP y.N y.md y.x∧CbL x y.x (no++ [cmB no.length hn])) (λy=> [y.x.blk gb,y.md,y.N,F]):=by
 refine Ct.walk func66 O ntmps66 O (λw0 hw0=>?_)
 refine J.f λ_ j1=>J.b O<|J.c j1<|J.f λ_ j2=>J.q (qAJ O qLI O) O λg3 _=>J.c j2<|J.k λ_ j3=>J.b1 [F] [] (.y 0 (.y 1 (.y 2 (.y 3 (.y 4 (.y 5 (.y 7 (.y 8 (.y 9 (.y 10 (.y 11 (.y 12 (.e 6 (.e 13 (.e 14 (.y 15 (.y 16 (.y 17 (.y 18 (.y 19 .nil)))))))))))))))))))) Tryz.wide xF xD ?_
 refine J.L ?_
 refine J.j O (qAB O O) O O<|J.j O (qAA O O qBJ O qB9 O) O O<|J.j O (qAI O O qCQ (m:=F) xD (hp.at (i:=8) O)) O O<|J.j O (qAO qAn O O) O O<|J.j O (qDK O O u3_ qEV xB) O O<|J.L ?_
 refine J.j O (qAB O O) O O<|J.j O (qAA O O qBJ O qLj O) O O<|J.j O (qAI O O qPY (m:=F) xD (hp.at (i:=10) O)) O O<|J.j O (qAO qGl O O) O O<|J.j O (qDK O O u3_ qEV xB) O O<|J.a1 O (qAK O O ent (Ct.use1 4 O (λF' hF=>qRE F' (blk g3 [.pointer none,.slice none 0 0,I 0] 148) g3 ([]) (wtrN g3) (by first|decide|omega|(simp only [jA,jD,jG,jH,Sha.numB_length,qF1]<;>omega)) no.length 2 xC xC xM))) O xD ?_
 rintro m20 hw20
 rw [jr] at hw20
 refine J.a1 O (qAK O O ent (Ct.use1 4 O (λF' hF=>qRE F' m20 g3 (Sha.numB (UInt64.ofNat no.length) 2) hw20 (by first|decide|omega|(simp only [jA,jD,jG,jH,Sha.numB_length,qF1]<;>omega)) hn 4 xC xC xM))) O xD ?_
 rintro m27 hw27
 refine J.a1 O (qAK O O ent (Ct.use1 4 O (λF' hF=>qLT F' m27 g3 (Sha.numB (UInt64.ofNat no.length) 2++Sha.numB (UInt64.ofNat hn) 4) hw27 (by first|decide|omega|(simp only [jA,jD,jG,jH,Sha.numB_length,qF1]<;>omega))))) O xD ?_
 rintro m28 hw28
 refine J.L ?_
 refine J.c7 (Str (Sha.numB (UInt64.ofNat no.length) 2++Sha.numB (UInt64.ofNat hn) 4)) ?_
 refine J.c7 (I (0:Nat)) ?_
 refine J.b7 ?_
 refine J.b7 ?_
 refine J.b0<|J.u (J.D j3 ?_)
 refine J.k λ_ j4=>J.f λ_ j5=>J.b O<|J.g ((qAV O O O).no xC) O<|J.c j5<|J.a3 ?_
 refine J.M j4<|J.k λ_ j6=>?_
 have hl9: ∀s∈(no++ [cmB no.length hn]),s.length≤900:=λs hs=>by
  rcases List.mem_append.1 hs with h|h
  · exact h9 s h
  · rw [List.mem_singleton.1 h,qSK];decide
 have hnl:(no++ [cmB no.length hn]).length=no.length+1:=by rw [jA];rfl
 have hef:=hb.ef
 refine J.H<|J.b O<|J.g (qAB O O) O<|J.W 8 qBJ qB9 O O O O O<|J.g (qAI O O qCQ (m:=F) xD (hp.at (i:=8) O)) O<|J.q (qBb O O (λF' hF=>qJo F' oA no.length oc no (hsO.mono (Fa hF)) xB)) O ?_
 rintro⟨A38,c38,m38⟩ h38
 try dsimp only at h38
 refine J.b O<|J.g ((qBe O O O (by simp only [jA,Sha.numB_length,jD,jG];omega)).as (v':=Str (cmB no.length hn)) O) O<|J.q (qAE (l:= [.tmp 40]) (xs:= [[Str (cmB no.length hn)]]) O O O O qAn el9 O xC xC xD) O λg41 _=>J.q (qAX (i:=5) (m2:=blk g41 [Str (cmB no.length hn)] 9) O O O qAn qAn el9 O h38 xD ((qBO (q:=True) (qAH [cmB no.length hn]) O (by simp [qAH]) O).sl) O xB xB) O ?_
 rintro⟨A42,c42,m42⟩ h42
 try dsimp only at h42
 replace h42:Row m42 9 1 A42 (no.length+1) c42 (qAH (no++ [(cmB no.length hn)])):=by rw [qCD];exact h42
 rw [show no.length+1=(no++ [(cmB no.length hn)]).length by rw [jA];rfl] at h42⊢
 refine J.b O<|J.c j6<|J.f λ_ j7=>J.b O<|J.c j7<|J.k λ_ j8=>J.f λ_ j9=>J.b O<|J.g (qAO qAn O O) O<|J.b O<|J.c j9<|J.T<|J.b5 (X:=Nat) (λζ=> [(0,Ptr gs),(6,.slice A42 ((no++ [cmB no.length hn]).length) c42),(7,I (qCh ((no++ [cmB no.length hn]).take ζ):Nat)),(43,.slice A42 ((no++ [cmB no.length hn]).length) c42),(44,I ((no++ [cmB no.length hn]).length:Nat)),(45,I (ζ:Nat))]) (λζ=> [x.blk gb,md,N,F,m28,m42,blk g41 [Str (cmB no.length hn)] 9]) (λζ=>ζ≤(no++ [cmB no.length hn]).length) (λζ=>(no++ [cmB no.length hn]).length-ζ) 0 (jE _) ⟨O,O,O,O,O,O,trivial⟩ (λ_ h=>h) ?_
 rintro i hi I0 hI0
 refine J.f λ_ j10=>J.g (qAS O O O) O<|J.c j10<|J.k λ_ j11=>J.Z O (λh46=>?_) (λh46=>?_)
 ·
  refine J.M j11<|J.k λ_ j12=>J.T<|J.f λ_ j13=>J.g (qAF O O O qAn z9_ h42.sl xB) O<|J.g (qAI O O b9_ (m:=m42) xD (h42.sl.elem (qAc (qAi [] xB)))) O<|J.b O<|J.c j13 ?_
  have hp9:=hl9 _ (qNj (l:=(no++ [cmB no.length hn])) (i:=i) xB)
  have hp24:=qD2 hp9
  have hnle:=qNh (l:=(no++ [cmB no.length hn])) (i:=i)
  refine J.H<|J.p 2 O<|J.g (qAu u9_ O O) O<|J.q (qAZ O O (λF' hF=>qG3 F' ((no++ [cmB no.length hn]).getD i []).length xB)) O λg52 _=>J.g ((qAR O O O xB).as (v':=I (qCh ((no++ [cmB no.length hn]).take i)+(qBi ((no++ [cmB no.length hn]).getD i []).length):Nat)) (congrArg I xB)) O<|J.b O<|J.a4<|J.a2<|J.u (J.D j12 ?_)
  exact J.H<|J.g ((qAR O O O xB).nat (i+1) xB) O<|J.b O<|J.a4<|J.u<|J.a8 (i+1) (λη (hη:_∧(no++ [cmB no.length hn]).length-η<(no++ [cmB no.length hn]).length-i)=>hI0 η hη.1 hη.2) ⟨xB,by first|omega|(dsimp only;omega)⟩ ⟨O,O,by rw [qIR xB];rfl,O,O,O,trivial⟩ (λ_ h=>h)
 refine J.b3<|J.a0<|J.a0<|J.b4 ?_
 refine J.u (J.D j8 ?_)
 refine J.k λ_ j14=>J.k λ_ j15=>?_
 obtain rfl:i=(no++ [cmB no.length hn]).length:=by omega
 rw [jm]
 refine J.H<|J.p 2 O<|J.g (qAB O O) O<|J.W 1 qBJ sizeOf125 O O O O O<|J.g (qAI O O isAgg125 (m:=F) xD (hp.at (i:=1) O)) O<|J.q (qAZ O O (λF' hF=>qRa F' gb x.gd ((x.f0:Nat):Int) x.size (x.hat:Nat) x.ht ((x.e:Nat):Int) x.A x.R.length x.c false (qAG.blk0.mono (hF (x.blk gb) xD)) xB xB)) O λg60 _=>J.g ((qA5 O O O).no xB) O<|J.c j15<|J.a3 ?_
 refine J.M j14<|J.k λ_ j16=>J.f λ_ j17=>J.b O<|J.g (qAO qAn O O) O<|J.b O<|J.c j17<|J.T<|J.b5 (X:=Nat×CbR×Hp×Hp) (λζ=> [(0,Ptr gs),(62,.slice A42 ((no++ [cmB no.length hn]).length) c42),(63,I ((no++ [cmB no.length hn]).length:Nat)),(64,I (ζ.1:Nat))]) (λζ=> [ζ.2.1.blk gb,ζ.2.2.1,F,ζ.2.2.2,m28,m42]) (λζ=>ζ.1≤(no++ [cmB no.length hn]).length∧CbP ζ.2.2.2 ζ.2.2.1 ζ.2.1∧CbL x ζ.2.1 ((no++ [cmB no.length hn]).take ζ.1)) (λζ=>(no++ [cmB no.length hn]).length-ζ.1) (0,x,md,N) (⟨jE _,hb,CbL.nil x⟩) ⟨O,O,O,O,trivial⟩ (λ_ h=>h.pick [0,1,3,2,4,5] xC) ?_
 rintro⟨i,y,md2,N2⟩ ⟨hi,hy,hL⟩ I2 hI2
 dsimp only at hi hy hL⊢
 refine J.f λ_ j18=>J.g (qAS O O O) O<|J.c j18<|J.k λ_ j19=>J.Z O (λh65=>?_) (λh65=>?_)
 ·
  refine J.M j19<|J.k λ_ j20=>J.T<|J.f λ_ j21=>J.g (qAF O O O qAn z9_ h42.sl xB) O<|J.g (qAI O O b9_ (m:=m42) xD (h42.sl.elem (qAc (qAi [] xB)))) O<|J.b O<|J.c j21<|J.f λ_ j22=>J.b O<|J.g (qAB O O) O<|J.W 1 qBJ sizeOf125 O O O O O<|J.g (qAI O O isAgg125 (m:=F) xD (hp.at (i:=1) O)) O<|J.b O<|J.q (qAK O O ent (Ct.useA [y.blk gb,md2] [F,N2,m28,m42] (A':=λz:CbR×Hp×Hp=> [z.1.blk gb,z.2.1]) (new:=λz=> [z.2.2]) (λF' hF=>qYF F' md2 (hK.mo hF) gb y (hy.mono (Fa hF)) ((no++ [cmB no.length hn]).getD i []) (hl9 _ (qNj xB)) (by rw [hL.e,hL.sz];have:=qNh (l:=(no++ [cmB no.length hn])) (i:=i+1);rw [qIR xB] at this;omega) (by rw [hL.R,jA,jF];omega)))) O ?_
  rintro⟨y2,md3,N3⟩ ⟨hy2,hn2⟩
  refine J.b O<|J.c j22<|J.f λ_ j23=>J.b O<|J.g ((qAV O O O).no xC) O<|J.c j23<|J.a3 ?_
  refine J.b2<|J.a2<|J.u (J.D j20 ?_)
  exact J.H<|J.g ((qAR O O O xB).nat (i+1) xB) O<|J.b O<|J.a4<|J.u<|J.a8 (i+1,y2,md3,N3) (λη (hη:_∧(no++ [cmB no.length hn]).length-η.1<(no++ [cmB no.length hn]).length-i)=>hI2 η hη.1 hη.2) ⟨⟨by dsimp only;omega,hy2,by dsimp only;rw [qKA _ xB];exact hL.snoc hn2⟩,by dsimp only;omega⟩ ⟨O,O,O,O,trivial⟩ (λ_ h=>h.pick [0,1,2,6,4,5] xC)
 refine J.b3<|J.a0<|J.a0<|J.b4 ?_
 refine J.u (J.D j16 ?_)
 exact J.f λ_ j24=>J.b O<|J.c j24<|J.A<|J.E hw0 O (⟨y,md2,N2⟩:WrR) O ⟨hy,by rw [show(no++ [cmB no.length hn]).take i=(no++ [cmB no.length hn]) from jV xB] at hL;exact hL⟩ [0,1,3,2] O xC
abbrev aX(l:List Aud)(i:Nat):Aud:=l.getD i qAt
structure qYc (gl:List Aud):Prop where
 len:gl.length≤15
 sm: ∀x∈gl,x.nm.length≤1000000∧x.op.length≤1048576∧x.rt.length≤1048576
 ok: ∀i,i<gl.length→qOF (gl.take i) (aX gl i).nm (aX gl i).op (aX gl i).rt (aX gl i).ht=0
theorem qYc.at{gl:List Aud}(h:qYc gl){i:Nat}(hi:i<gl.length):(aX gl i).nm.length≤1000000∧(aX gl i).op.length≤1048576∧(aX gl i).rt.length≤1048576:=by
 refine h.sm _ ?_
 show gl.getD i qAt∈gl
 rw [jB,jC hi];exact jQ hi
theorem qYc.step{gl:List Aud}(h:qYc gl){i:Nat}(hi:i<gl.length):qSp (gl.take i) (aX gl i).nm (aX gl i).op (aX gl i).rt (aX gl i).ht=gl.take (i+1):=by
 unfold qSp
 rw [if_pos (h.ok i hi),qEK gl i qAt hi]
theorem qPP(x:Aud):(qWE x).length≤16:=by
 unfold qWE
 split
 · rw [Sha.tagged_length];exact jJ _
 · exact jE _
theorem qHL(l:List Aud): ∀{n:Nat},n≤15→qCS (qGP [] l n)
 |0,_=>⟨List.Pairwise.nil,(λp h=>by cases h),(λp h=>by cases h),jE _⟩
 |n+1,h=>by
  have h2:=qJW l (n:=n) xB
  exact(qHL l xB).put (qBm n) (jg (qPP _) xC) xB
structure NwR where
 gs:Nat
 gA:Nat
 gR:Nat
 mR:Hp
 gt:Nat
 mt:Hp
 cp:CpR
 ad:AdR
 gb:Nat
structure NwP (gl:List Aud) (dp:Nat) (x:NwR):Prop where
 ro:qS1 x.mR x.gR gl
 tr:qGH x.mt x.gt (qGP [] gl gl.length)
 cp:CpP [] gl x.cp
 ad:AdP qAk dp gl.length x.gt [] [] (qGP [] gl gl.length) x.ad
theorem qL3(F:Hp)(gs:Nat)(A:Option Addr)(c:Nat):Cz prog 52 [Ptr gs,.slice A 0 c] F (.bool true):=by
 refine Ct.walk func52 O ntmps52 O (λw0 hw0=>?_)
 refine J.f λ_ j1=>J.b O<|J.c j1<|J.f λ_ j2=>J.b O<|J.c j2<|J.k λ_ j3=>J.f λ_ j4=>J.b O<|J.g (qAO qAn O O) O<|J.b O<|J.c j4<|J.T<|J.b5 (X:=Nat×Value) (λζ=> [(0,Ptr gs),(5,ζ.2),(13,.slice A 0 c),(14,I (0:Nat)),(15,I (ζ.1:Nat))]) (λζ=> [F]) (λζ=>ζ.1=0) (λζ=>0) (0,.slice none 0 0) (O) ⟨O,O,O,O,O,trivial⟩ (λ_ h=>h) ?_
 rintro⟨i,v5⟩ hi I0 hI0
 dsimp only at hi⊢
 refine J.f λ_ j5=>J.g ((qAS O O O).no xB) O<|J.c j5<|J.k λ_ j6=>J.a3 ?_
 refine J.b3<|J.a0<|J.a0<|J.b4 ?_
 refine J.u (J.D j3 ?_)
 exact J.f λ_ j7=>J.b O<|J.c j7<|J.A<|J.E hw0 O () O trivial [0] O xC
theorem qWf(F md:Hp)(hK:qAG F ⟨3,0,none⟩ (Sha.K.map W32))(hA:qAG F ⟨0,0,none⟩ qBT)(hT:qBv F)(gd n:Nat)(hb:Dsk md gd (Dk.new n) none 0)(hn4:4≤n)(hn:n≤1000)(first count:Nat)(h8:8≤count)(hfc:first+count≤n)(dp:Nat)(hdp:dp≤4)(GA:Option Addr)(gc:Nat)(gl:List Aud)(hgl:Sl F 4 GA gl.length gc (qBr gl))(hg:qYc gl):Ct prog 9 [Ptr gd,I (first:Nat),I (count:Nat),I (dp:Nat),.slice GA gl.length gc] [md,F] (λx:NwR=> .tuple #[Ptr x.gs,I (0:Nat)]) (NwP gl dp) (λx=> [md,F,qAN x.gA (.map #[] 0),x.mR,x.mt,blk x.gs [I (dp:Nat),Ptr x.gb,.bool false,.map (some x.gA),Ptr x.gR,.map (some x.cp.g),Ptr x.cp.r,.slice none 0 0,.slice none 0 0,.slice x.ad.tA (([]:List Nat)++ [x.gt]).length x.ad.tc,.slice x.ad.hA (([]:List RhD)++ [adH qAk dp gl.length [] (qGP [] gl gl.length) x.ad.nA x.ad.nc]).length x.ad.hc] 129,x.cp.mm,x.cp.M,x.cp.mr,x.ad.mT,x.ad.mH,x.ad.mN,(CbR.blk x.gb ⟨gd,first,count/2,first,0,0,none,0,[],Dk.new n⟩)]):=by
 obtain ⟨hp1,hp16⟩:=qKc hdp
 have hcnt:cnt ((dp:Nat):Int)=2^dp:=qDC hdp
 have hg15:=hg.len
 obtain ⟨dA,dc,dB,de,hdc,hdL,hdW⟩:=hb.see
 have hll:=qJW gl (n:=gl.length) hg15
 have hlast:(Dk.new n).last.length=n:=by unfold Dk.new;exact jL
 refine Ct.walk func9 O ntmps9 O (λw0 hw0=>?_)
 refine J.f λ_ j1=>J.p 2 O<|J.c j1<|J.k λ_ j2=>J.f λ_ j3=>J.b O<|J.q (qAZ O O (λF' hF=>by have:=qCP F' ((dp:Nat):Int);rw [hcnt] at this;exact this)) O λg21 _=>J.g ((qAe O O O).no xB) O<|J.c j3<|J.a3 ?_
 refine J.M j2<|J.f λ_ j4=>J.b O<|J.q (qDI O) O ?_
 rintro g24 _
 refine J.q (qBb O O (λF' hF=>Ct.swap2 (qWv F'))) O ?_
 rintro⟨g25,m25⟩ h25
 try dsimp only at h25
 refine J.g (qAL (places:= [(0,1),(1,1)]) (r:= [.map (some g24),Ptr g25]) O O O qEW zeroValue124 (λ_=>xI) O) O<|J.g (qAL (places:= [(0,1),(1,1),(2,1),(3,2),(5,2),(7,1),(8,1),(9,1),(10,1)]) (r:= [I (dp:Nat),.pointer none,.bool false,.map (some g24),Ptr g25,.map none,.pointer none,.slice none 0 0,.slice none 0 0,.slice none 0 0,.slice none 0 0]) O O O qBJ zeroValue129 (λ_=>xI) xI) O<|J.q (qAb O O O) O λg28 _=>J.b O<|J.c j4<|J.k λ_ j5=>J.f λ_ j6=>J.b O<|J.g (qAO qDm O O) O<|J.b O<|J.c j6<|J.T<|J.b5 (X:=Nat×Hp) (λζ=> [(0,Ptr gd),(1,I (first:Nat)),(2,I (count:Nat)),(12,Ptr g28),(29,.slice GA gl.length gc),(30,I (gl.length:Nat)),(31,I (ζ.1:Nat))]) (λζ=> [ζ.2,md,F,qAN g24 (.map #[] 0),blk g28 [I (dp:Nat),.pointer none,.bool false,.map (some g24),Ptr g25,.map none,.pointer none,.slice none 0 0,.slice none 0 0,.slice none 0 0,.slice none 0 0] 129]) (λζ=>ζ.1≤gl.length∧qS1 ζ.2 g25 (gl.take ζ.1)) (λζ=>gl.length-ζ.1) (0,m25) (⟨jE _,h25⟩) ⟨O,O,O,O,O,O,O,trivial⟩ (λ_ h=>h.pick [3,0,1,2,4] xC) ?_
 rintro⟨i,mo⟩ ⟨hi,hro⟩ I0 hI0
 dsimp only at hi hro⊢
 refine J.f λ_ j7=>J.g (qAS O O O) O<|J.c j7<|J.k λ_ j8=>J.Z O (λh32=>?_) (λh32=>?_)
 ·
  refine J.M j8<|J.k λ_ j9=>J.T<|J.k λ_ j10=>?_
  obtain ⟨hx1,hx2,hx3⟩:=hg.at (i:=i) xB
  have htk:(gl.take i).length≤1000000:=by rw [jF];omega
  refine J.H<|J.g (qAF O O O qDm qDq hgl xB) O<|J.g (qAP O O qLY qDq (m:=F) xD (hgl.elem (qFT xB)) O) O<|J.q (qAJ O qSD O) O λg14 _=>J.a7 (qAC (i:=5) (l:= [Str [],Str [],Str [],I 0]) (vs:= [Str ((gl.getD i qAt).nm),Str ((gl.getD i qAt).op),Str ((gl.getD i qAt).rt),I ((gl.getD i qAt).ht)]) O O O O O qDq O O) O O λ_ _=>J.c j10<|J.k λ_ j11=>J.b1 [blk g28 [I (dp:Nat),.pointer none,.bool false,.map (some g24),Ptr g25,.map none,.pointer none,.slice none 0 0,.slice none 0 0,.slice none 0 0,.slice none 0 0] 129,blk g14 [Str ((gl.getD i qAt).nm),Str ((gl.getD i qAt).op),Str ((gl.getD i qAt).rt),I ((gl.getD i qAt).ht)] 34] [] (.y 0 (.y 1 (.y 2 (.y 3 (.y 4 (.y 5 (.e 6 (.y 7 (.y 8 (.y 9 (.y 10 (.y 11 .nil)))))))))))) Tryz.wide xF xD ?_
  refine J.L ?_
  refine J.j O (qAB O O) O O<|J.j O (qAA O O qBJ O qCp O) O O<|J.j O (qAA O O qEW O sizeOf121 O) O O<|J.j O (qAD 0 O O O isAgg121 O) O O<|J.j O (qAU 1 O O O qLY qDq O) O O<|J.a1 O (qAK O O ent (Ct.use1 0 O (λF' hF=>qW8 F' mo g25 (gl.take i) hro (hA.mono (Fa hF)) (hT.mono (Fa hF)) ((gl.getD i qAt).nm) ((gl.getD i qAt).op) ((gl.getD i qAt).rt) ((gl.getD i qAt).ht) (by first|omega|exact jf O|(rw [jP];omega)) (by first|omega|exact jf O|(rw [jP];omega)) (by first|omega|exact jf O|(rw [jP];omega)) (by first|omega|exact jf O|(rw [jP];omega))))) O xD ?_
  rintro m42 h42
  rw [hg.ok i xB]
  replace h42:=(congrArg (qS1 m42 g25) (hg.step (i:=i) xB)).mp h42
  refine J.L ?_
  refine J.c7 (I (qHz (gl.take i) (aX gl i).nm (aX gl i).op (aX gl i).rt (aX gl i).ht)) ?_
  refine J.c7 (I (0:Nat)) ?_
  refine J.b7 ?_
  refine J.b7 ?_
  refine J.b0<|J.u (J.D j11 ?_)
  refine J.f λ_ j12=>J.b O<|J.g ((qAV O O O).no xC) O<|J.c j12<|J.a3 ?_
  refine J.b2<|J.a2<|J.u (J.D j9 ?_)
  exact J.H<|J.g ((qAR O O O xB).nat (i+1) xB) O<|J.b O<|J.a4<|J.u<|J.a8 (i+1,m42) (λη (hη:_∧gl.length-η.1<gl.length-i)=>hI0 η hη.1 hη.2) ⟨⟨by dsimp only;omega,h42⟩,by dsimp only;omega⟩ ⟨O,O,O,O,O,O,O,trivial⟩ (λ_ h=>h.pick [0,1,2,3,4] xC)
 refine J.b3<|J.a0<|J.a0<|J.b4 ?_
 refine J.u (J.D j5 ?_)
 refine J.k λ_ j13=>?_
 obtain rfl:i=gl.length:=by omega
 rw [jm] at hro
 obtain ⟨A3,n3,c3,hcA,hsA,_⟩:=hro.see
 obtain rfl:gl.length=n3:=by have:=hsA.1;rw [qEF] at this;exact this
 refine J.H<|J.q (qBb O O (λF' hF=>Ct.swap2 (qWP F'))) O ?_
 rintro⟨g49,m49⟩ h49
 try dsimp only at h49
 refine J.b O<|J.c j13<|J.f λ_ j14=>J.b O<|J.g (qAB O O) O<|J.W 3 qBJ qCp O O O O O<|J.W 4 qEW sizeOf121 O O O O O<|J.a6 4 isAgg121 O O O O O<|J.b O<|J.q (qAK O O ent (Ct.use1 5 O (λF' hF=>qWx F' m49 (hK.mo hF) g25 A3 gl.length c3 gl (hsA.mono (Fa hF)) xB (hcA.mono (Fa hF)) g49 [] h49 hg.sm xB))) O ?_
 rintro m56 h56
 refine J.c j14<|J.f λ_ j15=>J.p 2 O<|J.g (qAB O O) O<|J.W 3 qBJ qCp O O O O O<|J.g (qAP O O isAgg124 qCp (m:=blk g28 [I (dp:Nat),.pointer none,.bool false,.map (some g24),Ptr g25,.map none,.pointer none,.slice none 0 0,.slice none 0 0,.slice none 0 0,.slice none 0 0] 129) xD (qAG.blk0.sub 3 2) O) O<|J.q (qBb O O (λF' hF=>qNB F' g24 g25 [] ((MapS.nil g24).at.mono (hF (qAN g24 (.map #[] 0)) xD)) (λ_ h=>by cases h) List.nodup_nil (λ_ h=>by cases h) A3 gl.length c3 gl (hcA.mono (Fa hF)) (hsA.mono (Fa hF)) xB)) O ?_
 rintro r62 hp62
 refine J.g (qAB O O) O<|J.W 5 qBJ qCp O O O O O<|J.a7 (qAW (i:=4) O O O O O qCp O xD) O O λ_ _=>J.c j15<|J.k λ_ j16=>?_
 obtain ⟨A4,n4,c4,hcB,hsB,_⟩:=hp62.ro.see
 obtain rfl:gl.length=n4:=by have:=hsB.1;rw [qEF] at this;exact this
 refine J.c6 [0,1,2,3,4,5,6,7,8,9] [mo,md,F,qAN g24 (.map #[] 0),blk g28 [I (dp:Nat),.pointer none,.bool false,.map (some g24),Ptr g25,.map (some r62.g),Ptr r62.r,.slice none 0 0,.slice none 0 0,.slice none 0 0,.slice none 0 0] 129,m56,r62.mm,r62.M,r62.mr,(λ_=>none)] O xC<|J.c6 [0,1,2,3,4,5,6,7,8,9,10] [mo,md,F,qAN g24 (.map #[] 0),blk g28 [I (dp:Nat),.pointer none,.bool false,.map (some g24),Ptr g25,.map (some r62.g),Ptr r62.r,.slice none 0 0,.slice none 0 0,.slice none 0 0,.slice none 0 0] 129,m56,r62.mm,r62.M,r62.mr,(λ_=>none),(λ_=>none)] O xC<|J.c2 [4,9,10,1,2,3,0,5,6,7,8] [blk g28 [I (dp:Nat),.pointer none,.bool false,.map (some g24),Ptr g25,.map (some r62.g),Ptr r62.r,.slice none 0 0,.slice none 0 0,.slice none 0 0,.slice none 0 0] 129,(λ_=>none),(λ_=>none),md,F,qAN g24 (.map #[] 0),mo,m56,r62.mm,r62.M,r62.mr] O xC<|J.H<|J.p 2 O<|J.q (qAK O O ent (Ct.useA [blk g28 [I (dp:Nat),.pointer none,.bool false,.map (some g24),Ptr g25,.map (some r62.g),Ptr r62.r,.slice none 0 0,.slice none 0 0,.slice none 0 0,.slice none 0 0] 129,(λ_=>none),(λ_=>none)] [md,F,qAN g24 (.map #[] 0),mo,m56,r62.mm,r62.M,r62.mr] (A':=λx:AdR=> [blk g28 [I (dp:Nat),.pointer none,.bool false,.map (some g24),Ptr g25,.map (some r62.g),Ptr r62.r,.slice none 0 0,.slice none 0 0,.slice x.tA (([]:List Nat)++ [g49]).length x.tc,.slice x.hA (([]:List RhD)++ [adH qAk dp gl.length [] (qGP [] gl gl.length) x.nA x.nc]).length x.hc] 129,x.mT,x.mH]) (new:=λx=> [x.mN]) (λF' hF=>qQP F' (λ_=>none) (λ_=>none) (hK.mo hF) g28 dp r62.r (.pointer none) (.bool false) (.map (some g24)) (Ptr g25) (.map (some r62.g)) (.slice none 0 0) (.slice none 0 0) none 0 [] qBZ.nil (jE _) none 0 [] qBZ.nil (jE _) hdp g49 (qGP [] gl gl.length) (h56.at.mono (Fa hF)) (qHL gl hg15) A4 gl.length c4 gl (hcB.mono (Fa hF)) (hsB.mono (Fa hF)) qAk))) O ?_
 rintro r67 hp67
 refine J.c j16<|J.f λ_ j17=>J.p 3 O<|J.q (qBb O O (λF' hF=>qOs F' (hK.mo hF) gd (Dk.new n) dA dc dB de none 0 (hdc.mono (Fa hF)) (hdL.mono (Fa hF)) (hdW.mono (Fa hF)) xB (jE _) first count h8 xB qUP)) O ?_
 rintro g72 _
 change J _ ((72,.tuple #[Ptr g72,I (0:Nat)])::_) _ [_,_,_,_,_,_,_,_,_,_,_,_,(CbR.blk g72 ⟨gd,first,count/2,first,0,0,none,0,[],Dk.new n⟩)] _
 refine J.p 5 O<|J.c j17<|J.k λ_ j18=>J.f λ_ j19=>J.b O<|J.g ((qAV O O O).no xC) O<|J.c j19<|J.a3 ?_
 refine J.M j18<|J.f λ_ j20=>J.p 2 O<|J.g (qAB O O) O<|J.W 1 qBJ sizeOf125 O O O O O<|J.a7 (qAW (i:=0) (l:= [I (dp:Nat),.pointer none,.bool false,.map (some g24),Ptr g25,.map (some r62.g),Ptr r62.r,.slice none 0 0,.slice none 0 0,.slice r67.tA (([]:List Nat)++ [g49]).length r67.tc,.slice r67.hA (([]:List RhD)++ [adH qAk dp gl.length [] (qGP [] gl gl.length) r67.nA r67.nc]).length r67.hc]) (vs:= [Ptr g72]) O O O O O sizeOf125 O xD) O O λ_ _=>?_
 change J _ _ _ [blk g28 [I (dp:Nat),Ptr g72,.bool false,.map (some g24),Ptr g25,.map (some r62.g),Ptr r62.r,.slice none 0 0,.slice none 0 0,.slice r67.tA (([]:List Nat)++ [g49]).length r67.tc,.slice r67.hA (([]:List RhD)++ [adH qAk dp gl.length [] (qGP [] gl gl.length) r67.nA r67.nc]).length r67.hc] 129,_,_,_,_,_,_,_,_,_,_,_,_] _
 refine J.c j20<|J.k λ_ j21=>J.f λ_ j22=>J.p 2 O<|J.q (qAK O O ent (Ct.use (new:=λx:Option Addr×Nat×Hp=> [x.2.2]) (λF' hF=>qOi F' g72 gd ((first:Nat):Int) (count/2) ((first:Nat):Int) 0 ((0:Nat):Int) none 0 0 false (qAG.blk0.mono (hF (CbR.blk g72 ⟨gd,first,count/2,first,0,0,none,0,[],Dk.new n⟩) xD)) [] O Sl.nil (jE _)))) O ?_
 rintro⟨A84,c84,m84⟩ h84
 try dsimp only at h84
 refine J.q (qAZ O O (λF' hF=>qL3 F' g28 A84 c84)) O λg85 _=>J.g ((qAs O O).as (v':= .bool false) O) O<|J.c j22<|J.a3 ?_
 exact J.M j21<|J.f λ_ j23=>J.p 3 O<|J.c j23<|J.A<|J.a9 hw0 (λ_ _ h=>h) (qBw O O O) (qAg (⟨g28,g24,g25,mo,g49,m56,r62,r67,g72⟩:NwR) O ⟨hro,h56,hp62,hp67⟩ [3,4,5,6,7,0,8,9,10,1,2,11,12] O xC)
end Go.Proofs.YtmemgokiolfdoaaGreatDoor