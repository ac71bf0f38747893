/- A part of the proof. -/
import Derived.Test.YtmemgokiolfdoaaGreatDoorTopSpG18
import Derived.Test.YtmemgokiolfdoaaGreatDoorTopSpG24
set_option maxRecDepth 100000
set_option maxHeartbeats 1000000
set_option linter.unusedSimpArgs false
set_option linter.unusedVariables false
namespace Go.Proofs.YtmemgokiolfdoaaGreatDoor
open Go Go.Fw Go.Proofs.Tryz
structure RhD where
 ep:Nat
 par:xA
 dep:Nat
 aud:Nat
 nsA:yS
 nsc:Nat
 ns:List xA
def RhD.cells(x:RhD):yU:= [N64 (x.ep),Str (x.par),I (x.dep:Nat),I (x.aud:Nat),.slice x.nsA x.ns.length x.nsc]
def qBE:RhD:=⟨0,[],0,0,none,0,[]⟩
def qGr(l:List RhD):List yU:=l.map RhD.cells
theorem qGq{l:List RhD}{k:Nat}(h:k<l.length):(qGr l)[k]?=some (l.getD k qBE).cells:=by
 unfold qGr
 rw [jO,qAc qBE h];rfl
theorem qQs(a:List RhD)(x:RhD):qGr (a++ [x])=qGr a++ [x.cells]:=by simp [qGr]
theorem qYJ(a:List RhD):(qGr a).all (λx=>x.all Value.oneCell')=true:=qMY RhD.cells (λ_=>rfl) a
structure TrD where
 b:Nat
 d:Nat
 old:xA
 nw:xA
 stA:yS
 stc:Nat
 st:List qBA
def TrD.cells(x:TrD):yU:= [I (x.b:Nat),I (x.d:Nat),Str (x.old),Str (x.nw),.slice x.stA x.st.length x.stc]
def qRq:TrD:=⟨0,0,[],[],none,0,[]⟩
def qIK(l:List TrD):List yU:=l.map TrD.cells
theorem qHN{l:List TrD}{k:Nat}(h:k<l.length):(qIK l)[k]?=some (l.getD k qRq).cells:=by
 unfold qIK
 rw [jO,qAc qRq h];rfl
theorem qOs(a:List TrD)(x:TrD):qIK (a++ [x])=qIK a++ [x.cells]:=by simp [qIK]
def qD1(l:List En):List yU:=l.map En.cells
theorem qFh{l:List En}{k:Nat}(h:k<l.length):(qD1 l)[k]?=some (l.getD k qCv).cells:=by
 unfold qD1
 rw [jO,qAc qCv h];rfl
theorem qHy(a:List En)(x:En):qD1 (a++ [x])=qD1 a++ [x.cells]:=by simp [qD1]
theorem qJx(a:List En):(qD1 a).all (λx=>x.all Value.oneCell')=true:=qMY En.cells (λ_=>rfl) a
def qEM(l:yT):List yU:=l.map λg=> [Ptr g]
theorem qQ8{l:yT}{k:Nat}(h:k<l.length):(qEM l)[k]?=some [Ptr (l.getD k 0)]:=by
 unfold qEM;rw [jO,jD h,jB,jD h];rfl
theorem qO4(a:yT)(x:Nat):qEM (a++ [x])=qEM a++ [[Ptr x]]:=by simp [qEM]
theorem qaf(l:List Hp)(m:Hp):U (l++ [m])=U [U l,m]:=by
 induction l with
 |nil=>rfl
 |cons a l ih=>
  funext g
  show(match a g with|some o=>some o|none=>U (l++ [m]) g)=match (match a g with|some o=>some o|none=>U l g) with|some o=>some o|none=>U [m] g
  rw [ih]
  cases a g<;>rfl
theorem qWK{l:List Hp}{m:Hp}(h:Djs l)(hd:Dj (U l) m):Djs (l++ [m]):=by
 rw [qAh,jg]
 refine⟨qAh.1 h,by simp,λa ha b hb=>?_⟩
 rw [List.mem_singleton.1 hb]
 exact(Dj.U_right.1 hd.symm a ha).symm
structure Lb where
 nm:xA
 A:yS
 c:Nat
 l:List En
 m:Hp
abbrev LE:=List (xA×List En)
def lbV(ls:List Lb):MP:=ls.map λx=>(x.nm,.slice x.A x.l.length x.c)
def lbE(ls:List Lb):LE:=ls.map λx=>(x.nm,x.l)
def qDc:List Lb->xA->Option Lb
 | [],_=>none
 |x::r,k=>if x.nm=k then some x else qDc r k
def qA2:LE->xA->List En
 | [],_=> []
 |x::r,k=>if x.1=k then x.2 else qA2 r k
def qIz(ls:List Lb)(k:xA):yS:=match qDc ls k with|some x=>x.A|none=>none
def qIy(ls:List Lb)(k:xA):Nat:=match qDc ls k with|some x=>x.c|none=>0
theorem qGF(ls:List Lb)(k:xA):qA2 (lbE ls) k=match qDc ls k with|some x=>x.l|none=> []:=by
 induction ls with
 |nil=>rfl
 |cons x r ih=>
  show(if x.nm=k then x.l else qA2 (lbE r) k)=match (if x.nm=k then some x else qDc r k) with|some x=>x.l|none=> []
  by_cases h:x.nm=k
  . rw [yX h,yX h]
  . rw [yW h,yW h];exact ih
theorem qSY(ls:List Lb)(k:xA):qLT (lbV ls) k=(qDc ls k).map λx=> .slice x.A x.l.length x.c:=by
 induction ls with
 |nil=>rfl
 |cons x r ih=>
  show(if x.nm=k then some _ else qLT (lbV r) k)=(if x.nm=k then some x else qDc r k).map _
  by_cases h:x.nm=k
  . rw [yX h,yX h];rfl
  . rw [yW h,yW h];exact ih
theorem qLL(ls:List Lb)(k:xA):(qLT (lbV ls) k).getD (.slice none 0 0)= .slice (qIz ls k) (qA2 (lbE ls) k).length (qIy ls k):=by
 rw [qSY,qGF]
 unfold qIz qIy
 cases qDc ls k<;>rfl
theorem qLU{ls:List Lb}{k:xA}{x:Lb}(h:qDc ls k=some x):x∈ls/\x.nm=k:=by
 induction ls with
 |nil=>cases h
 |cons y r ih=>
  rw [qDc] at h
  split at h
  . rename_i hk;cases h;exact⟨.head _,hk⟩
  . have:=ih h;exact⟨.tail _ this.1,this.2⟩
def LbA(F:Hp)(ls:List Lb):Prop:= ∀x∈ls,Sl F 5 x.A x.l.length x.c (qD1 x.l)
theorem LbA.mono{F F':Hp}{ls:List Lb}(h:LbA F ls)(hl:Le F F'):LbA F' ls:=λx hx=>(h x hx).mono hl
theorem LbA.at{F:Hp}{ls:List Lb}(h:LbA F ls)(k:xA):Sl F 5 (qIz ls k) (qA2 (lbE ls) k).length (qIy ls k) (qD1 (qA2 (lbE ls) k)):=by
 rw [qGF]
 unfold qIz qIy
 cases hg:qDc ls k with
 |none=>exact Sl.nil
 |some x=>exact h x (qLU hg).1
structure NxS (M:Hp) (ls:List Lb):Prop where
 eq:M=U (ls.map Lb.m)
 dj:Djs (ls.map Lb.m)
 row: ∀x∈ls,Row x.m 102 5 x.A x.l.length x.c (qD1 x.l)
theorem NxS.nil:NxS (λ_=>none) []:=⟨rfl,yd,λx h=>by cases h⟩
theorem NxS.at{M:Hp}{ls:List Lb}(h:NxS M ls):LbA M ls:=λx hx=>by
 rw [h.eq]
 exact(h.row x hx).sl.mono (qG2 h.dj (List.mem_map.2 ⟨x,hx,O⟩))
theorem NxS.snoc{M m':Hp}{ls:List Lb}(h:NxS M ls){k:xA}{A:yS}{c:Nat}{l:List En}(hr:Row m' 102 5 A l.length c (qD1 l))(hd:Dj M m'):NxS (U [M,m']) (ls++ [⟨k,A,c,l,m'⟩]):=by
  refine⟨?_,?_,λx hx=>?_⟩
  . rw [jN,h.eq];exact(qaf _ _).symm
  . rw [jN]
    exact qWK h.dj (h.eq▸hd)
  . rcases List.mem_append.1 hx with hx|hx
    . exact h.row x hx
    . rw [List.mem_singleton.1 hx];exact hr
theorem qUU{l:MP}{k:xA}(h:qLT l k=none)(v:Value):qNk l k v=l++ [(k,v)]:=by
  induction l with
  |nil=>rfl
  |cons x r ih=>
    rw [qLT] at h
    split at h
    . cases h
    . rename_i hn
      show(if x.1=k then _ else x::qNk r k v)=_
      rw [yW hn,ih h];rfl
theorem qVC(ls:List Lb)(x:Lb):lbV (ls++ [x])=lbV ls++ [(x.nm,.slice x.A x.l.length x.c)]:=by unfold lbV;rw [jN];rfl
theorem qVD(ls:List Lb)(x:Lb):lbE (ls++ [x])=lbE ls++ [(x.nm,x.l)]:=by unfold lbE;rw [jN];rfl
def qDt:List Lb->Lb->List Lb
 | [],y=> [y]
 |x::r,y=>if x.nm=y.nm then y::r else x::qDt r y
def qFD:LE->xA->List En->LE
 | [],k,v=> [(k,v)]
 |x::r,k,v=>if x.1=k then(k,v)::r else x::qFD r k v
theorem qR8(ls:List Lb)(y:Lb):lbV (qDt ls y)=qNk (lbV ls) y.nm (.slice y.A y.l.length y.c):=by
 induction ls with
 |nil=>rfl
 |cons x r ih=>
  show lbV (if x.nm=y.nm then y::r else x::qDt r y)=if x.nm=y.nm then _ else _::qNk (lbV r) y.nm _
  split
  . rfl
  . rw [<-ih];rfl
theorem qYb(ls:List Lb)(y:Lb):lbE (qDt ls y)=qFD (lbE ls) y.nm y.l:=by
 induction ls with
 |nil=>rfl
 |cons x r ih=>
  show lbE (if x.nm=y.nm then y::r else x::qDt r y)=if x.nm=y.nm then _ else _::qFD (lbE r) y.nm _
  split
  . rfl
  . rw [<-ih];rfl
theorem qKx{ls:List Lb}{y z:Lb}(h:z∈qDt ls y):z∈ls\/z=y:=by
  induction ls with
  |nil=>exact .inr (List.mem_singleton.1 h)
  |cons x r ih=>
    rw [qDt] at h
    split at h
    . rcases List.mem_cons.1 h with h|h
      . exact .inr h
      . exact .inl (.tail _ h)
    . rcases List.mem_cons.1 h with h|h
      . exact .inl (h▸ .head _)
      . exact(ih h).imp (.tail _) id
theorem qJ8(l:LE)(k:xA)(v:List En)(j:xA):qA2 (qFD l k v) j=if k=j then v else qA2 l j:=by
  induction l with
  |nil=>rfl
  |cons x r ih=>
    rw [qFD]
    by_cases h:x.1=k
    . rw [yX h,qA2,qA2]
      subst h
      by_cases h2:x.1=j
      . rw [yX h2];rw [yX h2]
      . rw [yW h2,yW h2,yW h2]
    . rw [yW h,qA2,qA2,ih]
      by_cases h2:x.1=j
      . rw [yX h2,yW (λe=>h (h2.trans e.symm)),yX h2]
      . rw [yW h2,yW h2]
theorem qQ4{l:LE}{k:xA}{v:List En}{j:xA}:j∈(qFD l k v).map Prod.fst↔j∈l.map Prod.fst\/j=k:=by
  induction l with
  |nil=>simp [qFD]
  |cons x r ih=>
    rw [qFD]
    split
    . rename_i h;subst h;simp only [jY,j5];constructor
      . exact λh=> .inl h
      . rintro(h|h);exact h;exact .inl h
    . simp only [jY,j5,ih,or_assoc]
theorem U2c{a b:Hp}(h:Dj a b):U [a,b]=U [b,a]:=by
 funext g
 simp only [U]
 cases ha:a g<;>cases hb:b g<;>simp
 rcases h g with h|h
 . rw [ha] at h;cases h
 . rw [hb] at h;cases h
theorem NxS.split{M:Hp}{ls:List Lb}(h:NxS M ls)(k:xA): ∃mr mo,M=U [mr,mo]/\Dj mr mo/\Row mo 102 5 (qIz ls k) (qA2 (lbE ls) k).length (qIy ls k) (qD1 (qA2 (lbE ls) k))/\
    ∀A c l m',Row m' 102 5 A l.length c (qD1 l)->Dj mr m'->NxS (U [mr,m']) (qDt ls ⟨k,A,c,l,m'⟩):=by
  obtain ⟨rfl,hd,hr⟩:=h
  suffices hs: ∃mr mo,U (ls.map Lb.m)=U [mr,mo]/\Dj mr mo/\Row mo 102 5 (qIz ls k) (qA2 (lbE ls) k).length (qIy ls k) (qD1 (qA2 (lbE ls) k))/\
      ∀y:Lb,y.nm=k->Dj mr y.m->U ((qDt ls y).map Lb.m)=U [mr,y.m]/\Djs ((qDt ls y).map Lb.m) by
    obtain ⟨mr,mo,e,d,r,f⟩:=hs
    refine⟨mr,mo,e,d,r,λA c l m' h1 h2=>?_⟩
    have h3:=f ⟨k,A,c,l,m'⟩ O h2
    refine⟨h3.1.symm,h3.2,λx hx=>?_⟩
    rcases qKx hx with hx|rfl
    . exact hr x hx
    . exact h1
  induction ls with
  |nil=>
    refine⟨λ_=>none,λ_=>none,O,λ_=> .inl O,qBf.nil,λy _ _=>⟨?_,⟨λg=> .inr O,yd⟩⟩⟩
    rfl
  |cons x r ih=>
    have hd1:Dj x.m (U (r.map Lb.m)):=hd.1
    by_cases hx:x.nm=k
    . refine⟨U (r.map Lb.m),x.m,?_,hd1.symm,?_,λy hy hj=>?_⟩
      . rw [U2c hd1.symm]
        funext g
        show(match x.m g with|some o=>some o|none=>U (r.map Lb.m) g)=match x.m g with|some o=>some o|none=>U [U (r.map Lb.m)] g
        cases x.m g with
        |some o=>rfl
        |none=>show U (r.map Lb.m) g=match U (r.map Lb.m) g with|some o=>some o|none=>none;cases U (r.map Lb.m) g<;>rfl
      . have e1:qDc (x::r) k=some x:=by rw [qDc,yX hx]
        have e2:qIz (x::r) k=x.A:=by unfold qIz;rw [e1]
        have e3:qIy (x::r) k=x.c:=by unfold qIy;rw [e1]
        have e4:qA2 (lbE (x::r)) k=x.l:=by rw [qGF,e1]
        rw [e2,e3,e4];exact hr x (.head _)
      . have e:qDt (x::r) y=y::r:=by rw [qDt,yX (hx.trans hy.symm)]
        rw [e]
        refine⟨?_,hj.symm,hd.2⟩
        rw [U2c hj]
        funext g
        show(match y.m g with|some o=>some o|none=>U (r.map Lb.m) g)=match y.m g with|some o=>some o|none=>U [U (r.map Lb.m)] g
        cases y.m g with
        |some o=>rfl
        |none=>show U (r.map Lb.m) g=match U (r.map Lb.m) g with|some o=>some o|none=>none;cases U (r.map Lb.m) g<;>rfl
    . obtain ⟨mr,mo,e,d,hro,f⟩:=ih hd.2 (λy hy=>hr y (.tail _ hy))
      have e1:qDc (x::r) k=qDc r k:=by rw [qDc,yW hx]
      have e2:qIz (x::r) k=qIz r k:=by unfold qIz;rw [e1]
      have e3:qIy (x::r) k=qIy r k:=by unfold qIy;rw [e1]
      have e4:qA2 (lbE (x::r)) k=qA2 (lbE r) k:=by rw [qGF,qGF,e1]
      rw [e] at hd1
      have dj:=Dj.U_right.1 hd1
      have asc: ∀(b:Hp) (l:List Hp),U l=U [mr,b]->U (x.m::l)=U [U [x.m,mr],b]:=λb l hl=>by
        funext g
        show(match x.m g with|some o=>some o|none=>U l g)=match (match x.m g with|some o=>some o|none=>U [mr] g) with|some o=>some o|none=>U [b] g
        rw [hl]
        cases x.m g with
        |some o=>rfl
        |none=>show U [mr,b] g=match (match mr g with|some o=>some o|none=>none) with|some o=>some o|none=>U [b] g;unfold U;cases mr g<;>rfl
      refine⟨U [x.m,mr],mo,asc mo _ e,?_,by rw [e2,e3,e4];exact hro,λy hy hj=>?_⟩
      . refine(Dj.U_right.2 λm' hm=>?_).symm
        rcases List.mem_cons.1 hm with rfl|hm
        . exact(dj mo xD).symm
        . rw [List.mem_singleton.1 hm];exact d.symm
      . have hj2:=Dj.U_right.1 hj.symm
        obtain ⟨f1,f2⟩:=f y hy (hj2 mr xD).symm
        have e5:qDt (x::r) y=x::qDt r y:=by rw [qDt,yW (λe=>hx (e.trans hy))]
        rw [e5]
        refine⟨asc y.m _ f1,?_,f2⟩
        show Dj x.m (U ((qDt r y).map Lb.m))
        rw [f1]
        refine Dj.U_right.2 λm' hm=>?_
        rcases List.mem_cons.1 hm with rfl|hm
        . exact dj _ xD
        . rw [List.mem_singleton.1 hm];exact(hj2 x.m xD).symm
def qKO(l:LE):Prop:=(l.map Prod.fst).Nodup
theorem qLX{l:LE}{k:xA}(h:k∉l.map Prod.fst):qA2 l k= []:=by
 induction l with
 |nil=>rfl
 |cons x r ih=>
  rw [jY,j5,not_or] at h
  rw [qA2,yW (λe=>h.1 e.symm),ih h.2]
theorem qPa{ls:List Lb}{k:xA}:qDc ls k=none↔k∉(lbE ls).map Prod.fst:=by
  induction ls with
  |nil=>simp [qDc,lbE]
  |cons x r ih=>
    show(if x.nm=k then some x else qDc r k)=none↔k∉x.nm::(lbE r).map Prod.fst
    rw [j5,not_or,<-ih]
    by_cases h:x.nm=k
    . rw [yX h];simp [h]
    . rw [yW h]
      exact⟨λe=>⟨λe=>h e.symm,e⟩,λe=>e.2⟩
theorem qG3{l:LE}(h:qKO l){k:xA}{v:List En}(hm:(k,v)∈l):qA2 l k=v:=by
 induction l with
 |nil=>cases hm
 |cons x r ih=>
  obtain ⟨h1,h2⟩:=List.nodup_cons.1 (show(x.1::r.map Prod.fst).Nodup from h)
  cases hm with
  |head=>rw [qA2,yX rfl]
  |tail _ hm=>
   rw [qA2,yW,ih h2 hm]
   rintro rfl
   exact h1 (List.mem_map.2 ⟨_,hm,O⟩)
theorem qKy{l:LE}{k:xA}{v:List En}(h:qKO l):qKO (qFD l k v):=by
  induction l with
  |nil=>exact List.nodup_cons.2 ⟨λh=>(by cases h),List.nodup_nil⟩
  |cons x r ih=>
    obtain ⟨h1,h2⟩:=List.nodup_cons.1 (show(x.1::r.map Prod.fst).Nodup from h)
    rw [qFD]
    split
    . rename_i e;subst e;exact List.nodup_cons.2 ⟨h1,h2⟩
    . rename_i e
      refine List.nodup_cons.2 ⟨λhm=>?_,ih h2⟩
      rcases qQ4.1 hm with hm|hm
      . exact h1 hm
      . exact e hm
theorem qLW{l l':LE}(h:qKO l)(hp:l.Perm l')(k:xA):qA2 l k=qA2 l' k:=by
  have h':qKO l':=(hp.map _).nodup_iff.1 h
  by_cases hk:k∈l.map Prod.fst
  . obtain ⟨x,hx,rfl⟩:=List.mem_map.1 hk
    rw [qG3 h (v:=x.2) hx,qG3 h' (v:=x.2) (hp.subset hx)]
  . rw [qLX hk,qLX (λe=>hk ((hp.map _).mem_iff.2 e))]
structure CbR where
 gd:Nat
 f0:Nat
 size:Nat
 hat:Nat
 ht:UInt64
 e:Nat
 A:yS
 c:Nat
 R:List xA
 d:Dk
abbrev CbR.blk(gb:Nat)(x:CbR):Hp:=Fw.blk gb [Ptr x.gd,I (x.f0:Nat),I (x.size:Nat),I (x.hat:Nat),W64 x.ht,I (x.e:Nat),.slice x.A x.R.length x.c,.bool false] 244
structure CbP (G md:Hp) (x:CbR):Prop where
 dk:Dsk md x.gd x.d none 0
 ok:x.d.ok
 on:x.d.off=false
 ar:x.d.armed=false
 wt:x.d.wait= []
 kp:x.d.keep= []
 rs:Sl G 1 x.A x.R.length x.c (qAG x.R)
 fit:x.hat+x.size<=x.d.last.length
 ln:x.d.last.length<=1000
 tn:x.ht.toNat<=1
 ef:x.e<=x.size
theorem CbP.mono{G G' md:Hp}{x:CbR}(h:CbP G md x)(hl:Le G G'):CbP G' md x:={h with rs:=h.rs.mono hl}
structure CbN (x y:CbR) (s:xA):Prop where
 gd:y.gd=x.gd
 f0:y.f0=x.f0
 sz:y.size=x.size
 e:y.e=x.e+qAw s.length
 R:y.R=x.R++ [s]
 ln:y.d.last.length=x.d.last.length
 hat:y.hat=x.hat
 ht:y.ht=1
 dd:y.d=(qJS x.d (x.hat+x.e) (λi=>(prt 1 (UInt64.ofNat x.R.length) s (qAw s.length) i).text) (qAw s.length)).1
 px:x.d.ok/\x.d.off=false/\x.d.armed=false/\x.d.wait= []/\x.hat+x.e+qAw s.length<=x.d.last.length/\s.length<=900/\x.R.length<65536/\x.e+qAw s.length<=x.size
theorem qY7(F md:Hp)(hK:yf F)(gb:Nat)(x:CbR)(h:CbP F md x)(s:xA)(hs:s.length<=900)(hf:x.e+qAw s.length<=x.size)(hr:x.R.length<65536):
    Ct prog 137 [Ptr gb,Str s] [x.blk gb,md,F] (λ_:CbR×Hp×Hp=>I 0) (λy=>CbP y.2.2 y.2.1 y.1/\CbN x y.1 s) (λy=> [y.1.blk gb,y.2.1,F,y.2.2]):=λw0 w hw=>by
  have hn24:=qEO hs
  have hfit:=h.fit
  have hln:=h.ln
  have hnr:(UInt64.ofNat x.R.length).toNat<2^(8*2):=by rw [qA3 xB];exact hr
  have hc:=qP5 h.ok h.on h.ar (p:=x.hat+x.e) (n:=qAw s.length) xB (qRC (turn:=1) (num:=UInt64.ofNat x.R.length) (s:=s) xC hnr hn24)
  have hm:(((1:UInt64).toNat:Nat):Int)=max (x.ht.toNat:Int) 1:=by
    have:=h.tn
    rw [show(1:UInt64).toNat=1 from rfl];omega
  refine(qLu F md hK gb x.gd ((x.f0:Nat):Int) x.size x.hat x.ht x.e x.A x.R.length x.c x.d none 0 h.dk h.ok (by rw [h.wt];exact jH _) (by rw [h.kp];exact Sl.nil) (by rw [h.kp];exact jH _) x.R O h.rs s hs _ O 1 hm xC hr xB hf hc.1 w0 w hw).mono λv w' ⟨y,he,⟨hd,hrow⟩,hst⟩=>?_
  obtain ⟨_,c1,c2,c3,c4,c5,c6⟩:=hc
  have e1:(x.R++ [s]).length=x.R.length+1:=by rw [jA];rfl
  refine⟨(⟨x.gd,x.f0,x.size,x.hat,1,x.e+qAw s.length,y.2.1,y.2.2.1,x.R++ [s],_⟩,y.1,y.2.2.2),he,⟨⟨hd,c6,c1,c2,c4,by rw [c5,h.kp],by rw [e1];exact hrow.sl,by show x.hat+x.size<=_;rw [c3];exact hfit,by show List.length _<=_;rw [c3];exact hln,(by show(1:UInt64).toNat<=1;decide),hf⟩,⟨O,O,O,O,O,c3,O,O,O,h.ok,h.on,h.ar,h.wt,xB,hs,hr,hf⟩⟩,?_⟩
  show St w0 [Fw.blk gb [Ptr x.gd,I (x.f0:Nat),I (x.size:Nat),I (x.hat:Nat),W64 1,I (x.e+qAw s.length:Nat),.slice y.2.1 (x.R++ [s]).length y.2.2.1,.bool false] 244,y.1,F,y.2.2.2] w'
  rw [e1];exact hst
theorem qK1{d:Nat}(h:d<=4):1<=2^d/\2^d<=16:=by
 rcases d with _|_|_|_|_|d
 all_goals first|decide|omega
theorem qNS(F:Hp)(A:yS)(n c:Nat)(l:yT)(hs:Sl F 1 A n c (qEM l))(h0:0<n)(hn:n<=1000000):Cz prog 97 [.slice A n c] F (Ptr (l.getD (n-1) 0)):=by
 have hln:l.length=n:=by have:=hs.1;simpa [qEM] using this
 refine y7 func97 O ntmps97 O (λw0 hw0=>?_)
 refine yl λ_ C1=>yh O<|yi C1 ?_
 refine yl λ_ C2=>yn 2 O<|yj (qAN qQF O O) O<|yj ((qAm O O O xB).nat (n-1) xB) O<|yj (qAC O O O qQF sizeOf130 hs xB) O<|yj (qAH O O isAgg130 (m:=F) xD (hs.elem (qQ8 xB))) O<|yh O<|yi C2 ?_
 exact yr<|yw hw0 O () O yd [0] O xC
theorem qTq(F:Hp)(A:yS)(n c:Nat)(l:List En)(hs:Sl F 5 A n c (qD1 l))(h0:0<n)(hn:n<=1000000):Cz prog 183 [.slice A n c] F (.agg #[N64 ((l.getD (n-1) qCv).v),Str ((l.getD (n-1) qCv).o),Str ((l.getD (n-1) qCv).r),I ((l.getD (n-1) qCv).h),Str ((l.getD (n-1) qCv).p)]):=by
 have hln:l.length=n:=by have:=hs.1;simpa [qD1] using this
 refine y7 func183 O ntmps183 O (λw0 hw0=>?_)
 refine yl λ_ C1=>yp (qAO O qEt O) O λg2 _=>yi C1 ?_
 refine yl λ_ C2=>yn 2 O<|yj (qAN qGK O O) O<|yj ((qAm O O O xB).nat (n-1) xB) O<|yj (qAC O O O qGK qBF hs xB) O<|yj (qAb O O qBz qBF (m:=F) xD (hs.elem (qFh xB)) O) O<|vG (qAF (i:=1) (l:= [.int .u64 0,Str [],Str [],I 0,Str []]) (vs:= [N64 ((l.getD (n-1) qCv).v),Str ((l.getD (n-1) qCv).o),Str ((l.getD (n-1) qCv).r),I ((l.getD (n-1) qCv).h),Str ((l.getD (n-1) qCv).p)]) O O O O O qBF O O) O O λ_ _=>yi C2 ?_
 exact yr<|vH hw0 (λ_ _ h=>h) (rv1 O (RV.blkA 1 O O qBz qBF)) (qAf () O yd [0] O xC)
theorem qTp(F:Hp)(A:yS)(n c:Nat)(l:List RhD)(hs:Sl F 5 A n c (qGr l))(h0:0<n)(hn:n<=1000000):Cz prog 140 [.slice A n c] F (.agg #[N64 ((l.getD (n-1) qBE).ep),Str ((l.getD (n-1) qBE).par),I ((l.getD (n-1) qBE).dep:Nat),I ((l.getD (n-1) qBE).aud:Nat),.slice (l.getD (n-1) qBE).nsA (l.getD (n-1) qBE).ns.length (l.getD (n-1) qBE).nsc]):=by
 have hln:l.length=n:=by have:=hs.1;simpa [qGr] using this
 refine y7 func140 O ntmps140 O (λw0 hw0=>?_)
 refine yl λ_ C1=>yp (qAO O qYw O) O λg2 _=>yi C1 ?_
 refine yl λ_ C2=>yn 2 O<|yj (qAN qKR O O) O<|yj ((qAm O O O xB).nat (n-1) xB) O<|yj (qAC O O O qKR qGV hs xB) O<|yj (qAb O O qM2 qGV (m:=F) xD (hs.elem (qGq xB)) O) O<|vG (qAF (i:=1) (l:= [.int .u64 0,Str [],I 0,I 0,.slice none 0 0]) (vs:= [N64 ((l.getD (n-1) qBE).ep),Str ((l.getD (n-1) qBE).par),I ((l.getD (n-1) qBE).dep:Nat),I ((l.getD (n-1) qBE).aud:Nat),.slice (l.getD (n-1) qBE).nsA (l.getD (n-1) qBE).ns.length (l.getD (n-1) qBE).nsc]) O O O O O qGV O O) O O λ_ _=>yi C2 ?_
 exact yr<|vH hw0 (λ_ _ h=>h) (rv1 O (RV.blkA 1 O O qM2 qGV)) (qAf () O yd [0] O xC)
theorem qT4(F:Hp)(gm:Nat)(vr:Value)(ls:List Lb)(hm:Fw.MapAt F gm (lbV ls))(hl:LbA F ls)(s:xA)(hn:(qA2 (lbE ls) s).length<=1000000)(h0:qA2 (lbE ls) s= []):Cz prog 102 [.agg #[.map (some gm),vr],Str (s)] F (.tuple #[.agg #[.int .u64 0,Str [],Str [],I 0,Str []],.bool false]):=by
 have hl0:(qA2 (lbE ls) s).length=0:=by rw [h0];rfl
 refine y7 func102 O ntmps102 O (λw0 hw0=>?_)
 refine yl λ_ C1=>yp (qAi O O O) O λg2 _=>yp (qAO O qEt O) O λg4 _=>yh O<|yi C1 ?_
 refine yl λ_ C2=>vA 0 qD9 qJM O O O O O<|vF 1 isAgg120 O O O O O<|yh O<|yj ((qCt O O O qJW u9_ qaU (m:=F) xD hm).as (v':= .slice (qIz ls s) (qA2 (lbE ls) s).length (qIy ls s)) (qLL ls s)) O<|yh O<|yi C2 ?_
 refine ym λ_ C3=>yl λ_ C4=>yh O<|yj (qAN qGK O O) O<|yj ((qAR O O O).yes xB) O<|yi C4 ?_
 refine vV ?_
 refine yl λ_ C5=>yj (qAK (places:= [(0,1),(1,3),(4,1)]) (r:= [.int .u64 0,Str [],Str [],I 0,Str []]) O O O qDG qEt (λ_=>xH) O) O<|vG (qAF (i:=2) O O O O O qBF O O) O O λ_ _=>yh O<|yi C5 ?_
 exact yr<|y5<|vH hw0 (λ_ _ h=>h) (rv2 O (RV.blkA 2 O O qBz qBF) O) (qAf () O yd [0] O xC)
theorem qQZ(F:Hp)(gm:Nat)(vr:Value)(ls:List Lb)(hm:Fw.MapAt F gm (lbV ls))(hl:LbA F ls)(s:xA)(hn:(qA2 (lbE ls) s).length<=1000000)(h0:0<(qA2 (lbE ls) s).length):Cz prog 102 [.agg #[.map (some gm),vr],Str (s)] F (.tuple #[.agg #[N64 (((qA2 (lbE ls) s).getD ((qA2 (lbE ls) s).length-1) qCv).v),Str (((qA2 (lbE ls) s).getD ((qA2 (lbE ls) s).length-1) qCv).o),Str (((qA2 (lbE ls) s).getD ((qA2 (lbE ls) s).length-1) qCv).r),I (((qA2 (lbE ls) s).getD ((qA2 (lbE ls) s).length-1) qCv).h),Str (((qA2 (lbE ls) s).getD ((qA2 (lbE ls) s).length-1) qCv).p)],.bool true]):=by
 refine y7 func102 O ntmps102 O (λw0 hw0=>?_)
 refine yl λ_ C1=>yp (qAi O O O) O λg2 _=>yp (qAO O qEt O) O λg4 _=>yh O<|yi C1 ?_
 refine yl λ_ C2=>vA 0 qD9 qJM O O O O O<|vF 1 isAgg120 O O O O O<|yh O<|yj ((qCt O O O qJW u9_ qaU (m:=F) xD hm).as (v':= .slice (qIz ls s) (qA2 (lbE ls) s).length (qIy ls s)) (qLL ls s)) O<|yh O<|yi C2 ?_
 refine ym λ_ C3=>yl λ_ C4=>yh O<|yj (qAN qGK O O) O<|yj ((qAR O O O).no xB) O<|yi C4 ?_
 refine vC ?_
 refine yy C3 ?_
 refine yl λ_ C5=>yh O<|yp (qAZ O O (λF' hF=>qTq F' (qIz ls s) ((qA2 (lbE ls) s).length) (qIy ls s) (qA2 (lbE ls) s) ((hl.at s).mono (Fa hF)) xB xB)) O λg16 _=>vG (qAF (i:=2) (l:= [.int .u64 0,Str [],Str [],I 0,Str []]) (vs:= [N64 (((qA2 (lbE ls) s).getD (((qA2 (lbE ls) s).length)-1) qCv).v),Str (((qA2 (lbE ls) s).getD (((qA2 (lbE ls) s).length)-1) qCv).o),Str (((qA2 (lbE ls) s).getD (((qA2 (lbE ls) s).length)-1) qCv).r),I (((qA2 (lbE ls) s).getD (((qA2 (lbE ls) s).length)-1) qCv).h),Str (((qA2 (lbE ls) s).getD (((qA2 (lbE ls) s).length)-1) qCv).p)]) O O O O O qBF O O) O O λ_ _=>yh O<|yi C5 ?_
 exact yr<|vH hw0 (λ_ _ h=>h) (rv2 O (RV.blkA 2 O O qBz qBF) O) (qAf () O yd [0] O xC)
theorem qLn(F:Hp)(A:yS)(n c:Nat)(l:List En)(hs:Sl F 5 A n c (qD1 l))(hnb:n<=1000000):Ct prog 98 [.slice A n c] [F] (λx:yS×Nat×Hp=> .slice x.1 (l).length x.2.1) (λx=>Row x.2.2 102 5 x.1 (l).length x.2.1 (qD1 l)) (λx=> [F,x.2.2]):=by
 have hkn:l.length=n:=by have:=hs.1;simpa [qD1] using this
 refine y7 func98 O ntmps98 O (λw0 hw0=>?_)
 refine yl λ_ C1=>yh O<|yi C1 ?_
 refine ym λ_ C2=>yl λ_ C3=>yh O<|yj ((qFT qGK O O O).as (v':= .bool (decide (A.isNone=true))) (yY Value.bool (by cases A<;>rfl))) O<|yi C3 ?_
 refine y1 O (λh4=>?_) (λh4=>?_)
 .
  refine yl λ_ C4=>yh O<|yi C4 ?_
  refine yr<|y5 ?_
  have hk0:l= []:=by
   refine jT ?_
   rcases yR n with h|h
   . omega
   . obtain ⟨g,o,rfl⟩:=hs.at h;cases h4
  exact ve [0,1] [F,(λ_=>none)] O xC<|yw hw0 O (none,0,(λ_=>none)) (by rw [hk0];rfl) (by rw [hk0];exact qBf.nil) [0,1] O xC
 refine yy C2 ?_
 refine yl λ_ C5=>yp (qBN O qGK el102) O λg5 _=>yh O<|yp (qAV (i:=1) (m2:=F) O O O qGK qGK el102 O (qAj (q:=True) (xs:=qD1 ([])) O (by intro x hx;first|exact absurd hx (jr)|(rw [List.mem_singleton.1 hx];rfl))) xD (hs) (qJx _) xB xB) O ?_
 rintro⟨A7,c7,m7⟩ h7
 try dsimp only at h7
 replace h7:Row m7 102 5 A7 (0+n) c7 (qD1 (l)):=h7
 refine yh O<|yi C5 ?_
 refine yr ?_
 rw [show 0+n=l.length by omega] at h7
 exact yw hw0 O (A7,c7,m7) (by rw [<-hkn,jl]) h7 [0,1] O xC
theorem qR7{L:List Lb}{a b:MP}{p:xA×Value}(h:lbV L=a++p::b): ∃ra x rb,L=ra++x::rb/\a=lbV ra/\p=(x.nm,.slice x.A x.l.length x.c)/\b=lbV rb:=by
 unfold lbV at h
 obtain ⟨l1,l2,rfl,h1,h2⟩:=List.map_eq_append_iff.1 h
 obtain ⟨x,l3,rfl,h3,h4⟩:=List.map_eq_cons_iff.1 h2
 exact⟨l1,x,l3,O,h1.symm,h3.symm,h4.symm⟩
theorem qYa(a b:List Lb):lbV (a++b)=lbV a++lbV b:=by unfold lbV;rw [jN]
theorem qR9(a b:List Lb):lbE (a++b)=lbE a++lbE b:=by unfold lbE;rw [jN]
structure CpR where
 g:Nat
 ls:List Lb
 mm:Hp
 M:Hp
 r:Nat
 mr:Hp
structure CpP (ls:List Lb) (au:List Aud) (x:CpR):Prop where
 mp:MapS x.mm x.g (lbV x.ls)
 nx:NxS x.M x.ls
 pm:(lbE x.ls).Perm (lbE ls)
 ro:qTJ x.mr x.r au
theorem qY8{dn ra rb ls:List Lb}{x y:Lb}(hu:qKO (lbE ls))(h:(lbE dn++lbE (ra++x::rb)).Perm (lbE ls))(h1:y.nm=x.nm)(h2:y.l=x.l):qLT (lbV dn) x.nm=none/\(lbE (dn++ [y])++lbE (ra++rb)).Perm (lbE ls):=by
  have e:lbE (dn++ [y])++lbE (ra++rb)=lbE dn++((y.nm,y.l)::(lbE ra++lbE rb)):=by rw [qVD,qR9,jM];rfl
  have e2:lbE dn++lbE (ra++x::rb)=lbE dn++(lbE ra++(x.nm,x.l)::lbE rb):=by rw [qR9];rfl
  rw [e2] at h
  refine⟨?_,?_⟩
  . rw [qSY,Option.map_eq_none_iff,qPa]
    have h3:qKO (lbE dn++(lbE ra++(x.nm,x.l)::lbE rb)):=(h.map _).nodup_iff.2 hu
    unfold qKO at h3
    rw [jN,List.nodup_append] at h3
    intro hm
    exact h3.2.2 _ hm _ (List.mem_map.2 ⟨(x.nm,x.l),jb _ (.head _),O⟩) O
  . rw [e,h1,h2]
    exact(List.Perm.append_left _ List.perm_middle.symm).trans h
theorem qNY(F:Hp)(gm gr:Nat)(ls:List Lb)(hm:Fw.MapAt F gm (lbV ls))(hl:LbA F ls)(hu:qKO (lbE ls))(hln: ∀x∈ls,x.l.length<=1000000)(RA:yS)(rn rc:Nat)(au:List Aud)(hR:qAI F ⟨gr,0,none⟩ [.slice RA rn rc])(hRs:Sl F 4 RA rn rc (qBn au))(hrn:rn<=1000000):Ct prog 49 [.agg #[.map (some gm),Ptr gr]] [F] (λx:CpR=> .agg #[.map (some x.g),Ptr x.r]) (CpP ls au) (λx=> [F,x.mm,x.M,x.mr]):=by
  obtain ⟨es,ck,hg,hst,hkv⟩:=hm
  refine y7 func49 O ntmps49 O (λw0 hw0=>?_)
  refine yl λ_ C1=>yp (qAi O O O) O λg1 _=>yp (qAO O zeroValue124 O) O λg2 _=>yi C1 ?_
  refine yl λ_ C2=>yp (qGC O) O ?_
  rintro g6 _
  refine vA 1 qD9 sizeOf121 O O O O O<|vF 1 isAgg121 O O O O O<|yp (qBx O O (λF' hF=>Ct.swap2 (qJh F' gr RA rn rc au (hRs.mono (Fa hF)) xB (hR.mono (Fa hF))))) O ?_
  rintro⟨g9,m9⟩ h9
  try dsimp only at h9
  refine yj (qAK (places:= [(0,1),(1,1)]) (r:= [.map (some g6),Ptr g9]) O O O qD9 zeroValue124 (λ_=>xH) O) O<|yp (qAO O zeroValue124 O) O λg3 _=>vG (qAF (i:=5) (l:= [.map none,.pointer none]) (vs:= [.map (some g6),Ptr g9]) O O O O O qCM O O) O O λ_ _=>yi C2 ?_
  refine ym λ_ C3=>yl λ_ C4=>vA 0 qD9 qJM O O O O O<|vF 1 isAgg120 O O O O O<|yp (qK5 O O qJW xD hg hkv) O ?_
  rintro⟨g13,mi⟩ hit
  try dsimp only at hit
  refine yi C4 ?_
  refine yz<|vN (X:=List Lb×List Lb×Hp×Hp×Hp) (λζ=> [(2,Ptr g2),(3,Ptr g3),(13,Ptr g13)]) (λζ=> [ζ.2.2.2.2,F,blk g1 [.map (some gm),Ptr gr] 124,blk g2 [.map none,.pointer none] 124,m9,blk g3 [.map (some g6),Ptr g9] 124,ζ.2.2.2.1,ζ.2.2.1]) (λζ=>ItM ζ.2.2.1 g13 gm es ck (lbV ζ.1)/\MapS ζ.2.2.2.1 g6 (lbV ζ.2.1)/\NxS ζ.2.2.2.2 ζ.2.1/\(lbE ζ.2.1++lbE ζ.1).Perm (lbE ls)/\ ∀x∈ζ.1,x∈ls) (λζ=>ζ.1.length) (ls,[],mi,qAd g6 (.map #[] 0),(λ_=>none)) (⟨hit,MapS.nil _,NxS.nil,List.Perm.refl _,λ_ h=>h⟩) (Sub.of O) (λ_ h=>h.empty.pick [7,0,1,2,4,5,3,6] xC) ?_
  rintro⟨rem,dn,mi,mm,M⟩ ⟨hit,hmp,hnxs,hpm,hsub⟩ I0 hI0
  dsimp only at hit hmp hnxs hpm hsub⊢
  refine yl λ_ C5=>yp (qNr (i:=7) O O (m:=F) xD hg hst O hit) O ?_
  rintro⟨on,mj⟩ hnx
  try dsimp only at hnx
  refine yj ((qAp O (yY some (qRf on)) (qWe on))) O<|yi C5 ?_
  refine ym λ_ C6=>vf O (λh15=>?_) (λh15=>?_)
  .
    obtain ⟨x,ra,rb,rfl,hrem,hl2⟩: ∃x ra rb,on=some (x.nm,Value.slice x.A x.l.length x.c)/\rem=ra++x::rb/\ItL mj g13 gm es ck (lbV (ra++rb)) (x.nm,Value.slice x.A x.l.length x.c):=by
      rcases hnx with ⟨h1,_,_⟩|⟨p,a,b,h1,h2,h3⟩
      . rw [h1] at h15;cases h15
      . obtain ⟨ra,x,rb,e1,rfl,rfl,rfl⟩:=qR7 h2
        exact⟨x,ra,rb,h1,e1,by rw [qYa];exact h3⟩
    rw [hrem] at hpm hsub
    have hxm:x∈ls:=hsub x (jb _ (.head _))
    have hxl:=hl x hxm
    have hxn:=hln x hxm
    refine yy C6 ?_
    refine yz<|yl λ_ C7=>yj ((qK7 (mi:=mj) (p:=(x.nm,.slice x.A x.l.length x.c)) O O xD hg hst xD hl2)) O<|yj ((qAp O O O)) O<|yj ((qAp O O O)) O<|yn 2 O<|yi C7 ?_
    have hstp:=λy=>qY8 (y:=y) hu hpm
    refine vQ [blk g3 [.map (some g6),Ptr g9] 124,F] [5] (.y 0 (.y 1 (.y 2 (.y 3 (.e 4 (.e 5 .nil)))))) ye xF xD ?_
    refine yo O (qAA O O qD9 O qJM O) O O<|yo O (qAD 0 O O O isAgg120 O) O O<|yx ?_
    refine yx ?_
    refine vD O (qBx O O (λF' hF=>qLn F' x.A x.l.length x.c x.l (hxl.mono (Fa hF)) xP)) O xD ?_
    rintro⟨A23,c23,m23⟩ h23
    try dsimp only at h23
    refine vZ O (qDP (i:=6) O O O O qJW u9_ O hmp) O O O ?_
    rintro mu hmu
    rw [qUU (hstp ⟨x.nm,A23,c23,x.l,m23⟩ rfl rfl).1,<-qVC dn ⟨x.nm,A23,c23,x.l,m23⟩] at hmu
    refine vW [0,8,1,2,3,4,5,6,7] [M,m23,F,blk g1 [.map (some gm),Ptr gr] 124,blk g2 [.map none,.pointer none] 124,m9,blk g3 [.map (some g6),Ptr g9] 124,mu,mj] O xC<|vk (λhj=>?_)
    exact vM<|vB<|yq<|vE (ra++rb,dn++ [⟨x.nm,A23,c23,x.l,m23⟩],mj,mu,U [M,m23]) hI0 ⟨hl2.it,hmu,hnxs.snoc h23 hj,(hstp ⟨x.nm,A23,c23,x.l,m23⟩ O O).2,λy hy=>hsub y (by rcases List.mem_append.1 hy with h|h;exact jj _ h;exact jb _ (.tail _ h))⟩ (Sub.of O) (λ_ h=>h) (by dsimp only;rw [hrem,jA,jA,jC];omega)
  obtain rfl:rem= []:=by
    rcases hnx with ⟨_,h1,_⟩|⟨p,a,b,h1,_⟩
    . cases rem with
      |nil=>rfl
      |cons x r=>cases h1
    . rw [h1] at h15;cases h15
  refine vK<|y6<|y6<|vL ?_
  refine yq (yu C3 ?_)
  refine yl λ_ C8=>vT 5 isAgg124 qCM O O O O O<|vG (qAF (i:=3) (l:= [.map none,.pointer none]) (vs:= [.map (some g6),Ptr g9]) O O O O O qCM O O) O O λ_ _=>yi C8 ?_
  refine yr ?_
  rw [show lbE dn++lbE []=lbE dn from jS _] at hpm
  exact vH hw0 (λ_ _ h=>h) (rv1 O (RV.blkA 3 O O isAgg124 qCM)) (qAf (⟨g6,dn,mm,M,g9,m9⟩:CpR) O ⟨hmp,hnxs,hpm,h9⟩ [1,6,0,4] O xC)
theorem el52:qCx prog 52 [.int .u64 0,Str [],.int .i64 0,.int .i64 0,.slice none 0 0] 64:=qCx.of xH O
theorem el130:qCx prog 130 [.pointer none] 8:=qCx.of xH O
theorem el155:qCx prog 155 [Str [],Str []] 32:=qCx.of xH O
structure WtR where
 cA:yS
 cc:Nat
 mC:Hp
 oA:yS
 oc:Nat
 mO:Hp
theorem qJa(F mC mO:Hp)(gs:Nat)(v0 v1 v2 v3 v4 v5 v6 v9 v10:Value)(cA:yS)(cc:Nat)(cl:List Chg)(hrc:Row mC 155 2 cA cl.length cc (qDI cl))(hcl:cl.length<=100000)(oA:yS)(oc:Nat)(no:List xA)(hro:Row mO 9 1 oA no.length oc (qAG no))(hno:no.length<=100000)(nt k v:xA):Ct prog 62 [Ptr gs,Str nt,.agg #[Str k,Str v]] [blk gs [v0,v1,v2,v3,v4,v5,v6,.slice cA cl.length cc,.slice oA no.length oc,v9,v10] 129,mC,mO,F] (λ_:WtR=> .tuple #[]) (λx=>Row x.mC 155 2 x.cA (cl++ [(⟨k,v⟩:Chg)]).length x.cc (qDI (cl++ [(⟨k,v⟩:Chg)]))/\Row x.mO 9 1 x.oA (no++ [nt]).length x.oc (qAG (no++ [nt]))) (λx=> [blk gs [v0,v1,v2,v3,v4,v5,v6,.slice x.cA (cl++ [(⟨k,v⟩:Chg)]).length x.cc,.slice x.oA (no++ [nt]).length x.oc,v9,v10] 129,x.mC,x.mO,F]):=by
 refine y7 func62 O ntmps62 O (λw0 hw0=>?_)
 refine yl λ_ C1=>yp (qAi O O O) O λg5 _=>yi C1<|yl λ_ C2=>yn 2 O<|yj (qAB O O) O<|vA 8 qBR qBs O O O O O<|vF 0 qB7 O O O O O<|yh O<|yp (qAE (l:= [.tmp 11]) (xs:= [[Str (nt)]]) O O O O qAg el9 O xC xC xD) O λg12 _=>yp (qAV (i:=2) (m2:=blk g12 [Str (nt)] 9) O O O qAg qAg el9 O hro xD ((qAz (q:=True) (qAG [nt]) O (by simp [qAG]) O).sl) O xB xB) O ?_
 rintro⟨A13,c13,m13⟩ h13
 try dsimp only at h13
 replace h13:Row m13 9 1 A13 (no.length+1) c13 (qAG (no++ [nt])):=by rw [qBh];exact h13
 rw [show no.length+1=(no++ [nt]).length by rw [jA];rfl] at h13⊢
 refine yj (qAB O O) O<|vA 8 qBR qBs O O O O O<|vG (qAU (i:=0) O O O O O qBs O xD) O O λ_ _=>?_
 change J _ _ _ [blk gs [v0,v1,v2,v3,v4,v5,v6,.slice cA cl.length cc,.slice A13 ((no++ [nt]).length) c13,v9,v10] 129,_,_,_,_,_] _
 refine yi C2<|vQ [blk gs [v0,v1,v2,v3,v4,v5,v6,.slice cA cl.length cc,.slice A13 ((no++ [nt]).length) c13,v9,v10] 129,blk g5 [Str (k),Str (v)] 155] [10] (.y 0 (.y 1 (.y 2 (.y 3 (.y 4 (.y 5 (.e 6 (.e 7 (.y 8 (.y 9 (.e 10 .nil))))))))))) ye xF xD ?_
 refine yx ?_
 refine yx ?_
 refine yo O (qAB O O) O O<|yo O (qAA O O qBR O sizeOf126 O) O O<|yo O (qAD 0 O O O isAgg126 O) O O<|yo O (qAx 1 O O O isAgg155 qEE O) O O<|vD O (qAE (l:= [.tmp 21]) (xs:= [[Str (k),Str (v)]]) O O O O qGY el155 O xC xC xD) O xD λg22 _=>vD O (qAV (i:=1) (m2:=blk g22 [Str (k),Str (v)] 155) O O O qGY qGY el155 O hrc xD ((qAj (q:=True) (xs:=qDI [(⟨k,v⟩:Chg)]) O (by intro x hx;rw [List.mem_singleton.1 hx];rfl)).sl) O xB xB) O xD ?_
 rintro⟨A23,c23,m23⟩ h23
 try dsimp only at h23
 replace h23:Row m23 155 2 A23 (cl.length+1) c23 (qDI (cl++ [(⟨k,v⟩:Chg)])):=by rw [qJD];exact h23
 rw [show cl.length+1=(cl++ [(⟨k,v⟩:Chg)]).length by rw [jA];rfl] at h23⊢
 exact yo O (qAB O O) O O<|yo O (qAA O O qBR O sizeOf126 O) O O<|vZ O (qAU (i:=0) O O O O O sizeOf126 O xD) O O O λ_ _=>vM<|vo hw0 (λ_ _ h=>h) (qIj O) (qAf (⟨A23,c23,m23,A13,c13,m13⟩:WtR) O ⟨h23,h13⟩ [0,1,2,3] O xC)
structure AdR where
 nA:yS
 nc:Nat
 mN:Hp
 tA:yS
 tc:Nat
 mT:Hp
 hA:yS
 hc:Nat
 mH:Hp
def adH(par:xA)(dp rn:Nat)(hd:List RhD)(kv:List Sm.PR)(A:yS)(c:Nat):RhD:=⟨hd.length,par,dp,rn,A,c,qAl kv dp⟩
structure AdP (par:xA) (dp rn gt:Nat) (tg:yT) (hd:List RhD) (kv:List Sm.PR) (x:AdR):Prop where
 nd:Row x.mN 9 1 x.nA (qAl kv dp).length x.nc (qAG (qAl kv dp))
 rt:Row x.mT 130 1 x.tA (tg++ [gt]).length x.tc (qEM (tg++ [gt]))
 rh:Row x.mH 52 5 x.hA (hd++ [adH par dp rn hd kv x.nA x.nc]).length x.hc (qGr (hd++ [adH par dp rn hd kv x.nA x.nc]))
theorem qQm(F mT mH:Hp)(hK:yf F)(gs dp rB:Nat)(v1 v2 v3 v4 v5 v7 v8:Value)(tA:yS)(tc:Nat)(tg:yT)(hrt:Row mT 130 1 tA tg.length tc (qEM tg))(htg:tg.length<=100000)(hA:yS)(hc:Nat)(hd:List RhD)(hrh:Row mH 52 5 hA hd.length hc (qGr hd))(hhd:hd.length<=100000)(hdp:dp<=4)(gt:Nat)(kv:List Sm.PR)(hT:qCo F gt kv)(hf:qCD kv)(RA:yS)(rn rc:Nat)(au:List Aud)(hR:qAI F ⟨rB,0,none⟩ [.slice RA rn rc])(hRs:Sl F 4 RA rn rc (qBn au))(par:xA):Ct prog 50 [Ptr gs,Ptr gt,Str par] [blk gs [I (dp:Nat),v1,v2,v3,v4,v5,Ptr rB,v7,v8,.slice tA tg.length tc,.slice hA hd.length hc] 129,mT,mH,F] (λ_:AdR=> .tuple #[]) (AdP par dp rn gt tg hd kv) (λx=> [blk gs [I (dp:Nat),v1,v2,v3,v4,v5,Ptr rB,v7,v8,.slice x.tA (tg++ [gt]).length x.tc,.slice x.hA (hd++ [adH par dp rn hd kv x.nA x.nc]).length x.hc] 129,x.mT,x.mH,F,x.mN]):=by
 refine y7 func50 O ntmps50 O (λw0 hw0=>?_)
 refine yl λ_ C1=>yn 2 O<|yj (qAB O O) O<|vA 0 qBR z3_ O O O O O<|vF 0 b3_ O O O O O<|yp (qBx O O (λF' hF=>qS8 F' (hK.mo hF) gt kv (hT.mono (Fa hF)) xG dp xB)) O ?_
 rintro⟨A14,c14,m14⟩ h14
 try dsimp only at h14
 refine yn 5 O<|yi C1<|yl λ_ C2=>yn 2 O<|yj (qAB O O) O<|vA 9 qBR sizeOf127 O O O O O<|vF 0 isAgg127 O O O O O<|yh O<|yp (qAE (l:= [.tmp 22]) (xs:= [[Ptr gt]]) O O O O qQF el130 O xC xC xD) O λg23 _=>yp (qAV (i:=1) (m2:=blk g23 [Ptr gt] 130) O O O qQF qQF el130 O hrt xD ((qAz (q:=True) (qEM [gt]) O (by simp [qEM]) O).sl) O xB xB) O ?_
 rintro⟨A24,c24,m24⟩ h24
 try dsimp only at h24
 replace h24:Row m24 130 1 A24 (tg.length+1) c24 (qEM (tg++ [gt])):=by rw [qO4];exact h24
 rw [show tg.length+1=(tg++ [gt]).length by rw [jA];rfl] at h24⊢
 refine yj (qAB O O) O<|vA 9 qBR sizeOf127 O O O O O<|vG (qAU (i:=0) O O O O O sizeOf127 O xD) O O λ_ _=>?_
 change J _ _ _ [blk gs [I (dp:Nat),v1,v2,v3,v4,v5,Ptr rB,v7,v8,.slice A24 ((tg++ [gt]).length) c24,.slice hA hd.length hc] 129,_,_,_,_,_] _
 refine yi C2<|vQ [blk gs [I (dp:Nat),v1,v2,v3,v4,v5,Ptr rB,v7,v8,.slice A24 ((tg++ [gt]).length) c24,.slice hA hd.length hc] 129] [28] (.y 0 (.y 1 (.y 2 (.y 3 (.y 4 (.y 5 (.y 6 (.y 7 (.y 8 (.y 9 (.y 10 (.y 11 (.y 12 (.y 13 (.y 14 (.y 15 (.y 16 (.y 17 (.y 18 (.y 19 (.y 20 (.y 22 (.e 21 (.y 23 (.e 24 (.e 25 (.y 26 (.y 27 (.e 28 .nil))))))))))))))))))))))))))))) ye xF xD ?_
 refine yx ?_
 refine yx ?_
 refine yo O (qAB O O) O O<|yo O (qAA O O qBR O qWM O) O O<|yo O (qAD 0 O O O isAgg47 O) O O<|yx ?_
 refine yo O (qAB O O) O O<|yo O (qAA O O qBR O qWM O) O O<|yo O (qAD 0 O O O isAgg47 O) O O<|yo O (qAN qKR O O) O O<|yo O (qBj O O u3_ qDJ xB) O O<|yx ?_
 refine yx ?_
 refine yo O (qAB O O) O O<|yo O (qAA O O qBR O z3_ O) O O<|yo O (qAD 0 O O O b3_ O) O O<|yx ?_
 refine yo O (qAB O O) O O<|yo O (qAA O O qBR O qCM O) O O<|yo O (qAA O O qD9 O sizeOf121 O) O O<|yo O (qAD 0 (v:=Ptr rB) O O O isAgg121 O) O O<|yx ?_
 refine vD O (qAZ O O (λF' hF=>qUJ F' rB RA rn rc (hR.mono (Fa hF)))) O xD λg48 _=>yo O (qAK (places:= [(0,1),(1,1),(2,1),(3,1),(4,1)]) (r:= [N64 (hd.length),Str (par),I (dp:Nat),I (rn:Nat),.slice A14 ((qAl kv dp).length) c14]) O O O qFk qYw (λ_=>xH) O) O O<|vD O (qAE (l:= [.tmp 50]) (xs:= [[N64 (hd.length),Str (par),I (dp:Nat),I (rn:Nat),.slice A14 ((qAl kv dp).length) c14]]) O O O O qKR el52 O xC xC xD) O xD λg51 _=>vD O (qAV (i:=2) (m2:=blk g51 [N64 (hd.length),Str (par),I (dp:Nat),I (rn:Nat),.slice A14 ((qAl kv dp).length) c14] 52) O O O qKR qKR el52 O hrh xD ((qAj (q:=True) (xs:=qGr [(⟨hd.length,par,dp,rn,A14,c14,(qAl kv dp)⟩:RhD)]) O (by intro x hx;rw [List.mem_singleton.1 hx];rfl)).sl) O xB xB) O xD ?_
 rintro⟨A52,c52,m52⟩ h52
 try dsimp only at h52
 replace h52:Row m52 52 5 A52 (hd.length+1) c52 (qGr (hd++ [(adH par dp rn hd kv A14 c14)])):=by rw [qQs];exact h52
 rw [show hd.length+1=(hd++ [(adH par dp rn hd kv A14 c14)]).length by rw [jA];rfl] at h52⊢
 exact yo O (qAB O O) O O<|yo O (qAA O O qBR O qWM O) O O<|vZ O (qAU (i:=0) O O O O O qWM O xD) O O O λ_ _=>vM<|vo hw0 (λ_ _ h=>h) (qIj O) (qAf (⟨A14,c14,m14,A24,c24,m24,A52,c52,m52⟩:AdR) O ⟨h14,h24,h52⟩ [0,1,2,3,4] O xC)
theorem qKl(F:Hp)(gs:Nat)(v0 v1 v2 v3 v4 v5 v6 v7 v8 v9:Value)(A:yS)(n c:Nat)(l:List RhD)(hs:Sl F 5 A n c (qGr l))(h0:0<n)(hn:n<=1000000)(hp:qAI F ⟨gs,0,none⟩ [v0,v1,v2,v3,v4,v5,v6,v7,v8,v9,.slice A n c]):Cz prog 68 [Ptr gs] F (.agg #[N64 ((l.getD (n-1) qBE).ep),Str ((l.getD (n-1) qBE).par),I ((l.getD (n-1) qBE).dep:Nat),I ((l.getD (n-1) qBE).aud:Nat),.slice (l.getD (n-1) qBE).nsA (l.getD (n-1) qBE).ns.length (l.getD (n-1) qBE).nsc]):=by
 refine y7 func68 O ntmps68 O (λw0 hw0=>?_)
 exact yl λ_ C1=>yp (qAO O qYw O) O λg2 _=>yi C1<|yl λ_ C2=>yh O<|yj (qAB O O) O<|vA 10 qBR qWM O O O O O<|yj (qAH O O isAgg47 (m:=F) xD (hp.at (i:=10) O)) O<|yp (qAZ O O (λF' hF=>qTp F' A n c l (hs.mono (Fa hF)) xB xB)) O λg7 _=>vG (qAF (i:=1) (l:= [.int .u64 0,Str [],I 0,I 0,.slice none 0 0]) (vs:= [N64 ((l.getD (n-1) qBE).ep),Str ((l.getD (n-1) qBE).par),I ((l.getD (n-1) qBE).dep:Nat),I ((l.getD (n-1) qBE).aud:Nat),.slice (l.getD (n-1) qBE).nsA (l.getD (n-1) qBE).ns.length (l.getD (n-1) qBE).nsc]) O O O O O qGV O O) O O λ_ _=>yi C2<|yr<|vH hw0 (λ_ _ h=>h) (rv1 O (RV.blkA 1 O O qM2 qGV)) (qAf () O yd [0] O xC)
structure SbR where
 mX:Hp
 A:yS
 c:Nat
 mE:Hp
 w:WtR
 mr:Hp
theorem qTv(F mX mr mo mC mO:Hp)(s:xA)(hK:yf F)(gs nB:Nat)(v0 v1 v2 v3 v4 v6 v9 v10:Value)(cA:yS)(cc:Nat)(cl:List Chg)(hrc:Row mC 155 2 cA cl.length cc (qDI cl))(hcl:cl.length<=100000)(oA:yS)(oc:Nat)(no:List xA)(hro:Row mO 9 1 oA no.length oc (qAG no))(hno:no.length<=100000)(nxt:List Lb)(hmp:Fw.MapS mX nB (lbV nxt))(hro2:Row mo 102 5 (qIz nxt s) (qA2 (lbE nxt) s).length (qIy nxt s) (qD1 (qA2 (lbE nxt) s)))(hon:(qA2 (lbE nxt) s).length<=1000)(hs2:s.length<=200)(v:Nat)(o r:xA)(h:Int)(p:xA)(hE:qBK v o r h p=0)(i:Nat)(A1:yS)(n1 c1:Nat)(ch:List xA)(hch:Sl F 1 A1 n1 c1 (qAG ch))(A2:yS)(n2 c2:Nat)(pt:List xA)(hpt:Sl F 1 A2 n2 c2 (qAG pt))(hi:i<=63)(h35:ch.length=35)(hn6:pt.length<=6)(hc16: ∀s∈ch,s.length=16)(hp16: ∀s∈pt,s.length=16)(hp3:pt.length<=3)(hno2:no.length<256)(z:En)(had:Bool)(hL: ∀F':Hp,Le F F'->Le mX F'->Le mr F'->Le mo F'->Cz prog 102 [.agg #[.map (some nB),v6],Str s] F' (.tuple #[.agg #[N64 z.v,Str z.o,Str z.r,I z.h,Str z.p],.bool had]))(hJ: ∀F':Hp,Le F F'->Cz prog 103 [.agg #[Str s,N64 (v),Str (o),Str (r),I (h),Str (p),I (i:Nat),.slice A1 n1 c1,.slice A2 n2 c2],.bool had,.agg #[N64 z.v,Str z.o,Str z.r,I z.h,Str z.p]] F' (I (((0:Nat):Int)))):Ct prog 36 [Ptr gs,.agg #[Str s,N64 (v),Str (o),Str (r),I (h),Str (p),I (i:Nat),.slice A1 n1 c1,.slice A2 n2 c2]] [blk gs [v0,v1,v2,v3,v4,.map (some nB),v6,.slice cA cl.length cc,.slice oA no.length oc,v9,v10] 129,mX,mr,mo,mC,mO,F] (λ_:SbR=>I (0:Nat)) (λx=>Fw.MapS x.mX nB (lbV (qDt nxt ⟨s,x.A,x.c,((qA2 (lbE nxt) s)++ [(⟨v,o,r,h,p⟩:En)]),x.mE⟩))/\Row x.mE 102 5 x.A ((qA2 (lbE nxt) s)++ [(⟨v,o,r,h,p⟩:En)]).length x.c (qD1 ((qA2 (lbE nxt) s)++ [(⟨v,o,r,h,p⟩:En)]))/\Row x.w.mC 155 2 x.w.cA (cl++ [(⟨Sha.tagged 11 [s],qCl v o r h p⟩:Chg)]).length x.w.cc (qDI (cl++ [⟨Sha.tagged 11 [s],qCl v o r h p⟩]))/\Row x.w.mO 9 1 x.w.oA (no++ [117::(upB s (qA6 v o r h p) (sgB i ch pt))]).length x.w.oc (qAG (no++ [117::(upB s (qA6 v o r h p) (sgB i ch pt))]))) (λx=> [blk gs [v0,v1,v2,v3,v4,.map (some nB),v6,.slice x.w.cA (cl++ [(⟨Sha.tagged 11 [s],qCl v o r h p⟩:Chg)]).length x.w.cc,.slice x.w.oA (no++ [117::(upB s (qA6 v o r h p) (sgB i ch pt))]).length x.w.oc,v9,v10] 129,x.mX,mr,x.w.mC,x.w.mO,F,x.mE]):=by
 obtain ⟨e1,e2,⟨e3,e4⟩,e5,e6,e7⟩:=qEV hE
 have hsg:=qFs (i:=i) hc16 hp16 h35
 have hul:=qHL s (qA6 v o r h p) (sgB i ch pt)
 have hel:=qB4 hE
 refine y7 func36 O ntmps36 O (λw0 hw0=>?_)
 refine yl λ_ C1=>yp (qAi O O O) O λg3 _=>yh O<|yi C1<|ym λ_ C2=>yl λ_ C3=>yh O<|yj (qBL qWN O O O) O<|yi C3<|vC ?_
 refine yy C2<|ym λ_ C4=>vQ [blk gs [v0,v1,v2,v3,v4,.map (some nB),v6,.slice cA cl.length cc,.slice oA no.length oc,v9,v10] 129,blk g3 [Str s,N64 (v),Str (o),Str (r),I (h),Str (p),I (i:Nat),.slice A1 n1 c1,.slice A2 n2 c2] 108] [11,12,100009] (.y 0 (.y 1 (.y 2 (.y 3 (.y 4 (.y 5 (.br (.e 6 (.y 7 (.y 8 (.y 9 (.e 10 (.e 11 (.e 12 .nil))))))) (.e 10 (.e 6 (.y 7 (.y 8 (.y 9 (.e 11 (.e 12 .nil)))))))))))))) ye xF xD ?_
 refine yx ?_
 refine yo O (qAB O O) O O<|yo O (qAA O O qBR O qCM O) O O<|yo O (qAb O O isAgg124 qCM (m:=blk gs [v0,v1,v2,v3,v4,.map (some nB),v6,.slice cA cl.length cc,.slice oA no.length oc,v9,v10] 129) xD (qAI.blk0.sub 5 2) O) O O<|yo O (qAA O O qCN O z9_ O) O O<|yo O (qAD 1 O O O b9_ O) O O<|vx ?_ ?_
 .
  refine vD O (qAZ O O (λF' hF=>hL F' (Fa hF) (Fa hF) (Fa hF) (Fa hF))) O xD λg19 _=>yx ?_
  refine vm (.agg #[N64 (z.v),Str (z.o),Str (z.r),I (z.h),Str (z.p)]) ?_
  refine vq O (qAp O O O) O O O ?_
  refine vD O (qAO O qEt O) O xD λg5 _=>vZ O (qAF (i:=8) (l:= [.int .u64 0,Str [],Str [],I 0,Str []]) (vs:= [N64 (z.v),Str (z.o),Str (z.r),I (z.h),Str (z.p)]) O O O O O qBF O O) O O O λ_ _=>vp O (YOp.eop (qBH O O)) O O O O ?_
  intro _ _
  refine vM<|yq (yu C4 ?_)
  refine ym λ_ C5=>yl λ_ C6=>vT 7 qGd qD6 O O O O O<|yh O<|vT 8 qBz qBF O O O O O<|yp (qAZ O O (λF' hF=>hJ F' (Fa hF))) O λg25 _=>yh O<|yi C6<|yl λ_ C7=>yh O<|yj ((qAQ O O O).no xC) O<|yi C7<|vC ?_
  refine yy C5<|yl λ_ C8=>vT 7 qGd qD6 O O O O O<|yp (qAZ O O (λF' hF=>qK3 F' s xI v o r h p xI i A1 n1 c1 ch (hch.mono (Fa hF)) A2 n2 c2 pt (hpt.mono (Fa hF)) xI xI xI xI xI)) O λg31 _=>yn 5 O<|yi C8<|ym λ_ C9=>yz<|yl λ_ C10=>yh O<|yj ((qAQ O O O).no xC) O<|yh O<|yi C10<|vC ?_
  refine yl λ_ C11=>yh O<|yj (qAn u9_ O O) O<|yj ((qAM O O O xB).as (v':=I (1+((upB (s) (qA6 (v) (o) (r) (h) (p)) (sgB (i) (ch) (pt))).length):Nat)) (yY I xB)) O<|yj ((qAs O O O).no xB) O<|yh O<|yi C11<|vC ?_
  refine yl λ_ C12=>yh O<|yj (qAB O O) O<|vA 8 qBR qBs O O O O O<|vF 0 qB7 O O O O O<|yj (qAN qAg O O) O<|yj ((qA1 O O O).no xB) O<|yh O<|yi C12<|vC ?_
  refine vP<|vB<|yq (yu C9 ?_)
  refine ym λ_ C13=>vQ [blk gs [v0,v1,v2,v3,v4,.map (some nB),v6,.slice cA cl.length cc,.slice oA no.length oc,v9,v10] 129,blk g3 [Str s,N64 (v),Str (o),Str (r),I (h),Str (p),I (i:Nat),.slice A1 n1 c1,.slice A2 n2 c2] 108,mX] [19] (.y 0 (.y 1 (.y 2 (.y 3 (.y 4 (.y 5 (.y 6 (.y 7 (.y 8 (.y 9 (.y 10 (.y 11 (.y 12 (.y 13 (.y 14 (.y 15 (.y 16 (.e 17 (.e 18 (.e 19 .nil)))))))))))))))))))) ye xF xD ?_
  refine yx ?_
  refine yo O (qAB O O) O O<|yo O (qAA O O qBR O qCM O) O O<|yo O (qAA O O qD9 O qJM O) O O<|yo O (qAD 0 O O O isAgg120 O) O O<|yo O (qAA O O qCN O z9_ O) O O<|yo O (qAD 1 O O O b9_ O) O O<|yx ?_
  refine yo O (qAB O O) O O<|yo O (qAA O O qBR O qCM O) O O<|yo O (qAA O O qD9 O qJM O) O O<|yo O (qAD 0 O O O isAgg120 O) O O<|yo O (qAA O O qCN O z9_ O) O O<|yo O (qAD 1 O O O b9_ O) O O<|yo O ((qCt O O O qJW u9_ qaU (m:=mX) xD hmp.at).as (v':= .slice (qIz nxt s) (qA2 (lbE nxt) s).length (qIy nxt s)) (qLL nxt s)) O O<|yo O (qAA O O qCN O qBF O) O O<|yo O (qAb O O qBz qBF (m:=blk g3 [Str s,N64 (v),Str (o),Str (r),I (h),Str (p),I (i:Nat),.slice A1 n1 c1,.slice A2 n2 c2] 108) xD (qAI.blk0.sub 1 5) O) O O<|vD O (qAE (l:= [.tmp 66]) (xs:= [[N64 (v),Str (o),Str (r),I (h),Str (p)]]) O O O O qGK el102 O xC xC xD) O xD λg67 _=>vD O (qAV (i:=3) (m2:=blk g67 [N64 (v),Str (o),Str (r),I (h),Str (p)] 102) O O O qGK qGK el102 O hro2 xD ((qAj (q:=True) (xs:=qD1 [(⟨v,o,r,h,p⟩:En)]) O (by intro x hx;rw [List.mem_singleton.1 hx];rfl)).sl) O xB xB) O xD ?_
  rintro⟨A68,c68,m68⟩ h68
  try dsimp only at h68
  replace h68:Row m68 102 5 A68 ((qA2 (lbE nxt) s).length+1) c68 (qD1 ((qA2 (lbE nxt) s)++ [(⟨v,o,r,h,p⟩:En)])):=by rw [qHy];exact h68
  rw [show(qA2 (lbE nxt) s).length+1=((qA2 (lbE nxt) s)++ [(⟨v,o,r,h,p⟩:En)]).length by rw [jA];rfl] at h68⊢
  refine vZ O (qDP (i:=1) O O O O qJW u9_ O hmp) O O O ?_
  rintro mu hmu
  rw [<-qR8 nxt ⟨s,A68,c68,((qA2 (lbE nxt) s)++ [(⟨v,o,r,h,p⟩:En)]),m68⟩] at hmu
  refine vM<|yq (yu C13 ?_)
  refine ym λ_ C14=>vW [0,4,5,6,2,1,3,7] [blk gs [v0,v1,v2,v3,v4,.map (some nB),v6,.slice cA cl.length cc,.slice oA no.length oc,v9,v10] 129,mC,mO,F,mr,mu,m68,blk g3 [Str s,N64 (v),Str (o),Str (r),I (h),Str (p),I (i:Nat),.slice A1 n1 c1,.slice A2 n2 c2] 108] O xC<|vQ [blk g3 [Str s,N64 (v),Str (o),Str (r),I (h),Str (p),I (i:Nat),.slice A1 n1 c1,.slice A2 n2 c2] 108,F] [] (.y 0 (.y 1 (.y 2 (.y 3 (.y 4 (.y 6 (.y 7 (.e 5 (.e 8 (.y 9 (.e 10 .nil))))))))))) ye xF xD ?_
  refine yx ?_
  refine yx ?_
  refine yo O ((qAq O O O xJ).as (v':=Str (117::(upB s (qA6 v o r h p) (sgB i ch pt)))) O) O O<|yo O (qAA O O qCN O z9_ O) O O<|yo O (qAD 0 O O O b9_ O) O O<|yo O (qAA O O qCN O qBF O) O O<|yo O (qAb O O qBz qBF (m:=blk g3 [Str s,N64 (v),Str (o),Str (r),I (h),Str (p),I (i:Nat),.slice A1 n1 c1,.slice A2 n2 c2] 108) xD (qAI.blk0.sub 1 5) O) O O<|vD O (qAZ O O (λF' hF=>qEm F' (hK.mo hF) s xB)) O xD λg74 _=>vD O (qAZ O O (λF' hF=>qFg F' (hK.mo hF) v o r h p xB xB xB xB)) O xD λg77 _=>yo O (qAK (places:= [(0,1),(1,1)]) (r:= [Str (Sha.tagged 11 [s]),Str (qCl v o r h p)]) O O O qFo qPf (λ_=>xH) O) O O<|vD O (qAJ O O ent (vi [blk gs [v0,v1,v2,v3,v4,.map (some nB),v6,.slice cA cl.length cc,.slice oA no.length oc,v9,v10] 129,mC,mO] [F,mr,mu,m68,blk g3 [Str s,N64 (v),Str (o),Str (r),I (h),Str (p),I (i:Nat),.slice A1 n1 c1,.slice A2 n2 c2] 108] (A':=λx:WtR=> [blk gs [v0,v1,v2,v3,v4,.map (some nB),v6,.slice x.cA (cl++ [(⟨Sha.tagged 11 [s],qCl v o r h p⟩:Chg)]).length x.cc,.slice x.oA (no++ [117::(upB s (qA6 v o r h p) (sgB i ch pt))]).length x.oc,v9,v10] 129,x.mC,x.mO]) (new:=λ_=> []) (λF' hF=>qJa F' mC mO gs v0 v1 v2 v3 v4 (.map (some nB)) v6 v9 v10 cA cc cl hrc hcl oA oc no hro hno (117::(upB s (qA6 v o r h p) (sgB i ch pt))) (Sha.tagged 11 [s]) (qCl v o r h p)))) O xD ?_
  rintro w79 ⟨hwc,hwo⟩
  refine vM<|yq (yu C14 ?_)
  exact yl λ_ C15=>yh O<|yi C15<|yr<|yw hw0 O (⟨mu,A68,c68,m68,w79,mr⟩:SbR) O ⟨hmu,h68,hwc,hwo⟩ [0,5,4,1,2,3,6] O xC
 refine vD O (qAO O qEt O) O xD λg5 _=>vD O (qAZ O O (λF' hF=>hL F' (Fa hF) (Fa hF) (Fa hF) (Fa hF))) O xD λg19 _=>yx ?_
 refine vm (.agg #[N64 (z.v),Str (z.o),Str (z.r),I (z.h),Str (z.p)]) ?_
 refine vq O (qAp O O O) O O O ?_
 refine vZ O (qAF (i:=8) (l:= [.int .u64 0,Str [],Str [],I 0,Str []]) (vs:= [N64 (z.v),Str (z.o),Str (z.r),I (z.h),Str (z.p)]) O O O O O qBF O O) O O O λ_ _=>vp O (YOp.eop (qBH O O)) O O O O ?_
 intro _ _
 refine vM<|yq (yu C4 ?_)
 refine ym λ_ C16=>yl λ_ C17=>vT 7 qGd qD6 O O O O O<|yh O<|vT 8 qBz qBF O O O O O<|yp (qAZ O O (λF' hF=>hJ F' (Fa hF))) O λg25 _=>yh O<|yi C17<|yl λ_ C18=>yh O<|yj ((qAQ O O O).no xC) O<|yi C18<|vC ?_
 refine yy C16<|yl λ_ C19=>vT 7 qGd qD6 O O O O O<|yp (qAZ O O (λF' hF=>qK3 F' s xI v o r h p xI i A1 n1 c1 ch (hch.mono (Fa hF)) A2 n2 c2 pt (hpt.mono (Fa hF)) xI xI xI xI xI)) O λg31 _=>yn 5 O<|yi C19<|ym λ_ C20=>yz<|yl λ_ C21=>yh O<|yj ((qAQ O O O).no xC) O<|yh O<|yi C21<|vC ?_
 refine yl λ_ C22=>yh O<|yj (qAn u9_ O O) O<|yj ((qAM O O O xB).as (v':=I (1+((upB (s) (qA6 (v) (o) (r) (h) (p)) (sgB (i) (ch) (pt))).length):Nat)) (yY I xB)) O<|yj ((qAs O O O).no xB) O<|yh O<|yi C22<|vC ?_
 refine yl λ_ C23=>yh O<|yj (qAB O O) O<|vA 8 qBR qBs O O O O O<|vF 0 qB7 O O O O O<|yj (qAN qAg O O) O<|yj ((qA1 O O O).no xB) O<|yh O<|yi C23<|vC ?_
 refine vP<|vB<|yq (yu C20 ?_)
 refine ym λ_ C24=>vQ [blk gs [v0,v1,v2,v3,v4,.map (some nB),v6,.slice cA cl.length cc,.slice oA no.length oc,v9,v10] 129,blk g3 [Str s,N64 (v),Str (o),Str (r),I (h),Str (p),I (i:Nat),.slice A1 n1 c1,.slice A2 n2 c2] 108,mX] [19] (.y 0 (.y 1 (.y 2 (.y 3 (.y 4 (.y 5 (.y 6 (.y 7 (.y 8 (.y 9 (.y 10 (.y 11 (.y 12 (.y 13 (.y 14 (.y 15 (.y 16 (.e 17 (.e 18 (.e 19 .nil)))))))))))))))))))) ye xF xD ?_
 refine yx ?_
 refine yo O (qAB O O) O O<|yo O (qAA O O qBR O qCM O) O O<|yo O (qAA O O qD9 O qJM O) O O<|yo O (qAD 0 O O O isAgg120 O) O O<|yo O (qAA O O qCN O z9_ O) O O<|yo O (qAD 1 O O O b9_ O) O O<|yx ?_
 refine yo O (qAB O O) O O<|yo O (qAA O O qBR O qCM O) O O<|yo O (qAA O O qD9 O qJM O) O O<|yo O (qAD 0 O O O isAgg120 O) O O<|yo O (qAA O O qCN O z9_ O) O O<|yo O (qAD 1 O O O b9_ O) O O<|yo O ((qCt O O O qJW u9_ qaU (m:=mX) xD hmp.at).as (v':= .slice (qIz nxt s) (qA2 (lbE nxt) s).length (qIy nxt s)) (qLL nxt s)) O O<|yo O (qAA O O qCN O qBF O) O O<|yo O (qAb O O qBz qBF (m:=blk g3 [Str s,N64 (v),Str (o),Str (r),I (h),Str (p),I (i:Nat),.slice A1 n1 c1,.slice A2 n2 c2] 108) xD (qAI.blk0.sub 1 5) O) O O<|vD O (qAE (l:= [.tmp 66]) (xs:= [[N64 (v),Str (o),Str (r),I (h),Str (p)]]) O O O O qGK el102 O xC xC xD) O xD λg67 _=>vD O (qAV (i:=3) (m2:=blk g67 [N64 (v),Str (o),Str (r),I (h),Str (p)] 102) O O O qGK qGK el102 O hro2 xD ((qAj (q:=True) (xs:=qD1 [(⟨v,o,r,h,p⟩:En)]) O (by intro x hx;rw [List.mem_singleton.1 hx];rfl)).sl) O xB xB) O xD ?_
 rintro⟨A68,c68,m68⟩ h68
 try dsimp only at h68
 replace h68:Row m68 102 5 A68 ((qA2 (lbE nxt) s).length+1) c68 (qD1 ((qA2 (lbE nxt) s)++ [(⟨v,o,r,h,p⟩:En)])):=by rw [qHy];exact h68
 rw [show(qA2 (lbE nxt) s).length+1=((qA2 (lbE nxt) s)++ [(⟨v,o,r,h,p⟩:En)]).length by rw [jA];rfl] at h68⊢
 refine vZ O (qDP (i:=1) O O O O qJW u9_ O hmp) O O O ?_
 rintro mu hmu
 rw [<-qR8 nxt ⟨s,A68,c68,((qA2 (lbE nxt) s)++ [(⟨v,o,r,h,p⟩:En)]),m68⟩] at hmu
 refine vM<|yq (yu C24 ?_)
 refine ym λ_ C25=>vW [0,4,5,6,2,1,3,7] [blk gs [v0,v1,v2,v3,v4,.map (some nB),v6,.slice cA cl.length cc,.slice oA no.length oc,v9,v10] 129,mC,mO,F,mr,mu,m68,blk g3 [Str s,N64 (v),Str (o),Str (r),I (h),Str (p),I (i:Nat),.slice A1 n1 c1,.slice A2 n2 c2] 108] O xC<|vQ [blk g3 [Str s,N64 (v),Str (o),Str (r),I (h),Str (p),I (i:Nat),.slice A1 n1 c1,.slice A2 n2 c2] 108,F] [] (.y 0 (.y 1 (.y 2 (.y 3 (.y 4 (.y 6 (.y 7 (.e 5 (.e 8 (.y 9 (.e 10 .nil))))))))))) ye xF xD ?_
 refine yx ?_
 refine yx ?_
 refine yo O ((qAq O O O xJ).as (v':=Str (117::(upB s (qA6 v o r h p) (sgB i ch pt)))) O) O O<|yo O (qAA O O qCN O z9_ O) O O<|yo O (qAD 0 O O O b9_ O) O O<|yo O (qAA O O qCN O qBF O) O O<|yo O (qAb O O qBz qBF (m:=blk g3 [Str s,N64 (v),Str (o),Str (r),I (h),Str (p),I (i:Nat),.slice A1 n1 c1,.slice A2 n2 c2] 108) xD (qAI.blk0.sub 1 5) O) O O<|vD O (qAZ O O (λF' hF=>qEm F' (hK.mo hF) s xB)) O xD λg74 _=>vD O (qAZ O O (λF' hF=>qFg F' (hK.mo hF) v o r h p xB xB xB xB)) O xD λg77 _=>yo O (qAK (places:= [(0,1),(1,1)]) (r:= [Str (Sha.tagged 11 [s]),Str (qCl v o r h p)]) O O O qFo qPf (λ_=>xH) O) O O<|vD O (qAJ O O ent (vi [blk gs [v0,v1,v2,v3,v4,.map (some nB),v6,.slice cA cl.length cc,.slice oA no.length oc,v9,v10] 129,mC,mO] [F,mr,mu,m68,blk g3 [Str s,N64 (v),Str (o),Str (r),I (h),Str (p),I (i:Nat),.slice A1 n1 c1,.slice A2 n2 c2] 108] (A':=λx:WtR=> [blk gs [v0,v1,v2,v3,v4,.map (some nB),v6,.slice x.cA (cl++ [(⟨Sha.tagged 11 [s],qCl v o r h p⟩:Chg)]).length x.cc,.slice x.oA (no++ [117::(upB s (qA6 v o r h p) (sgB i ch pt))]).length x.oc,v9,v10] 129,x.mC,x.mO]) (new:=λ_=> []) (λF' hF=>qJa F' mC mO gs v0 v1 v2 v3 v4 (.map (some nB)) v6 v9 v10 cA cc cl hrc hcl oA oc no hro hno (117::(upB s (qA6 v o r h p) (sgB i ch pt))) (Sha.tagged 11 [s]) (qCl v o r h p)))) O xD ?_
 rintro w79 ⟨hwc,hwo⟩
 refine vM<|yq (yu C25 ?_)
 exact yl λ_ C26=>yh O<|yi C26<|yr<|yw hw0 O (⟨mu,A68,c68,m68,w79,mr⟩:SbR) O ⟨hmu,h68,hwc,hwo⟩ [0,5,4,1,2,3,6] O xC
theorem qTw(F mX mr mo mC mO:Hp)(s:xA)(hK:yf F)(gs nB:Nat)(v0 v1 v2 v3 v4 v6 v9 v10:Value)(cA:yS)(cc:Nat)(cl:List Chg)(hrc:Row mC 155 2 cA cl.length cc (qDI cl))(hcl:cl.length<=100000)(oA:yS)(oc:Nat)(no:List xA)(hro:Row mO 9 1 oA no.length oc (qAG no))(hno:no.length<=100000)(nxt:List Lb)(hmp:Fw.MapS mX nB (lbV nxt))(hro2:Row mo 102 5 (qIz nxt s) (qA2 (lbE nxt) s).length (qIy nxt s) (qD1 (qA2 (lbE nxt) s)))(hon:(qA2 (lbE nxt) s).length<=1000)(hs2:s.length<=200)(v:Nat)(o r:xA)(h:Int)(p:xA)(i:Nat)(A1:yS)(n1 c1:Nat)(ch:List xA)(hch:Sl F 1 A1 n1 c1 (qAG ch))(A2:yS)(n2 c2:Nat)(pt:List xA)(hpt:Sl F 1 A2 n2 c2 (qAG pt))(z:En)(had:Bool)(hL: ∀F':Hp,Le F F'->Le mX F'->Le mr F'->Le mo F'->Cz prog 102 [.agg #[.map (some nB),v6],Str s] F' (.tuple #[.agg #[N64 z.v,Str z.o,Str z.r,I z.h,Str z.p],.bool had]))(e:Int)(he:e≠0)(hJ: ∀F':Hp,Le F F'->Cz prog 103 [.agg #[Str s,N64 (v),Str (o),Str (r),I (h),Str (p),I (i:Nat),.slice A1 n1 c1,.slice A2 n2 c2],.bool had,.agg #[N64 z.v,Str z.o,Str z.r,I z.h,Str z.p]] F' (I (e))):Ct prog 36 [Ptr gs,.agg #[Str s,N64 (v),Str (o),Str (r),I (h),Str (p),I (i:Nat),.slice A1 n1 c1,.slice A2 n2 c2]] [blk gs [v0,v1,v2,v3,v4,.map (some nB),v6,.slice cA cl.length cc,.slice oA no.length oc,v9,v10] 129,mX,mr,mo,mC,mO,F] (λ_:Unit=>I e) (λ_=>True) (λ_=> [blk gs [v0,v1,v2,v3,v4,.map (some nB),v6,.slice cA cl.length cc,.slice oA no.length oc,v9,v10] 129,mX,mr,mo,mC,mO,F]):=by
 refine y7 func36 O ntmps36 O (λw0 hw0=>?_)
 refine yl λ_ C1=>yp (qAi O O O) O λg3 _=>yh O<|yi C1<|ym λ_ C2=>yl λ_ C3=>yh O<|yj (qBL qWN O O O) O<|yi C3<|vC ?_
 refine yy C2<|ym λ_ C4=>vQ [blk gs [v0,v1,v2,v3,v4,.map (some nB),v6,.slice cA cl.length cc,.slice oA no.length oc,v9,v10] 129,blk g3 [Str s,N64 (v),Str (o),Str (r),I (h),Str (p),I (i:Nat),.slice A1 n1 c1,.slice A2 n2 c2] 108] [11,12,100009] (.y 0 (.y 1 (.y 2 (.y 3 (.y 4 (.y 5 (.br (.e 6 (.y 7 (.y 8 (.y 9 (.e 10 (.e 11 (.e 12 .nil))))))) (.e 10 (.e 6 (.y 7 (.y 8 (.y 9 (.e 11 (.e 12 .nil)))))))))))))) ye xF xD ?_
 refine yx ?_
 refine yo O (qAB O O) O O<|yo O (qAA O O qBR O qCM O) O O<|yo O (qAb O O isAgg124 qCM (m:=blk gs [v0,v1,v2,v3,v4,.map (some nB),v6,.slice cA cl.length cc,.slice oA no.length oc,v9,v10] 129) xD (qAI.blk0.sub 5 2) O) O O<|yo O (qAA O O qCN O z9_ O) O O<|yo O (qAD 1 O O O b9_ O) O O<|vx ?_ ?_
 .
  refine vD O (qAZ O O (λF' hF=>hL F' (Fa hF) (Fa hF) (Fa hF) (Fa hF))) O xD λg19 _=>yx ?_
  refine vm (.agg #[N64 (z.v),Str (z.o),Str (z.r),I (z.h),Str (z.p)]) ?_
  refine vq O (qAp O O O) O O O ?_
  refine vD O (qAO O qEt O) O xD λg5 _=>vZ O (qAF (i:=8) (l:= [.int .u64 0,Str [],Str [],I 0,Str []]) (vs:= [N64 (z.v),Str (z.o),Str (z.r),I (z.h),Str (z.p)]) O O O O O qBF O O) O O O λ_ _=>vp O (YOp.eop (qBH O O)) O O O O ?_
  intro _ _
  refine vM<|yq (yu C4 ?_)
  refine ym λ_ C5=>yl λ_ C6=>vT 7 qGd qD6 O O O O O<|yh O<|vT 8 qBz qBF O O O O O<|yp (qAZ O O (λF' hF=>hJ F' (Fa hF))) O λg25 _=>yh O<|yi C6<|yl λ_ C7=>yh O<|yj ((qAQ O O O).yes (he)) O<|yi C7<|vV ?_
  exact yl λ_ C8=>yn 2 O<|yi C8<|yr<|y5<|yw hw0 O () O yd [0,1,2,3,4,5,6] O xC
 refine vD O (qAO O qEt O) O xD λg5 _=>vD O (qAZ O O (λF' hF=>hL F' (Fa hF) (Fa hF) (Fa hF) (Fa hF))) O xD λg19 _=>yx ?_
 refine vm (.agg #[N64 (z.v),Str (z.o),Str (z.r),I (z.h),Str (z.p)]) ?_
 refine vq O (qAp O O O) O O O ?_
 refine vZ O (qAF (i:=8) (l:= [.int .u64 0,Str [],Str [],I 0,Str []]) (vs:= [N64 (z.v),Str (z.o),Str (z.r),I (z.h),Str (z.p)]) O O O O O qBF O O) O O O λ_ _=>vp O (YOp.eop (qBH O O)) O O O O ?_
 intro _ _
 refine vM<|yq (yu C4 ?_)
 refine ym λ_ C9=>yl λ_ C10=>vT 7 qGd qD6 O O O O O<|yh O<|vT 8 qBz qBF O O O O O<|yp (qAZ O O (λF' hF=>hJ F' (Fa hF))) O λg25 _=>yh O<|yi C10<|yl λ_ C11=>yh O<|yj ((qAQ O O O).yes (he)) O<|yi C11<|vV ?_
 exact yl λ_ C12=>yn 2 O<|yi C12<|yr<|y5<|yw hw0 O () O yd [0,1,2,3,4,5,6] O xC
def cmB(n e:Nat):xA:= [99]++(Sha.numB (UInt64.ofNat n) 2++Sha.numB (UInt64.ofNat e) 4)
theorem qSr(n e:Nat):(cmB n e).length=7:=by unfold cmB;simp only [jA,Sha.numB_length,jI]
def qBU(l:List xA):Nat:=(l.map λr=>qAw r.length).sum
theorem qDa(l:List xA)(s:xA):qBU (l++ [s])=qBU l+qAw s.length:=by unfold qBU;rw [jN,yH];rfl
theorem qKg(l:List xA){i:Nat}(h:i<l.length):l.take (i+1)=l.take i++ [l.getD i []]:=by
 rw [List.take_add_one,jD h,jB,jD h];rfl
theorem qIu{l:List xA}{i:Nat}(h:i<l.length):qBU (l.take (i+1))=qBU (l.take i)+qAw (l.getD i []).length:=by rw [qKg l h,qDa]
theorem qN1{l:List xA}{i:Nat}:qBU (l.take i)<=qBU l:=by
 unfold qBU
 induction l generalizing i with
 |nil=>simp
 |cons a l ih=>
  cases i with
  |zero=>simp
  |succ i=>
   rw [List.take_succ_cons,jY,jY,zE,zE]
   have:=ih (i:=i);omega
structure CbL (x y:CbR) (l:List xA):Prop where
 gd:y.gd=x.gd
 f0:y.f0=x.f0
 sz:y.size=x.size
 e:y.e=x.e+qBU l
 R:y.R=x.R++l
 ln:y.d.last.length=x.d.last.length
 ind: ∀C:CbR->Prop,(∀a b s,CbN a b s->C a->C b)->C x->C y
theorem CbL.nil(x:CbR):CbL x x []:=⟨rfl,rfl,rfl,rfl,(jS _).symm,rfl,λ_ _ h=>h⟩
theorem CbL.snoc{x y z:CbR}{l:List xA}{s:xA}(h:CbL x y l)(hs:CbN y z s):CbL x z (l++ [s]):=
 ⟨hs.gd.trans h.gd,hs.f0.trans h.f0,hs.sz.trans h.sz,by rw [hs.e,h.e,qDa,z7],by rw [hs.R,h.R,jM],hs.ln.trans h.ln,λC hC hx=>hC _ _ _ hs (h.ind C hC hx)⟩
theorem qN6{l:List xA}{i:Nat}(h:i<l.length):l.getD i []∈l:=by
 rw [jB,jD h];exact jU h
structure WrR where
 x:CbR
 md:Hp
 N:Hp
theorem qQR(F md N:Hp)(hK:yf F)(gs gb:Nat)(v0 v2 v3 v4 v5 v6 v7 v9:Value)(oA:yS)(oc:Nat)(no:List xA)(hsO:Sl F 1 oA no.length oc (qAG no))(hno:no.length<=256)(h9: ∀s∈no,s.length<=900)(hA:yS)(hn hc:Nat)(hhn:hn<=100000)(hp:qAI F ⟨gs,0,none⟩ [v0,Ptr gb,v2,v3,v4,v5,v6,v7,.slice oA no.length oc,v9,.slice hA hn hc])(x:CbR)(hb:CbP N md x)(hfit:x.e+qBU (no++ [cmB no.length hn])<=x.size)(hsz:x.size<=100000)(hR:x.R.length+no.length<65535):Ct prog 66 [Ptr gs] [x.blk gb,md,N,F] (λ_:WrR=>I (0:Nat)) (λy=>CbP y.N y.md y.x/\CbL x y.x (no++ [cmB no.length hn])) (λy=> [y.x.blk gb,y.md,y.N,F]):=by
 refine y7 func66 O ntmps66 O (λw0 hw0=>?_)
 refine yl λ_ C1=>yh O<|yi C1<|yl λ_ C2=>yp (qAO O qLf O) O λg3 _=>yi C2<|ym λ_ C3=>vQ [F] [] (.y 0 (.y 1 (.y 2 (.y 3 (.y 4 (.y 5 (.y 7 (.y 8 (.y 9 (.y 10 (.y 11 (.y 12 (.e 6 (.e 13 (.e 14 (.y 15 (.y 16 (.y 17 (.y 18 (.y 19 .nil)))))))))))))))))))) ye xF xD ?_
 refine yx ?_
 refine yo O (qAB O O) O O<|yo O (qAA O O qBR O qBs O) O O<|yo O (qAH O O qB7 (m:=F) xD (hp.at (i:=8) O)) O O<|yo O (qAN qAg O O) O O<|yo O (qBj O O u3_ qDJ xB) O O<|yx ?_
 refine yo O (qAB O O) O O<|yo O (qAA O O qBR O qWM O) O O<|yo O (qAH O O isAgg47 (m:=F) xD (hp.at (i:=10) O)) O O<|yo O (qAN qKR O O) O O<|yo O (qBj O O u3_ qDJ xB) O O<|vD O (qAJ O O ent (vR 4 O (λF' hF=>qRi F' (blk g3 [.pointer none,.slice none 0 0,I 0] 148) g3 ([]) (wtrN g3) (by first|decide|omega|(simp only [jA,jC,jG,jI,Sha.numB_length,qDK]<;>omega)) no.length 2 xC xC xL))) O xD ?_
 rintro m20 hw20
 rw [j7] at hw20
 refine vD O (qAJ O O ent (vR 4 O (λF' hF=>qRi F' m20 g3 (Sha.numB (UInt64.ofNat no.length) 2) hw20 (by first|decide|omega|(simp only [jA,jC,jG,jI,Sha.numB_length,qDK]<;>omega)) hn 4 xC xC xL))) O xD ?_
 rintro m27 hw27
 refine vD O (qAJ O O ent (vR 4 O (λF' hF=>qH9 F' m27 g3 (Sha.numB (UInt64.ofNat no.length) 2++Sha.numB (UInt64.ofNat hn) 4) hw27 (by first|decide|omega|(simp only [jA,jC,jG,jI,Sha.numB_length,qDK]<;>omega))))) O xD ?_
 rintro m28 hw28
 refine yx ?_
 refine vm (Str (Sha.numB (UInt64.ofNat no.length) 2++Sha.numB (UInt64.ofNat hn) 4)) ?_
 refine vm (I (0:Nat)) ?_
 refine vU ?_
 refine vU ?_
 refine vM<|yq (yu C3 ?_)
 refine ym λ_ C4=>yl λ_ C5=>yh O<|yj ((qAQ O O O).no xC) O<|yi C5<|vC ?_
 refine yy C4<|ym λ_ C6=>?_
 have hl9: ∀s∈(no++ [cmB no.length hn]),s.length<=900:=λs hs=>by
  rcases List.mem_append.1 hs with h|h
  . exact h9 s h
  . rw [List.mem_singleton.1 h,qSr];decide
 have hnl:(no++ [cmB no.length hn]).length=no.length+1:=by rw [jA];rfl
 have hef:=hb.ef
 refine yt<|yh O<|yj (qAB O O) O<|vA 8 qBR qBs O O O O O<|yj (qAH O O qB7 (m:=F) xD (hp.at (i:=8) O)) O<|yp (qBx O O (λF' hF=>qOW F' oA no.length oc no (hsO.mono (Fa hF)) xB)) O ?_
 rintro⟨A38,c38,m38⟩ h38
 try dsimp only at h38
 refine yh O<|yj ((qAq O O O (by simp only [jA,Sha.numB_length,jC,jG];omega)).as (v':=Str (cmB no.length hn)) O) O<|yp (qAE (l:= [.tmp 40]) (xs:= [[Str (cmB no.length hn)]]) O O O O qAg el9 O xC xC xD) O λg41 _=>yp (qAV (i:=5) (m2:=blk g41 [Str (cmB no.length hn)] 9) O O O qAg qAg el9 O h38 xD ((qAz (q:=True) (qAG [cmB no.length hn]) O (by simp [qAG]) O).sl) O xB xB) O ?_
 rintro⟨A42,c42,m42⟩ h42
 try dsimp only at h42
 replace h42:Row m42 9 1 A42 (no.length+1) c42 (qAG (no++ [(cmB no.length hn)])):=by rw [qBh];exact h42
 rw [show no.length+1=(no++ [(cmB no.length hn)]).length by rw [jA];rfl] at h42⊢
 refine yh O<|yi C6<|yl λ_ C7=>yh O<|yi C7<|ym λ_ C8=>yl λ_ C9=>yh O<|yj (qAN qAg O O) O<|yh O<|yi C9<|yz<|vN (X:=Nat) (λζ=> [(0,Ptr gs),(6,.slice A42 ((no++ [cmB no.length hn]).length) c42),(7,I (qBU ((no++ [cmB no.length hn]).take ζ):Nat)),(43,.slice A42 ((no++ [cmB no.length hn]).length) c42),(44,I ((no++ [cmB no.length hn]).length:Nat)),(45,I (ζ:Nat))]) (λζ=> [x.blk gb,md,N,F,m28,m42,blk g41 [Str (cmB no.length hn)] 9]) (λζ=>ζ<=(no++ [cmB no.length hn]).length) (λζ=>(no++ [cmB no.length hn]).length-ζ) 0 (jH _) (Sub.of O) (λ_ h=>h) ?_
 rintro i hi I0 hI0
 refine yl λ_ C10=>yj (qAP O O O) O<|yi C10<|ym λ_ C11=>y1 O (λh46=>?_) (λh46=>?_)
 .
  refine yy C11<|ym λ_ C12=>yz<|yl λ_ C13=>yj (qAC O O O qAg z9_ h42.sl xB) O<|yj (qAH O O b9_ (m:=m42) xD (h42.sl.elem (qAa (qAc [] xB)))) O<|yh O<|yi C13 ?_
  have hp9:=hl9 _ (qN6 (l:=(no++ [cmB no.length hn])) (i:=i) xB)
  have hp24:=qEO hp9
  have hnle:=qN1 (l:=(no++ [cmB no.length hn])) (i:=i)
  refine yt<|yn 2 O<|yj (qAn u9_ O O) O<|yp (qAZ O O (λF' hF=>qFP F' ((no++ [cmB no.length hn]).getD i []).length xB)) O λg52 _=>yj ((qAM O O O xB).as (v':=I (qBU ((no++ [cmB no.length hn]).take i)+(qAw ((no++ [cmB no.length hn]).getD i []).length):Nat)) (yY I xB)) O<|yh O<|y8<|vB<|yq (yu C12 ?_)
  exact yt<|yj ((qAM O O O xB).nat (i+1) xB) O<|yh O<|y8<|yq<|vE (i+1) hI0 xB ⟨O,O,by rw [qIu xB];rfl,O,O,O,yd⟩ (λ_ h=>h)
 refine vK<|y6<|y6<|vL ?_
 refine yq (yu C8 ?_)
 refine ym λ_ C14=>ym λ_ C15=>?_
 obtain rfl:i=(no++ [cmB no.length hn]).length:=by omega
 rw [jn]
 refine yt<|yn 2 O<|yj (qAB O O) O<|vA 1 qBR sizeOf125 O O O O O<|yj (qAH O O isAgg125 (m:=F) xD (hp.at (i:=1) O)) O<|yp (qAZ O O (λF' hF=>qR6 F' gb x.gd ((x.f0:Nat):Int) x.size (x.hat:Nat) x.ht ((x.e:Nat):Int) x.A x.R.length x.c false (qAI.blk0.mono (hF (x.blk gb) xD)) xB xB)) O λg60 _=>yj ((qAs O O O).no xB) O<|yi C15<|vC ?_
 refine yy C14<|ym λ_ C16=>yl λ_ C17=>yh O<|yj (qAN qAg O O) O<|yh O<|yi C17<|yz<|vN (X:=Nat×CbR×Hp×Hp) (λζ=> [(0,Ptr gs),(62,.slice A42 ((no++ [cmB no.length hn]).length) c42),(63,I ((no++ [cmB no.length hn]).length:Nat)),(64,I (ζ.1:Nat))]) (λζ=> [ζ.2.1.blk gb,ζ.2.2.1,F,ζ.2.2.2,m28,m42]) (λζ=>ζ.1<=(no++ [cmB no.length hn]).length/\CbP ζ.2.2.2 ζ.2.2.1 ζ.2.1/\CbL x ζ.2.1 ((no++ [cmB no.length hn]).take ζ.1)) (λζ=>(no++ [cmB no.length hn]).length-ζ.1) (0,x,md,N) (⟨jH _,hb,CbL.nil x⟩) (Sub.of O) (λ_ h=>h.pick [0,1,3,2,4,5] xC) ?_
 rintro⟨i,y,md2,N2⟩ ⟨hi,hy,hL⟩ I2 hI2
 dsimp only at hi hy hL⊢
 refine yl λ_ C18=>yj (qAP O O O) O<|yi C18<|ym λ_ C19=>y1 O (λh65=>?_) (λh65=>?_)
 .
  refine yy C19<|ym λ_ C20=>yz<|yl λ_ C21=>yj (qAC O O O qAg z9_ h42.sl xB) O<|yj (qAH O O b9_ (m:=m42) xD (h42.sl.elem (qAa (qAc [] xB)))) O<|yh O<|yi C21<|yl λ_ C22=>yh O<|yj (qAB O O) O<|vA 1 qBR sizeOf125 O O O O O<|yj (qAH O O isAgg125 (m:=F) xD (hp.at (i:=1) O)) O<|yh O<|yp (qAJ O O ent (vi [y.blk gb,md2] [F,N2,m28,m42] (A':=λz:CbR×Hp×Hp=> [z.1.blk gb,z.2.1]) (new:=λz=> [z.2.2]) (λF' hF=>qY7 F' md2 (hK.mo hF) gb y (hy.mono (Fa hF)) ((no++ [cmB no.length hn]).getD i []) (hl9 _ (qN6 xB)) (by rw [hL.e,hL.sz];have:=qN1 (l:=(no++ [cmB no.length hn])) (i:=i+1);rw [qIu xB] at this;omega) (by rw [hL.R,jA,jF];omega)))) O ?_
  rintro⟨y2,md3,N3⟩ ⟨hy2,hn2⟩
  refine yh O<|yi C22<|yl λ_ C23=>yh O<|yj ((qAQ O O O).no xC) O<|yi C23<|vC ?_
  refine vP<|vB<|yq (yu C20 ?_)
  exact yt<|yj ((qAM O O O xB).nat (i+1) xB) O<|yh O<|y8<|yq<|vE (i+1,y2,md3,N3) hI2 ⟨by dsimp only;omega,hy2,by dsimp only;rw [qKg _ xB];exact hL.snoc hn2⟩ (Sub.of O) (λ_ h=>h.pick [0,1,2,6,4,5] xC)
 refine vK<|y6<|y6<|vL ?_
 refine yq (yu C16 ?_)
 exact yl λ_ C24=>yh O<|yi C24<|yr<|yw hw0 O (⟨y,md2,N2⟩:WrR) O ⟨hy,by rw [show(no++ [cmB no.length hn]).take i=(no++ [cmB no.length hn]) from jV xB] at hL;exact hL⟩ [0,1,3,2] O xC
structure RgS where
 r:Nat
 mR:Hp
 w:WtR
def qTS(nm op rt:xA)(ht:Int):xA:=114::(tb nm++qAo op rt ht)
theorem qTx(F mC mO:Hp)(hK:yf F)(hA:yg F)(hT:qBl F)(gs rB:Nat)(v0 v1 v2 v3 v4 v5 v9 v10:Value)(cA:yS)(cc:Nat)(cl:List Chg)(hrc:Row mC 155 2 cA cl.length cc (qDI cl))(hcl:cl.length<=100000)(oA:yS)(oc:Nat)(no:List xA)(hro:Row mO 9 1 oA no.length oc (qAG no))(hno:no.length<=100000)(RA:yS)(rc:Nat)(au:List Aud)(hR:qAI F ⟨rB,0,none⟩ [.slice RA au.length rc])(hRs:Sl F 4 RA au.length rc (qBn au))(hrn:au.length<=1000)(nm op rt:xA)(ht:Int)(hn2:nm.length<=200)(ho2:op.length<=1000)(hr2:rt.length<=1000)(hE:qIB au nm op rt ht=0)(hP:qBT op rt ht=0)(hno2:no.length<256):Ct prog 12 [Ptr gs,.agg #[Str nm,Str op,Str rt,I ht]] [blk gs [v0,v1,v2,v3,v4,v5,Ptr rB,.slice cA cl.length cc,.slice oA no.length oc,v9,v10] 129,mC,mO,F] (λ_:RgS=> .tuple #[I (au.length:Nat),I (0:Nat)]) (λx=>qTJ x.mR x.r (au++ [(⟨nm,op,rt,ht⟩:Aud)])/\Row x.w.mC 155 2 x.w.cA (cl++ [(⟨qAv au.length,Sha.tagged 16 [nm,qAo op rt ht]⟩:Chg)]).length x.w.cc (qDI (cl++ [⟨qAv au.length,Sha.tagged 16 [nm,qAo op rt ht]⟩]))/\Row x.w.mO 9 1 x.w.oA (no++ [(qTS nm op rt ht)]).length x.w.oc (qAG (no++ [(qTS nm op rt ht)]))) (λx=> [blk gs [v0,v1,v2,v3,v4,v5,Ptr x.r,.slice x.w.cA (cl++ [(⟨qAv au.length,Sha.tagged 16 [nm,qAo op rt ht]⟩:Chg)]).length x.w.cc,.slice x.w.oA (no++ [(qTS nm op rt ht)]).length x.w.oc,v9,v10] 129,x.w.mC,x.w.mO,F,x.mR]):=by
 have hpl:=qCP hP
 have hNo:qGf au nm op rt ht=((au.length:Nat):Int):=by unfold qGf;rw [yX hE]
 have hAL:qPp au nm op rt ht=au++ [(⟨nm,op,rt,ht⟩:Aud)]:=by unfold qPp;rw [yX hE]
 refine y7 func12 O ntmps12 O (λw0 hw0=>?_)
 refine yl λ_ C1=>yp (qAi O O O) O λg3 _=>yn 2 O<|yi C1<|ym λ_ C2=>yl λ_ C3=>yh O<|yj (qBL qWN O O O) O<|yi C3<|vC ?_
 refine yy C2<|yl λ_ C4=>yh O<|yj (qAB O O) O<|vA 5 qBR qCM O O O O O<|vA 6 qD9 sizeOf121 O O O O O<|vF 0 isAgg121 O O O O O<|yp (qBx O O (λF' hF=>Ct.swap2 (qJh F' rB RA au.length rc au (hRs.mono (Fa hF)) xB (hR.mono (Fa hF))))) O ?_
 rintro⟨g21,m21⟩ h21
 try dsimp only at h21
 refine yh O<|yi C4<|yl λ_ C5=>yh O<|vT 4 qPu qIV O O O O O<|yp (qAJ O O ent (vR 5 O (λF' hF=>qMR F' m21 g21 au h21 (hA.mono (Fa hF)) (hT.mono (Fa hF)) nm op rt ht (by first|omega|exact jW O|(rw [jJ];omega)) (by first|omega|exact jW O|(rw [jJ];omega)) (by first|omega|exact jW O|(rw [jJ];omega)) (by first|omega|exact jW O|(rw [jJ];omega))))) O ?_
 rintro m25 h25
 rw [hE,hNo]
 rw [hAL] at h25
 refine yn 5 O<|yi C5<|ym λ_ C6=>yz<|yl λ_ C7=>yh O<|yj ((qAQ O O O).no xC) O<|yh O<|yi C7<|vC ?_
 refine yl λ_ C8=>yh O<|yj (qAB O O) O<|vA 8 qBR qBs O O O O O<|vF 0 qB7 O O O O O<|yj (qAN qAg O O) O<|yj ((qA1 O O O).no xB) O<|yh O<|yi C8<|vC ?_
 refine vP<|vB<|yq (yu C6 ?_)
 refine yl λ_ C9=>vA 1 qKd qDF O O O O O<|yj (qAb O O qKM qDF (m:=blk g3 [Str (nm),Str (op),Str (rt),I (ht)] 34) xD (qAI.blk0.sub 1 3) O) O<|yp (qAZ O O (λF' hF=>qCr F' op rt ht xB xB)) O λg42 _=>yn 5 O<|yi C9<|yl λ_ C10=>yp (qAO O qLf O) O λg11 _=>yi C10<|yl λ_ C11=>vA 0 qKd z9_ O O O O O<|vF 4 b9_ O O O O O<|yp (qAJ O O ent (vR 6 O (λF' hF=>qGk F' (blk g11 [.pointer none,.slice none 0 0,I 0] 148) g11 ([]) (wtrN g11) (by first|decide|omega|(simp only [jA,jC,jG,jI,Sha.numB_length,qDK]<;>omega)) nm xL))) O ?_
 rintro m48 hw48
 rw [j7] at hw48
 refine yh O<|yp (qAJ O O ent (vR 6 O (λF' hF=>qYs F' m48 g11 (tb nm) hw48 (by first|decide|omega|(simp only [jA,jC,jG,jI,Sha.numB_length,qDK]<;>omega)) (qAo op rt ht) 33 xL xC))) O ?_
 rintro m50 hw50
 refine yp (qAJ O O ent (vR 6 O (λF' hF=>qH9 F' m50 g11 (tb nm++qAo op rt ht) hw50 (by first|decide|omega|(simp only [jA,jC,jG,jI,Sha.numB_length,qDK]<;>omega))))) O ?_
 rintro m51 hw51
 refine yn 5 O<|yi C11<|yl λ_ C12=>yn 2 O<|yj (qAB O O) O<|vA 5 qBR qCM O O O O O<|vA 6 qD9 sizeOf121 O O O O O<|vG (qAU (i:=0) O O O O O sizeOf121 O xD) O O λ_ _=>yi C12<|ym λ_ C13=>vQ [blk g3 [Str (nm),Str (op),Str (rt),I (ht)] 34,F] [] (.y 0 (.y 1 (.y 2 (.y 3 (.y 5 (.e 4 (.e 6 (.y 7 (.e 8 .nil))))))))) ye xF xD ?_
 refine yx ?_
 refine yx ?_
 refine yo O ((qAq O O O (by simp only [jA,qDK,jC,jG];omega)).as (v':=Str (qTS nm op rt ht)) O) O O<|yx ?_
 refine yo O (qAx 0 O O O qPu qIV O) O O<|vD O (qAZ O O (λF' hF=>qIo F' (hK.mo hF) au.length xB)) O xD λg63 _=>vD O (qAZ O O (λF' hF=>qTB F' (hK.mo hF) nm op rt ht xB xB xB hP)) O xD λg65 _=>yo O (qAK (places:= [(0,1),(1,1)]) (r:= [Str (qAv au.length),Str (Sha.tagged 16 [nm,qAo op rt ht])]) O O O qFo qPf (λ_=>xH) O) O O<|vD O (qAJ O O ent (vi [blk gs [v0,v1,v2,v3,v4,v5,Ptr g21,.slice cA cl.length cc,.slice oA no.length oc,v9,v10] 129,mC,mO] [F,blk g3 [Str (nm),Str (op),Str (rt),I (ht)] 34,m25,m51] (A':=λx:WtR=> [blk gs [v0,v1,v2,v3,v4,v5,Ptr g21,.slice x.cA (cl++ [(⟨qAv au.length,Sha.tagged 16 [nm,qAo op rt ht]⟩:Chg)]).length x.cc,.slice x.oA (no++ [(qTS nm op rt ht)]).length x.oc,v9,v10] 129,x.mC,x.mO]) (new:=λ_=> []) (λF' hF=>qJa F' mC mO gs v0 v1 v2 v3 v4 v5 (Ptr g21) v9 v10 cA cc cl hrc hcl oA oc no hro hno (qTS nm op rt ht) (qAv au.length) (Sha.tagged 16 [nm,qAo op rt ht])))) O xD ?_
 rintro w67 ⟨hwc,hwo⟩
 refine vM<|yq (yu C13 ?_)
 exact yl λ_ C14=>yn 3 O<|yi C14<|yr<|vH hw0 (λ_ _ h=>h) (qB5 O O O) (qAf (⟨g21,m25,w67⟩:RgS) O ⟨h25,hwc,hwo⟩ [0,1,2,3,5] O xC)
theorem qTy(F mC mO:Hp)(hK:yf F)(hA:yg F)(hT:qBl F)(gs rB:Nat)(v0 v1 v2 v3 v4 v5 v9 v10:Value)(cA:yS)(cc:Nat)(cl:List Chg)(hrc:Row mC 155 2 cA cl.length cc (qDI cl))(hcl:cl.length<=100000)(oA:yS)(oc:Nat)(no:List xA)(hro:Row mO 9 1 oA no.length oc (qAG no))(hno:no.length<=100000)(RA:yS)(rc:Nat)(au:List Aud)(hR:qAI F ⟨rB,0,none⟩ [.slice RA au.length rc])(hRs:Sl F 4 RA au.length rc (qBn au))(hrn:au.length<=1000)(nm op rt:xA)(ht:Int)(hn2:nm.length<=200)(ho2:op.length<=1000)(hr2:rt.length<=1000)(e:Int)(hE:qIB au nm op rt ht=e)(he:e≠0):Ct prog 12 [Ptr gs,.agg #[Str nm,Str op,Str rt,I ht]] [blk gs [v0,v1,v2,v3,v4,v5,Ptr rB,.slice cA cl.length cc,.slice oA no.length oc,v9,v10] 129,mC,mO,F] (λ_:Unit=> .tuple #[I (0:Nat),I e]) (λ_=>True) (λ_=> [blk gs [v0,v1,v2,v3,v4,v5,Ptr rB,.slice cA cl.length cc,.slice oA no.length oc,v9,v10] 129,mC,mO,F]):=by
 refine y7 func12 O ntmps12 O (λw0 hw0=>?_)
 refine yl λ_ C1=>yp (qAi O O O) O λg3 _=>yn 2 O<|yi C1<|ym λ_ C2=>yl λ_ C3=>yh O<|yj (qBL qWN O O O) O<|yi C3<|vC ?_
 refine yy C2<|yl λ_ C4=>yh O<|yj (qAB O O) O<|vA 5 qBR qCM O O O O O<|vA 6 qD9 sizeOf121 O O O O O<|vF 0 isAgg121 O O O O O<|yp (qBx O O (λF' hF=>Ct.swap2 (qJh F' rB RA au.length rc au (hRs.mono (Fa hF)) xB (hR.mono (Fa hF))))) O ?_
 rintro⟨g21,m21⟩ h21
 try dsimp only at h21
 refine yh O<|yi C4<|yl λ_ C5=>yh O<|vT 4 qPu qIV O O O O O<|yp (qAJ O O ent (vR 5 O (λF' hF=>qMR F' m21 g21 au h21 (hA.mono (Fa hF)) (hT.mono (Fa hF)) nm op rt ht (by first|omega|exact jW O|(rw [jJ];omega)) (by first|omega|exact jW O|(rw [jJ];omega)) (by first|omega|exact jW O|(rw [jJ];omega)) (by first|omega|exact jW O|(rw [jJ];omega))))) O ?_
 rintro m25 h25
 rw [hE]
 refine yn 5 O<|yi C5<|ym λ_ C6=>yz<|yl λ_ C7=>yh O<|yj ((qAQ O O O).yes (he)) O<|yh O<|yi C7<|vV ?_
 exact yl λ_ C8=>yn 3 O<|yi C8<|yr<|vI<|y5<|vH hw0 (λ_ _ h=>h) (qB5 O O O) (qAf () O yd [0,1,2,3] O xC)
abbrev aX(l:List Aud)(i:Nat):Aud:=l.getD i qBc
structure qZR (gl:List Aud):Prop where
 len:gl.length<=15
 sm: ∀x∈gl,x.nm.length<=1000000/\x.op.length<=1048576/\x.rt.length<=1048576
 ok: ∀i,i<gl.length->qIB (gl.take i) (aX gl i).nm (aX gl i).op (aX gl i).rt (aX gl i).ht=0
theorem qZR.at{gl:List Aud}(h:qZR gl){i:Nat}(hi:i<gl.length):(aX gl i).nm.length<=1000000/\(aX gl i).op.length<=1048576/\(aX gl i).rt.length<=1048576:=by
 refine h.sm _ ?_
 show gl.getD i qBc∈gl
 rw [jB,jD hi];exact jU hi
theorem qZR.step{gl:List Aud}(h:qZR gl){i:Nat}(hi:i<gl.length):qPp (gl.take i) (aX gl i).nm (aX gl i).op (aX gl i).rt (aX gl i).ht=gl.take (i+1):=by
 unfold qPp
 rw [yX (h.ok i hi),qDq gl i qBc hi]
theorem qPm(x:Aud):(qL3 x).length<=16:=by
 unfold qL3
 split
 . rw [Sha.tagged_length];exact jL _
 . exact jH _
theorem qHo(l:List Aud): ∀{n:Nat},n<=15->qCD (qGQ [] l n)
 |0,_=>⟨List.Pairwise.nil,(λp h=>by cases h),(λp h=>by cases h),jH _⟩
 |n+1,h=>by
  have h2:=qJ5 l (n:=n) xB
  exact(qHo l xB).put (qGA n) (jf (qPm _) xC) xB
structure NwR where
 gs:Nat
 gA:Nat
 gR:Nat
 mR:Hp
 gt:Nat
 mt:Hp
 cp:CpR
 ad:AdR
 gb:Nat
structure NwP (gl:List Aud) (dp:Nat) (x:NwR):Prop where
 ro:qTJ x.mR x.gR gl
 tr:qGg x.mt x.gt (qGQ [] gl gl.length)
 cp:CpP [] gl x.cp
 ad:AdP qAX dp gl.length x.gt [] [] (qGQ [] gl gl.length) x.ad
attribute [local irreducible] Sha.tagged
def prs(nr:Nat)(s:xA):List xA:=(List.range (qAw s.length)).map λi=>(prt 1 (UInt64.ofNat nr) s (qAw s.length) i).text
theorem prs_len(nr:Nat)(s:xA):(prs nr s).length=qAw s.length:=by unfold prs;rw [jJ,zF]
theorem prs_get{nr:Nat}{s:xA}{i:Nat}(h:i<qAw s.length):(prs nr s).getD i []=(prt 1 (UInt64.ofNat nr) s (qAw s.length) i).text:=by
 unfold prs
 rw [jB,jO,zD h];rfl
def alS:Nat->List xA->List xA
 |_,[]=> []
 |nr,s::r=>prs nr s++alS (nr+1) r
theorem qOi(s:xA): ∀(R:List xA) (nr:Nat),alS nr (R++ [s])=alS nr R++prs (nr+R.length) s
 | [],nr=>by show prs nr s++ []= []++_;rw [jS];rfl
 |a::r,nr=>by
  show prs nr a++alS (nr+1) (r++ [s])=(prs nr a++alS (nr+1) r)++_
  rw [qOi s r (nr+1),jM,jC,show nr+1+r.length=nr+(r.length+1) by omega]
theorem qM3: ∀(R:List xA) (nr:Nat),(alS nr R).length=qBU R
 | [],_=>rfl
 |a::r,nr=>by
  show(prs nr a++alS (nr+1) r).length=_
  rw [jA,prs_len,qM3 r]
  unfold qBU;rw [jY,zE]
theorem qZ0{nr:Nat}(h:nr<65536):(UInt64.ofNat nr).toNat=nr/\(UInt64.ofNat nr).toNat<2^(8*2):=by
 rw [qA3 xB];exact⟨O,h⟩
theorem qWZ{nr:Nat}{s:xA}(hn:nr<65536)(hs:s.length<=900){i:Nat}(hi:i<qAw s.length):(prt 1 (UInt64.ofNat nr) s (qAw s.length) i).ok:=qNo xC (qZ0 hn).2 (qEO hs) hi
theorem qSp(s:xA){n:Nat}(hn:s.length<=39*n): ∀k,k<=n->((List.range k).map λi=>(s.drop (39*i)).take 39).flatten=s.take (39*k)
 |0,_=>by rw [Nat.mul_zero,zV];rfl
 |k+1,h=>by
  rw [jt,jN,zA,qSp s hn k xB]
  show s.take (39*k)++((s.drop (39*k)).take 39++ [])=_
  rw [jS,<-List.take_add,show 39*k+39=39*(k+1) by omega]
theorem qUR{turn:UInt64}{nr:Nat}{s:xA}{J:List xA}(hn:nr<65536)(hs:s.length<=900)(ht:0<nr->turn=1):qCq turn nr (prs nr s++J)=⟨1,s,qAw s.length,true⟩:=by
 have hp0:=qCs s.length
 have hget: ∀i,i<qAw s.length->qBm ((prs nr s++J).getD i [])=(prt 1 (UInt64.ofNat nr) s (qAw s.length) i,true):=λi hi=>by
  rw [jB,jk (by rw [prs_len];exact hi),<-jB,prs_get hi]
  exact qPC (qWZ hn hs hi) (qLv _ _ _)
 have hp:=hget 0 xB
 have hf:qXx turn nr (prs nr s++J).length (prt 1 (UInt64.ofNat nr) s (qAw s.length) 0,true):=⟨O,O,(show(1:UInt64).toNat≠0 by decide),(qZ0 hn).1,by rw [jA,prs_len];exact Nat.le_add_right _ _,λh=>by rw [ht h];rfl⟩
 have hq: ∀i<(prt 1 (UInt64.ofNat nr) s (qAw s.length) 0).all,qWW (prt 1 (UInt64.ofNat nr) s (qAw s.length) 0) i (qBm ((prs nr s++J).getD i [])):=λi hi=>by
  rw [hget i hi];exact⟨O,O,O,O,O,O⟩
 have hcat: ∀k,k<=qAw s.length->qGR (prs nr s++J) k=s.take (39*k):=λk hk=>by
  have e: ∀k,k<=qAw s.length->qGR (prs nr s++J) k=((List.range k).map λi=>(s.drop (39*i)).take 39).flatten:=λk=>by
   induction k with
   |zero=>intro _;rfl
   |succ k ih=>
    intro h
    rw [qGR,ih xB,hget k xB,jt,jN,zA]
    show _=_++((s.drop (39*k)).take 39++ [])
    rw [jS];rfl
  have hb:s.length<=39*qAw s.length:=by unfold qAw;split<;>omega
  rw [e k hk,qSp s hb k hk]
 have hall:qGR (prs nr s++J) (prt 1 (UInt64.ofNat nr) s (qAw s.length) 0).all=s:=by
  show qGR _ (qAw s.length)=s
  rw [hcat _ (jL _),jV (by unfold qAw;split<;>omega)]
 rw [qWV hp hf hq,hall,ya]
 . rfl
 . exact⟨O,O⟩
theorem qTU(t:UInt64)(k:Nat)(J:List xA)(hJ:J.getD 0 []=zS):qCq t k J=qU0:=by
 unfold qCq
 rw [yW]
 rintro⟨hf,_⟩
 rw [hJ] at hf
 rcases qW5 with h|h
 . exact absurd hf.1 (by rw [h];decide)
 . exact hf.2.2.1 (by rw [h];rfl)
theorem qMQ: ∀(S:List xA) (t:UInt64) (R:List xA) (e:Nat) (J:List xA),(∀s∈S,s.length<=900)->R.length+S.length<=65536->(0<R.length->t=1)->(J= []\/J.getD 0 []=zS)->
    rdl t R e (alS R.length S++J)=(if S= [] then t else 1,R++S,e+qBU S)
  | [],t,R,e,J,_,_,_,hJ=>by
    show rdl t R e J=_
    rw [qQ1 (λh=>by
      rcases hJ with hJ|hJ
      . exact h.1 hJ
      . rw [qTU t _ J hJ] at h;exact absurd h.2 xC),yX rfl,jS];rfl
  |s::r,t,R,e,J,hS,hn,ht,hJ=>by
    have hs:=hS s (.head _)
    rw [jC] at hn
    have hp0:=qCs s.length
    have e0:alS R.length (s::r)++J=prs R.length s++(alS (R.length+1) r++J):=by rw [alS,jM]
    have hr:qCq t R.length (alS R.length (s::r)++J)=⟨1,s,qAw s.length,true⟩:=by rw [e0];exact qUR xB hs ht
    have hne:alS R.length (s::r)++J≠ []:=λh=>by
      have:=yY List.length h
      rw [e0,jA,prs_len] at this
      simp at this;omega
    rw [qQ0 hne (by rw [hr]),hr]
    dsimp only
    rw [e0,zW (prs_len _ _)]
    have e1:(R++ [s]).length=R.length+1:=by rw [jA];rfl
    rw [<-e1,qMQ r 1 (R++ [s]) (e+qAw s.length) J (λx hx=>hS x (.tail _ hx)) (by rw [e1];omega) (λ_=>rfl) hJ]
    rw [yW (za s r),jM]
    refine Prod.ext_iff.2 ⟨by dsimp only;split<;>rfl,Prod.ext_iff.2 ⟨O,?_⟩⟩
    dsimp only
    unfold qBU
    rw [jY,zE];omega
theorem qYo{s:xA}(h:s.length=64):qPs s=s:=by unfold qPs;rw [h];simp
theorem qP0{d:Dk}(ho:d.off=false)(ha:d.armed=false)(hw:d.wait= []){p n:Nat}(hp:p+n<=d.last.length){t:Nat->xA}(ht: ∀i,i<n->(t i).length=64): ∀k,k<=n->qCQ d p t k=({d with wait:=(List.range k).map λi=>(p+i,t i)},0)
 |0,_=>by
  show(d,(0:Int))=({d with wait:= []},0)
  rw [<-hw]
 |k+1,h=>by
  have ih:=qP0 ho ha hw hp ht k xB
  have h2:(qCQ d p t k).2=0:=by rw [ih]
  rw [qFF h2,ih]
  dsimp only
  have h0:({d with wait:=(List.range k).map λi=>(p+i,t i)}:Dk).ready ((p+k:Nat):Int)=0:=qDe (d:={d with wait:=(List.range k).map λi=>(p+i,t i)}) ho (i:=p+k) (by show p+k<d.last.length;omega)
  have hb:=qC9 (d:={d with wait:=(List.range k).map λi=>(p+i,t i)}) ha
  have hwr:=qNH h0 (s:=t k) (by rw [ht k xB];exact jL _) hb.2
  rw [hb.1] at hwr
  rw [hwr.1,hwr.2,qYo (ht k xB),jt,jN];rfl
theorem qSB{L:List xA}(hL: ∀s∈L,s.length=64){i:Nat}(hi:i<L.length){T:xA}(hT:T.length=64):qJ6 L (i,T) 64=L.set i T:=by
 unfold qJ6 qXN
 dsimp only
 rw [jV xB,j4 (by rw [qMp hL hi];exact jL _),jS]
theorem qYc{d:Dk}(hok:d.ok)(ho:d.off=false)(ha:d.armed=false)(hw:d.wait= []){p n:Nat}(hp:p+n<=d.last.length){t:Nat->xA}(ht: ∀i,i<n->(t i).length=64)(i:Nat)(hi:i<d.last.length):
    (qJS d p t n).1.last.getD i []=if p<=i/\i<p+n then t (i-p) else d.last.getD i []:=by
  have h1:=qP0 ho ha hw hp ht n (jL _)
  have e:qJS d p t n=((qCQ d p t n).1.sync,(qCQ d p t n).1.sErr):=yX (by rw [h1])
  rw [e,h1]
  dsimp only
  have h0:({d with wait:=(List.range n).map λi=>(p+i,t i)}:Dk).ready 0=0:=qDe (d:={d with wait:=(List.range n).map λi=>(p+i,t i)}) ho (i:=0) hok.n0
  have hb:=qC9 (d:={d with wait:=(List.range n).map λi=>(p+i,t i)}) ha
  unfold Dk.sync
  rw [yW (by rw [h0];decide),yW hb.2,hb.1]
  show(qDH d.last ((List.range n).map λi=>(p+i,t i)) ((List.range n).map λi=>(p+i,t i)).length).getD i []=_
  rw [jJ,zF]
  have key: ∀k,k<=n->(qDH d.last ((List.range n).map λi=>(p+i,t i)) k).getD i []=if p<=i/\i<p+k then t (i-p) else d.last.getD i []:=λk=>by
    induction k with
    |zero=>intro _;rw [yW xB];rfl
    |succ k ih=>
      intro hk
      have hlen:=qBX d.last ((List.range n).map λi=>(p+i,t i)) k
      have h64:=qGm hok.l64 (W:=(List.range n).map λi=>(p+i,t i)) (λw hw=>by
        obtain ⟨j,hj,rfl⟩:=List.mem_map.1 hw
        have:=List.mem_range.1 hj
        exact⟨by show p+j<_;omega,ht j this⟩) k (by rw [jJ,zF];omega)
      rw [qDH]
      have eW:((List.range n).map λi=>(p+i,t i)).getD k (0,[])=(p+k,t k):=by rw [jB,jO,zD xB];rfl
      rw [eW,qSB h64 (by rw [hlen];omega) (ht k xB),jB,zO]
      by_cases hik:p+k=i
      . subst hik
        rw [yX rfl,yX (by rw [hlen];omega),yX xB,Nat.add_sub_cancel_left];rfl
      . rw [yW hik,<-jB,ih xB]
        by_cases hc:p<=i/\i<p+k
        . rw [yX hc,yX xB]
        . rw [yW hc,yW xB]
  exact key n (jL _)
theorem qJ1: ∀l:List xA,l.length<=qBU l
 | []=>jH _
 |a::l=>by
  have h1:=qJ1 l
  have h2:=qCs a.length
  unfold qBU at h1⊢
  rw [jY,zE,jC];omega
structure CbC (x:CbR):Prop where
 hat:x.hat=x.f0
 e:x.e=qBU x.R
 r9: ∀s∈x.R,s.length<=900
 sz:x.size<=1000
 es:x.e<=x.size
 ln:x.f0+2*x.size<=x.d.last.length
 t1:x.ht=if x.R= [] then 0 else 1
 one: ∀i,i<x.size->x.d.last.getD (x.f0+i) []=(alS 0 x.R).getD i zS
 two: ∀i,i<x.size->x.d.last.getD (x.f0+x.size+i) []=zS
theorem CbC.put{x y:CbR}{s:xA}(hn:CbN x y s)(h:CbC x):CbC y:=by
  obtain ⟨p1,p2,p3,p4,p5,p6,p7,p8⟩:=hn.px
  have hl: ∀i,i<x.d.last.length->y.d.last.getD i []=if x.hat+x.e<=i/\i<x.hat+x.e+qAw s.length then(prt 1 (UInt64.ofNat x.R.length) s (qAw s.length) (i-(x.hat+x.e))).text else x.d.last.getD i []:=λi hi=>by
    rw [hn.dd]
    exact qYc p1 p2 p3 p4 p5 (λj hj=>Prt.text_len (qWZ p7 p6 hj)) i hi
  have hal:=qM3 x.R 0
  have hhat:=h.hat
  have hln:=h.ln
  have hxe:=h.e
  refine⟨by rw [hn.hat,hn.f0,hhat],by rw [hn.e,hn.R,qDa,hxe],λr hr=>?_,?_,by rw [hn.e,hn.sz];exact p8,by rw [hn.f0,hn.sz,hn.ln];exact hln,?_,λi hi=>?_,λi hi=>?_⟩
  . rw [hn.R] at hr
    rcases List.mem_append.1 hr with hr|hr
    . exact h.r9 r hr
    . rw [List.mem_singleton.1 hr];exact p6
  . rw [hn.sz];exact h.sz
  . rw [hn.ht,hn.R,yW xD]
  . rw [hn.sz] at hi
    rw [hn.f0,hl _ xB,hn.R,qOi,jl]
    by_cases h1:i<x.e
    . rw [yW xB,h.one i hi,jB,jB,jk xB]
    . by_cases h2:i<x.e+qAw s.length
      . rw [yX xB,jB,ja xB,hal,<-jB,show x.f0+i-(x.hat+x.e)=i-qBU x.R by omega]
        have hg:i-qBU x.R<(prs x.R.length s).length:=by rw [prs_len];omega
        rw [<-prs_get (nr:=x.R.length) xB,jB,jB,jD hg];rfl
      . have hg:(alS 0 x.R++prs x.R.length s).length<=i:=by rw [jA,hal,prs_len];omega
        rw [yW xB,h.one i hi,jB,je xB,jB,je hg]
  . rw [hn.sz] at hi
    rw [hn.f0,hn.sz,hl _ xB,yW xB];exact h.two i hi
theorem qQu(n i:Nat)(h:i<n):(List.replicate n zS).getD i []=zS:=by rw [jB,List.getElem?_replicate,yX h];rfl
theorem qQk{d:Dk}(hw:d.wait= []){f0 size:Nat}{L:List xA}(hL:L.length<=size)(h: ∀i,i<size->d.last.getD (f0+i) []=L.getD i zS):qEg d f0 size=L++List.replicate (size-L.length) zS:=by
 refine List.ext_getElem (by rw [qDr,jA,jQ];omega) λi h1 h2=>?_
 have hi:i<size:=by rw [qDr] at h1;exact h1
 have e1:(qEg d f0 size)[i]=d.now (f0+i):=by simp [qEg]
 have e2:d.now (f0+i)=d.last.getD (f0+i) []:=by unfold Dk.now;rw [hw];rfl
 rw [e1,e2,h i hi,jB]
 by_cases hl:i<L.length
 . rw [jD hl,List.getElem_append_left hl];rfl
 . rw [je xB,List.getElem_append_right xB,List.getElem_replicate];rfl
theorem qaM{d:Dk}(hw:d.wait= []){f0 size:Nat}{R:List xA}(h9: ∀s∈R,s.length<=900)(hR:R.length<=65536)(he:qBU R<=size)(h1: ∀i,i<size->d.last.getD (f0+i) []=(alS 0 R).getD i zS)(h2: ∀i,i<size->d.last.getD (f0+size+i) []=zS):
    hst d f0 size 2=⟨f0,if R= [] then 0 else 1,R,qBU R⟩:=by
  have hz: ∀k:Nat,List.replicate k zS= []\/(List.replicate k zS).getD 0 []=zS:=λk=>by
    cases k with
    |zero=>exact .inl O
    |succ k=>exact .inr O
  have a1:=qQk hw (L:=alS 0 R) (by rw [qM3];exact he) h1
  have a2:=qQk hw (f0:=f0+size) (size:=size) (L:= []) (jH _) (λi hi=>h2 i hi)
  have b1:=qMQ R 0 [] 0 (List.replicate (size-(alS 0 R).length) zS) h9 (by rw [jG];omega) (λh=>absurd h (Nat.lt_irrefl 0)) (hz _)
  have b2:=qMQ [] 0 [] 0 (List.replicate (size-([]:List xA).length) zS) (λs hs=>by cases hs) xC (λh=>absurd h (Nat.lt_irrefl 0)) (hz _)
  have c1:rdl 0 [] 0 (qEg d f0 size)=(if R= [] then 0 else 1,R,qBU R):=by
    rw [a1]
    have:=b1
    rw [j7,jl] at this
    exact this
  have c2:rdl 0 [] 0 (qEg d (f0+size) size)=(0,[],0):=by
    rw [a2]
    exact b2
  have d1:=qOK c1
  have d2:=qOK c2
  show(if _ then _ else _)=_
  rw [d1,d2,yW (λh=>absurd h.1 (Nat.lt_irrefl 0))]
end Go.Proofs.YtmemgokiolfdoaaGreatDoor