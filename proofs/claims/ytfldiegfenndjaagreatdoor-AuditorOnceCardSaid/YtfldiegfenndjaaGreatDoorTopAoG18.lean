/- A part of the proof. -/
import Derived.Test.YtfldiegfenndjaaGreatDoorTopAoG8
import Derived.Test.YtfldiegfenndjaaGreatDoorTopAoG11
import Derived.Test.YtfldiegfenndjaaGreatDoorTopAoG4
import Derived.Test.YtfldiegfenndjaaGreatDoorTopAoG5
import Derived.Test.YtfldiegfenndjaaGreatDoorTopAoG6
set_option linter.unusedSimpArgs false
set_option linter.unusedVariables false
namespace Go.Proofs.YtfldiegfenndjaaGreatDoor
open Go Go.Fw Go.Proofs.Tryz
set_option maxRecDepth 100000
set_option maxHeartbeats 1000000
def qD5(ok:Bool)(e bad:Int):Int:=if ok=false∧bad=0 then e else bad
def qGT(ok:Bool)(e bad:Int)(l:List Value):List Value:=if ok=false∧bad=0 then qA6 l 2 [I e] else l
theorem qHr{ok:Bool}{e bad:Int}{l:List Value}(hl:l.length=3):(qGT ok e bad l).length=3:=by
 unfold qGT
 split
 · rw [qDM (by omega)];exact hl
 · exact hl
theorem qHt{ok:Bool}{e bad:Int}{l:List Value}(hl:l.length=3)(hb:l[2]?=some (I bad)):(qGT ok e bad l)[2]?=some (I (qD5 ok e bad)):=by
 unfold qGT qD5
 split
 · exact qCl (by omega)
 · exact hb
theorem qHs{ok:Bool}{e bad:Int}{g:Nat}{l:List Value}{mr:Hp}{bs:List UInt8}{A:Option Addr}{c:Nat}{p:Option Addr}(hl:l.length=3)(hb:Bld g 0 l mr bs A c p):Bld g 0 (qGT ok e bad l) mr bs A c p:=by
 unfold qGT
 split
 · exact⟨(qBn (by omega) (by decide)).trans hb.a0,hb.self,(qBn (by omega) (by decide)).trans hb.a1,hb.row,hb.cap⟩
 · exact hb
theorem qOM(F:Hp)(g:Nat)(l:List Value)(hl:l.length=3)(bad:Int)(hb:l[2]?=some (I bad))(e:Int):
    Ct prog 138 [Ptr g,.bool true,I e] [blk g l 188,F] (λ_:Unit=> .bool (decide (qD5 true e bad=0))) (λ_=>True) (λ_=> [blk g (qGT true e bad l) 188,F]):=by
  refine Ct.walk func138 rfl ntmps138 rfl (λw0 hw0=>?_)
  refine J.g λK1 hK1=>J.b V<|J.c hK1<|J.G 0 1 2 ?_
  refine J.k λK2 hK2=>J.g λK3 hK3=>J.b V<|J.f (qAw V V) V<|J.j 7 V<|J.c hK3<|J.G 0 2 15 ?_
  refine J.a5 ?_
  refine J.W hK2<|J.A 0 ?_
  refine J.g λK4 hK4=>J.b V<|J.f (qAC V V) V<|J.a2 2 qFi qJV V V V V V<|J.f (qAD 0 V V V qMa (by first|exact hb|exact qCl (by omega))) V<|J.f (qAS V V V) V<|J.b V<|J.c hK4<|J.A 6 ?_
  exact J.D<|J.Z hw0 V () (congrArg Value.bool (decide_eq_decide.2 (by unfold qD5;rw [if_neg (show¬(true=false∧bad=0) from λh=>by cases h.1)]))) trivial [0,1] (by show [blk g _ _,F]= [blk g (qGT true e bad l) _,F];unfold qGT;rw [if_neg (show¬(true=false∧bad=0) from λh=>by cases h.1)]) (by decide)
theorem qMN(F:Hp)(g:Nat)(l:List Value)(hl:l.length=3)(bad:Int)(hb:l[2]?=some (I bad))(e:Int):
    Ct prog 138 [Ptr g,.bool false,I e] [blk g l 188,F] (λ_:Unit=> .bool (decide (qD5 false e bad=0))) (λ_=>True) (λ_=> [blk g (qGT false e bad l) 188,F]):=by
  refine Ct.walk func138 rfl ntmps138 rfl (λw0 hw0=>?_)
  refine J.g λK1 hK1=>J.b V<|J.c hK1<|J.G 0 1 2 ?_
  refine J.k λK2 hK2=>J.g λK3 hK3=>J.b V<|J.f (qAw V V) V<|J.j 2 V<|J.T (qAC V V) V<|J.T (qAA V V qFi V qJV V) V<|J.T (qAD 0 V V V qMa hb) V<|J.T (qAS V V V) V<|J.b V<|J.c hK3<|J.G 0 2 15 ?_
  refine J.a4 V (λh15=>?_) (λh15=>?_)
  ·
    refine J.H<|J.j 2 V<|J.f (qAC V V) V<|J.a2 2 qFi qJV V V V V V<|J.b1 (qAV (i:=0) V V V V V qJV V (by rw [hl];exact jJ 3)) rfl rfl λ_ _=>J.c hK2<|J.A 0 ?_
    refine J.g λK4 hK4=>J.b V<|J.f (qAC V V) V<|J.a2 2 qFi qJV V V V V V<|J.f (qAD 0 V V V qMa (by first|exact hb|exact qCl (by omega))) V<|J.f (qAS V V V) V<|J.b V<|J.c hK4<|J.A 6 ?_
    exact J.D<|J.Z hw0 V () (congrArg Value.bool (decide_eq_decide.2 (by unfold qD5;rw [if_pos (show false=false∧bad=0 from⟨rfl,by omega⟩)]))) trivial [0,1] (by show [blk g _ _,F]= [blk g (qGT false e bad l) _,F];unfold qGT;rw [if_pos (show false=false∧bad=0 from⟨rfl,by omega⟩)]) (by decide)
  refine J.W hK2<|J.A 0 ?_
  refine J.g λK5 hK5=>J.b V<|J.f (qAC V V) V<|J.a2 2 qFi qJV V V V V V<|J.f (qAD 0 V V V qMa (by first|exact hb|exact qCl (by omega))) V<|J.f (qAS V V V) V<|J.b V<|J.c hK5<|J.A 6 ?_
  exact J.D<|J.Z hw0 V () (congrArg Value.bool (decide_eq_decide.2 (by unfold qD5;rw [if_neg (show¬(false=false∧bad=0) from λh=>h15 h.2)]))) trivial [0,1] (by show [blk g _ _,F]= [blk g (qGT false e bad l) _,F];unfold qGT;rw [if_neg (show¬(false=false∧bad=0) from λh=>h15 h.2)]) (by decide)
theorem qJ9(F:Hp)(g:Nat)(l:List Value)(hl:l.length=3)(bad:Int)(hb:l[2]?=some (I bad))(ok:Bool)(e:Int):
    Ct prog 138 [Ptr g,.bool ok,I e] [blk g l 188,F] (λ_:Unit=> .bool (decide (qD5 ok e bad=0))) (λ_=>True) (λ_=> [blk g (qGT ok e bad l) 188,F]):=by
  cases ok
  · exact qMN F g l hl bad hb e
  · exact qOM F g l hl bad hb e
def Wtr(m:Hp)(g:Nat)(bs:List UInt8)(bad:Int):Prop:= ∃l mr A c p,m=U [blk g l 188,mr]∧Dj (blk g l 188) mr∧l.length=3∧Bld g 0 l mr bs A c p∧l[2]?=some (I bad)
theorem lies(l:List Value)(hl:l.length=3):liesAt prog prog.depth 188 (l.length/prog.cellsOf 188) 0 186 1=true:=by rw [hl];kernel_rfl
def okN(n:UInt64)(size:Nat):Bool:=decide (n.toNat<2^(8*size))
def qQe(n:UInt64)(size:Nat)(bs:List UInt8)(bad:Int):List UInt8:=if qD5 (okN n size) 10 bad=0 then bs++Sha.numB n size else bs
def okF(s:List UInt8)(size:Nat):Bool:=decide (s.length=size)
def qRS(s:List UInt8)(size:Nat)(bs:List UInt8)(bad:Int):List UInt8:=if qD5 (okF s size) 10 bad=0 then bs++s else bs
theorem qNo(n:UInt64)(size t:Nat)(h:t<size):(Sha.numB n size).take (t+1)=(Sha.numB n size).take t++ [(UInt64.ofNat (n.toNat/2^min (8*(size-1-t)) 64)).toUInt8]:=by
 rw [jO (by rw [Sha.numB_length];exact h)]
 congr 2
 simp [Sha.numB]
theorem qPE(n:UInt64)(size:Nat)(h:size<8):(((UInt64.ofNat (n.toNat/2^min (8*size) 64)).toNat:Int)=0)↔n.toNat<2^(8*size):=by
  have hn:=n.toNat_lt
  rw [zl,ja (zG (za _ _) hn),jl (by omega)]
  have hp:=zA (8*size)
  constructor
  · intro h0
    have h1:n.toNat/2^(8*size)=0:=by omega
    rcases Nat.div_eq_zero_iff.1 h1 with h2|h2
    · omega
    · exact h2
  · intro h0
    rw [j8 h0];rfl
theorem qE9(F m:Hp)(g:Nat)(bs:List UInt8)(bad:Int)(hw:Wtr m g bs bad)(hlen:bs.length≤1099511627776)(n:UInt64)(size:Nat)(h1:1≤size)(h8:size<8):
    Ct prog 83 [Ptr g,W64 n,I size] [m,F] (λ_:Hp=>Ptr g) (λm'=>Wtr m' g (qQe n size bs bad) (qD5 (okN n size) 10 bad)) (λm'=> [m',F]):=by
  obtain ⟨l,mr,A,c,p,rfl,hd,hl,hb,hbad⟩:=hw
  have hfl:=qHr (ok:=(okN n size)) (e:=10) (bad:=bad) hl
  have hfb:=qHs (ok:=(okN n size)) (e:=10) (bad:=bad) hl hb
  have hf2:=qHt (ok:=(okN n size)) (e:=10) hl hbad
  refine Ct.walk func83 rfl ntmps83 rfl (λw0 hw0=>?_)
  refine J.g5 hd ?_
  refine J.g λK1 hK1=>J.b V<|J.c hK1<|J.G 0 1 2 ?_
  refine J.k λK2 hK2=>J.g λK3 hK3=>J.b V<|J.f ((qA1 underlying189 V V V).as (v':= .bool false) V) V<|J.j 3 V<|J.T ((qA9 V V V).yes (by omega)) V<|J.j 2 V<|J.T ((qGy V V V).yes (by omega)) V<|J.j 3 V<|J.T ((qAS V V V).no (by omega)) V<|J.j 3 V<|J.T ((qB6 V V V (by omega)).nat (8*size) (by omega)) V<|J.T (qFR V V V) V<|J.T ((qAS V V V).as (v':= .bool (okN n size)) (congrArg Value.bool (by unfold okN;exact decide_eq_decide.2 (qPE n size h8)))) V<|J.j 2 V<|J.e0 (qAB V V ent138 (Ct.use1 0 V (λF' _=>qJ9 F' g l hl bad hbad (okN n size) 10))) V λg29 _=>J.T (qF0 V V) V<|J.b V<|J.c hK3<|J.O 0 1 2 31 ?_
  refine J.a4 V (λh31=>?_) (λh31=>?_)
  ·
    refine J.g λK4 hK4=>J.j 2 V<|J.c hK4<|J.A 6 ?_
    exact J.D<|J.a7<|J.b4 hw0 (λ_ _ h=>h) (qJW V V) (qDp (U [blk g (qGT (okN n size) 10 bad l) 188,mr]) V (λhd=>⟨_,mr,A,c,p,V,hd,hfl,by unfold qQe;rw [if_neg (by omega)];exact hfb,hf2⟩) [0,1,2] rfl rfl (by decide))
  refine J.W hK2<|J.G 0 1 2 ?_
  refine J.k λK5 hK5=>J.k λK6 hK6=>?_
  have hok:qD5 (okN n size) 10 bad=0:=by omega
  refine J.H<|J.b V<|J.f ((qAn V V V (by omega)).as (v':=I ((size:Int)-1-((0:Nat):Int))) (congrArg I (by omega))) V<|J.b V<|J.c hK6<|J.G 0 1 7 ?_
  refine J.a1<|J.c1 (X:=Nat×List Value×Hp) (λx=> [(0,Ptr g),(1,W64 n),(7,I ((size:Int)-1-(x.1:Int)))]) (λx=> [blk g x.2.1 188,x.2.2,F]) (λx=>x.1≤size∧x.2.1.length=3∧x.2.1[2]?=some (I (qD5 (okN n size) 10 bad))∧ ∃A c p,Bld g 0 x.2.1 x.2.2 (bs++(Sha.numB n size).take x.1) A c p) (λx=>size-x.1) (0,(qGT (okN n size) 10 bad l),mr) (⟨jF _,hfl,hf2,A,c,p,by rw [zx,jS];exact hfb⟩) ⟨rfl,rfl,rfl,trivial⟩ (λ_ h=>h) ?_
  rintro⟨t,l2,mr2⟩ ⟨ht,hl2,hbad2,A2,c2,p2,hb2⟩ I0 hI0
  dsimp only at ht hl2 hbad2 hb2⊢
  refine J.k λK7 hK7=>J.g λK8 hK8=>J.b V<|J.f (qA9 V V V) V<|J.c hK8<|J.O 0 1 7 36 ?_
  refine J.a4 V (λh36=>?_) (λh36=>?_)
  ·
    refine J.W hK7<|J.G 0 1 7 ?_
    refine J.k λK9 hK9=>J.a1<|J.b7 [] [] (.y 0 (.y 1 (.y 2 (.y 3 (.y 4 (.y 5 (.y 6 (.y 7 (.e 8 .nil))))))))) Tryz.wide (by decide+kernel) (by simp) ?_
    refine J.L ?_
    refine J.p V (qAC V V) V V<|J.p V (qAA V V qFi V sizeOf186 V) V V<|J.L ?_
    refine J.p V ((qAb V V).nat (size-1-t) (by omega)) V V<|J.p V ((qB6 V V V (by omega)).nat (8*(size-1-t)) (by omega)) V V<|J.p V (qFR V V V) V V<|J.p V (qE8 V V qED u5_) V V<|J.b2 V (qAB V V ent139 (Ct.useA [blk g l2 188,mr2] [F] (A':=λx:List Value×Hp=> [blk g x.1 188,x.2]) (new:=λ_=> []) (λF' _=>qIE F' mr2 g 188 0 l2 (bs++(Sha.numB n size).take t) A2 c2 p2 hb2 (lies l2 hl2) ((UInt64.ofNat (n.toNat/2^min (8*(size-1-t)) 64)).toUInt8) (by rw [jA,jE,Sha.numB_length];omega)))) rfl (by simp) ?_
    rintro⟨l3,mr3⟩ ⟨A3,c3,hb3,hu3⟩
    dsimp only at hb3 hu3
    rw [jT,←qNo n size t (by omega)] at hb3
    refine J.b3<|J.b0<|J.u (J.M hK9 ?_)
    refine J.G 0 1 7 ?_
    exact J.H<|J.b V<|J.f ((qAn V V V (by omega)).as (v':=I ((size:Int)-1-((t+1:Nat):Int))) (congrArg I (by omega))) V<|J.b V<|J.a8<|J.u<|J.a9 (t+1,l3,mr3) (λx (hx:_∧size-x.1<size-t)=>hI0 x hx.1 hx.2) ⟨⟨by dsimp only;omega,hu3.1.trans hl2,(hu3.2 2 (by decide) (by decide)).trans hbad2,A3,c3,_,hb3⟩,by dsimp only;omega⟩ ⟨V,V,V,trivial⟩ (λ_ h=>h)
  refine J.b8<|J.a6<|J.a6<|J.b9 ?_
  refine J.u (J.M hK5 ?_)
  refine J.A 0 ?_
  refine J.k λK10 hK10=>?_
  have hts:t=size:=by omega
  subst hts
  rw [jV (by rw [Sha.numB_length];exact jJ _)] at hb2
  refine J.H<|J.j 2 V<|J.c hK10<|J.A 6 ?_
  exact J.D<|J.b4 hw0 (λ_ _ h=>h) (qJW V V) (qDp (U [blk g l2 188,mr2]) V (λhd=>⟨l2,mr2,A2,c2,p2,V,hd,hl2,by unfold qQe;rw [if_pos hok];exact hb2,hbad2⟩) [0,1,2] rfl rfl (by decide))
theorem qLJ(F m:Hp)(g:Nat)(bs:List UInt8)(bad:Int)(hw:Wtr m g bs bad)(hlen:bs.length≤1099511627776)(s:List UInt8)(hs:s.length≤1099511627776)(size:Nat):
    Ct prog 84 [Ptr g,Str s,I size] [m,F] (λ_:Hp=>Ptr g) (λm'=>Wtr m' g (qRS s size bs bad) (qD5 (okF s size) 10 bad)) (λm'=> [m',F]):=by
  obtain ⟨l,mr,A,c,p,rfl,hd,hl,hb,hbad⟩:=hw
  have hfl:=qHr (ok:=(okF s size)) (e:=10) (bad:=bad) hl
  have hfb:=qHs (ok:=(okF s size)) (e:=10) (bad:=bad) hl hb
  have hf2:=qHt (ok:=(okF s size)) (e:=10) hl hbad
  refine Ct.walk func84 rfl ntmps84 rfl (λw0 hw0=>?_)
  refine J.g5 hd ?_
  refine J.g λK1 hK1=>J.b V<|J.c hK1<|J.G 0 1 2 ?_
  refine J.k λK2 hK2=>J.g λK3 hK3=>J.b V<|J.f ((qKp underlying189 V V V).as (v':= .bool true) V) V<|J.j 3 V<|J.T (qAg u9_ V V) V<|J.b V<|J.T ((qAS V V V).as (v':= .bool (okF s size)) (congrArg Value.bool (by unfold okF;exact decide_eq_decide.2 (by omega)))) V<|J.e0 (qAB V V ent138 (Ct.use1 0 V (λF' _=>qJ9 F' g l hl bad hbad (okF s size) 10))) V λg15 _=>J.b V<|J.c hK3<|J.G 0 1 16 ?_
  refine J.a4 V (λh16=>?_) (λh16=>?_)
  ·
    refine J.H<|J.b V<|J.f (qAC V V) V<|J.a2 0 qFi sizeOf186 V V V V V<|J.b V<|J.q (qAB V V ent109 (Ct.useA [blk g (qGT (okF s size) 10 bad l) 188,mr] [F] (A':=λx:List Value×Hp=> [blk g x.1 188,x.2]) (new:=λ_=> []) (λF' _=>qBD F' mr g 188 0 (qGT (okF s size) 10 bad l) bs A c p hfb (lies _ hfl) s (by omega)))) V ?_
    rintro⟨l3,mr3⟩ ⟨A3,c3,hb3,hu3⟩
    dsimp only at hb3 hu3
    refine J.c hK2<|J.A 0 ?_
    refine J.g λK4 hK4=>J.j 2 V<|J.c hK4<|J.A 6 ?_
    exact J.D<|J.b4 hw0 (λ_ _ h=>h) (qJW V V) (qDp (U [blk g l3 188,mr3]) V (λhd=>⟨l3,mr3,A3,c3,_,V,hd,hu3.1.trans hfl,by unfold qRS;rw [if_pos (by assumption)];exact hb3,(hu3.2 2 (by decide) (by decide)).trans hf2⟩) [0,1,2] rfl rfl (by decide))
  refine J.W hK2<|J.A 0 ?_
  refine J.g λK5 hK5=>J.j 2 V<|J.c hK5<|J.A 6 ?_
  exact J.D<|J.b4 hw0 (λ_ _ h=>h) (qJW V V) (qDp (U [blk g (qGT (okF s size) 10 bad l) 188,mr]) V (λhd=>⟨_,mr,A,c,p,V,hd,hfl,by unfold qRS;rw [if_neg (by assumption)];exact hfb,hf2⟩) [0,1,2] rfl rfl (by decide))
theorem qLL{P:Program}{X:Type}{f:FuncId}{vs:List Value}{a b:Hp}{r:List Hp}{val:X→Value}{φ:X→Prop}{A B:X→Hp}{ψ:Hp→Prop}{v:Value}(hd:Dj a b)(hv: ∀x,φ x→val x=v)(hp: ∀x,φ x→Dj (A x) (B x)→ψ (U [A x,B x]))(h:Ct P f vs (a::b::r) val φ (λx=>A x::B x::r)):Ct P f vs (U [a,b]::r) (λ_:Hp=>v) ψ (λm=>m::r):=
 λw0 w hs=>(h w0 w (hs.splitU hd)).mono λe w' ⟨x,he,hx,hs'⟩=>⟨U [A x,B x],by rw [he,hv x hx],hp x hx hs'.dj2,hs'.joinU⟩
theorem failW(F m:Hp)(g:Nat)(bs:List UInt8)(bad:Int)(hw:Wtr m g bs bad)(hlen:bs.length≤1099511627776)(ok:Bool)(e:Int):
    Ct prog 138 [Ptr g,.bool ok,I e] [m,F] (λ_:Hp=> .bool (decide (qD5 ok e bad=0))) (λm'=>Wtr m' g bs (qD5 ok e bad)) (λm'=> [m',F]):=by
  obtain ⟨l,mr,A,c,p,rfl,hd,hl,hb,hbad⟩:=hw
  exact qLL (A:=λ_:Unit=>blk g (qGT ok e bad l) 188) (B:=λ_=>mr) hd (λ_ _=>rfl) (λ_ _ hd'=>⟨_,mr,A,c,p,rfl,hd',qHr hl,qHs hl hb,qHt hl hbad⟩) (Ct.use1 0 (m':=λ_:Unit=>blk g (qGT ok e bad l) 188) (new:=λ_=> []) rfl (λF' _=>qJ9 F' g l hl bad hbad ok e))
theorem qID(F m:Hp)(g:Nat)(bs:List UInt8)(bad:Int)(hw:Wtr m g bs bad)(hlen:bs.length≤2199023255552)(s:List UInt8)(hs:s.length≤1099511627776):
    Ct prog 109 [.pointer (some ⟨g,0,none⟩),Str s] [m,F] (λ_:Hp=> .tuple #[I s.length,.nilIface]) (λm'=>Wtr m' g (bs++s) bad) (λm'=> [m',F]):=by
  obtain ⟨l,mr,A,c,p,rfl,hd,hl,hb,hbad⟩:=hw
  exact qLL (A:=λx:List Value×Hp=>blk g x.1 188) (B:=λx=>x.2) hd (λ_ _=>rfl) (λx hx hd'=>by obtain ⟨A3,c3,hb3,hu3⟩:=hx;exact⟨x.1,x.2,A3,c3,_,rfl,hd',hu3.1.trans hl,hb3,(hu3.2 2 (by decide) (by decide)).trans hbad⟩) (qBD F mr g 188 0 l bs A c p hb (lies l hl) s (by omega))
def okT(s:List UInt8):Bool:=decide (s.length≤4096)
def qMe(s:List UInt8)(bs:List UInt8)(bad:Int):List UInt8:=if qD5 (okT s) 2 bad=0 then bs++Sha.numB (UInt64.ofNat s.length) 2++s else bs
theorem qRb{s:List UInt8}{bad:Int}(h:qD5 (okT s) 2 bad=0):s.length≤4096∧bad=0:=by
  unfold qD5 okT at h
  split at h
  · omega
  · rename_i h1
    refine⟨?_,h⟩
    simp only [decide_eq_false_iff_not] at h1
    omega
theorem qNl{n:Nat}(h:n≤4096):okN (UInt64.ofNat n) 2=true:=by
 unfold okN
 rw [decide_eq_true_iff,zl,ja (by omega)]
 omega
theorem qDH{n:UInt64}{size:Nat}{bs:List UInt8}(h:okN n size=true):qQe n size bs 0=bs++Sha.numB n size:=by
 unfold qQe qD5
 rw [h];rfl
theorem qRc(F m:Hp)(g:Nat)(bs:List UInt8)(bad:Int)(hw:Wtr m g bs bad)(hlen:bs.length≤1099511627776)(s:List UInt8)(hs:s.length≤1099511627776):
    Ct prog 85 [Ptr g,Str s] [m,F] (λ_:Hp=>Ptr g) (λm'=>Wtr m' g (qMe s bs bad) (qD5 (okT s) 2 bad)) (λm'=> [m',F]):=by
  refine Ct.walk func85 rfl ntmps85 rfl (λw0 hw0=>?_)
  refine J.g λK1 hK1=>J.b V<|J.c hK1<|J.E 0 1 ?_
  refine J.k λK2 hK2=>J.g λK3 hK3=>J.b V<|J.f ((qA1 underlying189 V V V).as (v':= .bool false) V) V<|J.j 3 V<|J.T (qAg u9_ V V) V<|J.T ((qGy V V V).as (v':= .bool (okT s)) (congrArg Value.bool (by unfold okT;exact decide_eq_decide.2 (by omega)))) V<|J.e0 (qAB V V ent138 (failW F m g bs bad hw hlen (okT s) 2)) V ?_
  rintro m1 hw1
  refine J.T (qF0 V V) V<|J.b V<|J.c hK3<|J.G 0 1 14 ?_
  refine J.a4 V (λh14=>?_) (λh14=>?_)
  ·
    refine J.g λK4 hK4=>J.j 2 V<|J.c hK4<|J.A 4 ?_
    exact J.D<|J.a7<|J.Z hw0 V m1 V (by unfold qMe;rw [if_neg (by omega)];exact hw1) [0,1] rfl (by decide)
  refine J.W hK2<|J.E 0 1 ?_
  refine J.k λK5 hK5=>?_
  have hok:qD5 (okT s) 2 bad=0:=by omega
  have hs4:=(qRb hok).1
  rw [hok] at hw1
  refine J.H<|J.j 2 V<|J.f (qAg u9_ V V) V<|J.f (qAp V V u3_ qED (by omega)) V<|J.q (qAB V V ent83 ((qE9 F m1 g bs 0 hw1 hlen (UInt64.ofNat s.length) 2 (by omega) (by omega)))) V ?_
  rintro m2 hw2
  rw [qDH (qNl hs4),qNl hs4] at hw2
  refine J.c hK5<|J.E 0 1 ?_
  refine J.g λK6 hK6=>J.b V<|J.f (qAC V V) V<|J.a2 0 qFi sizeOf186 V V V V V<|J.b V<|J.q (qAB V V ent109 (qID F m2 g (bs++Sha.numB (UInt64.ofNat s.length) 2) 0 hw2 (by rw [jA,Sha.numB_length];omega) s hs)) rfl ?_
  rintro m3 hw3
  refine J.c hK6<|J.A 0 ?_
  refine J.g λK7 hK7=>J.j 2 V<|J.c hK7<|J.A 4 ?_
  exact J.D<|J.Z hw0 V m3 V (by unfold qMe;rw [if_pos hok,hok];exact hw3) [0,1] rfl (by decide)
theorem qFc(F m:Hp)(g:Nat)(bs:List UInt8)(bad:Int)(hw:Wtr m g bs bad)(hlen:bs.length≤2199023255552):
    Ct prog 86 [Ptr g] [m,F] (λ_:Hp=> .tuple #[Str (if bad=0 then bs else []),I bad]) (λm'=>Wtr m' g bs bad) (λm'=> [m',F]):=by
  obtain ⟨l,mr,A,c,p,rfl,hd,hl,hb,hbad⟩:=hw
  refine Ct.walk func86 rfl ntmps86 rfl (λw0 hw0=>?_)
  refine J.g5 hd ?_
  refine J.g λK1 hK1=>J.j 2 V<|J.c hK1<|J.A 0 ?_
  refine J.k λK2 hK2=>J.a1<|J.g λK3 hK3=>J.b V<|J.f ((qA1 underlying189 V V V).as (v':= .bool false) V) V<|J.b V<|J.c hK3<|J.E 0 4 ?_
  refine J.a5 ?_
  refine J.g λK4 hK4=>J.b V<|J.f (qAC V V) V<|J.a2 2 qFi qJV V V V V V<|J.f (qAD 0 V V V qMa hbad) V<|J.f (qAU V V V) V<|J.b V<|J.c hK4<|J.E 0 7 ?_
  refine J.a4 V (λh7=>?_) (λh7=>?_)
  ·
    refine J.k λK5 hK5=>J.b7 [blk g l 188,mr,F] [] (.y 0 (.y 1 (.y 2 (.y 3 (.y 4 (.y 5 .nil)))))) Tryz.wide (by decide+kernel) (by simp) ?_
    refine J.L ?_
    refine J.p V (qAC V V) V V<|J.p V (qAA V V qFi V qJV V) V V<|J.p V (qAD 0 V V V qMa hbad) V V<|J.c3 ?_
    refine J.c3 ?_
    refine J.b3<|J.u (J.M hK5 ?_)
    refine J.E 2 3 ?_
    exact J.D<|J.b6<|J.a7<|J.b4 hw0 (λ_ _ h=>h) (qDe V V V) (qDp (U [blk g l 188,mr]) (by rw [if_neg (by omega)]) (λhd=>⟨l,mr,A,c,p,rfl,hd,hl,hb,hbad⟩) [0,1,2] rfl rfl (by decide))
  refine J.c0<|J.b0<|J.u (J.M hK2 ?_)
  refine J.A 0 ?_
  refine J.k λK6 hK6=>?_
  have hz:bad=0:=by omega
  subst hz
  refine J.H<|J.b V<|J.f (qAC V V) V<|J.a2 0 qFi sizeOf186 V V V V V<|J.q (qAB V V ent111 (Ct.useA [blk g l 188,mr] [F] (A':=λx:Hp=> [blk g l 188,x]) (new:=λ_=> []) (λF' _=>qDj F' mr g 188 0 l bs A c p hb (by omega)))) V ?_
  rintro mr2 hb2
  refine J.j 2 V<|J.c hK6<|J.E 2 3 ?_
  exact J.D<|J.b4 hw0 (λ_ _ h=>h) (qDe V V V) (qDp (U [blk g l 188,mr2]) (V) (λhd=>⟨l,mr2,A,c,p,V,hd,hl,hb2,hbad⟩) [0,1,2] V V (by decide))
structure RS where
 s:List UInt8
 bad:Int
def RS.can(st:RS)(size:Nat):Bool:=decide (st.bad=0∧size≤st.s.length)
def RS.out(st:RS)(size:Nat):List UInt8:=if st.bad=0∧size≤st.s.length then st.s.take size else []
def RS.take(st:RS)(size:Nat):RS:=if st.bad=0 then(if size≤st.s.length then⟨st.s.drop size,0⟩ else⟨st.s,3⟩) else st
def RS.form(st:RS):RS:=if st.bad=0 then⟨st.s,4⟩ else st
def qBk(l:List UInt8):Nat:=l.foldl (λn c=>n*256+c.toNat) 0
theorem qNr(l:List UInt8)(t:Nat)(ht:t<l.length):qBk (l.take (t+1))=qBk (l.take t)*256+(l[t]'ht).toNat:=by
 rw [jO ht,qBk,List.foldl_append];rfl
theorem qNs(l:List UInt8)(c:UInt8):qBk (l++ [c])=qBk l*256+c.toNat:=by
 rw [qBk,List.foldl_append];rfl
theorem qPl(l:List UInt8):qBk l.reverse<256^l.length:=by
 induction l with
 |nil=>decide
 |cons c l ih=>
  rw [List.reverse_cons,qNs,jD,zC]
  have:=c.toNat_lt
  omega
theorem qF6(l:List UInt8):qBk l<256^l.length:=by
 have:=qPl l.reverse
 rwa [List.reverse_reverse,List.length_reverse] at this
theorem RS.out_len(st:RS)(size:Nat):(st.out size).length≤size:=by
 unfold RS.out
 split
 · rw [jE];omega
 · exact jF _
theorem qSd(l:List UInt8)(n t:Nat)(h:l.length≤n)(hn:n≤8)(ht:t<l.length):qBk (l.take t)<72057594037927936:=
 jx (qF6 _) (jd (jg (by omega) (show(l.take t).length≤7 by rw [jE];omega)) (by decide))
def RSb(g:Nat)(st:RS):Hp:=blk g [Str st.s,I st.bad] 267
theorem qSF{P:Program}{env:Env}{rs:List Hp}{o:Oper}{t t':TypeId}{x y:Operand}{a m:Nat}{yk:IntKind}(ho:o.op= .binOp .shl t x y t')(hx:ev env x=some (N64 a))(hy:ev env y=some (.int yk (m:Nat)))(hm:m≤64)(hr:a<18446744073709551616∧a*2^m<18446744073709551616):YOp P env rs o (N64 (a*2^m)):=by
 rw [N_W hr.1] at hx
 exact(qPb ho hx hy).as (by show Value.int .u64 _=Value.int .u64 _;rw [qAu hr.1,jl hm,qAu hr.2])
theorem qTn{P:Program}{env:Env}{rs:List Hp}{o:Oper}{t t':TypeId}{x y:Operand}{a b:Nat}(ho:o.op= .binOp .or t x y t')(hx:ev env x=some (N64 a))(hy:ev env y=some (N64 b))(hr:a<18446744073709551616∧b<18446744073709551616):YOp P env rs o (N64 (a|||b)):=by
 rw [N_W hr.1] at hx
 rw [N_W hr.2] at hy
 exact(qSK ho hx hy).as (by show Value.int .u64 _=Value.int .u64 _;rw [UInt64.toNat_or,qAu hr.1,qAu hr.2])
theorem qTm(a b:Nat)(h:b<256):a*2^8|||b=a*256+b:=by
 rw [zU,←Nat.two_pow_add_eq_or_of_lt (i:=8) h]
theorem qJl(F:Hp)(s:List UInt8):
    Ct prog 112 [Str s] [F] Ptr (λ_=>True) (λg=> [RSb g ⟨s,0⟩,F]):=by
  refine Ct.walk func112 rfl ntmps112 rfl (λw0 hw0=>?_)
  refine J.g λK1 hK1=>J.b V<|J.c hK1<|J.A 0 ?_
  refine J.g λK2 hK2=>J.b V<|J.f (qAK (places:= [(0,1),(1,1)]) (r:= [Str s,I 0]) V V V qGX zeroValue267 (λ_=>by kernel_rfl) V) V<|J.q (qAi V V V) V ?_
  rintro g5 _
  refine J.b V<|J.c hK2<|J.A 2 ?_
  exact J.D<|J.Z hw0 V g5 V trivial [1,0] V (by decide)
theorem qM0(F:Hp)(g:Nat)(st:RS)(size:Nat):
    Ct prog 158 [Ptr g,I size] [RSb g st,F] (λ_:Unit=> .tuple #[Str (st.out size),.bool (st.can size)]) (λ_=>True) (λ_=> [RSb g (st.take size),F]):=by
  obtain ⟨s,bad⟩:=st
  change Ct _ _ _ [blk g [Str s,I bad] 267,F] _ _ _
  refine Ct.walk func158 rfl ntmps158 rfl (λw0 hw0=>?_)
  refine J.g λK1 hK1=>J.j 2 V<|J.c hK1<|J.E 0 1 ?_
  refine J.k λK2 hK2=>J.g λK3 hK3=>J.b V<|J.f ((qA1 underlying217 V V V).as (v':= .bool false) V) V<|J.j 2 V<|J.T (qAC V V) V<|J.T (qAA V V qGX V qJV V) V<|J.T (qAD 0 V V V qMa V) V<|J.T (qAU V V V) V<|J.b V<|J.c hK3<|J.G 0 1 15 ?_
  refine J.a4 V (λh15=>?_) (λh15=>?_)
  ·
    refine J.g λK4 hK4=>J.j 2 V<|J.c hK4<|J.E 4 5 ?_
    exact J.D<|J.a7<|J.b4 hw0 (λ_ _ h=>h) (qDe V V V) (qAj () (by unfold RS.out RS.can;simp only [h15,false_and,if_false,decide_false]) trivial [0,1] (by unfold RS.take RSb;simp only [if_neg h15];rfl) (by decide))
  refine J.W hK2<|J.E 0 1 ?_
  refine J.k λK5 hK5=>J.g λK6 hK6=>J.j 2 V<|J.f (qAC V V) V<|J.a2 0 qGX z9_ V V V V V<|J.c2 0 b9_ V V V V V<|J.f (qAg u9_ V V) V<|J.f (qA5 V V V) V<|J.c hK6<|J.G 0 1 22 ?_
  refine J.a4 V (λh22=>?_) (λh22=>?_)
  ·
    refine J.g λK7 hK7=>J.b V<|J.f (qAC V V) V<|J.a2 1 qGX qJV V V V V V<|J.b1 (qAV (i:=0) V V V V V qJV V (by simp)) rfl rfl λ_ _=>J.c hK7<|J.d0 [] trivial<|J.g λK8 hK8=>J.j 2 rfl<|J.c hK8<|J.E 4 5 ?_
    exact J.D<|J.a7<|J.b4 hw0 (λ_ _ h=>h) (qDe V V V) (qAj () (by unfold RS.out RS.can;simp only [show¬size≤s.length by omega,and_false,if_false,decide_false]) trivial [0,1] (by unfold RS.take RSb;simp only [show bad=0 by omega,if_true,if_neg (show¬size≤s.length by omega)];rfl) (by decide))
  refine J.W hK5<|J.E 0 1 ?_
  refine J.g λK9 hK9=>J.b V<|J.f (qAC V V) V<|J.a2 0 qGX z9_ V V V V V<|J.c2 0 b9_ V V V V V<|J.b V<|J.f ((qA3 u9_ V V V V ⟨by omega,by omega⟩).as (v':=Str (s.take size)) (congrArg Str zW)) V<|J.b V<|J.c hK9<|J.G 0 1 6 ?_
  refine J.g λK10 hK10=>J.j 2 V<|J.f (qAC V V) V<|J.a2 0 qGX z9_ V V V V V<|J.c2 0 b9_ V V V V V<|J.b V<|J.f ((qA3 u9_ V V V V ⟨by omega,by omega⟩).as (v':=Str (s.drop size)) (by rw [jo])) rfl<|J.f (qAC rfl rfl) rfl<|J.a2 0 qGX z9_ rfl rfl rfl rfl rfl<|J.b1 (qAV (i:=0) rfl rfl rfl rfl rfl z9_ rfl (by simp)) rfl rfl λ_ _=>J.c hK10<|J.A 6 ?_
  refine J.g λK11 hK11=>J.j 3 V<|J.c hK11<|J.E 4 5 ?_
  exact J.D<|J.b4 hw0 (λ_ _ h=>h) (qDe V V V) (qAj () (by unfold RS.out RS.can;simp only [show bad=0 by omega,show size≤s.length by omega,and_self,if_true,decide_true]) trivial [0,1] (by unfold RS.take RSb;simp only [show bad=0 by omega,if_true,if_pos (show size≤s.length by omega)];rfl) (by decide))
theorem qDO(F:Hp)(g:Nat)(st:RS)(size:Nat)(h1:1≤size)(h8:size≤8):
    Ct prog 113 [Ptr g,I size] [RSb g st,F] (λ_:Unit=>N64 (qBk (st.out size))) (λ_=>True) (λ_=> [RSb g (st.take size),F]):=by
  have hol:=st.out_len size
  have hlt:=qF6 (st.out size)
  refine Ct.walk func113 rfl ntmps113 rfl (λw0 hw0=>?_)
  refine J.g λK1 hK1=>J.b V<|J.c hK1<|J.E 0 1 ?_
  refine J.k λK2 hK2=>J.g λK3 hK3=>J.b V<|J.f ((qAT V V V).no (by omega)) V<|J.j 2 V<|J.T ((qA5 V V V).no (by omega)) V<|J.b V<|J.c hK3<|J.G 0 1 14 ?_
  refine J.a5 ?_
  refine J.W hK2<|J.E 0 1 ?_
  refine J.g λK4 hK4=>J.j 2 V<|J.q (qAB V V ent158 (Ct.use1 0 V (λF' _=>qM0 F' g st size))) V λg20 _=>J.b V<|J.f (qAk V V V) V<|J.f (qAk V V V) V<|J.j 2 V<|J.c hK4<|J.A 5 ?_
  refine J.g λK5 hK5=>J.b V<|J.c hK5<|J.E 5 7 ?_
  refine J.k λK6 hK6=>J.g λK7 hK7=>J.b V<|J.f (qAg u9_ V V) V<|J.b V<|J.c hK7<|J.O 5 7 24 25 ?_
  refine J.a1<|J.c1 (X:=Nat) (λt=> [(5,Str (st.out size)),(7,N64 (qBk ((st.out size).take t))),(24,I (st.out size).length),(25,I t)]) (λ_=> [RSb g (st.take size),F]) (λt=>t≤(st.out size).length) (λt=>(st.out size).length-t) 0 (jF _) ⟨V,V,V,V,trivial⟩ (λ_ h=>h) ?_
  intro t ht I0 hI0
  refine J.g λK8 hK8=>J.f (qAT V V V) V<|J.c hK8<|J.a0 5 7 24 25 26 ?_
  refine J.k λK9 hK9=>J.a4 V (λh26=>?_) (λh26=>?_)
  ·
    refine J.W hK9<|J.O 5 7 24 25 ?_
    refine J.k λK10 hK10=>J.a1<|J.k λK11 hK11=>?_
    have ht1:t<(st.out size).length:=by omega
    have hnt:=qSd (st.out size) size t hol h8 ht1
    refine J.H<|J.j 2 V<|J.c hK11<|J.a0 5 7 8 24 25 ?_
    refine J.H<|J.b V<|J.f (qSF (m:=8) V V V (by omega) (by omega)) V<|J.j 2 V<|J.f (qBK u9_ V V V (jC ht1)) V ?_
    refine J.f (qNi V V u5_ qED) V<|J.f ((qTn V V V (by have:=(UInt8.toNat_lt ((st.out size)[t]'ht1));omega)).as (v':=N64 (qBk ((st.out size).take (t+1)))) (congrArg N64 ((qTm _ _ (UInt8.toNat_lt ((st.out size)[t]'ht1))).trans (qNr _ t ht1).symm))) V<|J.b V<|J.a8<|J.b0<|J.u (J.M hK10 ?_)
    refine J.O 5 7 24 25 ?_
    exact J.H<|J.f (qAQ V V V (by omega)) V<|J.b V<|J.a8<|J.u<|J.a9 (t+1) (λx (hx:_∧(st.out size).length-x<(st.out size).length-t)=>hI0 x hx.1 hx.2) ⟨by omega,by omega⟩ ⟨V,V,V,V,trivial⟩ (λ_ h=>h)
  refine J.b8<|J.a6<|J.a6<|J.b9 ?_
  refine J.u (J.M hK6 ?_)
  refine J.A 7 ?_
  refine J.k λK12 hK12=>?_
  have hte:t=(st.out size).length:=by omega
  subst hte
  refine J.H<|J.j 2 V<|J.c hK12<|J.A 4 ?_
  exact J.D<|J.Z hw0 V () (by rw [jo]) trivial [0,1] rfl (by decide)
theorem qFq(F:Hp)(g:Nat)(st:RS)(size:Nat):
    Ct prog 117 [Ptr g,I size] [RSb g st,F] (λ_:Unit=>Str (st.out size)) (λ_=>True) (λ_=> [RSb g (st.take size),F]):=by
  refine Ct.walk func117 rfl ntmps117 rfl (λw0 hw0=>?_)
  refine J.g λK1 hK1=>J.b V<|J.c hK1<|J.E 0 1 ?_
  refine J.k λK2 hK2=>J.g λK3 hK3=>J.b V<|J.f ((qAT V V V).no (by omega)) V<|J.c hK3<|J.G 0 1 8 ?_
  refine J.a5 ?_
  refine J.W hK2<|J.E 0 1 ?_
  refine J.g λK4 hK4=>J.j 2 V<|J.q (qAB V V ent158 (Ct.use1 0 V (λF' _=>qM0 F' g st size))) V λg14 _=>J.b V<|J.f (qAk V V V) V<|J.f (qAk V V V) V<|J.j 2 V<|J.c hK4<|J.A 5 ?_
  refine J.g λK5 hK5=>J.j 2 V<|J.c hK5<|J.A 4 ?_
  exact J.D<|J.Z hw0 V () V trivial [0,1] V (by decide)
def RS.textS(st:RS):List UInt8:=if 4096<qBk (st.out 2) then [] else(st.take 2).out (qBk (st.out 2))
def RS.textR(st:RS):RS:=if 4096<qBk (st.out 2) then(st.take 2).form else(st.take 2).take (qBk (st.out 2))
def RS.last(st:RS):Int:=if st.bad=0 then(if st.s= [] then 0 else 2) else st.bad
theorem natB2(st:RS):qBk (st.out 2)<65536:=by
 refine jx (qF6 _) (jd (jg (by omega) (st.out_len 2)) (by decide))
theorem qRA(F:Hp)(g:Nat)(st:RS):
    Ct prog 114 [Ptr g] [RSb g st,F] (λ_:Unit=>I st.last) (λ_=>True) (λ_=> [RSb g st,F]):=by
  obtain ⟨s,bad⟩:=st
  change Ct _ _ _ [blk g [Str s,I bad] 267,F] _ _ _
  refine Ct.walk func114 rfl ntmps114 rfl (λw0 hw0=>?_)
  refine J.g λK1 hK1=>J.b V<|J.c hK1<|J.A 0 ?_
  refine J.k λK2 hK2=>J.a1<|J.g λK3 hK3=>J.b V<|J.f ((qA1 underlying217 V V V).as (v':= .bool false) V) V<|J.b V<|J.c hK3<|J.E 0 3 ?_
  refine J.a5 ?_
  refine J.g λK4 hK4=>J.b V<|J.f (qAC V V) V<|J.a2 1 qGX qJV V V V V V<|J.c2 0 qMa V V V V V<|J.f (qAU V V V) V<|J.b V<|J.c hK4<|J.E 0 6 ?_
  refine J.a4 V (λh6=>?_) (λh6=>?_)
  ·
    refine J.g λK5 hK5=>J.b V<|J.f (qAC V V) V<|J.a2 1 qGX qJV V V V V V<|J.c2 0 qMa V V V V V<|J.b V<|J.c hK5<|J.A 2 ?_
    exact J.D<|J.b6<|J.a7<|J.Z hw0 V () (congrArg I (by unfold RS.last;dsimp only;rw [if_neg (by omega)])) trivial [0,1] rfl (by decide)
  refine J.g λK6 hK6=>J.b V<|J.f (qAC V V) V<|J.a2 0 qGX z9_ V V V V V<|J.c2 0 b9_ V V V V V<|J.f (qBv V V V) V<|J.b V<|J.c hK6<|J.A 16 ?_
  refine J.a4 V (λh16=>?_) (λh16=>?_)
  ·
    refine J.g λK7 hK7=>J.b V<|J.c hK7<|J.A 2 ?_
    exact J.D<|J.b6<|J.a7<|J.Z hw0 V () (congrArg I (by unfold RS.last;dsimp only;rw [if_pos (by omega),if_neg (by assumption)])) trivial [0,1] rfl (by decide)
  refine J.c0<|J.b0<|J.u (J.M hK2 ?_)
  refine J.d0 [] trivial<|J.g λK8 hK8=>J.b V<|J.c hK8<|J.A 2 ?_
  exact J.D<|J.Z hw0 V () (congrArg I (by unfold RS.last;dsimp only;rw [if_pos (by omega),if_pos (Decidable.not_not.1 (by assumption))])) trivial [0,1] rfl (by decide)
theorem qMd(g:Nat):Wtr (blk g [.pointer none,.slice none 0 0,I 0] 188) g [] 0:=
 ⟨[.pointer none,.slice none 0 0,I 0],λ_=>none,none,0,none,by funext k;simp only [U];cases blk g [.pointer none,.slice none 0 0,I 0] 188 k<;>rfl,λ_=> .inr rfl,rfl,⟨rfl,.inl rfl,rfl,qBc.nil,.inl rfl⟩,rfl⟩
theorem qTr{s:List UInt8}{n:Nat}(h:s.length=n):okF s n=true:=decide_eq_true h
theorem qEW(e bad:Int):qD5 true e bad=bad:=by simp [qD5]
theorem qTN{s:List UInt8}{n:Nat}(h:s.length=n)(bs:List UInt8):qRS s n bs 0=bs++s:=by
 unfold qRS;rw [qTr h,qEW];simp
def qTh(o r:List UInt8)(h:Int):Prop:=0≤h∧h≤6∧o.length=16∧r.length=16
instance (o r:List UInt8) (h:Int):Decidable (qTh o r h):=by unfold qTh;infer_instance
theorem qUG(d:Nat)(o r o' r':List UInt8)(h h':Int)(w:World):(Op.equalIn (d+2) 54 (.agg #[Str o,Str r,I h]) (.agg #[Str o',Str r',I h'])).run prog w= .ok (decide (o=o'∧r=r'∧h=h')) w:=by
 have u3:=u3_
 have a3:=b3_
 have us:=u9_
 have ag:=b9_
 have hS:prog.underlying 54=some (.struct (prog.fieldsOf 54)):=by kernel_rfl
 have hp:prog.stoodInHeld 54=false:=by kernel_rfl
 rw [show d+2=(d+1)+1 from rfl,run_equalIn_struct w (d+1) 54 _ _ hS hp]
 simp only [Program.fieldsOf,qMZ]
 have hi: ∀(a b:Int) (w:World),(Op.equalIn (d+1) 3 (.int .i64 a) (.int .i64 b)).run prog w= .ok (a==b) w:=λa b w=>run_equalIn_int w d 3 .i64 .i64 a b u3
 have hs: ∀(a b:List UInt8) (w:World),(Op.equalIn (d+1) 9 (Str a) (Str b)).run prog w= .ok (decide (a=b)) w:=λa b w=>by rw [run_equalIn_string w d 9 _ _ us,qGL]
 simp only [Op.eqFields]
 simp [part,a3,ag,hi,hs]
 by_cases h1:o=o'<;>by_cases h2:r=r'<;>by_cases h3:h=h'<;>simp [h1,h2,h3]
theorem qFl{s:List UInt8}{n:Nat}(h:n≤s.length):(⟨s,0⟩:RS).take n=⟨s.drop n,0⟩:=by simp [RS.take,h]
theorem qIg{s:List UInt8}{n:Nat}(h:n≤s.length):(⟨s,0⟩:RS).out n=s.take n:=by simp [RS.out,h]
theorem qNm(F m:Hp)(g:Nat)(bs:List UInt8)(bad:Int)(hw:Wtr m g bs bad)(hlen:bs.length≤1099511627776)(n:Nat)(hn:n<18446744073709551616)(size:Nat)(h1:1≤size)(h8:size<8):
    Ct prog 83 [Ptr g,N64 n,I size] [m,F] (λ_:Hp=>Ptr g) (λm'=>Wtr m' g (qQe (UInt64.ofNat n) size bs bad) (qD5 (okN (UInt64.ofNat n) size) 10 bad)) (λm'=> [m',F]):=by
  rw [N_W hn]
  exact qE9 F m g bs bad hw hlen (UInt64.ofNat n) size h1 h8
theorem qIl{n size:Nat}(hn:n<18446744073709551616)(h:n<2^(8*size)):okN (UInt64.ofNat n) size=true:=by
 unfold okN
 rw [qAu hn]
 exact decide_eq_true h
theorem qNn(n:UInt64):Sha.numB n 0= []:=rfl
theorem qNp(n t:Nat)(hn:n<18446744073709551616)(ht:t<8):Sha.numB (UInt64.ofNat n) (t+1)=UInt8.ofNat (n/256^t%256)::Sha.numB (UInt64.ofNat n) t:=by
  unfold Sha.numB
  rw [List.range_succ_eq_map,jR,zy]
  congr 1
  · rw [qAu hn,jl (by omega),show t+1-1-0=t by omega,Nat.pow_mul]
    apply UInt8.toNat_inj.1
    rw [UInt64.toNat_toUInt8,qAu (zG (za _ _) hn),zR];simp
  · apply List.map_congr_left
    intro i hi
    rw [List.mem_range] at hi
    simp only [Function.comp,Nat.succ_eq_add_one,qAu hn]
    rw [show t+1-1-(i+1)=t-1-i by omega]
def qAc:List UInt8:=List.replicate 16 0
theorem qME(l:List UInt8): ∀a:Nat,l.foldl (λn c=>n*256+c.toNat) a=a*256^l.length+qBk l:=by
 induction l with
 |nil=>intro a;simp [qBk]
 |cons c l ih=>
  intro a
  unfold qBk
  rw [List.foldl_cons,List.foldl_cons,ih,ih (0*256+c.toNat),jD,zC,zV,zV,Nat.mul_assoc,zU 256]
  omega
theorem qNt(c:UInt8)(l:List UInt8):qBk (c::l)=c.toNat*256^l.length+qBk l:=by
 rw [qBk,List.foldl_cons,qME,zg,jn]
theorem qES(n:Nat)(hn:n<18446744073709551616): ∀t,t≤8→qBk (Sha.numB (UInt64.ofNat n) t)=n%256^t:=by
 intro t
 induction t with
 |zero=>intro _;rw [qNn];simp [qBk,Nat.mod_one]
 |succ t ih=>
  intro ht
  rw [qNp n t hn (by omega),qNt,Sha.numB_length,ih (by omega),zR,show(2^8:Nat)=256 from rfl,Nat.mod_mod,zC,Nat.mod_mul,zU,Nat.add_comm]
def tb(s:List UInt8):List UInt8:=Sha.numB (UInt64.ofNat s.length) 2++s
def RS.after:RS→Nat→RS
 |st,0=>st
 |st,k+1=>(st.after k).textR
def RS.tx(st:RS)(k:Nat):List (List UInt8):=(List.range k).map λj=>(st.after j).textS
theorem qDC(s:List UInt8):(tb s).length=2+s.length:=by unfold tb;rw [jA,Sha.numB_length]
theorem wtrN(g:Nat):Wtr (blk g [.pointer none,.slice none 0 0,I 0] 188) g [] 0:=
 ⟨[.pointer none,.slice none 0 0,I 0],λ_=>none,none,0,none,by funext k;simp only [U];cases blk g [.pointer none,.slice none 0 0,I 0] 188 k<;>rfl,λ_=> .inr rfl,rfl,⟨rfl,.inl rfl,rfl,qBc.nil,.inl rfl⟩,rfl⟩
theorem qJ8(e:Int):qD5 true e 0=0:=by unfold qD5;rw [if_neg (by simp)]
theorem qEs(F m:Hp)(g:Nat)(bs:List UInt8)(hw:Wtr m g bs 0)(hlen:bs.length≤1099511627776)(k size:Nat)(h1:1≤size)(h8:size<8)(hk:k<2^(8*size)):
    Ct prog 83 [Ptr g,N64 k,I size] [m,F] (λ_:Hp=>Ptr g) (λm'=>Wtr m' g (bs++Sha.numB (UInt64.ofNat k) size) 0) (λm'=> [m',F]):=by
  have hlt:k<18446744073709551616:=jx hk (jd (jg (by decide) (show 8*size≤64 by omega)) (by decide))
  have hn:(UInt64.ofNat k).toNat=k:=qAu hlt
  have e:okN (UInt64.ofNat k) size=true:=by unfold okN;rw [hn];exact decide_eq_true hk
  have h:=qE9 F m g bs 0 hw hlen (UInt64.ofNat k) size h1 h8
  rw [qDH e,e,qJ8] at h
  rw [N_W hlt];exact h
theorem qOK(F m:Hp)(g:Nat)(bs:List UInt8)(hw:Wtr m g bs 0)(hlen:bs.length≤1099511627776)(s:List UInt8)(size:Nat)(hs:s.length=size)(h8:size≤1048576):
    Ct prog 84 [Ptr g,Str s,I size] [m,F] (λ_:Hp=>Ptr g) (λm'=>Wtr m' g (bs++s) 0) (λm'=> [m',F]):=by
  have h:=qLJ F m g bs 0 hw hlen s (by omega) size
  have e:okF s size=true:=decide_eq_true hs
  have e2:qRS s size bs 0=bs++s:=by unfold qRS;rw [e,qJ8,if_pos rfl]
  rw [e2,e,qJ8] at h;exact h
theorem qEY(F m:Hp)(g:Nat)(bs:List UInt8)(hw:Wtr m g bs 0)(hlen:bs.length≤1099511627776):
    Ct prog 86 [Ptr g] [m,F] (λ_:Hp=> .tuple #[Str bs,I ((0:Nat):Int)]) (λm'=>Wtr m' g bs 0) (λm'=> [m',F]):=by
  have h:=qFc F m g bs 0 hw (by omega)
  rw [if_pos rfl] at h;exact h
theorem qFy{P:Program}{env:Env}{rs:List Hp}{o:Oper}{t t':TypeId}{x y:Operand}{a m:Nat}{yk:IntKind}(ho:o.op= .binOp .shr t x y t')(hx:ev env x=some (N64 a))(hy:ev env y=some (.int yk (m:Nat)))(hr:m≤64∧a<18446744073709551616):YOp P env rs o (N64 (a/2^m)):=by
 rw [N_W hr.2] at hx
 exact(qFR ho hx hy).as (by show Value.int .u64 _=Value.int .u64 _;rw [qAu hr.2,jl hr.1,qAu (zG (za _ _) hr.2)])
theorem qSM{P:Program}{env:Env}{rs:List Hp}{o:Oper}{t u v x y z k a b c}(ho:o.op= .call {callee:= .builtin .min,args:= #[x,y,z],argTypes:= #[t,u,v]})(hx:ev env x=some (.int k a))(hy:ev env y=some (.int k b))(hz:ev env z=some (.int k c)):YOp P env rs o (.int k (min (min a b) c)):=λn ac w hk _=>by
 by_cases h:b<a<;>by_cases h2:c<(if b<a then b else a)<;>simp [execOp,ho,hk.ev hx,hk.ev hy,hk.ev hz,resolve,invoke,builtin,Builtin.min_,Builtin.min2,h] at h2⊢
 all_goals first|rw [if_pos (by omega)]|rw [if_neg (by omega)]
 all_goals omega
theorem and32{n:Nat}(h:n<4294967296):n&&&4294967295=n:=by
 have:=Nat.and_two_pow_sub_one_eq_mod n 32
 rw [show(2^32-1:Nat)=4294967295 from rfl] at this
 rw [this];exact ja h
theorem qPm(F:Hp)(n:Nat)(hn:n<4294967296):
    Ct prog 153 [N64 1,N64 n] [F] (λ_:Unit=> .tuple #[N64 0,N64 n]) (λ_=>True) (λ_=> [F]):=by
  refine Ct.walk func153 rfl ntmps153 rfl (λw0 hw0=>?_)
  change J _ [(0,_),(1,_)] _ _ _
  refine J.g λK1 hK1=>J.j 2 V<|J.c hK1<|J.E 0 1 ?_
  refine J.g λK2 hK2=>J.b V<|J.f ((qJs (a:=1) (b:=4294967295) V V V (by omega)).as (v':=N64 1) V) V<|J.b V<|J.c hK2<|J.G 0 1 6 ?_
  refine J.g λK3 hK3=>J.b V<|J.f ((qFy (a:=1) (m:=32) V V V (by omega)).as (v':=N64 0) V) V<|J.b V<|J.c hK3<|J.O 0 1 6 7 ?_
  refine J.g λK4 hK4=>J.b V<|J.f ((qJs (a:=n) (b:=4294967295) V V V (by omega)).as (v':=N64 n) (congrArg N64 (and32 hn))) V<|J.b V<|J.c hK4<|J.a0 0 1 6 7 8 ?_
  refine J.g λK5 hK5=>J.b V<|J.f ((qFy (a:=n) (m:=32) V V V (by omega)).as (v':=N64 0) (congrArg N64 (j8 (by omega)))) V<|J.b V<|J.c hK5<|J.b5 0 1 6 7 8 9 ?_
  refine J.g λK6 hK6=>J.j 2 V<|J.f ((qF1 (a:=1) (b:=n) V V V (by omega)).as (v':=N64 n) (congrArg N64 (Nat.one_mul n))) V<|J.b V<|J.c hK6<|J.c5 0 1 6 7 8 9 10 ?_
  refine J.g λK7 hK7=>J.j 2 V<|J.f ((qF1 (a:=0) (b:=n) V V V (by omega)).as (v':=N64 0) (congrArg N64 (zg n))) V<|J.b V<|J.f ((qFy (a:=n) (m:=32) V V V (by omega)).as (v':=N64 0) (congrArg N64 (j8 (by omega)))) V<|J.f ((qEr (a:=0) (b:=0) V V V (by omega)).as (v':=N64 0) V) V<|J.b V<|J.c hK7<|J.b5 0 1 6 7 9 11 ?_
  refine J.g λK8 hK8=>J.b V<|J.f ((qJs (a:=0) (b:=4294967295) V V V (by omega)).as (v':=N64 0) V) V<|J.b V<|J.c hK8<|J.c5 0 1 6 7 9 11 12 ?_
  refine J.g λK9 hK9=>J.b V<|J.f ((qFy (a:=0) (m:=32) V V V (by omega)).as (v':=N64 0) V) V<|J.b V<|J.c hK9<|J.c5 0 1 6 7 9 12 13 ?_
  refine J.g λK10 hK10=>J.j 3 V<|J.f ((qF1 (a:=1) (b:=0) V V V (by omega)).as (v':=N64 0) V) V<|J.f ((qEr (a:=0) (b:=0) V V V (by omega)).as (v':=N64 0) V) V<|J.b V<|J.c hK10<|J.b5 0 1 7 9 12 13 ?_
  refine J.g λK11 hK11=>J.j 2 V<|J.f ((qF1 (a:=0) (b:=0) V V V (by omega)).as (v':=N64 0) V) V<|J.b V<|J.f ((qEr (a:=0) (b:=0) V V V (by omega)).as (v':=N64 0) V) V<|J.b V<|J.f ((qFy (a:=0) (m:=32) V V V (by omega)).as (v':=N64 0) V) V<|J.f ((qEr (a:=0) (b:=0) V V V (by omega)).as (v':=N64 0) V) V<|J.b V<|J.c hK11<|J.G 0 1 4 ?_
  refine J.g λK12 hK12=>J.j 2 V<|J.f ((qF1 (a:=1) (b:=n) V V V (by omega)).as (v':=N64 n) (congrArg N64 (Nat.one_mul n))) V<|J.b V<|J.c hK12<|J.E 4 5 ?_
  exact J.D<|J.b4 hw0 (λ_ _ h=>h) (qDe V V V) (qAj () V trivial [0] V (by decide))
theorem qS5(F:Hp)(n:Nat)(hn:n<4294967296):
    Ct prog 106 [N64 1,N64 n] [F] (λ_:Unit=> .tuple #[N64 0,N64 n]) (λ_=>True) (λ_=> [F]):=by
  refine Ct.walk func106 rfl ntmps106 rfl (λw0 hw0=>?_)
  change J _ [(0,_),(1,_)] _ _ _
  refine J.g λK1 hK1=>J.j 2 V<|J.c hK1<|J.E 0 1 ?_
  refine J.k λK2 hK2=>J.a5 ?_
  refine J.W hK2<|J.E 0 1 ?_
  refine J.g λK3 hK3=>J.j 2 V<|J.q (qAB V V ent153 (Ct.use0 (λF' hF=>qPm F' n hn))) V λg25 _=>J.j 5 V<|J.c hK3<|J.E 8 9 ?_
  refine J.g λK4 hK4=>J.j 4 V<|J.c hK4<|J.E 4 5 ?_
  exact J.D<|J.b4 hw0 (λ_ _ h=>h) (qDe V V V) (qAj () V trivial [0] V (by decide))
theorem qKH(F mr:Hp)(g:Nat)(l:List Value)(bs:List UInt8)(A:Option Addr)(c:Nat)(p:Option Addr)(hb:Bld g 0 l mr bs A c p):
    Ct prog 110 [Ptr g] [blk g l 186,F] (λ_:Unit=>I bs.length) (λ_=>True) (λ_=> [blk g l 186,F]):=by
  refine Ct.walk func110 rfl ntmps110 rfl (λw0 hw0=>?_)
  change J _ [(0,_)] _ _ _
  refine J.g λK1 hK1=>J.b V<|J.c hK1<|J.A 0 ?_
  refine J.g λK2 hK2=>J.b V<|J.f (qAC V V) V<|J.a2 1 qDJ qHH V V V V V<|J.f (qAD 0 V V V qOf hb.a1) V<|J.f (qAY qBm V V) V<|J.b V<|J.c hK2<|J.A 2 ?_
  exact J.D<|J.Z hw0 V () V trivial [0,1] V (by decide)
theorem qNM(F:Hp)(n:Nat)(h2:2≤n)(h3:n≤8192):
    Ct prog 51 [Str [0],I n] [F] (λ_:Unit=>Str (List.replicate n 0)) (λ_=>True) (λ_=> [F]):=by
  refine Ct.walk func51 rfl ntmps51 rfl (λw0 hw0=>?_)
  change J _ [(0,_),(1,_)] _ _ _
  refine J.g λK1 hK1=>J.b V<|J.c hK1<|J.E 0 1 ?_
  refine J.k λK2 hK2=>J.g λK3 hK3=>J.b V<|J.c hK3<|J.G 0 1 11 ?_
  refine J.a1<|J.g λK4 hK4=>J.f ((qAS V V V).no (by omega)) V<|J.b V<|J.c hK4<|J.O 0 1 11 12 ?_
  refine J.a5 ?_
  refine J.g λK5 hK5=>J.f ((qAS V V V).no (by omega)) V<|J.b V<|J.c hK5<|J.G 0 1 14 ?_
  refine J.a5 ?_
  refine J.c0<|J.b0<|J.u (J.M hK2 ?_)
  refine J.E 0 1 ?_
  refine J.k λK6 hK6=>J.g λK7 hK7=>J.b V<|J.f ((qAT V V V).no (by omega)) V<|J.c hK7<|J.G 0 1 18 ?_
  refine J.a5 ?_
  refine J.W hK6<|J.E 0 1 ?_
  refine J.g λK8 hK8=>J.b V<|J.f (qAg u9_ V V) V<|J.f ((qAp V V u3_ qTP (m:=1) (by omega)).as (v':=N64 1) (N_W (by omega)).symm) V<|J.b V<|J.f ((qAp V V u3_ qTP (m:=n) (by omega)).as (v':=N64 n) (N_W (by omega)).symm) V<|J.q (qAB V V ent106 (Ct.use0 (λF' hF=>qS5 F' n (by omega)))) V λg26 _=>J.j 5 V<|J.c hK8<|J.G 0 5 6 ?_
  refine J.k λK9 hK9=>J.g λK10 hK10=>J.b V<|J.f ((qA5 V V V).no (by decide)) V<|J.j 2 V<|J.T ((qA5 V V V).no (by omega)) V<|J.b V<|J.c hK10<|J.G 0 6 34 ?_
  refine J.a5 ?_
  refine J.W hK9<|J.E 0 6 ?_
  refine J.g λK11 hK11=>J.b V<|J.f (qCI V V qTP u3_ (by omega)) V<|J.b V<|J.c hK11<|J.E 0 7 ?_
  refine J.k λK12 hK12=>J.g λK13 hK13=>J.b V<|J.f (qAg u9_ V V) V<|J.f ((qAS V V V).no (by decide)) V<|J.c hK13<|J.G 0 7 40 ?_
  refine J.a5 ?_
  refine J.W hK12<|J.E 0 7 ?_
  refine J.k λK14 hK14=>J.g λK15 hK15=>J.b V<|J.f (qBK (i:=0) (c:=0) u9_ V V V V) V<|J.c hK15<|J.G 0 7 42 ?_
  refine J.a1<|J.k λK16 hK16=>J.g λK17 hK17=>J.f ((qAS V V V).no (by decide)) V<|J.b V<|J.c hK17<|J.O 0 7 42 43 ?_
  refine J.a5 ?_
  refine J.g λK18 hK18=>J.f ((qAS V V V).no (by decide)) V<|J.b V<|J.c hK18<|J.O 0 7 42 43 ?_
  refine J.a5 ?_
  refine J.g λK19 hK19=>J.f ((qAS V V V).no (by decide)) V<|J.b V<|J.c hK19<|J.O 0 7 42 43 ?_
  refine J.a5 ?_
  refine J.g λK20 hK20=>J.f ((qAS V V V).no (by decide)) V<|J.b V<|J.c hK20<|J.O 0 7 42 43 ?_
  refine J.a5 ?_
  refine J.H<|J.f ((qAS V V V).no (by decide)) V<|J.b V<|J.c hK16<|J.G 0 7 43 ?_
  refine J.a5 ?_
  refine J.c0<|J.b0<|J.u (J.M hK14 ?_)
  refine J.E 0 7 ?_
  refine J.g λK21 hK21=>J.j 2 V<|J.c hK21<|J.G 0 7 8 ?_
  refine J.k λK22 hK22=>J.g λK23 hK23=>J.b V<|J.f ((qA5 V V V).no (by omega)) V<|J.c hK23<|J.O 0 7 8 96 ?_
  refine J.a5 ?_
  refine J.W hK22<|J.G 0 7 8 ?_
  refine J.g λK24 hK24=>J.q (qAO V zeroValue186 V) V λg9 _=>?_
  change J _ _ _ [F,blk g9 _ 186] _
  refine J.d4 [1,2,0] [blk g9 [.pointer none,.slice none 0 0] 186,λ_=>none,F] V (by decide)<|J.c hK24<|J.O 0 7 8 9 ?_
  refine J.g λK25 hK25=>J.b V<|J.q (qAB V V ent108 (qLU F g9 186 0 [.pointer none,.slice none 0 0] none ⟨V,.inl V,V,qBc.nil,.inl V⟩ qJ0 n (by omega))) V ?_
  rintro⟨l57,m57⟩ ⟨A57,c57,hb57,hu57⟩
  change J _ _ _ [blk g9 l57 186,m57,F] _
  dsimp only at hb57 hu57
  refine J.c hK25<|J.O 0 7 8 9 ?_
  refine J.g λK26 hK26=>J.b V<|J.q (qAB V V ent109 (qBD F m57 g9 186 0 l57 [] A57 c57 _ hb57 (by rw [hu57.1];exact qJ0) [0] (by decide))) rfl ?_
  rintro⟨l61,m61⟩ ⟨A61,c61,hb61,hu61⟩
  change J _ _ _ [blk g9 l61 186,m61,_] _
  dsimp only at hb61 hu61
  refine J.c hK26<|J.G 7 8 9 ?_
  refine J.k λK27 hK27=>J.a1<|J.c1 (X:=Nat×List Value×Hp×Option Addr×Nat) (λx=> [(7,I n),(8,I n),(9,Ptr g9)]) (λx=> [blk g9 x.2.1 186,x.2.2.1,F]) (λx=>1≤x.1∧x.1≤n∧x.2.1.length=2∧Bld g9 0 x.2.1 x.2.2.1 (List.replicate x.1 (0:UInt8)) x.2.2.2.1 x.2.2.2.2 (some ⟨g9,0,none⟩)) (λx=>n-x.1) (1,l61,m61,A61,c61) (⟨by omega,by omega,by rw [hu61.1,hu57.1];rfl,hb61⟩) ⟨rfl,rfl,rfl,trivial⟩ (λ_ h=>h) ?_
  rintro⟨k,l,m,A1,c1⟩ ⟨hk1,hkn,hll,hb⟩ I3 hI3
  dsimp only at hk1 hkn hll hb⊢
  refine J.k λK28 hK28=>J.g λK29 hK29=>J.q (qAB V V ent110 (Ct.use1 0 (m':=λ_:Unit=>blk g9 l 186) (new:=λ_=> []) V (λF' _=>qKH F' m g9 l (List.replicate k (0:UInt8)) A1 c1 _ hb))) V λg111 _=>?_
  change J _ _ _ [blk g9 l 186,m,F] _
  refine J.b V<|J.f ((qAT V V V).as (v':= .bool (decide (k<n))) (congrArg Value.bool (decide_eq_decide.2 (by rw [jG];omega)))) rfl<|J.c hK29<|J.O 7 8 9 113 ?_
  refine J.a4 V (λh113=>?_) (λh113=>?_)
  ·
    refine J.W hK28<|J.G 7 8 9 ?_
    refine J.a1<|J.g λK30 hK30=>J.b V<|J.q (qAB V V ent110 (Ct.use1 0 (m':=λ_:Unit=>blk g9 l 186) (new:=λ_=> []) V (λF' _=>qKH F' m g9 l (List.replicate k (0:UInt8)) A1 c1 _ hb))) V λg115 _=>?_
    change J _ _ _ [_,_,_] _
    refine J.f ((qAn V V V (by rw [jG];omega)).as (v':=I (n-k:Nat)) (congrArg I (by rw [jG];omega))) rfl<|J.q (qAB rfl rfl ent110 (Ct.use1 0 (m':=λ_:Unit=>blk g9 l 186) (new:=λ_=> []) rfl (λF' _=>qKH F' m g9 l (List.replicate k (0:UInt8)) A1 c1 _ hb))) rfl λg117 _=>?_
    change J _ _ _ [_,_,_] _
    refine J.b V<|J.f ((qSM V V V V).as (v':=I (min (n-k) k:Nat)) (congrArg I (by rw [jG];omega))) rfl<|J.b rfl<|J.c hK30<|J.O 7 8 9 10 ?_
    refine J.H<|J.q (qAB V V ent111 (qDj F m g9 186 0 l (List.replicate k (0:UInt8)) A1 c1 _ hb (by rw [jG];omega))) rfl ?_
    rintro m20 hb20
    change J _ _ _ [_,m20,_] _
    refine J.b V<|J.f ((qA3 (l:=0) (h:=min (n-k) k) u9_ V V V V ⟨by omega,by rw [jG];omega⟩).as (v':=Str (List.replicate (min (n-k) k) (0:UInt8))) (by rw [zW,List.take_replicate];congr 2;omega)) rfl<|J.q (qAB rfl rfl ent109 (qBD F m20 g9 186 0 l (List.replicate k (0:UInt8)) A1 c1 _ hb20 (by rw [hll];exact qJ0) (List.replicate (min (n-k) k) (0:UInt8)) (by simp only [jG];omega))) rfl ?_
    rintro⟨l23,m23⟩ ⟨A23,c23,hb23,hu23⟩
    change J _ _ _ [blk g9 l23 186,m23,_] _
    dsimp only at hb23 hu23
    rw [List.replicate_append_replicate] at hb23
    exact J.a8<|J.b0<|J.u<|J.a9 (k+min (n-k) k,l23,m23,A23,c23) (λx (hx:_∧n-x.1<n-k)=>hI3 x hx.1 hx.2) ⟨⟨by dsimp only;omega,by dsimp only;omega,by rw [hu23.1];exact hll,hb23⟩,by dsimp only;omega⟩ ⟨rfl,rfl,rfl,trivial⟩ (λ_ h=>h)
  refine J.b8<|J.a6<|J.a6<|J.b9 ?_
  refine J.u (J.M hK27 ?_)
  refine J.A 9 ?_
  refine J.k λK31 hK31=>?_
  have hkn2:k=n:=by omega
  subst hkn2
  refine J.H<|J.q (qAB V V ent111 (qDj F m g9 186 0 l (List.replicate k (0:UInt8)) A1 c1 _ hb (by rw [jG];omega))) rfl ?_
  rintro m24 _
  change J _ _ _ [_,m24,_] _
  refine J.b V<|J.c hK31<|J.A 4 ?_
  exact J.D<|J.Z hw0 V () V trivial [2] V (by decide)
theorem qPN(F:Hp):Ct prog 51 [Str [0],I 0] [F] (λ_:Unit=>Str []) (λ_=>True) (λ_=> [F]):=by
 refine Ct.walk func51 rfl ntmps51 rfl (λw0 hw0=>?_)
 change J _ [(0,_),(1,_)] _ _ _
 refine J.g λK1 hK1=>J.b V<|J.c hK1<|J.E 0 1 ?_
 refine J.k λK2 hK2=>J.g λK3 hK3=>J.b V<|J.c hK3<|J.G 0 1 11 ?_
 refine J.a1<|J.g λK4 hK4=>J.f ((qAS V V V).yes (by omega)) V<|J.b V<|J.c hK4<|J.O 0 1 11 12 ?_
 refine J.c7 ?_
 refine J.g λK5 hK5=>J.b V<|J.c hK5<|J.A 4 ?_
 exact J.D<|J.b6<|J.a7<|J.Z hw0 V () V trivial [0] V (by decide)
theorem qPM(F:Hp):Ct prog 51 [Str [0],I 1] [F] (λ_:Unit=>Str [0]) (λ_=>True) (λ_=> [F]):=by
 refine Ct.walk func51 rfl ntmps51 rfl (λw0 hw0=>?_)
 change J _ [(0,_),(1,_)] _ _ _
 refine J.g λK1 hK1=>J.b V<|J.c hK1<|J.E 0 1 ?_
 refine J.k λK2 hK2=>J.g λK3 hK3=>J.b V<|J.c hK3<|J.G 0 1 11 ?_
 refine J.a1<|J.g λK4 hK4=>J.f ((qAS V V V).no (by omega)) V<|J.b V<|J.c hK4<|J.O 0 1 11 12 ?_
 refine J.a5 ?_
 refine J.g λK5 hK5=>J.f ((qAS V V V).yes (by omega)) V<|J.b V<|J.c hK5<|J.G 0 1 14 ?_
 refine J.c7 ?_
 refine J.g λK6 hK6=>J.j 2 V<|J.c hK6<|J.A 4 ?_
 exact J.D<|J.b6<|J.a7<|J.Z hw0 V () V trivial [0] V (by decide)
theorem qEn(F:Hp)(n:Nat)(h3:n≤8192):
    Ct prog 51 [Str [0],I n] [F] (λ_:Unit=>Str (List.replicate n 0)) (λ_=>True) (λ_=> [F]):=by
  match n,h3 with
  |0,_=>exact qPN F
  |1,_=>exact qPM F
  |n+2,h3=>exact qNM F (n+2) (by omega) h3
attribute [local irreducible] Mk.node
namespace Mk
theorem qHC(s:List UInt8): ∀(p:List (List UInt8)) (x:List UInt8) (i:Nat),climb x i (p++ [s])=if i/2^p.length%2=0 then node (climb x i p) s else node s (climb x i p)
 | [],x,i=>by simp [climb]
 |a::p,x,i=>by
  rw [List.cons_append,climb,climb,qHC s p,jD,zC,zU,←zm]
theorem qJC(l:List (List UInt8))(h i:Nat)(hl:l.length=2^h)(hi:i<2^h): ∀j,j≤h→climb (l.getD i []) i (path l i j)=(lvl l j).getD (i/2^j) []
  |0,_=>by simp [path,climb,lvl]
  |j+1,hj=>by
    have hlen:=lvl_length l h hl j (by omega)
    have h1:i/2^j<2^(h-j):=by rw [Nat.div_lt_iff_lt_mul (zA j),←Nat.pow_add,show h-j+j=h by omega];exact hi
    have h2:=qIK (show 0<h-j by omega)
    rw [path_succ,qHC,qJC l h i hl hi j (by omega),path_length,zC,←zm]
    generalize i/2^j=q at*
    rw [show lvl l (j+1)=above (lvl l j) from rfl,jB (l:=above (lvl l j)),qOm,hlen,if_pos (show q/2<2^(h-j)/2 by omega),qRO]
    split
    · rename_i e
      rw [show 2*(q/2)=q by omega];rfl
    · rename_i e
      rw [show 2*(q/2)=q-1 by omega,show q-1+1=q by omega];rfl
theorem climb_root(l:List (List UInt8))(h i:Nat)(hl:l.length=2^h)(hi:i<2^h):climb (l.getD i []) i (path l i h)=root l h:=by
 rw [qJC l h i hl hi h (jJ _),j8 hi];rfl
theorem flat_small{ls:List (List UInt8)}{w:Nat}(h: ∀s∈ls,s.length≤w):ls.flatten.length≤w*ls.length:=by
 induction ls with
 |nil=>simp
 |cons a l ih=>
  have:=ih (λs hs=>h s (.tail _ hs))
  have h2:=h a (.head _)
  rw [jW,jA,jD,Nat.mul_add];omega
end Mk
namespace Sha
end Sha
attribute [local irreducible] Sha.tagB Mk.root Mk.path
end Go.Proofs.YtfldiegfenndjaaGreatDoor
