/- A part of the proof. -/
import Derived.Test.YtllnfioplpipiaaGreatDoorTopOrG8
import Derived.Test.YtllnfioplpipiaaGreatDoorTopOrG11
import Derived.Test.YtllnfioplpipiaaGreatDoorTopOrG4
import Derived.Test.YtllnfioplpipiaaGreatDoorTopOrG5
import Derived.Test.YtllnfioplpipiaaGreatDoorTopOrG6
set_option linter.unusedSimpArgs false
set_option linter.unusedVariables false
namespace Go.Proofs.YtllnfioplpipiaaGreatDoor
open Go Go.Fw Go.Proofs.Tryz
set_option maxRecDepth 100000
set_option maxHeartbeats 1000000
def qBp(ok:Bool)(e bad:Int):Int:=if ok=false∧bad=0 then e else bad
def qEY(ok:Bool)(e bad:Int)(l:List Value):List Value:=if ok=false∧bad=0 then qAu l 2 [I e] else l
theorem qHb{ok:Bool}{e bad:Int}{l:List Value}(hl:l.length=3):(qEY ok e bad l).length=3:=by
 unfold qEY
 split
 · rw [qC1 (by omega)];exact hl
 · exact hl
theorem qHd{ok:Bool}{e bad:Int}{l:List Value}(hl:l.length=3)(hb:l[2]?=some (I bad)):(qEY ok e bad l)[2]?=some (I (qBp ok e bad)):=by
 unfold qEY qBp
 split
 · exact qCS (by omega)
 · exact hb
theorem qHc{ok:Bool}{e bad:Int}{g:Nat}{l:List Value}{mr:Hp}{bs:List UInt8}{A:Option Addr}{c:Nat}{p:Option Addr}(hl:l.length=3)(hb:Bld g 0 l mr bs A c p):Bld g 0 (qEY ok e bad l) mr bs A c p:=by
 unfold qEY
 split
 · exact⟨(qBa (by omega) (by decide)).trans hb.a0,hb.self,(qBa (by omega) (by decide)).trans hb.a1,hb.row,hb.cap⟩
 · exact hb
theorem qON(F:Hp)(g:Nat)(l:List Value)(hl:l.length=3)(bad:Int)(hb:l[2]?=some (I bad))(e:Int):
    Ct prog 118 [Ptr g,.bool true,I e] [blk g l 133,F] (λ_:Unit=> .bool (decide (qBp true e bad=0))) (λ_=>True) (λ_=> [blk g (qEY true e bad l) 133,F]):=by
  refine Ct.walk func118 rfl ntmps118 rfl (λw0 hw0=>?_)
  change J _ [(0,_),(1,_),(2,_)] _ _ _
  refine J.g λK1 hK1=>J.b O<|J.c hK1<|J.G 0 1 2 ?_
  refine J.j λK2 hK2=>J.g λK3 hK3=>J.b O<|J.f (qAt O O) O<|J.p 7 O<|J.c hK3<|J.G 0 2 15 ?_
  refine J.a5 ?_
  refine J.W hK2<|J.u 0 ?_
  refine J.g λK4 hK4=>J.b O<|J.f (qAC O O) O<|J.a3 2 qFC qKK O O O O O<|J.f (qAE 0 O O O qO1 (by first|exact hb|exact qCS (by omega))) O<|J.f (qAY O O O) O<|J.b O<|J.c hK4<|J.u 6 ?_
  exact J.D<|J.M hw0 O () (congrArg Value.bool (decide_eq_decide.2 (by unfold qBp;rw [if_neg (show¬(true=false∧bad=0) from λh=>by cases h.1)]))) trivial [0,1] (by show [blk g _ _,F]= [blk g (qEY true e bad l) _,F];unfold qEY;rw [if_neg (show¬(true=false∧bad=0) from λh=>by cases h.1)]) (by decide)
theorem qL9(F:Hp)(g:Nat)(l:List Value)(hl:l.length=3)(bad:Int)(hb:l[2]?=some (I bad))(e:Int):
    Ct prog 118 [Ptr g,.bool false,I e] [blk g l 133,F] (λ_:Unit=> .bool (decide (qBp false e bad=0))) (λ_=>True) (λ_=> [blk g (qEY false e bad l) 133,F]):=by
  refine Ct.walk func118 rfl ntmps118 rfl (λw0 hw0=>?_)
  change J _ [(0,_),(1,_),(2,_)] _ _ _
  refine J.g λK1 hK1=>J.b O<|J.c hK1<|J.G 0 1 2 ?_
  refine J.j λK2 hK2=>J.g λK3 hK3=>J.b O<|J.f (qAt O O) O<|J.p 2 O<|J.Z (qAC O O) O<|J.Z (qAB (j:=2) O O qFC O qKK O) O<|J.Z (qAE 0 O O O qO1 hb) O<|J.Z (qAY O O O) O<|J.b O<|J.c hK3<|J.G 0 2 15 ?_
  refine J.a2 O (λh15=>?_) (λh15=>?_)
  ·
    refine J.L<|J.p 2 O<|J.f (qAC O O) O<|J.a3 2 qFC qKK O O O O O<|J.b0 (qAZ (i:=0) (vs:= [I e]) O O O O O qKK O (by rw [hl];exact Nat.le_refl 3)) rfl rfl λ_ _=>?_
    change J _ _ _ [blk g (qAu l 2 [I e]) 133,F] _
    refine J.c hK2<|J.u 0 ?_
    refine J.g λK4 hK4=>J.b O<|J.f (qAC O O) O<|J.a3 2 qFC qKK O O O O O<|J.f (qAE 0 O O O qO1 (by first|exact hb|exact qCS (by omega))) O<|J.f (qAY O O O) O<|J.b O<|J.c hK4<|J.u 6 ?_
    exact J.D<|J.M hw0 O () (congrArg Value.bool (decide_eq_decide.2 (by unfold qBp;rw [if_pos (show false=false∧bad=0 from⟨rfl,by omega⟩)]))) trivial [0,1] (by show [blk g _ _,F]= [blk g (qEY false e bad l) _,F];unfold qEY;rw [if_pos (show false=false∧bad=0 from⟨rfl,by omega⟩)]) (by decide)
  refine J.W hK2<|J.u 0 ?_
  refine J.g λK5 hK5=>J.b O<|J.f (qAC O O) O<|J.a3 2 qFC qKK O O O O O<|J.f (qAE 0 O O O qO1 (by first|exact hb|exact qCS (by omega))) O<|J.f (qAY O O O) O<|J.b O<|J.c hK5<|J.u 6 ?_
  exact J.D<|J.M hw0 O () (congrArg Value.bool (decide_eq_decide.2 (by unfold qBp;rw [if_neg (show¬(false=false∧bad=0) from λh=>h15 h.2)]))) trivial [0,1] (by show [blk g _ _,F]= [blk g (qEY false e bad l) _,F];unfold qEY;rw [if_neg (show¬(false=false∧bad=0) from λh=>h15 h.2)]) (by decide)
theorem qJ5(F:Hp)(g:Nat)(l:List Value)(hl:l.length=3)(bad:Int)(hb:l[2]?=some (I bad))(ok:Bool)(e:Int):
    Ct prog 118 [Ptr g,.bool ok,I e] [blk g l 133,F] (λ_:Unit=> .bool (decide (qBp ok e bad=0))) (λ_=>True) (λ_=> [blk g (qEY ok e bad l) 133,F]):=by
  cases ok
  · exact qL9 F g l hl bad hb e
  · exact qON F g l hl bad hb e
def Wtr(m:Hp)(g:Nat)(bs:List UInt8)(bad:Int):Prop:= ∃l mr A c p,m=U [blk g l 133,mr]∧Dj (blk g l 133) mr∧l.length=3∧Bld g 0 l mr bs A c p∧l[2]?=some (I bad)
theorem lies(l:List Value)(hl:l.length=3):liesAt prog prog.depth 133 (l.length/prog.cellsOf 133) 0 131 1=true:=by rw [hl];kernel_rfl
def okN(n:UInt64)(size:Nat):Bool:=decide (n.toNat<2^(8*size))
def qJO(n:UInt64)(size:Nat)(bs:List UInt8)(bad:Int):List UInt8:=if qBp (okN n size) 10 bad=0 then bs++Sha.numB n size else bs
def okF(s:List UInt8)(size:Nat):Bool:=decide (s.length=size)
def qJQ(s:List UInt8)(size:Nat)(bs:List UInt8)(bad:Int):List UInt8:=if qBp (okF s size) 10 bad=0 then bs++s else bs
theorem qNh(n:UInt64)(size t:Nat)(h:t<size):(Sha.numB n size).take (t+1)=(Sha.numB n size).take t++ [(UInt64.ofNat (n.toNat/2^min (8*(size-1-t)) 64)).toUInt8]:=by
 rw [List.take_succ_eq_append_getElem (by rw [Sha.numB_length];exact h)]
 congr 2
 simp [Sha.numB]
theorem qPY(n:UInt64)(size:Nat)(h:size<8):(((UInt64.ofNat (n.toNat/2^min (8*size) 64)).toNat:Int)=0)↔n.toNat<2^(8*size):=by
  have hn:=n.toNat_lt
  rw [UInt64.toNat_ofNat',Nat.mod_eq_of_lt (Nat.lt_of_le_of_lt (Nat.div_le_self _ _) hn),Nat.min_eq_left (by omega)]
  have hp:=Nat.two_pow_pos (8*size)
  constructor
  · intro h0
    have h1:n.toNat/2^(8*size)=0:=by omega
    rcases Nat.div_eq_zero_iff.1 h1 with h2|h2
    · omega
    · exact h2
  · intro h0
    rw [Nat.div_eq_of_lt h0];rfl
theorem qDu(F m:Hp)(g:Nat)(bs:List UInt8)(bad:Int)(hw:Wtr m g bs bad)(hlen:bs.length≤1099511627776)(n:UInt64)(size:Nat)(h1:1≤size)(h8:size<8):
    Ct prog 108 [Ptr g,W64 n,I size] [m,F] (λ_:Hp=>Ptr g) (λm'=>Wtr m' g (qJO n size bs bad) (qBp (okN n size) 10 bad)) (λm'=> [m',F]):=by
  obtain ⟨l,mr,A,c,p,rfl,hd,hl,hb,hbad⟩:=hw
  have hfl:=qHb (ok:=(okN n size)) (e:=10) (bad:=bad) hl
  have hfb:=qHc (ok:=(okN n size)) (e:=10) (bad:=bad) hl hb
  have hf2:=qHd (ok:=(okN n size)) (e:=10) hl hbad
  refine Ct.walk func108 rfl ntmps108 rfl (λw0 hw0=>?_)
  change J _ [(0,_),(1,_),(2,_)] _ _ _
  refine J.f5 hd ?_
  refine J.g λK1 hK1=>J.b O<|J.c hK1<|J.G 0 1 2 ?_
  refine J.j λK2 hK2=>J.g λK3 hK3=>J.b O<|J.f ((qA6 underlying134 O O O).as (v':= .bool false) O) O<|J.p 3 O<|J.Z ((qBN O O O).yes (by omega)) O<|J.p 2 O<|J.Z ((qB5 O O O).yes (by omega)) O<|J.p 3 O<|J.Z ((qAY O O O).no (by omega)) O<|J.p 3 O<|J.Z ((qCr (a:=8) O O O (by omega)).nat (8*size) (by omega)) O<|J.Z (qEm (m:=8*size) O O O) O<|J.Z ((qAY O O O).as (v':= .bool (okN n size)) (congrArg Value.bool (by unfold okN;exact decide_eq_decide.2 (qPY n size h8)))) O<|J.p 2 O<|J.d7 (qAA O O ent118 (Ct.use1 0 (m':=λ_:Unit=>blk g (qEY (okN n size) 10 bad l) 133) (new:=λ_=> []) O (λF' _=>qJ5 F' g l hl bad hbad (okN n size) 10))) O λg29 _=>?_
  change J _ _ _ [blk g (qEY (okN n size) 10 bad l) 133,mr,F] _
  refine J.Z (qFR O O) O<|J.b O<|J.c hK3<|J.O 0 1 2 31 ?_
  refine J.a2 O (λh31=>?_) (λh31=>?_)
  ·
    refine J.g λK4 hK4=>J.p 2 O<|J.c hK4<|J.u 6 ?_
    exact J.D<|J.a4<|J.b2 hw0 (λ_ _ h=>h) (qIJ O O) (qBr (U [blk g (qEY (okN n size) 10 bad l) 133,mr]) O (λhd=>⟨_,mr,A,c,p,O,hd,hfl,by unfold qJO;rw [if_neg (by omega)];exact hfb,hf2⟩) [0,1,2] rfl rfl (by decide))
  refine J.W hK2<|J.G 0 1 2 ?_
  refine J.j λK5 hK5=>J.j λK6 hK6=>?_
  have hok:qBp (okN n size) 10 bad=0:=by omega
  refine J.L<|J.b O<|J.f ((qAw O O O (by omega)).as (v':=I ((size:Int)-1-((0:Nat):Int))) (congrArg I (by omega))) O<|J.b O<|J.c hK6<|J.G 0 1 7 ?_
  refine J.V<|J.b6 (X:=Nat×List Value×Hp) (λx=> [(0,Ptr g),(1,W64 n),(7,I ((size:Int)-1-(x.1:Int)))]) (λx=> [blk g x.2.1 133,x.2.2,F]) (λx=>x.1≤size∧x.2.1.length=3∧x.2.1[2]?=some (I (qBp (okN n size) 10 bad))∧ ∃A c p,Bld g 0 x.2.1 x.2.2 (bs++(Sha.numB n size).take x.1) A c p) (λx=>size-x.1) (0,(qEY (okN n size) 10 bad l),mr) (⟨Nat.zero_le _,hfl,hf2,A,c,p,by rw [List.take_zero,List.append_nil];exact hfb⟩) ⟨rfl,rfl,rfl,trivial⟩ (λ_ h=>h) ?_
  rintro⟨t,l2,mr2⟩ ⟨ht,hl2,hbad2,A2,c2,p2,hb2⟩ I0 hI0
  dsimp only at ht hl2 hbad2 hb2⊢
  refine J.j λK7 hK7=>J.g λK8 hK8=>J.b O<|J.f (qBN O O O) O<|J.c hK8<|J.O 0 1 7 36 ?_
  refine J.a2 O (λh36=>?_) (λh36=>?_)
  ·
    refine J.W hK7<|J.G 0 1 7 ?_
    refine J.j λK9 hK9=>J.V<|J.c1 [] [] (.y 0 (.y 1 (.y 2 (.y 3 (.y 4 (.y 5 (.y 6 (.y 7 (.e 8 .nil))))))))) Tryz.wide (by decide+kernel) (by simp) ?_
    refine J.T ?_
    refine J.q O (qAC O O) O O<|J.q O (qAB (j:=0) O O qFC O sizeOf131 O) O O<|J.T ?_
    refine J.q O ((qAx O O).nat (size-1-t) (by omega)) O O<|J.q O ((qCr (a:=8) O O O (by omega)).nat (8*(size-1-t)) (by omega)) O O<|J.q O (qEm (m:=8*(size-1-t)) O O O) O O<|J.q O (qEV O O qEi u5_) O O<|J.a9 O (qAA O O ent167 (Ct.useA [blk g l2 133,mr2] [F] (A':=λx:List Value×Hp=> [blk g x.1 133,x.2]) (new:=λ_=> []) (λF' _=>qHz F' mr2 g 133 0 l2 (bs++(Sha.numB n size).take t) A2 c2 p2 hb2 (lies l2 hl2) ((UInt64.ofNat (n.toNat/2^min (8*(size-1-t)) 64)).toUInt8) (by rw [List.length_append,List.length_take,Sha.numB_length];omega)))) rfl (by simp) ?_
    rintro⟨l3,mr3⟩ ⟨A3,c3,hb3,hu3⟩
    change J _ _ _ [blk g l3 133,mr3,F] _
    dsimp only at hb3 hu3
    rw [List.append_assoc,←qNh n size t (by omega)] at hb3
    refine J.b9<|J.a6<|J.A (J.H hK9 ?_)
    refine J.G 0 1 7 ?_
    exact J.L<|J.b O<|J.f ((qAw O O O (by omega)).as (v':=I ((size:Int)-1-((t+1:Nat):Int))) (congrArg I (by omega))) O<|J.b O<|J.a7<|J.A<|J.a8 (t+1,l3,mr3) (λx (hx:_∧size-x.1<size-t)=>hI0 x hx.1 hx.2) ⟨⟨by dsimp only;omega,hu3.1.trans hl2,(hu3.2 2 (by decide) (by decide)).trans hbad2,A3,c3,_,hb3⟩,by dsimp only;omega⟩ ⟨O,O,O,trivial⟩ (λ_ h=>h)
  refine J.b4<|J.a1<|J.a1<|J.b5 ?_
  refine J.A (J.H hK5 ?_)
  refine J.u 0 ?_
  refine J.j λK10 hK10=>?_
  have hts:t=size:=by omega
  subst hts
  rw [List.take_of_length_le (by rw [Sha.numB_length];exact Nat.le_refl _)] at hb2
  refine J.L<|J.p 2 O<|J.c hK10<|J.u 6 ?_
  exact J.D<|J.b2 hw0 (λ_ _ h=>h) (qIJ O O) (qBr (U [blk g l2 133,mr2]) O (λhd=>⟨l2,mr2,A2,c2,p2,O,hd,hl2,by unfold qJO;rw [if_pos hok];exact hb2,hbad2⟩) [0,1,2] rfl rfl (by decide))
theorem qCk(F m:Hp)(g:Nat)(bs:List UInt8)(bad:Int)(hw:Wtr m g bs bad)(hlen:bs.length≤1099511627776)(s:List UInt8)(hs:s.length≤1099511627776)(size:Nat):
    Ct prog 53 [Ptr g,Str s,I size] [m,F] (λ_:Hp=>Ptr g) (λm'=>Wtr m' g (qJQ s size bs bad) (qBp (okF s size) 10 bad)) (λm'=> [m',F]):=by
  obtain ⟨l,mr,A,c,p,rfl,hd,hl,hb,hbad⟩:=hw
  have hfl:=qHb (ok:=(okF s size)) (e:=10) (bad:=bad) hl
  have hfb:=qHc (ok:=(okF s size)) (e:=10) (bad:=bad) hl hb
  have hf2:=qHd (ok:=(okF s size)) (e:=10) hl hbad
  refine Ct.walk func53 rfl ntmps53 rfl (λw0 hw0=>?_)
  change J _ [(0,_),(1,_),(2,_)] _ _ _
  refine J.f5 hd ?_
  refine J.g λK1 hK1=>J.b O<|J.c hK1<|J.G 0 1 2 ?_
  refine J.j λK2 hK2=>J.g λK3 hK3=>J.b O<|J.f ((qUD underlying134 O O O).as (v':= .bool true) O) O<|J.p 3 O<|J.Z (qAl u9_ O O) O<|J.b O<|J.Z ((qAY O O O).as (v':= .bool (okF s size)) (congrArg Value.bool (by unfold okF;exact decide_eq_decide.2 (by omega)))) O<|J.d7 (qAA O O ent118 (Ct.use1 0 (m':=λ_:Unit=>blk g (qEY (okF s size) 10 bad l) 133) (new:=λ_=> []) O (λF' _=>qJ5 F' g l hl bad hbad (okF s size) 10))) O λg15 _=>?_
  change J _ _ _ [blk g (qEY (okF s size) 10 bad l) 133,mr,F] _
  refine J.b O<|J.c hK3<|J.G 0 1 16 ?_
  refine J.a2 O (λh16=>?_) (λh16=>?_)
  ·
    refine J.L<|J.b O<|J.f (qAC O O) O<|J.a3 0 qFC sizeOf131 O O O O O<|J.b O<|J.k (qAA O O ent80 (Ct.useA [blk g (qEY (okF s size) 10 bad l) 133,mr] [F] (A':=λx:List Value×Hp=> [blk g x.1 133,x.2]) (new:=λ_=> []) (λF' _=>qBC F' mr g 133 0 (qEY (okF s size) 10 bad l) bs A c p hfb (lies _ hfl) s (by omega)))) O ?_
    rintro⟨l3,mr3⟩ ⟨A3,c3,hb3,hu3⟩
    change J _ _ _ [blk g l3 133,mr3,_] _
    dsimp only at hb3 hu3
    refine J.c hK2<|J.u 0 ?_
    refine J.g λK4 hK4=>J.p 2 O<|J.c hK4<|J.u 6 ?_
    exact J.D<|J.b2 hw0 (λ_ _ h=>h) (qIJ O O) (qBr (U [blk g l3 133,mr3]) O (λhd=>⟨l3,mr3,A3,c3,_,O,hd,hu3.1.trans hfl,by unfold qJQ;rw [if_pos (by assumption)];exact hb3,(hu3.2 2 (by decide) (by decide)).trans hf2⟩) [0,1,2] rfl rfl (by decide))
  refine J.W hK2<|J.u 0 ?_
  refine J.g λK5 hK5=>J.p 2 O<|J.c hK5<|J.u 6 ?_
  exact J.D<|J.b2 hw0 (λ_ _ h=>h) (qIJ O O) (qBr (U [blk g (qEY (okF s size) 10 bad l) 133,mr]) O (λhd=>⟨_,mr,A,c,p,O,hd,hfl,by unfold qJQ;rw [if_neg (by assumption)];exact hfb,hf2⟩) [0,1,2] rfl rfl (by decide))
theorem qLH{P:Program}{X:Type}{f:FuncId}{vs:List Value}{a b:Hp}{r:List Hp}{val:X→Value}{φ:X→Prop}{A B:X→Hp}{ψ:Hp→Prop}{v:Value}(hd:Dj a b)(hv: ∀x,φ x→val x=v)(hp: ∀x,φ x→Dj (A x) (B x)→ψ (U [A x,B x]))(h:Ct P f vs (a::b::r) val φ (λx=>A x::B x::r)):Ct P f vs (U [a,b]::r) (λ_:Hp=>v) ψ (λm=>m::r):=
 λw0 w hs=>(h w0 w (hs.splitU hd)).mono λe w' ⟨x,he,hx,hs'⟩=>⟨U [A x,B x],by rw [he,hv x hx],hp x hx hs'.dj2,hs'.joinU⟩
theorem failW(F m:Hp)(g:Nat)(bs:List UInt8)(bad:Int)(hw:Wtr m g bs bad)(hlen:bs.length≤1099511627776)(ok:Bool)(e:Int):
    Ct prog 118 [Ptr g,.bool ok,I e] [m,F] (λ_:Hp=> .bool (decide (qBp ok e bad=0))) (λm'=>Wtr m' g bs (qBp ok e bad)) (λm'=> [m',F]):=by
  obtain ⟨l,mr,A,c,p,rfl,hd,hl,hb,hbad⟩:=hw
  exact qLH (A:=λ_:Unit=>blk g (qEY ok e bad l) 133) (B:=λ_=>mr) hd (λ_ _=>rfl) (λ_ _ hd'=>⟨_,mr,A,c,p,rfl,hd',qHb hl,qHc hl hb,qHd hl hbad⟩) (Ct.use1 0 (m':=λ_:Unit=>blk g (qEY ok e bad l) 133) (new:=λ_=> []) rfl (λF' _=>qJ5 F' g l hl bad hbad ok e))
theorem qHy(F m:Hp)(g:Nat)(bs:List UInt8)(bad:Int)(hw:Wtr m g bs bad)(hlen:bs.length≤2199023255552)(s:List UInt8)(hs:s.length≤1099511627776):
    Ct prog 80 [.pointer (some ⟨g,0,none⟩),Str s] [m,F] (λ_:Hp=> .tuple #[I s.length,.nilIface]) (λm'=>Wtr m' g (bs++s) bad) (λm'=> [m',F]):=by
  obtain ⟨l,mr,A,c,p,rfl,hd,hl,hb,hbad⟩:=hw
  exact qLH (A:=λx:List Value×Hp=>blk g x.1 133) (B:=λx=>x.2) hd (λ_ _=>rfl) (λx hx hd'=>by obtain ⟨A3,c3,hb3,hu3⟩:=hx;exact⟨x.1,x.2,A3,c3,_,rfl,hd',hu3.1.trans hl,hb3,(hu3.2 2 (by decide) (by decide)).trans hbad⟩) (qBC F mr g 133 0 l bs A c p hb (lies l hl) s (by omega))
def okT(s:List UInt8):Bool:=decide (s.length≤4096)
def qJL(s:List UInt8)(bs:List UInt8)(bad:Int):List UInt8:=if qBp (okT s) 2 bad=0 then bs++Sha.numB (UInt64.ofNat s.length) 2++s else bs
theorem qRy{s:List UInt8}{bad:Int}(h:qBp (okT s) 2 bad=0):s.length≤4096∧bad=0:=by
  unfold qBp okT at h
  split at h
  · omega
  · rename_i h1
    refine⟨?_,h⟩
    simp only [decide_eq_false_iff_not] at h1
    omega
theorem qNd{n:Nat}(h:n≤4096):okN (UInt64.ofNat n) 2=true:=by
 unfold okN
 rw [decide_eq_true_iff,UInt64.toNat_ofNat',Nat.mod_eq_of_lt (by omega)]
 omega
theorem qCx{n:UInt64}{size:Nat}{bs:List UInt8}(h:okN n size=true):qJO n size bs 0=bs++Sha.numB n size:=by
 unfold qJO qBp
 rw [h];rfl
theorem qMl(F m:Hp)(g:Nat)(bs:List UInt8)(bad:Int)(hw:Wtr m g bs bad)(hlen:bs.length≤1099511627776)(s:List UInt8)(hs:s.length≤1099511627776):
    Ct prog 52 [Ptr g,Str s] [m,F] (λ_:Hp=>Ptr g) (λm'=>Wtr m' g (qJL s bs bad) (qBp (okT s) 2 bad)) (λm'=> [m',F]):=by
  refine Ct.walk func52 rfl ntmps52 rfl (λw0 hw0=>?_)
  change J _ [(0,_),(1,_)] _ _ _
  refine J.g λK1 hK1=>J.b O<|J.c hK1<|J.E 0 1 ?_
  refine J.j λK2 hK2=>J.g λK3 hK3=>J.b O<|J.f ((qA6 underlying134 O O O).as (v':= .bool false) O) O<|J.p 3 O<|J.Z (qAl u9_ O O) O<|J.Z ((qB5 O O O).as (v':= .bool (okT s)) (congrArg Value.bool (by unfold okT;exact decide_eq_decide.2 (by omega)))) O<|J.d7 (qAA O O ent118 (failW F m g bs bad hw hlen (okT s) 2)) O ?_
  rintro m1 hw1
  change J _ _ _ [m1,F] _
  refine J.Z (qFR O O) O<|J.b O<|J.c hK3<|J.G 0 1 14 ?_
  refine J.a2 O (λh14=>?_) (λh14=>?_)
  ·
    refine J.g λK4 hK4=>J.p 2 O<|J.c hK4<|J.u 4 ?_
    exact J.D<|J.a4<|J.M hw0 O m1 O (by unfold qJL;rw [if_neg (by omega)];exact hw1) [0,1] rfl (by decide)
  refine J.W hK2<|J.E 0 1 ?_
  refine J.j λK5 hK5=>?_
  have hok:qBp (okT s) 2 bad=0:=by omega
  have hs4:=(qRy hok).1
  rw [hok] at hw1
  refine J.L<|J.p 2 O<|J.f (qAl u9_ O O) O<|J.f (qAs O O u3_ qEi (by omega)) O<|J.k (qAA O O ent108 ((qDu F m1 g bs 0 hw1 hlen (UInt64.ofNat s.length) 2 (by omega) (by omega)))) O ?_
  rintro m2 hw2
  change J _ _ _ [m2,F] _
  rw [qCx (qNd hs4),qNd hs4] at hw2
  refine J.c hK5<|J.E 0 1 ?_
  refine J.g λK6 hK6=>J.b O<|J.f (qAC O O) O<|J.a3 0 qFC sizeOf131 O O O O O<|J.b O<|J.k (qAA O O ent80 (qHy F m2 g (bs++Sha.numB (UInt64.ofNat s.length) 2) 0 hw2 (by rw [List.length_append,Sha.numB_length];omega) s hs)) rfl ?_
  rintro m3 hw3
  change J _ _ _ [m3,_] _
  refine J.c hK6<|J.u 0 ?_
  refine J.g λK7 hK7=>J.p 2 O<|J.c hK7<|J.u 4 ?_
  exact J.D<|J.M hw0 O m3 O (by unfold qJL;rw [if_pos hok,hok];exact hw3) [0,1] rfl (by decide)
theorem qDK(F m:Hp)(g:Nat)(bs:List UInt8)(bad:Int)(hw:Wtr m g bs bad)(hlen:bs.length≤2199023255552):
    Ct prog 54 [Ptr g] [m,F] (λ_:Hp=> .tuple #[Str (if bad=0 then bs else []),I bad]) (λm'=>Wtr m' g bs bad) (λm'=> [m',F]):=by
  obtain ⟨l,mr,A,c,p,rfl,hd,hl,hb,hbad⟩:=hw
  refine Ct.walk func54 rfl ntmps54 rfl (λw0 hw0=>?_)
  change J _ [(0,_)] _ _ _
  refine J.f5 hd ?_
  refine J.g λK1 hK1=>J.p 2 O<|J.c hK1<|J.u 0 ?_
  refine J.j λK2 hK2=>J.V<|J.g λK3 hK3=>J.b O<|J.f ((qA6 underlying134 O O O).as (v':= .bool false) O) O<|J.b O<|J.c hK3<|J.E 0 4 ?_
  refine J.a5 ?_
  refine J.g λK4 hK4=>J.b O<|J.f (qAC O O) O<|J.a3 2 qFC qKK O O O O O<|J.f (qAE 0 O O O qO1 hbad) O<|J.f (qAb O O O) O<|J.b O<|J.c hK4<|J.E 0 7 ?_
  refine J.a2 O (λh7=>?_) (λh7=>?_)
  ·
    refine J.j λK5 hK5=>J.c1 [blk g l 133,mr,F] [] (.y 0 (.y 1 (.y 2 (.y 3 (.y 4 (.y 5 .nil)))))) Tryz.wide (by decide+kernel) (by simp) ?_
    refine J.T ?_
    refine J.q O (qAC O O) O O<|J.q O (qAB (j:=2) O O qFC O qKK O) O O<|J.q O (qAE 0 O O O qO1 hbad) O O<|J.c6 ?_
    refine J.c6 ?_
    refine J.b9<|J.A (J.H hK5 ?_)
    refine J.E 2 3 ?_
    exact J.D<|J.b1<|J.a4<|J.b2 hw0 (λ_ _ h=>h) (qB2 O O O) (qBr (U [blk g l 133,mr]) (by rw [if_neg (by omega)]) (λhd=>⟨l,mr,A,c,p,rfl,hd,hl,hb,hbad⟩) [0,1,2] rfl rfl (by decide))
  refine J.b7<|J.a6<|J.A (J.H hK2 ?_)
  refine J.u 0 ?_
  refine J.j λK6 hK6=>?_
  have hz:bad=0:=by omega
  subst hz
  refine J.L<|J.b O<|J.f (qAC O O) O<|J.a3 0 qFC sizeOf131 O O O O O<|J.k (qAA O O ent82 (Ct.useA [blk g l 133,mr] [F] (A':=λx:Hp=> [blk g l 133,x]) (new:=λ_=> []) (λF' _=>qDN F' mr g 133 0 l bs A c p hb (by omega)))) O ?_
  rintro mr2 hb2
  change J _ _ _ [blk g l 133,mr2,F] _
  refine J.p 2 O<|J.c hK6<|J.E 2 3 ?_
  exact J.D<|J.b2 hw0 (λ_ _ h=>h) (qB2 O O O) (qBr (U [blk g l 133,mr2]) (O) (λhd=>⟨l,mr2,A,c,p,O,hd,hl,hb2,hbad⟩) [0,1,2] O O (by decide))
structure RS where
 s:List UInt8
 bad:Int
def RS.can(st:RS)(size:Nat):Bool:=decide (st.bad=0∧size≤st.s.length)
def RS.out(st:RS)(size:Nat):List UInt8:=if st.bad=0∧size≤st.s.length then st.s.take size else []
def RS.take(st:RS)(size:Nat):RS:=if st.bad=0 then(if size≤st.s.length then⟨st.s.drop size,0⟩ else⟨st.s,3⟩) else st
def RS.form(st:RS):RS:=if st.bad=0 then⟨st.s,4⟩ else st
def qEL(l:List UInt8):Nat:=l.foldl (λn c=>n*256+c.toNat) 0
theorem qNn(l:List UInt8)(t:Nat)(ht:t<l.length):qEL (l.take (t+1))=qEL (l.take t)*256+(l[t]'ht).toNat:=by
 rw [List.take_succ_eq_append_getElem ht,qEL,List.foldl_append];rfl
theorem qNo(l:List UInt8)(c:UInt8):qEL (l++ [c])=qEL l*256+c.toNat:=by
 rw [qEL,List.foldl_append];rfl
theorem qQH(l:List UInt8):qEL l.reverse<256^l.length:=by
 induction l with
 |nil=>decide
 |cons c l ih=>
  rw [List.reverse_cons,qNo,List.length_cons,Nat.pow_succ]
  have:=c.toNat_lt
  omega
theorem qJu(l:List UInt8):qEL l<256^l.length:=by
 have:=qQH l.reverse
 rwa [List.reverse_reverse,List.length_reverse] at this
theorem RS.out_len(st:RS)(size:Nat):(st.out size).length≤size:=by
 unfold RS.out
 split
 · rw [List.length_take];omega
 · exact Nat.zero_le _
theorem qSy(l:List UInt8)(n t:Nat)(h:l.length≤n)(hn:n≤8)(ht:t<l.length):qEL (l.take t)<72057594037927936:=
 Nat.lt_of_lt_of_le (qJu _) (Nat.le_trans (Nat.pow_le_pow_right (by omega) (show(l.take t).length≤7 by rw [List.length_take];omega)) (by decide))
def RSb(g:Nat)(st:RS):Hp:=blk g [Str st.s,I st.bad] 243
theorem qSf{P:Program}{env:Env}{rs:List Hp}{o:Oper}{t t':TypeId}{x y:Operand}{a m:Nat}{yk:IntKind}(ho:o.op= .binOp .shl t x y t')(hx:ev env x=some (N64 a))(hy:ev env y=some (.int yk (m:Nat)))(hm:m≤64)(hr:a<18446744073709551616∧a*2^m<18446744073709551616):YOp P env rs o (N64 (a*2^m)):=by
 rw [N_W hr.1] at hx
 exact(qP1 ho hx hy).as (by show Value.int .u64 _=Value.int .u64 _;rw [qBD hr.1,Nat.min_eq_left hm,qBD hr.2])
theorem qUE{P:Program}{env:Env}{rs:List Hp}{o:Oper}{t t':TypeId}{x y:Operand}{a b:Nat}(ho:o.op= .binOp .or t x y t')(hx:ev env x=some (N64 a))(hy:ev env y=some (N64 b))(hr:a<18446744073709551616∧b<18446744073709551616):YOp P env rs o (N64 (a|||b)):=by
 rw [N_W hr.1] at hx
 rw [N_W hr.2] at hy
 exact(qSk ho hx hy).as (by show Value.int .u64 _=Value.int .u64 _;rw [UInt64.toNat_or,qBD hr.1,qBD hr.2])
theorem qUC(a b:Nat)(h:b<256):a*2^8|||b=a*256+b:=by
 rw [Nat.mul_comm,←Nat.two_pow_add_eq_or_of_lt (i:=8) h]
theorem qSR(F:Hp)(s:List UInt8):
    Ct prog 91 [Str s] [F] Ptr (λ_=>True) (λg=> [RSb g ⟨s,0⟩,F]):=by
  refine Ct.walk func91 rfl ntmps91 rfl (λw0 hw0=>?_)
  change J _ [(0,_)] _ _ _
  refine J.g λK1 hK1=>J.b O<|J.c hK1<|J.u 0 ?_
  refine J.g λK2 hK2=>J.b O<|J.f (qAM (l:= [(0,.tmp 3)]) (vs:= [Str s]) (places:= [(0,1),(1,1)]) (r:= [Str s,I 0]) O O O qJT zeroValue243 (λ_=>by kernel_rfl) O) O<|J.k (qAi (l:= [Str s,I 0]) O O O) O ?_
  rintro g5 _
  change J _ _ _ [F,blk g5 [Str s,I 0] 243] _
  refine J.b O<|J.c hK2<|J.u 2 ?_
  exact J.D<|J.M hw0 O g5 O trivial [1,0] O (by decide)
theorem qMm(F:Hp)(g:Nat)(st:RS)(size:Nat):
    Ct prog 154 [Ptr g,I size] [RSb g st,F] (λ_:Unit=> .tuple #[Str (st.out size),.bool (st.can size)]) (λ_=>True) (λ_=> [RSb g (st.take size),F]):=by
  obtain ⟨s,bad⟩:=st
  change Ct _ _ _ [blk g [Str s,I bad] 243,F] _ _ _
  refine Ct.walk func154 rfl ntmps154 rfl (λw0 hw0=>?_)
  change J _ [(0,_),(1,_)] _ _ _
  refine J.g λK1 hK1=>J.p 2 O<|J.c hK1<|J.E 0 1 ?_
  refine J.j λK2 hK2=>J.g λK3 hK3=>J.b O<|J.f ((qA6 underlying186 O O O).as (v':= .bool false) O) O<|J.p 2 O<|J.Z (qAC O O) O<|J.Z (qAB (j:=1) O O qJT O qKK O) O<|J.Z (qAE 0 (k:=1) O O O qO1 O) O<|J.Z (qAb O O O) O<|J.b O<|J.c hK3<|J.G 0 1 15 ?_
  refine J.a2 O (λh15=>?_) (λh15=>?_)
  ·
    refine J.g λK4 hK4=>J.p 2 O<|J.c hK4<|J.E 4 5 ?_
    exact J.D<|J.a4<|J.b2 hw0 (λ_ _ h=>h) (qB2 O O O) (qAn () (by unfold RS.out RS.can;simp only [h15,false_and,if_false,decide_false]) trivial [0,1] (by unfold RS.take RSb;simp only [if_neg h15];rfl) (by decide))
  refine J.W hK2<|J.E 0 1 ?_
  refine J.j λK5 hK5=>J.g λK6 hK6=>J.p 2 O<|J.f (qAC O O) O<|J.a3 0 qJT z9_ O O O O O<|J.f (qAE 0 (k:=0) O O O b9_ O) O<|J.f (qAl u9_ O O) O<|J.f (qAz O O O) O<|J.c hK6<|J.G 0 1 22 ?_
  refine J.a2 O (λh22=>?_) (λh22=>?_)
  ·
    refine J.g λK7 hK7=>J.b O<|J.f (qAC O O) O<|J.a3 1 qJT qKK O O O O O<|J.b0 (qAZ (i:=0) (vs:= [I 3]) O O O O O qKK O (by simp)) rfl rfl λ_ _=>?_
    change J _ _ _ [blk g [Str s,I 3] 243,F] _
    refine J.c hK7<|J.c3 [] trivial<|J.g λK8 hK8=>J.p 2 O<|J.c hK8<|J.E 4 5 ?_
    exact J.D<|J.a4<|J.b2 hw0 (λ_ _ h=>h) (qB2 O O O) (qAn () (by unfold RS.out RS.can;simp only [show¬size≤s.length by omega,and_false,if_false,decide_false]) trivial [0,1] (by unfold RS.take RSb;simp only [show bad=0 by omega,if_true,if_neg (show¬size≤s.length by omega)];rfl) (by decide))
  refine J.W hK5<|J.E 0 1 ?_
  refine J.g λK9 hK9=>J.b O<|J.f (qAC O O) O<|J.a3 0 qJT z9_ O O O O O<|J.f (qAE 0 (k:=0) O O O b9_ O) O<|J.b O<|J.f ((qA1 (l:=0) (h:=size) u9_ O O O O ⟨by omega,by omega⟩).as (v':=Str (s.take size)) (congrArg Str List.drop_zero)) O<|J.b O<|J.c hK9<|J.G 0 1 6 ?_
  refine J.g λK10 hK10=>J.p 2 O<|J.f (qAC O O) O<|J.a3 0 qJT z9_ O O O O O<|J.f (qAE 0 (k:=0) O O O b9_ O) O<|J.b O<|J.f ((qA1 (l:=size) (h:=s.length) u9_ O O O O ⟨by omega,by omega⟩).as (v':=Str (s.drop size)) (by rw [List.take_length])) rfl<|J.f (qAC rfl rfl) rfl<|J.a3 0 qJT z9_ rfl rfl rfl rfl rfl<|J.b0 (qAZ (i:=0) (vs:= [Str (s.drop size)]) rfl rfl rfl rfl rfl z9_ rfl (by simp)) rfl rfl λ_ _=>?_
  change J _ _ _ [blk g [Str (s.drop size),I bad] 243,F] _
  refine J.c hK10<|J.u 6 ?_
  refine J.g λK11 hK11=>J.p 3 O<|J.c hK11<|J.E 4 5 ?_
  exact J.D<|J.b2 hw0 (λ_ _ h=>h) (qB2 O O O) (qAn () (by unfold RS.out RS.can;simp only [show bad=0 by omega,show size≤s.length by omega,and_self,if_true,decide_true]) trivial [0,1] (by unfold RS.take RSb;simp only [show bad=0 by omega,if_true,if_pos (show size≤s.length by omega)];rfl) (by decide))
theorem qFK(F:Hp)(g:Nat)(st:RS)(size:Nat)(h1:1≤size)(h8:size≤8):
    Ct prog 92 [Ptr g,I size] [RSb g st,F] (λ_:Unit=>N64 (qEL (st.out size))) (λ_=>True) (λ_=> [RSb g (st.take size),F]):=by
  have hol:=st.out_len size
  have hlt:=qJu (st.out size)
  refine Ct.walk func92 rfl ntmps92 rfl (λw0 hw0=>?_)
  change J _ [(0,_),(1,_)] _ _ _
  refine J.g λK1 hK1=>J.b O<|J.c hK1<|J.E 0 1 ?_
  refine J.j λK2 hK2=>J.g λK3 hK3=>J.b O<|J.f ((qAT O O O).no (by omega)) O<|J.p 2 O<|J.Z ((qAz O O O).no (by omega)) O<|J.b O<|J.c hK3<|J.G 0 1 14 ?_
  refine J.a5 ?_
  refine J.W hK2<|J.E 0 1 ?_
  refine J.g λK4 hK4=>J.p 2 O<|J.k (qAA O O ent154 (Ct.use1 0 (m':=λ_:Unit=>RSb g (st.take size)) (new:=λ_=> []) O (λF' _=>qMm F' g st size))) O λg20 _=>?_
  change J _ _ _ [RSb g (st.take size),F] _
  refine J.b O<|J.f (qAa O O O) O<|J.f (qAa O O O) O<|J.p 2 O<|J.c hK4<|J.u 5 ?_
  refine J.g λK5 hK5=>J.b O<|J.c hK5<|J.E 5 7 ?_
  refine J.j λK6 hK6=>J.g λK7 hK7=>J.b O<|J.f (qAl u9_ O O) O<|J.b O<|J.c hK7<|J.O 5 7 24 25 ?_
  refine J.V<|J.b6 (X:=Nat) (λt=> [(5,Str (st.out size)),(7,N64 (qEL ((st.out size).take t))),(24,I (st.out size).length),(25,I t)]) (λ_=> [RSb g (st.take size),F]) (λt=>t≤(st.out size).length) (λt=>(st.out size).length-t) 0 (Nat.zero_le _) ⟨O,O,O,O,trivial⟩ (λ_ h=>h) ?_
  intro t ht I0 hI0
  refine J.g λK8 hK8=>J.f (qAT O O O) O<|J.c hK8<|J.a0 5 7 24 25 26 ?_
  refine J.j λK9 hK9=>J.a2 O (λh26=>?_) (λh26=>?_)
  ·
    refine J.W hK9<|J.O 5 7 24 25 ?_
    refine J.j λK10 hK10=>J.V<|J.j λK11 hK11=>?_
    have ht1:t<(st.out size).length:=by omega
    have hnt:=qSy (st.out size) size t hol h8 ht1
    refine J.L<|J.p 2 O<|J.c hK11<|J.a0 5 7 8 24 25 ?_
    refine J.L<|J.b O<|J.f (qSf (m:=8) O O O (by omega) (by omega)) O<|J.p 2 O<|J.f (qBW u9_ O O O (List.getElem?_eq_getElem ht1)) O ?_
    refine J.f (qNY O O u5_ qEi) O<|J.f ((qUE O O O (by have:=(UInt8.toNat_lt ((st.out size)[t]'ht1));omega)).as (v':=N64 (qEL ((st.out size).take (t+1)))) (congrArg N64 ((qUC _ _ (UInt8.toNat_lt ((st.out size)[t]'ht1))).trans (qNn _ t ht1).symm))) O<|J.b O<|J.a7<|J.a6<|J.A (J.H hK10 ?_)
    refine J.O 5 7 24 25 ?_
    exact J.L<|J.f (qAO O O O (by omega)) O<|J.b O<|J.a7<|J.A<|J.a8 (t+1) (λx (hx:_∧(st.out size).length-x<(st.out size).length-t)=>hI0 x hx.1 hx.2) ⟨by omega,by omega⟩ ⟨O,O,O,O,trivial⟩ (λ_ h=>h)
  refine J.b4<|J.a1<|J.a1<|J.b5 ?_
  refine J.A (J.H hK6 ?_)
  refine J.u 7 ?_
  refine J.j λK12 hK12=>?_
  have hte:t=(st.out size).length:=by omega
  subst hte
  refine J.L<|J.p 2 O<|J.c hK12<|J.u 4 ?_
  exact J.D<|J.M hw0 O () (by rw [List.take_length]) trivial [0,1] rfl (by decide)
theorem qII(F:Hp)(g:Nat)(st:RS)(size:Nat):
    Ct prog 157 [Ptr g,I size] [RSb g st,F] (λ_:Unit=>Str (st.out size)) (λ_=>True) (λ_=> [RSb g (st.take size),F]):=by
  refine Ct.walk func157 rfl ntmps157 rfl (λw0 hw0=>?_)
  change J _ [(0,_),(1,_)] _ _ _
  refine J.g λK1 hK1=>J.b O<|J.c hK1<|J.E 0 1 ?_
  refine J.j λK2 hK2=>J.g λK3 hK3=>J.b O<|J.f ((qAT O O O).no (by omega)) O<|J.c hK3<|J.G 0 1 8 ?_
  refine J.a5 ?_
  refine J.W hK2<|J.E 0 1 ?_
  refine J.g λK4 hK4=>J.p 2 O<|J.k (qAA O O ent154 (Ct.use1 0 (m':=λ_:Unit=>RSb g (st.take size)) (new:=λ_=> []) O (λF' _=>qMm F' g st size))) O λg14 _=>?_
  change J _ _ _ [RSb g (st.take size),F] _
  refine J.b O<|J.f (qAa O O O) O<|J.f (qAa O O O) O<|J.p 2 O<|J.c hK4<|J.u 5 ?_
  refine J.g λK5 hK5=>J.p 2 O<|J.c hK5<|J.u 4 ?_
  exact J.D<|J.M hw0 O () O trivial [0,1] O (by decide)
def RS.textR(st:RS):RS:=if 4096<qEL (st.out 2) then(st.take 2).form else(st.take 2).take (qEL (st.out 2))
def RS.last(st:RS):Int:=if st.bad=0 then(if st.s= [] then 0 else 2) else st.bad
theorem qGq(g:Nat):Wtr (blk g [.pointer none,.slice none 0 0,I 0] 133) g [] 0:=
 ⟨[.pointer none,.slice none 0 0,I 0],λ_=>none,none,0,none,by funext k;simp only [U];cases blk g [.pointer none,.slice none 0 0,I 0] 133 k<;>rfl,λ_=> .inr rfl,rfl,⟨rfl,.inl rfl,rfl,qBU.nil,.inl rfl⟩,rfl⟩
theorem qDA(s:List UInt8)(n:Nat)(bs:List UInt8)(bad:Int):(qJQ s n bs bad).length≤bs.length+n:=by
 unfold qJQ qBp okF
 by_cases h1:s.length=n<;>by_cases h2:bad=0<;>simp [h1,h2]
theorem qPB(n:UInt64)(size:Nat)(bs:List UInt8)(bad:Int):(qJO n size bs bad).length≤bs.length+size:=by
 unfold qJO
 split
 · rw [List.length_append,Sha.numB_length];omega
 · omega
theorem qJo{s:List UInt8}{n:Nat}(h:s.length=n):okF s n=true:=decide_eq_true h
theorem okF_f{s:List UInt8}{n:Nat}(h: ¬s.length=n):okF s n=false:=decide_eq_false h
theorem qB8(e bad:Int):qBp true e bad=bad:=by simp [qBp]
theorem qFA{s:List UInt8}{n:Nat}(h:s.length=n)(bs:List UInt8):qJQ s n bs 0=bs++s:=by
 unfold qJQ;rw [qJo h,qB8];simp
def qDn(o r:List UInt8)(h:Int):Prop:=0≤h∧h≤6∧o.length=16∧r.length=16
instance (o r:List UInt8) (h:Int):Decidable (qDn o r h):=by unfold qDn;infer_instance
def qBJ(o r:List UInt8)(h:Int):List UInt8:=if qDn o r h then o++r++ [UInt8.ofNat h.toNat] else []
def qA9(o r:List UInt8)(h:Int):Int:=if qDn o r h then 0 else 10
theorem numB1: ∀k,k<7→Sha.numB (UInt64.ofNat k) 1= [UInt8.ofNat k]:=by decide
theorem okN1: ∀k,k<7→okN (UInt64.ofNat k) 1=true:=by decide
def qLo(o r:List UInt8):Int:=qBp (okF r 16) 10 (qBp (okF o 16) 10 0)
def pbs(o r:List UInt8):List UInt8:=qJQ r 16 (qJQ o 16 [] 0) (qBp (okF o 16) 10 0)
theorem qNB(o r:List UInt8)(k:Nat)(hk:k≤6):qBp (okN (UInt64.ofNat k) 1) 10 (qLo o r)=qA9 o r k:=by
 rw [okN1 k (by omega),qB8]
 unfold qLo qA9 qDn okF qBp
 by_cases h1:o.length=16<;>by_cases h2:r.length=16<;>simp [h1,h2]<;>omega
theorem qUA(o r:List UInt8)(k:Nat)(hk:k≤6)(h:qA9 o r k=0):qJO (UInt64.ofNat k) 1 (pbs o r) (qLo o r)=qBJ o r k:=by
  have hb:=qNB o r k hk
  unfold qJO qBJ
  rw [hb,h,if_pos rfl,numB1 k (by omega)]
  unfold qA9 at h
  split at h
  · rename_i h1
    rw [if_pos h1]
    have h2:=h1
    unfold qDn at h2
    unfold pbs
    rw [qFA h2.2.2.1,qJo h2.2.2.1,qB8,qFA h2.2.2.2];simp
  · omega
theorem qSX{o r:List UInt8}{h:Int}(hn: ¬qA9 o r h=0):qBJ o r h= []:=by
 unfold qA9 at hn;unfold qBJ
 split at hn
 · omega
 · rename_i h1;rw [if_neg h1]
theorem qRM{o r:List UInt8}{h:Int}(hn:h<0∨6<h):Value.tuple #[Str [],I 10]= .tuple #[Str (qBJ o r h),I (qA9 o r h)]:=by
 have h1: ¬qDn o r h:=by unfold qDn;omega
 unfold qBJ qA9
 rw [if_neg h1,if_neg h1]
theorem qSV(o r:List UInt8)(k:Nat)(hk:k≤6):Value.tuple #[Str (if qBp (okN (UInt64.ofNat k) 1) 10 (qLo o r)=0 then qJO (UInt64.ofNat k) 1 (pbs o r) (qLo o r) else []),I (qBp (okN (UInt64.ofNat k) 1) 10 (qLo o r))]= .tuple #[Str (qBJ o r k),I (qA9 o r k)]:=by
 rw [qNB o r k hk]
 by_cases h:qA9 o r k=0
 · rw [if_pos h,qUA o r k hk h]
 · rw [if_neg h,qSX h]
theorem qDE(F:Hp)(o r:List UInt8)(h:Int)(ho:o.length≤1048576)(hr:r.length≤1048576):
    Ct prog 51 [.agg #[Str o,Str r,I h]] [F] (λ_:Unit=> .tuple #[Str (qBJ o r h),I (qA9 o r h)]) (λ_=>True) (λ_=> [F]):=by
  refine Ct.walk func51 rfl ntmps51 rfl (λw0 hw0=>?_)
  change J _ [(0,_)] _ _ _
  refine J.g λK1 hK1=>J.k (qAi O O (l:= [Str o,Str r,I h]) O) O λg1 _=>?_
  change J _ _ _ [F,blk g1 [Str o,Str r,I h] 32] _
  refine J.p 2 O<|J.c hK1<|J.u 1 ?_
  refine J.j λK2 hK2=>J.g λK3 hK3=>J.a3 2 qH3 z3_ O O O O O<|J.c7 1 b3_ O O O O O<|J.f (qAT O O O) O<|J.b O<|J.c4 (d:=8) O (λh8=>?_) (λh8=>?_)
  ·
    refine J.p 4 O<|J.c hK3<|J.E 1 12 ?_
    refine J.d0 ?_
    refine J.g λK4 hK4=>J.p 2 O<|J.c hK4<|J.E 2 3 ?_
    exact J.D<|J.a4<|J.b2 hw0 (λ_ _ h=>h) (qB2 O O O) (qAn () (qRM (by omega)) trivial [0] O (by decide))
  refine J.Z (qAB (j:=2) O O qH3 O z3_ O) O<|J.Z (qAE 1 O O O b3_ O) O<|J.Z (qAz O O O) O<|J.b O<|J.c hK3<|J.E 1 12 ?_
  refine J.a2 O (λh12=>?_) (λh12=>?_)
  ·
    refine J.g λK5 hK5=>J.p 2 O<|J.c hK5<|J.E 2 3 ?_
    exact J.D<|J.a4<|J.b2 hw0 (λ_ _ h=>h) (qB2 O O O) (qAn () (qRM (by omega)) trivial [0] O (by decide))
  refine J.W hK2<|J.u 1 ?_
  refine J.j λK6 hK6=>?_
  obtain ⟨k,hk⟩:=Int.eq_ofNat_of_zero_le (show 0≤h by omega)
  have hk6:k≤6:=by omega
  refine J.L<|J.k (qAN O qJ8 O) O λg4 _=>?_
  change J _ _ _ [F,blk g1 [Str o,Str r,I h] 32,blk g4 _ 133] _
  refine J.c hK6<|J.E 1 4 ?_
  refine J.j λK7 hK7=>J.c1 [blk g1 [Str o,Str r,I h] 32] [] (.y 0 (.y 1 (.y 3 (.y 4 (.y 6 (.y 7 (.y 8 (.e 2 (.e 5 (.e 9 (.e 10 (.y 11 (.y 12 (.y 13 (.y 14 .nil))))))))))))))) Tryz.wide (by decide+kernel) (by simp) ?_
  refine J.q O (qAB (j:=0) O O qH3 O z9_ O) O O<|J.q O (qAE 0 O O O b9_ O) O O<|J.q O (qAB (j:=1) O O qH3 O z9_ O) O O<|J.q O (qAE 0 O O O b9_ O) O O<|J.q O (qAB (j:=2) O O qH3 O z3_ O) O O<|J.q O (qAE 0 O O O b3_ O) O O<|J.q O ((qBi O O u3_ qEi).as (v':=W64 (UInt64.ofNat k)) (by rw [show(h%18446744073709551616).toNat=k by omega])) rfl rfl<|J.a9 rfl (qAA rfl rfl ent53 (Ct.use1 2 (m':=λx:Hp=>x) (new:=λ_=> []) rfl (λF' _=>qCk F' (blk g4 [.pointer none,.slice none 0 0,I 0] 133) g4 [] 0 (qGq g4) (by decide) o (by omega) 16))) rfl (by simp) ?_
  rintro m15 hw15
  change J _ _ _ [_,_,m15] _
  refine J.a9 O (qAA O O ent53 (Ct.use1 2 (m':=λx:Hp=>x) (new:=λ_=> []) O (λF' _=>qCk F' m15 g4 (qJQ o 16 [] 0) (qBp (okF o 16) 10 0) hw15 (by have:=qDA o 16 [] 0;simp only [List.length_nil] at this;omega) r (by omega) 16))) rfl (by simp) ?_
  rintro m18 hw18
  change J _ _ _ [_,_,m18] _
  refine J.a9 O (qAA O O ent108 (Ct.use1 2 (m':=λx:Hp=>x) (new:=λ_=> []) O (λF' _=>qDu F' m18 g4 (pbs o r) (qLo o r) hw18 (by have:=qDA o 16 [] 0;have h2:=qDA r 16 (qJQ o 16 [] 0) (qBp (okF o 16) 10 0);simp only [List.length_nil] at this;unfold pbs;omega) (UInt64.ofNat k) 1 (by omega) (by omega)))) rfl (by simp) ?_
  rintro m22 hw22
  change J _ _ _ [_,_,m22] _
  refine J.a9 O (qAA O O ent54 (Ct.use1 2 (m':=λx:Hp=>x) (new:=λ_=> []) O (λF' _=>qDK F' m22 g4 (qJO (UInt64.ofNat k) 1 (pbs o r) (qLo o r)) (qBp (okN (UInt64.ofNat k) 1) 10 (qLo o r)) hw22 (by have:=qDA o 16 [] 0;have h2:=qDA r 16 (qJQ o 16 [] 0) (qBp (okF o 16) 10 0);have h3:=qPB (UInt64.ofNat k) 1 (pbs o r) (qLo o r);simp only [List.length_nil] at this;unfold pbs at h3⊢;omega)))) rfl (by simp) ?_
  rintro m23 hw23
  change J _ _ _ [_,_,m23] _
  refine J.d9 (Str (if qBp (okN (UInt64.ofNat k) 1) 10 (qLo o r)=0 then qJO (UInt64.ofNat k) 1 (pbs o r) (qLo o r) else [])) ?_
  refine J.d9 (I (qBp (okN (UInt64.ofNat k) 1) 10 (qLo o r))) ?_
  refine J.c6 ?_
  refine J.c6 ?_
  refine J.b9<|J.A (J.H hK7 ?_)
  refine J.E 2 3 ?_
  exact J.D<|J.b2 hw0 (λ_ _ h=>h) (qB2 O O O) (qAn () (by subst hk;exact qSV o r k hk6) trivial [0] O (by decide))
theorem eqPub(d:Nat)(o r o' r':List UInt8)(h h':Int)(w:World):(Op.equalIn (d+2) 32 (.agg #[Str o,Str r,I h]) (.agg #[Str o',Str r',I h'])).run prog w= .ok (decide (o=o'∧r=r'∧h=h')) w:=by
 have u3:=u3_
 have a3:=b3_
 have us:=u9_
 have ag:=b9_
 have hS:prog.underlying 32=some (.struct (prog.fieldsOf 32)):=by kernel_rfl
 have hp:prog.stoodInHeld 32=false:=by kernel_rfl
 rw [show d+2=(d+1)+1 from rfl,run_equalIn_struct w (d+1) 32 _ _ hS hp]
 simp only [Program.fieldsOf,qH3]
 have hi: ∀(a b:Int) (w:World),(Op.equalIn (d+1) 3 (.int .i64 a) (.int .i64 b)).run prog w= .ok (a==b) w:=λa b w=>run_equalIn_int w d 3 .i64 .i64 a b u3
 have hs: ∀(a b:List UInt8) (w:World),(Op.equalIn (d+1) 9 (Str a) (Str b)).run prog w= .ok (decide (a=b)) w:=λa b w=>by rw [run_equalIn_string w d 9 _ _ us,qFr]
 simp only [Op.eqFields]
 simp [part,a3,ag,hi,hs]
 by_cases h1:o=o'<;>by_cases h2:r=r'<;>by_cases h3:h=h'<;>simp [h1,h2,h3]
theorem qEB{o r:List UInt8}{h:Int}(he:qA9 o r h=0):(qBJ o r h).length=33:=by
  unfold qA9 at he;unfold qBJ
  split at he
  · rename_i h1
    rw [if_pos h1]
    have h2:=h1
    unfold qDn at h2
    simp only [List.length_append,List.length_singleton]
    omega
  · omega
theorem qNf(F m:Hp)(g:Nat)(bs:List UInt8)(bad:Int)(hw:Wtr m g bs bad)(hlen:bs.length≤1099511627776)(n:Nat)(hn:n<18446744073709551616)(size:Nat)(h1:1≤size)(h8:size<8):
    Ct prog 108 [Ptr g,N64 n,I size] [m,F] (λ_:Hp=>Ptr g) (λm'=>Wtr m' g (qJO (UInt64.ofNat n) size bs bad) (qBp (okN (UInt64.ofNat n) size) 10 bad)) (λm'=> [m',F]):=by
  rw [N_W hn]
  exact qDu F m g bs bad hw hlen (UInt64.ofNat n) size h1 h8
theorem qQA{n size:Nat}(hn:n<18446744073709551616)(h:n<2^(8*size)):okN (UInt64.ofNat n) size=true:=by
 unfold okN
 rw [qBD hn]
 exact decide_eq_true h
def qAh:List UInt8:=List.replicate 16 0
def tb(s:List UInt8):List UInt8:=Sha.numB (UInt64.ofNat s.length) 2++s
def RS.after:RS→Nat→RS
 |st,0=>st
 |st,k+1=>(st.after k).textR
theorem qER(s:List UInt8):(tb s).length=2+s.length:=by unfold tb;rw [List.length_append,Sha.numB_length]
theorem wtrN(g:Nat):Wtr (blk g [.pointer none,.slice none 0 0,I 0] 133) g [] 0:=
 ⟨[.pointer none,.slice none 0 0,I 0],λ_=>none,none,0,none,by funext k;simp only [U];cases blk g [.pointer none,.slice none 0 0,I 0] 133 k<;>rfl,λ_=> .inr rfl,rfl,⟨rfl,.inl rfl,rfl,qBU.nil,.inl rfl⟩,rfl⟩
theorem qJ4(e:Int):qBp true e 0=0:=by unfold qBp;rw [if_neg (by simp)]
theorem qNg(F m:Hp)(g:Nat)(bs:List UInt8)(hw:Wtr m g bs 0)(hlen:bs.length≤1099511627776)(k size:Nat)(h1:1≤size)(h8:size<8)(hk:k<2^(8*size)):
    Ct prog 108 [Ptr g,N64 k,I size] [m,F] (λ_:Hp=>Ptr g) (λm'=>Wtr m' g (bs++Sha.numB (UInt64.ofNat k) size) 0) (λm'=> [m',F]):=by
  have hlt:k<18446744073709551616:=Nat.lt_of_lt_of_le hk (Nat.le_trans (Nat.pow_le_pow_right (by decide) (show 8*size≤64 by omega)) (by decide))
  have hn:(UInt64.ofNat k).toNat=k:=qBD hlt
  have e:okN (UInt64.ofNat k) size=true:=by unfold okN;rw [hn];exact decide_eq_true hk
  have h:=qDu F m g bs 0 hw hlen (UInt64.ofNat k) size h1 h8
  rw [qCx e,e,qJ4] at h
  rw [N_W hlt];exact h
theorem qG0(F m:Hp)(g:Nat)(bs:List UInt8)(hw:Wtr m g bs 0)(hlen:bs.length≤1099511627776)(s:List UInt8)(hs:s.length≤4096):
    Ct prog 52 [Ptr g,Str s] [m,F] (λ_:Hp=>Ptr g) (λm'=>Wtr m' g (bs++tb s) 0) (λm'=> [m',F]):=by
  have h:=qMl F m g bs 0 hw hlen s (by omega)
  have e:okT s=true:=decide_eq_true hs
  have e2:qJL s bs 0=bs++tb s:=by unfold qJL tb;rw [e,qJ4,if_pos rfl,List.append_assoc]
  rw [e2,e,qJ4] at h;exact h
theorem qI4(F m:Hp)(g:Nat)(bs:List UInt8)(hw:Wtr m g bs 0)(hlen:bs.length≤1099511627776):
    Ct prog 54 [Ptr g] [m,F] (λ_:Hp=> .tuple #[Str bs,I ((0:Nat):Int)]) (λm'=>Wtr m' g bs 0) (λm'=> [m',F]):=by
  have h:=qDK F m g bs 0 hw (by omega)
  rw [if_pos rfl] at h;exact h
theorem qFQ{P:Program}{env:Env}{rs:List Hp}{o:Oper}{t t':TypeId}{x y:Operand}{a m:Nat}{yk:IntKind}(ho:o.op= .binOp .shr t x y t')(hx:ev env x=some (N64 a))(hy:ev env y=some (.int yk (m:Nat)))(hr:m≤64∧a<18446744073709551616):YOp P env rs o (N64 (a/2^m)):=by
 rw [N_W hr.2] at hx
 exact(qEm ho hx hy).as (by show Value.int .u64 _=Value.int .u64 _;rw [qBD hr.2,Nat.min_eq_left hr.1,qBD (Nat.lt_of_le_of_lt (Nat.div_le_self _ _) hr.2)])
theorem qSl{P:Program}{env:Env}{rs:List Hp}{o:Oper}{t u v x y z k a b c}(ho:o.op= .call {callee:= .builtin .min,args:= #[x,y,z],argTypes:= #[t,u,v]})(hx:ev env x=some (.int k a))(hy:ev env y=some (.int k b))(hz:ev env z=some (.int k c)):YOp P env rs o (.int k (min (min a b) c)):=λn ac w hk _=>by
 by_cases h:b<a<;>by_cases h2:c<(if b<a then b else a)<;>simp [execOp,ho,hk.ev hx,hk.ev hy,hk.ev hz,resolve,invoke,builtin,Builtin.min_,Builtin.min2,h] at h2⊢
 all_goals first|rw [if_pos (by omega)]|rw [if_neg (by omega)]
 all_goals omega
theorem and32{n:Nat}(h:n<4294967296):n&&&4294967295=n:=by
 have:=Nat.and_two_pow_sub_one_eq_mod n 32
 rw [show(2^32-1:Nat)=4294967295 from rfl] at this
 rw [this];exact Nat.mod_eq_of_lt h
theorem qQI(F:Hp)(n:Nat)(hn:n<4294967296):
    Ct prog 144 [N64 1,N64 n] [F] (λ_:Unit=> .tuple #[N64 0,N64 n]) (λ_=>True) (λ_=> [F]):=by
  refine Ct.walk func144 rfl ntmps144 rfl (λw0 hw0=>?_)
  change J _ [(0,_),(1,_)] _ _ _
  refine J.g λK1 hK1=>J.p 2 O<|J.c hK1<|J.E 0 1 ?_
  refine J.g λK2 hK2=>J.b O<|J.f ((qJl (a:=1) (b:=4294967295) O O O (by omega)).as (v':=N64 1) O) O<|J.b O<|J.c hK2<|J.G 0 1 6 ?_
  refine J.g λK3 hK3=>J.b O<|J.f ((qFQ (a:=1) (m:=32) O O O (by omega)).as (v':=N64 0) O) O<|J.b O<|J.c hK3<|J.O 0 1 6 7 ?_
  refine J.g λK4 hK4=>J.b O<|J.f ((qJl (a:=n) (b:=4294967295) O O O (by omega)).as (v':=N64 n) (congrArg N64 (and32 hn))) O<|J.b O<|J.c hK4<|J.a0 0 1 6 7 8 ?_
  refine J.g λK5 hK5=>J.b O<|J.f ((qFQ (a:=n) (m:=32) O O O (by omega)).as (v':=N64 0) (congrArg N64 (Nat.div_eq_of_lt (by omega)))) O<|J.b O<|J.c hK5<|J.b8 0 1 6 7 8 9 ?_
  refine J.g λK6 hK6=>J.p 2 O<|J.f ((qFS (a:=1) (b:=n) O O O (by omega)).as (v':=N64 n) (congrArg N64 (Nat.one_mul n))) O<|J.b O<|J.c hK6<|J.c2 0 1 6 7 8 9 10 ?_
  refine J.g λK7 hK7=>J.p 2 O<|J.f ((qFS (a:=0) (b:=n) O O O (by omega)).as (v':=N64 0) (congrArg N64 (Nat.zero_mul n))) O<|J.b O<|J.f ((qFQ (a:=n) (m:=32) O O O (by omega)).as (v':=N64 0) (congrArg N64 (Nat.div_eq_of_lt (by omega)))) O<|J.f ((qFU (a:=0) (b:=0) O O O (by omega)).as (v':=N64 0) O) O<|J.b O<|J.c hK7<|J.b8 0 1 6 7 9 11 ?_
  refine J.g λK8 hK8=>J.b O<|J.f ((qJl (a:=0) (b:=4294967295) O O O (by omega)).as (v':=N64 0) O) O<|J.b O<|J.c hK8<|J.c2 0 1 6 7 9 11 12 ?_
  refine J.g λK9 hK9=>J.b O<|J.f ((qFQ (a:=0) (m:=32) O O O (by omega)).as (v':=N64 0) O) O<|J.b O<|J.c hK9<|J.c2 0 1 6 7 9 12 13 ?_
  refine J.g λK10 hK10=>J.p 3 O<|J.f ((qFS (a:=1) (b:=0) O O O (by omega)).as (v':=N64 0) O) O<|J.f ((qFU (a:=0) (b:=0) O O O (by omega)).as (v':=N64 0) O) O<|J.b O<|J.c hK10<|J.b8 0 1 7 9 12 13 ?_
  refine J.g λK11 hK11=>J.p 2 O<|J.f ((qFS (a:=0) (b:=0) O O O (by omega)).as (v':=N64 0) O) O<|J.b O<|J.f ((qFU (a:=0) (b:=0) O O O (by omega)).as (v':=N64 0) O) O<|J.b O<|J.f ((qFQ (a:=0) (m:=32) O O O (by omega)).as (v':=N64 0) O) O<|J.f ((qFU (a:=0) (b:=0) O O O (by omega)).as (v':=N64 0) O) O<|J.b O<|J.c hK11<|J.G 0 1 4 ?_
  refine J.g λK12 hK12=>J.p 2 O<|J.f ((qFS (a:=1) (b:=n) O O O (by omega)).as (v':=N64 n) (congrArg N64 (Nat.one_mul n))) O<|J.b O<|J.c hK12<|J.E 4 5 ?_
  exact J.D<|J.b2 hw0 (λ_ _ h=>h) (qB2 O O O) (qAn () O trivial [0] O (by decide))
theorem qTe(F:Hp)(n:Nat)(hn:n<4294967296):
    Ct prog 77 [N64 1,N64 n] [F] (λ_:Unit=> .tuple #[N64 0,N64 n]) (λ_=>True) (λ_=> [F]):=by
  refine Ct.walk func77 rfl ntmps77 rfl (λw0 hw0=>?_)
  change J _ [(0,_),(1,_)] _ _ _
  refine J.g λK1 hK1=>J.p 2 O<|J.c hK1<|J.E 0 1 ?_
  refine J.j λK2 hK2=>J.a5 ?_
  refine J.W hK2<|J.E 0 1 ?_
  refine J.g λK3 hK3=>J.p 2 O<|J.k (qAA O O ent144 (Ct.use0 (λF' hF=>qQI F' n hn))) O λg25 _=>J.p 5 O<|J.c hK3<|J.E 8 9 ?_
  refine J.g λK4 hK4=>J.p 4 O<|J.c hK4<|J.E 4 5 ?_
  exact J.D<|J.b2 hw0 (λ_ _ h=>h) (qB2 O O O) (qAn () O trivial [0] O (by decide))
theorem qKG(F mr:Hp)(g:Nat)(l:List Value)(bs:List UInt8)(A:Option Addr)(c:Nat)(p:Option Addr)(hb:Bld g 0 l mr bs A c p):
    Ct prog 81 [Ptr g] [blk g l 131,F] (λ_:Unit=>I bs.length) (λ_=>True) (λ_=> [blk g l 131,F]):=by
  refine Ct.walk func81 rfl ntmps81 rfl (λw0 hw0=>?_)
  change J _ [(0,_)] _ _ _
  refine J.g λK1 hK1=>J.b O<|J.c hK1<|J.u 0 ?_
  refine J.g λK2 hK2=>J.b O<|J.f (qAC O O) O<|J.a3 1 qCt qHq O O O O O<|J.f (qAE 0 O O O qMN hb.a1) O<|J.f (qAP qBV O O) O<|J.b O<|J.c hK2<|J.u 2 ?_
  exact J.D<|J.M hw0 O () O trivial [0,1] O (by decide)
theorem qIK(F:Hp)(n:Nat)(h2:2≤n)(h3:n≤8192):
    Ct prog 26 [Str [0],I n] [F] (λ_:Unit=>Str (List.replicate n 0)) (λ_=>True) (λ_=> [F]):=by
  refine Ct.walk func26 rfl ntmps26 rfl (λw0 hw0=>?_)
  change J _ [(0,_),(1,_)] _ _ _
  refine J.g λK1 hK1=>J.b O<|J.c hK1<|J.E 0 1 ?_
  refine J.j λK2 hK2=>J.g λK3 hK3=>J.b O<|J.c hK3<|J.G 0 1 11 ?_
  refine J.V<|J.g λK4 hK4=>J.f ((qAY O O O).no (by omega)) O<|J.b O<|J.c hK4<|J.O 0 1 11 12 ?_
  refine J.a5 ?_
  refine J.g λK5 hK5=>J.f ((qAY O O O).no (by omega)) O<|J.b O<|J.c hK5<|J.G 0 1 14 ?_
  refine J.a5 ?_
  refine J.b7<|J.a6<|J.A (J.H hK2 ?_)
  refine J.E 0 1 ?_
  refine J.j λK6 hK6=>J.g λK7 hK7=>J.b O<|J.f ((qAT O O O).no (by omega)) O<|J.c hK7<|J.G 0 1 18 ?_
  refine J.a5 ?_
  refine J.W hK6<|J.E 0 1 ?_
  refine J.g λK8 hK8=>J.b O<|J.f (qAl u9_ O O) O<|J.f ((qAs O O u3_ qGy (m:=1) (by omega)).as (v':=N64 1) (N_W (by omega)).symm) O<|J.b O<|J.f ((qAs O O u3_ qGy (m:=n) (by omega)).as (v':=N64 n) (N_W (by omega)).symm) O<|J.k (qAA O O ent77 (Ct.use0 (λF' hF=>qTe F' n (by omega)))) O λg26 _=>J.p 5 O<|J.c hK8<|J.G 0 5 6 ?_
  refine J.j λK9 hK9=>J.g λK10 hK10=>J.b O<|J.f ((qAz O O O).no (by decide)) O<|J.p 2 O<|J.Z ((qAz O O O).no (by omega)) O<|J.b O<|J.c hK10<|J.G 0 6 34 ?_
  refine J.a5 ?_
  refine J.W hK9<|J.E 0 6 ?_
  refine J.g λK11 hK11=>J.b O<|J.f (qDG O O qGy u3_ (by omega)) O<|J.b O<|J.c hK11<|J.E 0 7 ?_
  refine J.j λK12 hK12=>J.g λK13 hK13=>J.b O<|J.f (qAl u9_ O O) O<|J.f ((qAY O O O).no (by decide)) O<|J.c hK13<|J.G 0 7 40 ?_
  refine J.a5 ?_
  refine J.W hK12<|J.E 0 7 ?_
  refine J.j λK14 hK14=>J.g λK15 hK15=>J.b O<|J.f (qBW (i:=0) (c:=0) u9_ O O O O) O<|J.c hK15<|J.G 0 7 42 ?_
  refine J.V<|J.j λK16 hK16=>J.g λK17 hK17=>J.f ((qAY O O O).no (by decide)) O<|J.b O<|J.c hK17<|J.O 0 7 42 43 ?_
  refine J.a5 ?_
  refine J.g λK18 hK18=>J.f ((qAY O O O).no (by decide)) O<|J.b O<|J.c hK18<|J.O 0 7 42 43 ?_
  refine J.a5 ?_
  refine J.g λK19 hK19=>J.f ((qAY O O O).no (by decide)) O<|J.b O<|J.c hK19<|J.O 0 7 42 43 ?_
  refine J.a5 ?_
  refine J.g λK20 hK20=>J.f ((qAY O O O).no (by decide)) O<|J.b O<|J.c hK20<|J.O 0 7 42 43 ?_
  refine J.a5 ?_
  refine J.L<|J.f ((qAY O O O).no (by decide)) O<|J.b O<|J.c hK16<|J.G 0 7 43 ?_
  refine J.a5 ?_
  refine J.b7<|J.a6<|J.A (J.H hK14 ?_)
  refine J.E 0 7 ?_
  refine J.g λK21 hK21=>J.p 2 O<|J.c hK21<|J.G 0 7 8 ?_
  refine J.j λK22 hK22=>J.g λK23 hK23=>J.b O<|J.f ((qAz O O O).no (by omega)) O<|J.c hK23<|J.O 0 7 8 96 ?_
  refine J.a5 ?_
  refine J.W hK22<|J.G 0 7 8 ?_
  refine J.g λK24 hK24=>J.k (qAN O zeroValue131 O) O λg9 _=>?_
  change J _ _ _ [F,blk g9 _ 131] _
  refine J.d5 [1,2,0] [blk g9 [.pointer none,.slice none 0 0] 131,λ_=>none,F] O (by decide)<|J.c hK24<|J.O 0 7 8 9 ?_
  refine J.g λK25 hK25=>J.b O<|J.k (qAA O O ent79 (qLQ F g9 131 0 [.pointer none,.slice none 0 0] none ⟨O,.inl O,O,qBU.nil,.inl O⟩ qJw n (by omega))) O ?_
  rintro⟨l57,m57⟩ ⟨A57,c57,hb57,hu57⟩
  change J _ _ _ [blk g9 l57 131,m57,F] _
  dsimp only at hb57 hu57
  refine J.c hK25<|J.O 0 7 8 9 ?_
  refine J.g λK26 hK26=>J.b O<|J.k (qAA O O ent80 (qBC F m57 g9 131 0 l57 [] A57 c57 _ hb57 (by rw [hu57.1];exact qJw) [0] (by decide))) rfl ?_
  rintro⟨l61,m61⟩ ⟨A61,c61,hb61,hu61⟩
  change J _ _ _ [blk g9 l61 131,m61,_] _
  dsimp only at hb61 hu61
  refine J.c hK26<|J.G 7 8 9 ?_
  refine J.j λK27 hK27=>J.V<|J.b6 (X:=Nat×List Value×Hp×Option Addr×Nat) (λx=> [(7,I n),(8,I n),(9,Ptr g9)]) (λx=> [blk g9 x.2.1 131,x.2.2.1,F]) (λx=>1≤x.1∧x.1≤n∧x.2.1.length=2∧Bld g9 0 x.2.1 x.2.2.1 (List.replicate x.1 (0:UInt8)) x.2.2.2.1 x.2.2.2.2 (some ⟨g9,0,none⟩)) (λx=>n-x.1) (1,l61,m61,A61,c61) (⟨by omega,by omega,by rw [hu61.1,hu57.1];rfl,hb61⟩) ⟨rfl,rfl,rfl,trivial⟩ (λ_ h=>h) ?_
  rintro⟨k,l,m,A1,c1⟩ ⟨hk1,hkn,hll,hb⟩ I3 hI3
  dsimp only at hk1 hkn hll hb⊢
  refine J.j λK28 hK28=>J.g λK29 hK29=>J.k (qAA O O ent81 (Ct.use1 0 (m':=λ_:Unit=>blk g9 l 131) (new:=λ_=> []) O (λF' _=>qKG F' m g9 l (List.replicate k (0:UInt8)) A1 c1 _ hb))) O λg111 _=>?_
  change J _ _ _ [blk g9 l 131,m,F] _
  refine J.b O<|J.f ((qAT O O O).as (v':= .bool (decide (k<n))) (congrArg Value.bool (decide_eq_decide.2 (by rw [List.length_replicate];omega)))) rfl<|J.c hK29<|J.O 7 8 9 113 ?_
  refine J.a2 O (λh113=>?_) (λh113=>?_)
  ·
    refine J.W hK28<|J.G 7 8 9 ?_
    refine J.V<|J.g λK30 hK30=>J.b O<|J.k (qAA O O ent81 (Ct.use1 0 (m':=λ_:Unit=>blk g9 l 131) (new:=λ_=> []) O (λF' _=>qKG F' m g9 l (List.replicate k (0:UInt8)) A1 c1 _ hb))) O λg115 _=>?_
    change J _ _ _ [_,_,_] _
    refine J.f ((qAw O O O (by rw [List.length_replicate];omega)).as (v':=I (n-k:Nat)) (congrArg I (by rw [List.length_replicate];omega))) rfl<|J.k (qAA rfl rfl ent81 (Ct.use1 0 (m':=λ_:Unit=>blk g9 l 131) (new:=λ_=> []) rfl (λF' _=>qKG F' m g9 l (List.replicate k (0:UInt8)) A1 c1 _ hb))) rfl λg117 _=>?_
    change J _ _ _ [_,_,_] _
    refine J.b O<|J.f ((qSl O O O O).as (v':=I (min (n-k) k:Nat)) (congrArg I (by rw [List.length_replicate];omega))) rfl<|J.b rfl<|J.c hK30<|J.O 7 8 9 10 ?_
    refine J.L<|J.k (qAA O O ent82 (qDN F m g9 131 0 l (List.replicate k (0:UInt8)) A1 c1 _ hb (by rw [List.length_replicate];omega))) rfl ?_
    rintro m20 hb20
    change J _ _ _ [_,m20,_] _
    refine J.b O<|J.f ((qA1 (l:=0) (h:=min (n-k) k) u9_ O O O O ⟨by omega,by rw [List.length_replicate];omega⟩).as (v':=Str (List.replicate (min (n-k) k) (0:UInt8))) (by rw [List.drop_zero,List.take_replicate];congr 2;omega)) rfl<|J.k (qAA rfl rfl ent80 (qBC F m20 g9 131 0 l (List.replicate k (0:UInt8)) A1 c1 _ hb20 (by rw [hll];exact qJw) (List.replicate (min (n-k) k) (0:UInt8)) (by simp only [List.length_replicate];omega))) rfl ?_
    rintro⟨l23,m23⟩ ⟨A23,c23,hb23,hu23⟩
    change J _ _ _ [blk g9 l23 131,m23,_] _
    dsimp only at hb23 hu23
    rw [List.replicate_append_replicate] at hb23
    exact J.a7<|J.a6<|J.A<|J.a8 (k+min (n-k) k,l23,m23,A23,c23) (λx (hx:_∧n-x.1<n-k)=>hI3 x hx.1 hx.2) ⟨⟨by dsimp only;omega,by dsimp only;omega,by rw [hu23.1];exact hll,hb23⟩,by dsimp only;omega⟩ ⟨rfl,rfl,rfl,trivial⟩ (λ_ h=>h)
  refine J.b4<|J.a1<|J.a1<|J.b5 ?_
  refine J.A (J.H hK27 ?_)
  refine J.u 9 ?_
  refine J.j λK31 hK31=>?_
  have hkn2:k=n:=by omega
  subst hkn2
  refine J.L<|J.k (qAA O O ent82 (qDN F m g9 131 0 l (List.replicate k (0:UInt8)) A1 c1 _ hb (by rw [List.length_replicate];omega))) rfl ?_
  rintro m24 _
  change J _ _ _ [_,m24,_] _
  refine J.b O<|J.c hK31<|J.u 4 ?_
  exact J.D<|J.M hw0 O () O trivial [2] O (by decide)
theorem qPo(F:Hp):Ct prog 26 [Str [0],I 0] [F] (λ_:Unit=>Str []) (λ_=>True) (λ_=> [F]):=by
 refine Ct.walk func26 rfl ntmps26 rfl (λw0 hw0=>?_)
 change J _ [(0,_),(1,_)] _ _ _
 refine J.g λK1 hK1=>J.b O<|J.c hK1<|J.E 0 1 ?_
 refine J.j λK2 hK2=>J.g λK3 hK3=>J.b O<|J.c hK3<|J.G 0 1 11 ?_
 refine J.V<|J.g λK4 hK4=>J.f ((qAY O O O).yes (by omega)) O<|J.b O<|J.c hK4<|J.O 0 1 11 12 ?_
 refine J.d0 ?_
 refine J.g λK5 hK5=>J.b O<|J.c hK5<|J.u 4 ?_
 exact J.D<|J.b1<|J.a4<|J.M hw0 O () O trivial [0] O (by decide)
theorem qPn(F:Hp):Ct prog 26 [Str [0],I 1] [F] (λ_:Unit=>Str [0]) (λ_=>True) (λ_=> [F]):=by
 refine Ct.walk func26 rfl ntmps26 rfl (λw0 hw0=>?_)
 change J _ [(0,_),(1,_)] _ _ _
 refine J.g λK1 hK1=>J.b O<|J.c hK1<|J.E 0 1 ?_
 refine J.j λK2 hK2=>J.g λK3 hK3=>J.b O<|J.c hK3<|J.G 0 1 11 ?_
 refine J.V<|J.g λK4 hK4=>J.f ((qAY O O O).no (by omega)) O<|J.b O<|J.c hK4<|J.O 0 1 11 12 ?_
 refine J.a5 ?_
 refine J.g λK5 hK5=>J.f ((qAY O O O).yes (by omega)) O<|J.b O<|J.c hK5<|J.G 0 1 14 ?_
 refine J.d0 ?_
 refine J.g λK6 hK6=>J.p 2 O<|J.c hK6<|J.u 4 ?_
 exact J.D<|J.b1<|J.a4<|J.M hw0 O () O trivial [0] O (by decide)
theorem qEA(F:Hp)(n:Nat)(h3:n≤8192):
    Ct prog 26 [Str [0],I n] [F] (λ_:Unit=>Str (List.replicate n 0)) (λ_=>True) (λ_=> [F]):=by
  match n,h3 with
  |0,_=>exact qPo F
  |1,_=>exact qPn F
  |n+2,h3=>exact qIK F (n+2) (by omega) h3
end Go.Proofs.YtllnfioplpipiaaGreatDoor
