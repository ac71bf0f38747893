/- A part of the proof. -/
import Derived.Test.YtcgcjaflllmlpaaGreatDoorTopCkG16
set_option maxRecDepth 100000
set_option maxHeartbeats 1000000
set_option linter.unusedSimpArgs false
set_option linter.unusedVariables false
namespace Go.Proofs.YtcgcjaflllmlpaaGreatDoor
open Go Go.Fw Go.Proofs.Tryz
def qCU(ok:Bool)(e bad:Int):Int:=if ok=false∧bad=0 then e else bad
def qHc(ok:Bool)(e bad:Int)(l:List Value):List Value:=if ok=false∧bad=0 then qBB l 2 [I e] else l
theorem qJV{ok:Bool}{e bad:Int}{l:List Value}(hl:l.length=3):(qHc ok e bad l).length=3:=by
 unfold qHc
 split
 · rw [qC7 xB];exact hl
 · exact hl
theorem qJX{ok:Bool}{e bad:Int}{l:List Value}(hl:l.length=3)(hb:l[2]?=some (I bad)):(qHc ok e bad l)[2]?=some (I (qCU ok e bad)):=by
 unfold qHc qCU
 split
 · exact qC8 xB
 · exact hb
theorem qJW{ok:Bool}{e bad:Int}{g:Nat}{l:List Value}{mr:Hp}{bs:xA}{A:Option Addr}{c:Nat}{p:Option Addr}(hl:l.length=3)(hb:Bld g 0 l mr bs A c p):Bld g 0 (qHc ok e bad l) mr bs A c p:=by
 unfold qHc
 split
 · exact⟨(qB2 xB xC).trans hb.a0,hb.self,(qB2 xB xC).trans hb.a1,hb.row,hb.cap⟩
 · exact hb
theorem qR1(F:Hp)(g:Nat)(l:List Value)(hl:l.length=3)(bad:Int)(hb:l[2]?=some (I bad))(e:Int):
    Ct prog 135 [Ptr g,.bool true,I e] [blk g l 158,F] (λ_:Unit=> .bool (decide (qCU true e bad=0))) (λ_=>True) (λ_=> [blk g (qHc true e bad l) 158,F]):=by
  refine Ct.walk func135 O ntmps135 O (λw0 hw0=>?_)
  refine J.g λ_ j1=>J.b O<|J.c j1<|J.q λ_ j2=>J.g λ_ j3=>J.b O<|J.f (qAt O O) O<|J.k 7 O<|J.c j3<|J.a2 ?_
  exact J.T j2<|J.g λ_ j4=>J.b O<|J.f (qAB O O) O<|J.M 2 qGf qMi O O O O O<|J.f (qAC 0 O O O qS1 (by first|exact hb|exact qC8 xB)) O<|J.f (qAX O O O) O<|J.b O<|J.c j4<|J.A<|J.E hw0 O () (congrArg Value.bool (decide_eq_decide.2 (by unfold qCU;rw [if_neg (show¬(true=false∧bad=0) from λh=>by cases h.1)]))) trivial [0,1] (by show [blk g _ _,F]= [blk g (qHc true e bad l) _,F];unfold qHc;rw [if_neg (show¬(true=false∧bad=0) from λh=>by cases h.1)]) xC
theorem qPK(F:Hp)(g:Nat)(l:List Value)(hl:l.length=3)(bad:Int)(hb:l[2]?=some (I bad))(e:Int):
    Ct prog 135 [Ptr g,.bool false,I e] [blk g l 158,F] (λ_:Unit=> .bool (decide (qCU false e bad=0))) (λ_=>True) (λ_=> [blk g (qHc false e bad l) 158,F]):=by
  refine Ct.walk func135 O ntmps135 O (λw0 hw0=>?_)
  refine J.g λ_ j1=>J.b O<|J.c j1<|J.q λ_ j2=>J.g λ_ j3=>J.b O<|J.f (qAt O O) O<|J.k 2 O<|J.D (qAB O O) O<|J.D (qAA O O qGf O qMi O) O<|J.D (qAC 0 O O O qS1 hb) O<|J.D (qAX O O O) O<|J.b O<|J.c j3<|J.a0 O (λh15=>?_) (λh15=>?_)
  ·
    exact J.H<|J.k 2 O<|J.f (qAB O O) O<|J.M 2 qGf qMi O O O O O<|J.a6 (qAT (i:=0) O O O O O qMi O (by rw [hl];exact jK 3)) O O λ_ _=>J.c j2<|J.g λ_ j4=>J.b O<|J.f (qAB O O) O<|J.M 2 qGf qMi O O O O O<|J.f (qAC 0 O O O qS1 (by first|exact hb|exact qC8 xB)) O<|J.f (qAX O O O) O<|J.b O<|J.c j4<|J.A<|J.E hw0 O () (congrArg Value.bool (decide_eq_decide.2 (by unfold qCU;rw [if_pos (show false=false∧bad=0 from⟨O,xB⟩)]))) trivial [0,1] (by show [blk g _ _,F]= [blk g (qHc false e bad l) _,F];unfold qHc;rw [if_pos (show false=false∧bad=0 from⟨O,xB⟩)]) xC
  exact J.T j2<|J.g λ_ j5=>J.b O<|J.f (qAB O O) O<|J.M 2 qGf qMi O O O O O<|J.f (qAC 0 O O O qS1 (by first|exact hb|exact qC8 xB)) O<|J.f (qAX O O O) O<|J.b O<|J.c j5<|J.A<|J.E hw0 O () (congrArg Value.bool (decide_eq_decide.2 (by unfold qCU;rw [if_neg (show¬(false=false∧bad=0) from λh=>h15 h.2)]))) trivial [0,1] (by show [blk g _ _,F]= [blk g (qHc false e bad l) _,F];unfold qHc;rw [if_neg (show¬(false=false∧bad=0) from λh=>h15 h.2)]) xC
theorem qMQ(F:Hp)(g:Nat)(l:List Value)(hl:l.length=3)(bad:Int)(hb:l[2]?=some (I bad))(ok:Bool)(e:Int):
    Ct prog 135 [Ptr g,.bool ok,I e] [blk g l 158,F] (λ_:Unit=> .bool (decide (qCU ok e bad=0))) (λ_=>True) (λ_=> [blk g (qHc ok e bad l) 158,F]):=by
  cases ok
  · exact qPK F g l hl bad hb e
  · exact qR1 F g l hl bad hb e
def Wtr(m:Hp)(g:Nat)(bs:xA)(bad:Int):Prop:= ∃l mr A c p,m=U [blk g l 158,mr]∧Dj (blk g l 158) mr∧l.length=3∧Bld g 0 l mr bs A c p∧l[2]?=some (I bad)
theorem lies(l:List Value)(hl:l.length=3):liesAt prog prog.depth 158 (l.length/prog.cellsOf 158) 0 156 1=true:=by rw [hl];kernel_rfl
def okN(n:UInt64)(size:Nat):Bool:=decide (n.toNat<2^(8*size))
def qLY(n:UInt64)(size:Nat)(bs:xA)(bad:Int):xA:=if qCU (okN n size) 10 bad=0 then bs++Sha.numB n size else bs
def okF(s:xA)(size:Nat):Bool:=decide (s.length=size)
def qLa(s:xA)(size:Nat)(bs:xA)(bad:Int):xA:=if qCU (okF s size) 10 bad=0 then bs++s else bs
theorem qRF(n:UInt64)(size t:Nat)(h:t<size):(Sha.numB n size).take (t+1)=(Sha.numB n size).take t++ [(UInt64.ofNat (n.toNat/2^min (8*(size-1-t)) 64)).toUInt8]:=by
 rw [jQ (by rw [Sha.numB_length];exact h)]
 congr 2
 simp [Sha.numB]
theorem qTf(n:UInt64)(size:Nat)(h:size<8):(((UInt64.ofNat (n.toNat/2^min (8*size) 64)).toNat:Int)=0)↔n.toNat<2^(8*size):=by
  have hn:=n.toNat_lt
  rw [zB,jb (zR (zt _ _) hn),je xB]
  have hp:=zA (8*size)
  constructor
  · intro h0
    have h1:n.toNat/2^(8*size)=0:=xB
    rcases Nat.div_eq_zero_iff.1 h1 with h2|h2
    · omega
    · exact h2
  · intro h0
    rw [zL h0];rfl
theorem qDw(F m:Hp)(g:Nat)(bs:xA)(bad:Int)(hw:Wtr m g bs bad)(hlen:bs.length≤1099511627776)(n:UInt64)(size:Nat)(h1:1≤size)(h8:size<8):
    Ct prog 67 [Ptr g,W64 n,I size] [m,F] (λ_:Hp=>Ptr g) (λm'=>Wtr m' g (qLY n size bs bad) (qCU (okN n size) 10 bad)) (λm'=> [m',F]):=by
  obtain ⟨l,mr,A,c,p,rfl,hd,hl,hb,hbad⟩:=hw
  have hfl:=qJV (ok:=(okN n size)) (e:=10) (bad:=bad) hl
  have hfb:=qJW (ok:=(okN n size)) (e:=10) (bad:=bad) hl hb
  have hf2:=qJX (ok:=(okN n size)) (e:=10) hl hbad
  refine Ct.walk func67 O ntmps67 O (λw0 hw0=>?_)
  refine J.e8 hd ?_
  refine J.g λ_ j1=>J.b O<|J.c j1<|J.q λ_ j2=>J.g λ_ j3=>J.b O<|J.f ((qA4 underlying159 O O O).as (v':= .bool false) O) O<|J.k 3 O<|J.D ((qBL O O O).yes xB) O<|J.k 2 O<|J.D ((qCY O O O).yes xB) O<|J.k 3 O<|J.D ((qAX O O O).no xB) O<|J.k 3 O<|J.D ((qDe O O O xB).nat (8*size) xB) O<|J.D (qGA O O O) O<|J.D ((qAX O O O).as (v':= .bool (okN n size)) (congrArg Value.bool (by unfold okN;exact decide_eq_decide.2 (qTf n size h8)))) O<|J.k 2 O<|J.c8 (qAK O O ent (Ct.use1 0 O (λF' _=>qMQ F' g l hl bad hbad (okN n size) 10))) O λg29 _=>J.D (qG6 O O) O<|J.b O<|J.c j3<|J.a0 O (λh31=>?_) (λh31=>?_)
  ·
    exact J.g λ_ j4=>J.k 2 O<|J.c j4<|J.A<|J.W<|J.b0 hw0 (λ_ _ h=>h) (qKI O O) (qCX (U [blk g (qHc (okN n size) 10 bad l) 158,mr]) O (λhd=>⟨_,mr,A,c,p,O,hd,hfl,by unfold qLY;rw [if_neg xB];exact hfb,hf2⟩) [0,1,2] O O xC)
  refine J.T j2<|J.q λ_ j5=>J.q λ_ j6=>?_
  have hok:qCU (okN n size) 10 bad=0:=xB
  refine J.H<|J.b O<|J.f ((qA3 O O O xB).as (v':=I ((size:Int)-1-((0:Nat):Int))) (congrArg I xB)) O<|J.b O<|J.c j6<|J.V<|J.b6 (X:=Nat×List Value×Hp) (λx=> [(0,Ptr g),(1,W64 n),(7,I ((size:Int)-1-(x.1:Int)))]) (λx=> [blk g x.2.1 158,x.2.2,F]) (λx=>x.1≤size∧x.2.1.length=3∧x.2.1[2]?=some (I (qCU (okN n size) 10 bad))∧ ∃A c p,Bld g 0 x.2.1 x.2.2 (bs++(Sha.numB n size).take x.1) A c p) (λx=>size-x.1) (0,(qHc (okN n size) 10 bad l),mr) (⟨jG _,hfl,hf2,A,c,p,by rw [zg,jR];exact hfb⟩) ⟨O,O,O,trivial⟩ (λ_ h=>h) ?_
  rintro⟨t,l2,mr2⟩ ⟨ht,hl2,hbad2,A2,c2,p2,hb2⟩ I0 hI0
  dsimp only at ht hl2 hbad2 hb2⊢
  refine J.q λ_ j7=>J.g λ_ j8=>J.b O<|J.f (qBL O O O) O<|J.c j8<|J.a0 O (λh36=>?_) (λh36=>?_)
  ·
    refine J.T j7<|J.q λ_ j9=>J.V<|J.b1 [] [] (.y 0 (.y 1 (.y 2 (.y 3 (.y 4 (.y 5 (.y 6 (.y 7 (.e 8 .nil))))))))) Tryz.wide xF xD ?_
    refine J.L ?_
    refine J.j O (qAB O O) O O<|J.j O (qAA O O qGf O sizeOf156 O) O O<|J.L ?_
    refine J.j O ((qA2 O O).nat (size-1-t) xB) O O<|J.j O ((qDe O O O xB).nat (8*(size-1-t)) xB) O O<|J.j O (qGA O O O) O O<|J.j O (qFt O O qEd u5_) O O<|J.Z O (qAK O O ent (Ct.useA [blk g l2 158,mr2] [F] (A':=λx:List Value×Hp=> [blk g x.1 158,x.2]) (new:=λ_=> []) (λF' _=>qJt F' mr2 g 158 0 l2 (bs++(Sha.numB n size).take t) A2 c2 p2 hb2 (lies l2 hl2) ((UInt64.ofNat (n.toNat/2^min (8*(size-1-t)) 64)).toUInt8) (by rw [jA,jF,Sha.numB_length];omega)))) O xD ?_
    rintro⟨l3,mr3⟩ ⟨A3,c3,hb3,hu3⟩
    dsimp only at hb3 hu3
    rw [jW,←qRF n size t xB] at hb3
    refine J.a9<|J.a3<|J.u (J.G j9 ?_)
    exact J.H<|J.b O<|J.f ((qA3 O O O xB).as (v':=I ((size:Int)-1-((t+1:Nat):Int))) (congrArg I xB)) O<|J.b O<|J.a4<|J.u<|J.a5 (t+1,l3,mr3) (λx (hx:_∧size-x.1<size-t)=>hI0 x hx.1 hx.2) ⟨⟨by dsimp only;omega,hu3.1.trans hl2,(hu3.2 2 xC xC).trans hbad2,A3,c3,_,hb3⟩,by dsimp only;omega⟩ ⟨O,O,O,trivial⟩ (λ_ h=>h)
  refine J.b3<|J.a1<|J.a1<|J.b4 ?_
  refine J.u (J.G j5 ?_)
  refine J.q λ_ j10=>?_
  have hts:t=size:=xB
  subst hts
  rw [jf (by rw [Sha.numB_length];exact jK _)] at hb2
  exact J.H<|J.k 2 O<|J.c j10<|J.A<|J.b0 hw0 (λ_ _ h=>h) (qKI O O) (qCX (U [blk g l2 158,mr2]) O (λhd=>⟨l2,mr2,A2,c2,p2,O,hd,hl2,by unfold qLY;rw [if_pos hok];exact hb2,hbad2⟩) [0,1,2] O O xC)
theorem qDY(F m:Hp)(g:Nat)(bs:xA)(bad:Int)(hw:Wtr m g bs bad)(hlen:bs.length≤1099511627776)(s:xA)(hs:s.length≤1099511627776)(size:Nat):
    Ct prog 101 [Ptr g,Str s,I size] [m,F] (λ_:Hp=>Ptr g) (λm'=>Wtr m' g (qLa s size bs bad) (qCU (okF s size) 10 bad)) (λm'=> [m',F]):=by
  obtain ⟨l,mr,A,c,p,rfl,hd,hl,hb,hbad⟩:=hw
  have hfl:=qJV (ok:=(okF s size)) (e:=10) (bad:=bad) hl
  have hfb:=qJW (ok:=(okF s size)) (e:=10) (bad:=bad) hl hb
  have hf2:=qJX (ok:=(okF s size)) (e:=10) hl hbad
  refine Ct.walk func101 O ntmps101 O (λw0 hw0=>?_)
  refine J.e8 hd ?_
  refine J.g λ_ j1=>J.b O<|J.c j1<|J.q λ_ j2=>J.g λ_ j3=>J.b O<|J.f ((qZE underlying159 O O O).as (v':= .bool true) O) O<|J.k 3 O<|J.D (qAs u9_ O O) O<|J.b O<|J.D ((qAX O O O).as (v':= .bool (okF s size)) (congrArg Value.bool (by unfold okF;exact decide_eq_decide.2 xB))) O<|J.c8 (qAK O O ent (Ct.use1 0 O (λF' _=>qMQ F' g l hl bad hbad (okF s size) 10))) O λg15 _=>J.b O<|J.c j3<|J.a0 O (λh16=>?_) (λh16=>?_)
  ·
    refine J.H<|J.b O<|J.f (qAB O O) O<|J.M 0 qGf sizeOf156 O O O O O<|J.b O<|J.p (qAK O O ent (Ct.useA [blk g (qHc (okF s size) 10 bad l) 158,mr] [F] (A':=λx:List Value×Hp=> [blk g x.1 158,x.2]) (new:=λ_=> []) (λF' _=>qBS F' mr g 158 0 (qHc (okF s size) 10 bad l) bs A c p hfb (lies _ hfl) s xB))) O ?_
    rintro⟨l3,mr3⟩ ⟨A3,c3,hb3,hu3⟩
    dsimp only at hb3 hu3
    exact J.c j2<|J.g λ_ j4=>J.k 2 O<|J.c j4<|J.A<|J.b0 hw0 (λ_ _ h=>h) (qKI O O) (qCX (U [blk g l3 158,mr3]) O (λhd=>⟨l3,mr3,A3,c3,_,O,hd,hu3.1.trans hfl,by unfold qLa;rw [if_pos xG];exact hb3,(hu3.2 2 xC xC).trans hf2⟩) [0,1,2] O O xC)
  exact J.T j2<|J.g λ_ j5=>J.k 2 O<|J.c j5<|J.A<|J.b0 hw0 (λ_ _ h=>h) (qKI O O) (qCX (U [blk g (qHc (okF s size) 10 bad l) 158,mr]) O (λhd=>⟨_,mr,A,c,p,O,hd,hfl,by unfold qLa;rw [if_neg xG];exact hfb,hf2⟩) [0,1,2] O O xC)
theorem qN1{P:Program}{X:Type}{f:FuncId}{vs:List Value}{a b:Hp}{r:List Hp}{val:X→Value}{φ:X→Prop}{A B:X→Hp}{ψ:Hp→Prop}{v:Value}(hd:Dj a b)(hv: ∀x,φ x→val x=v)(hp: ∀x,φ x→Dj (A x) (B x)→ψ (U [A x,B x]))(h:Ct P f vs (a::b::r) val φ (λx=>A x::B x::r)):Ct P f vs (U [a,b]::r) (λ_:Hp=>v) ψ (λm=>m::r):=
 λw0 w hs=>(h w0 w (hs.splitU hd)).mono λe w' ⟨x,he,hx,hs'⟩=>⟨U [A x,B x],by rw [he,hv x hx],hp x hx hs'.dj2,hs'.joinU⟩
theorem failW(F m:Hp)(g:Nat)(bs:xA)(bad:Int)(hw:Wtr m g bs bad)(hlen:bs.length≤1099511627776)(ok:Bool)(e:Int):
    Ct prog 135 [Ptr g,.bool ok,I e] [m,F] (λ_:Hp=> .bool (decide (qCU ok e bad=0))) (λm'=>Wtr m' g bs (qCU ok e bad)) (λm'=> [m',F]):=by
  obtain ⟨l,mr,A,c,p,rfl,hd,hl,hb,hbad⟩:=hw
  exact qN1 (A:=λ_:Unit=>blk g (qHc ok e bad l) 158) (B:=λ_=>mr) hd (λ_ _=>rfl) (λ_ _ hd'=>⟨_,mr,A,c,p,O,hd',qJV hl,qJW hl hb,qJX hl hbad⟩) (Ct.use1 0 (m':=λ_:Unit=>blk g (qHc ok e bad l) 158) (new:=λ_=> []) O (λF' _=>qMQ F' g l hl bad hbad ok e))
theorem qJs(F m:Hp)(g:Nat)(bs:xA)(bad:Int)(hw:Wtr m g bs bad)(hlen:bs.length≤2199023255552)(s:xA)(hs:s.length≤1099511627776):
    Ct prog 112 [.pointer (some ⟨g,0,none⟩),Str s] [m,F] (λ_:Hp=> .tuple #[I s.length,.nilIface]) (λm'=>Wtr m' g (bs++s) bad) (λm'=> [m',F]):=by
  obtain ⟨l,mr,A,c,p,rfl,hd,hl,hb,hbad⟩:=hw
  exact qN1 (A:=λx:List Value×Hp=>blk g x.1 158) (B:=λx=>x.2) hd (λ_ _=>rfl) (λx hx hd'=>by obtain ⟨A3,c3,hb3,hu3⟩:=hx;exact⟨x.1,x.2,A3,c3,_,O,hd',hu3.1.trans hl,hb3,(hu3.2 2 xC xC).trans hbad⟩) (qBS F mr g 158 0 l bs A c p hb (lies l hl) s xB)
def okT(s:xA):Bool:=decide (s.length≤4096)
def qLV(s:xA)(bs:xA)(bad:Int):xA:=if qCU (okT s) 2 bad=0 then bs++Sha.numB (UInt64.ofNat s.length) 2++s else bs
theorem qWc{s:xA}{bad:Int}(h:qCU (okT s) 2 bad=0):s.length≤4096∧bad=0:=by
  unfold qCU okT at h
  split at h
  · omega
  · rename_i h1
    refine⟨?_,h⟩
    simp only [decide_eq_false_iff_not] at h1
    omega
theorem qRC{n:Nat}(h:n≤4096):okN (UInt64.ofNat n) 2=true:=by
 unfold okN
 rw [decide_eq_true_iff,zB,jb xB]
 omega
theorem qCm{n:UInt64}{size:Nat}{bs:xA}(h:okN n size=true):qLY n size bs 0=bs++Sha.numB n size:=by
 unfold qLY qCU
 rw [h];rfl
theorem qP7(F m:Hp)(g:Nat)(bs:xA)(bad:Int)(hw:Wtr m g bs bad)(hlen:bs.length≤1099511627776)(s:xA)(hs:s.length≤1099511627776):
    Ct prog 134 [Ptr g,Str s] [m,F] (λ_:Hp=>Ptr g) (λm'=>Wtr m' g (qLV s bs bad) (qCU (okT s) 2 bad)) (λm'=> [m',F]):=by
  refine Ct.walk func134 O ntmps134 O (λw0 hw0=>?_)
  refine J.g λ_ j1=>J.b O<|J.c j1<|J.q λ_ j2=>J.g λ_ j3=>J.b O<|J.f ((qA4 underlying159 O O O).as (v':= .bool false) O) O<|J.k 3 O<|J.D (qAs u9_ O O) O<|J.D ((qCY O O O).as (v':= .bool (okT s)) (congrArg Value.bool (by unfold okT;exact decide_eq_decide.2 xB))) O<|J.c8 (qAK O O ent (failW F m g bs bad hw hlen (okT s) 2)) O ?_
  rintro m1 hw1
  refine J.D (qG6 O O) O<|J.b O<|J.c j3<|J.a0 O (λh14=>?_) (λh14=>?_)
  ·
    exact J.g λ_ j4=>J.k 2 O<|J.c j4<|J.A<|J.W<|J.E hw0 O m1 O (by unfold qLV;rw [if_neg xB];exact hw1) [0,1] O xC
  refine J.T j2<|J.q λ_ j5=>?_
  have hok:qCU (okT s) 2 bad=0:=xB
  have hs4:=(qWc hok).1
  rw [hok] at hw1
  refine J.H<|J.k 2 O<|J.f (qAs u9_ O O) O<|J.f (qAx O O u3_ qEd xB) O<|J.p (qAK O O ent ((qDw F m1 g bs 0 hw1 hlen (UInt64.ofNat s.length) 2 xB xB))) O ?_
  rintro m2 hw2
  rw [qCm (qRC hs4),qRC hs4] at hw2
  refine J.c j5<|J.g λ_ j6=>J.b O<|J.f (qAB O O) O<|J.M 0 qGf sizeOf156 O O O O O<|J.b O<|J.p (qAK O O ent (qJs F m2 g (bs++Sha.numB (UInt64.ofNat s.length) 2) 0 hw2 (by rw [jA,Sha.numB_length];omega) s hs)) O ?_
  rintro m3 hw3
  exact J.c j6<|J.g λ_ j7=>J.k 2 O<|J.c j7<|J.A<|J.E hw0 O m3 O (by unfold qLV;rw [if_pos hok,hok];exact hw3) [0,1] O xC
theorem qDa(F m:Hp)(g:Nat)(bs:xA)(bad:Int)(hw:Wtr m g bs bad)(hlen:bs.length≤2199023255552):
    Ct prog 68 [Ptr g] [m,F] (λ_:Hp=> .tuple #[Str (if bad=0 then bs else []),I bad]) (λm'=>Wtr m' g bs bad) (λm'=> [m',F]):=by
  obtain ⟨l,mr,A,c,p,rfl,hd,hl,hb,hbad⟩:=hw
  refine Ct.walk func68 O ntmps68 O (λw0 hw0=>?_)
  refine J.e8 hd ?_
  refine J.g λ_ j1=>J.k 2 O<|J.c j1<|J.q λ_ j2=>J.V<|J.g λ_ j3=>J.b O<|J.f ((qA4 underlying159 O O O).as (v':= .bool false) O) O<|J.b O<|J.c j3<|J.a2 ?_
  refine J.g λ_ j4=>J.b O<|J.f (qAB O O) O<|J.M 2 qGf qMi O O O O O<|J.f (qAC 0 O O O qS1 hbad) O<|J.f (qAe O O O) O<|J.b O<|J.c j4<|J.a0 O (λh7=>?_) (λh7=>?_)
  ·
    refine J.q λ_ j5=>J.b1 [blk g l 158,mr,F] [] (.y 0 (.y 1 (.y 2 (.y 3 (.y 4 (.y 5 .nil)))))) Tryz.wide xF xD ?_
    refine J.L ?_
    refine J.j O (qAB O O) O O<|J.j O (qAA O O qGf O qMi O) O O<|J.j O (qAC 0 O O O qS1 hbad) O O<|J.b7 ?_
    refine J.b7 ?_
    refine J.a9<|J.u (J.G j5 ?_)
    exact J.A<|J.a8<|J.W<|J.b0 hw0 (λ_ _ h=>h) (qCK O O O) (qCX (U [blk g l 158,mr]) (by rw [if_neg xB]) (λhd=>⟨l,mr,A,c,p,O,hd,hl,hb,hbad⟩) [0,1,2] O O xC)
  refine J.b5<|J.a3<|J.u (J.G j2 ?_)
  refine J.q λ_ j6=>?_
  have hz:bad=0:=xB
  subst hz
  refine J.H<|J.b O<|J.f (qAB O O) O<|J.M 0 qGf sizeOf156 O O O O O<|J.p (qAK O O ent (Ct.useA [blk g l 158,mr] [F] (A':=λx:Hp=> [blk g l 158,x]) (new:=λ_=> []) (λF' _=>qET F' mr g 158 0 l bs A c p hb xB))) O ?_
  rintro mr2 hb2
  exact J.k 2 O<|J.c j6<|J.A<|J.b0 hw0 (λ_ _ h=>h) (qCK O O O) (qCX (U [blk g l 158,mr2]) (O) (λhd=>⟨l,mr2,A,c,p,O,hd,hl,hb2,hbad⟩) [0,1,2] O O xC)
structure RS where
 s:xA
 bad:Int
def RS.can(st:RS)(size:Nat):Bool:=decide (st.bad=0∧size≤st.s.length)
def RS.out(st:RS)(size:Nat):xA:=if st.bad=0∧size≤st.s.length then st.s.take size else []
def RS.take(st:RS)(size:Nat):RS:=if st.bad=0 then(if size≤st.s.length then⟨st.s.drop size,0⟩ else⟨st.s,3⟩) else st
def RS.form(st:RS):RS:=if st.bad=0 then⟨st.s,4⟩ else st
def qFb(l:xA):Nat:=l.foldl (λn c=>n*256+c.toNat) 0
theorem qRL(l:xA)(t:Nat)(ht:t<l.length):qFb (l.take (t+1))=qFb (l.take t)*256+(l[t]'ht).toNat:=by
 rw [jQ ht,qFb,List.foldl_append];rfl
theorem qRM(l:xA)(c:UInt8):qFb (l++ [c])=qFb l*256+c.toNat:=by
 rw [qFb,List.foldl_append];rfl
theorem qUM(l:xA):qFb l.reverse<256^l.length:=by
 induction l with
 |nil=>decide
 |cons c l ih=>
  rw [List.reverse_cons,qRM,jD,jt]
  have:=c.toNat_lt
  omega
theorem qMC(l:xA):qFb l<256^l.length:=by
 have:=qUM l.reverse
 rwa [List.reverse_reverse,List.length_reverse] at this
theorem RS.out_len(st:RS)(size:Nat):(st.out size).length≤size:=by
 unfold RS.out
 split
 · rw [jF];omega
 · exact jG _
theorem qXr(l:xA)(n t:Nat)(h:l.length≤n)(hn:n≤8)(ht:t<l.length):qFb (l.take t)<72057594037927936:=
 zK (qMC _) (jZ (jh xB (show(l.take t).length≤7 by rw [jF];omega)) xC)
def RSb(g:Nat)(st:RS):Hp:=blk g [Str st.s,I st.bad] 271
theorem qXT{P:Program}{env:Env}{rs:List Hp}{o:Oper}{t t':TypeId}{x y:Operand}{a m:Nat}{yk:IntKind}(ho:o.op= .binOp .shl t x y t')(hx:ev env x=some (N64 a))(hy:ev env y=some (.int yk (m:Nat)))(hm:m≤64)(hr:a<18446744073709551616∧a*2^m<18446744073709551616):YOp P env rs o (N64 (a*2^m)):=by
 rw [N_W hr.1] at hx
 exact(qNN ho hx hy).as (by show Value.int .u64 _=Value.int .u64 _;rw [qBF hr.1,je hm,qBF hr.2])
theorem qZF{P:Program}{env:Env}{rs:List Hp}{o:Oper}{t t':TypeId}{x y:Operand}{a b:Nat}(ho:o.op= .binOp .or t x y t')(hx:ev env x=some (N64 a))(hy:ev env y=some (N64 b))(hr:a<18446744073709551616∧b<18446744073709551616):YOp P env rs o (N64 (a|||b)):=by
 rw [N_W hr.1] at hx
 rw [N_W hr.2] at hy
 exact(qQ6 ho hx hy).as (by show Value.int .u64 _=Value.int .u64 _;rw [UInt64.toNat_or,qBF hr.1,qBF hr.2])
theorem qZD(a b:Nat)(h:b<256):a*2^8|||b=a*256+b:=by
 rw [zu,←Nat.two_pow_add_eq_or_of_lt (i:=8) h]
theorem qXC(F:Hp)(s:xA):
    Ct prog 125 [Str s] [F] Ptr (λ_=>True) (λg=> [RSb g ⟨s,0⟩,F]):=by
  refine Ct.walk func125 O ntmps125 O (λw0 hw0=>?_)
  refine J.g λ_ j1=>J.b O<|J.c j1<|J.g λ_ j2=>J.b O<|J.f (qAH (places:= [(0,1),(1,1)]) (r:= [Str s,I 0]) O O O qLf zeroValue271 (λ_=>xI) O) O<|J.p (qAZ O O O) O ?_
  rintro g5 _
  exact J.b O<|J.c j2<|J.A<|J.E hw0 O g5 O trivial [1,0] O xC
theorem qP8(F:Hp)(g:Nat)(st:RS)(size:Nat):
    Ct prog 175 [Ptr g,I size] [RSb g st,F] (λ_:Unit=> .tuple #[Str (st.out size),.bool (st.can size)]) (λ_=>True) (λ_=> [RSb g (st.take size),F]):=by
  obtain ⟨s,bad⟩:=st
  change Ct _ _ _ [blk g [Str s,I bad] 271,F] _ _ _
  refine Ct.walk func175 O ntmps175 O (λw0 hw0=>?_)
  refine J.g λ_ j1=>J.k 2 O<|J.c j1<|J.q λ_ j2=>J.g λ_ j3=>J.b O<|J.f ((qA4 underlying221 O O O).as (v':= .bool false) O) O<|J.k 2 O<|J.D (qAB O O) O<|J.D (qAA O O qLf O qMi O) O<|J.D (qAC 0 O O O qS1 O) O<|J.D (qAe O O O) O<|J.b O<|J.c j3<|J.a0 O (λh15=>?_) (λh15=>?_)
  ·
    exact J.g λ_ j4=>J.k 2 O<|J.c j4<|J.A<|J.W<|J.b0 hw0 (λ_ _ h=>h) (qCK O O O) (qAn () (by unfold RS.out RS.can;simp only [h15,false_and,if_false,decide_false]) trivial [0,1] (by unfold RS.take RSb;simp only [if_neg h15];rfl) xC)
  refine J.T j2<|J.q λ_ j5=>J.g λ_ j6=>J.k 2 O<|J.f (qAB O O) O<|J.M 0 qLf z9_ O O O O O<|J.a7 0 b9_ O O O O O<|J.f (qAs u9_ O O) O<|J.f (qAz O O O) O<|J.c j6<|J.a0 O (λh22=>?_) (λh22=>?_)
  ·
    exact J.g λ_ j7=>J.b O<|J.f (qAB O O) O<|J.M 1 qLf qMi O O O O O<|J.a6 (qAT (i:=0) O O O O O qMi O xD) O O λ_ _=>J.c j7<|J.g λ_ j8=>J.k 2 O<|J.c j8<|J.A<|J.W<|J.b0 hw0 (λ_ _ h=>h) (qCK O O O) (qAn () (by unfold RS.out RS.can;simp only [show¬size≤s.length by omega,and_false,if_false,decide_false]) trivial [0,1] (by unfold RS.take RSb;simp only [show bad=0 by omega,if_true,if_neg (show¬size≤s.length by omega)];rfl) xC)
  exact J.T j5<|J.g λ_ j9=>J.b O<|J.f (qAB O O) O<|J.M 0 qLf z9_ O O O O O<|J.a7 0 b9_ O O O O O<|J.b O<|J.f ((qBD u9_ O O O O ⟨xB,xB⟩).as (v':=Str (s.take size)) (congrArg Str zn)) O<|J.b O<|J.c j9<|J.g λ_ j10=>J.k 2 O<|J.f (qAB O O) O<|J.M 0 qLf z9_ O O O O O<|J.a7 0 b9_ O O O O O<|J.b O<|J.f ((qBD u9_ O O O O ⟨xB,xB⟩).as (v':=Str (s.drop size)) (by rw [jp])) O<|J.f (qAB O O) O<|J.M 0 qLf z9_ O O O O O<|J.a6 (qAT (i:=0) O O O O O z9_ O xD) O O λ_ _=>J.c j10<|J.g λ_ j11=>J.k 3 O<|J.c j11<|J.A<|J.b0 hw0 (λ_ _ h=>h) (qCK O O O) (qAn () (by unfold RS.out RS.can;simp only [show bad=0 by omega,show size≤s.length by omega,and_self,if_true,decide_true]) trivial [0,1] (by unfold RS.take RSb;simp only [show bad=0 by omega,if_true,if_pos (show size≤s.length by omega)];rfl) xC)
theorem qGo(F:Hp)(g:Nat)(st:RS)(size:Nat)(h1:1≤size)(h8:size≤8):
    Ct prog 126 [Ptr g,I size] [RSb g st,F] (λ_:Unit=>N64 (qFb (st.out size))) (λ_=>True) (λ_=> [RSb g (st.take size),F]):=by
  have hol:=st.out_len size
  have hlt:=qMC (st.out size)
  refine Ct.walk func126 O ntmps126 O (λw0 hw0=>?_)
  refine J.g λ_ j1=>J.b O<|J.c j1<|J.q λ_ j2=>J.g λ_ j3=>J.b O<|J.f ((qAS O O O).no xB) O<|J.k 2 O<|J.D ((qAz O O O).no xB) O<|J.b O<|J.c j3<|J.a2 ?_
  refine J.T j2<|J.g λ_ j4=>J.k 2 O<|J.p (qAK O O ent (Ct.use1 0 O (λF' _=>qP8 F' g st size))) O λg20 _=>J.b O<|J.f (qAb O O O) O<|J.f (qAb O O O) O<|J.k 2 O<|J.c j4<|J.g λ_ j5=>J.b O<|J.c j5<|J.q λ_ j6=>J.g λ_ j7=>J.b O<|J.f (qAs u9_ O O) O<|J.b O<|J.c j7<|J.V<|J.b6 (X:=Nat) (λt=> [(5,Str (st.out size)),(7,N64 (qFb ((st.out size).take t))),(24,I (st.out size).length),(25,I t)]) (λ_=> [RSb g (st.take size),F]) (λt=>t≤(st.out size).length) (λt=>(st.out size).length-t) 0 (jG _) ⟨O,O,O,O,trivial⟩ (λ_ h=>h) ?_
  intro t ht I0 hI0
  refine J.g λ_ j8=>J.f (qAS O O O) O<|J.c j8<|J.q λ_ j9=>J.a0 O (λh26=>?_) (λh26=>?_)
  ·
    refine J.T j9<|J.q λ_ j10=>J.V<|J.q λ_ j11=>?_
    have ht1:t<(st.out size).length:=xB
    have hnt:=qXr (st.out size) size t hol h8 ht1
    refine J.H<|J.k 2 O<|J.c j11<|J.H<|J.b O<|J.f (qXT (m:=8) O O O xB xB) O<|J.k 2 O<|J.f (qBb u9_ O O O (jC ht1)) O ?_
    refine J.f (qQ8 O O u5_ qEd) O<|J.f ((qZF O O O (by have:=(UInt8.toNat_lt ((st.out size)[t]'ht1));omega)).as (v':=N64 (qFb ((st.out size).take (t+1)))) (congrArg N64 ((qZD _ _ (UInt8.toNat_lt ((st.out size)[t]'ht1))).trans (qRL _ t ht1).symm))) O<|J.b O<|J.a4<|J.a3<|J.u (J.G j10 ?_)
    exact J.H<|J.f (qAQ O O O xB) O<|J.b O<|J.a4<|J.u<|J.a5 (t+1) (λx (hx:_∧(st.out size).length-x<(st.out size).length-t)=>hI0 x hx.1 hx.2) ⟨xB,xB⟩ ⟨O,O,O,O,trivial⟩ (λ_ h=>h)
  refine J.b3<|J.a1<|J.a1<|J.b4 ?_
  refine J.u (J.G j6 ?_)
  refine J.q λ_ j12=>?_
  have hte:t=(st.out size).length:=xB
  subst hte
  exact J.H<|J.k 2 O<|J.c j12<|J.A<|J.E hw0 O () (by rw [jp]) trivial [0,1] O xC
theorem qKH(F:Hp)(g:Nat)(st:RS)(size:Nat):
    Ct prog 178 [Ptr g,I size] [RSb g st,F] (λ_:Unit=>Str (st.out size)) (λ_=>True) (λ_=> [RSb g (st.take size),F]):=by
  refine Ct.walk func178 O ntmps178 O (λw0 hw0=>?_)
  refine J.g λ_ j1=>J.b O<|J.c j1<|J.q λ_ j2=>J.g λ_ j3=>J.b O<|J.f ((qAS O O O).no xB) O<|J.c j3<|J.a2 ?_
  exact J.T j2<|J.g λ_ j4=>J.k 2 O<|J.p (qAK O O ent (Ct.use1 0 O (λF' _=>qP8 F' g st size))) O λg14 _=>J.b O<|J.f (qAb O O O) O<|J.f (qAb O O O) O<|J.k 2 O<|J.c j4<|J.g λ_ j5=>J.k 2 O<|J.c j5<|J.A<|J.E hw0 O () O trivial [0,1] O xC
def RS.textR(st:RS):RS:=if 4096<qFb (st.out 2) then(st.take 2).form else(st.take 2).take (qFb (st.out 2))
def RS.last(st:RS):Int:=if st.bad=0 then(if st.s= [] then 0 else 2) else st.bad
theorem qGV(g:Nat):Wtr (blk g [.pointer none,.slice none 0 0,I 0] 158) g [] 0:=
 ⟨[.pointer none,.slice none 0 0,I 0],λ_=>none,none,0,none,by funext k;simp only [U];cases blk g [.pointer none,.slice none 0 0,I 0] 158 k<;>rfl,λ_=> .inr O,O,⟨O,.inl O,O,qBh.nil,.inl O⟩,O⟩
theorem qEB(s:xA)(n:Nat)(bs:xA)(bad:Int):(qLa s n bs bad).length≤bs.length+n:=by
 unfold qLa qCU okF
 by_cases h1:s.length=n<;>by_cases h2:bad=0<;>simp [h1,h2]
theorem qS9(n:UInt64)(size:Nat)(bs:xA)(bad:Int):(qLY n size bs bad).length≤bs.length+size:=by
 unfold qLY
 split
 · rw [jA,Sha.numB_length];omega
 · omega
theorem qL6{s:xA}{n:Nat}(h:s.length=n):okF s n=true:=decide_eq_true h
theorem okF_f{s:xA}{n:Nat}(h: ¬s.length=n):okF s n=false:=decide_eq_false h
theorem qCB(e bad:Int):qCU true e bad=bad:=by simp [qCU]
theorem qGb{s:xA}{n:Nat}(h:s.length=n)(bs:xA):qLa s n bs 0=bs++s:=by
 unfold qLa;rw [qL6 h,qCB];simp
def qGr(o r:xA)(h:Int):Prop:=0≤h∧h≤6∧o.length=16∧r.length=16
instance (o r:xA) (h:Int):Decidable (qGr o r h):=by unfold qGr;infer_instance
def qBM(o r:xA)(h:Int):xA:=if qGr o r h then o++r++ [UInt8.ofNat h.toNat] else []
def qBJ(o r:xA)(h:Int):Int:=if qGr o r h then 0 else 10
theorem numB1: ∀k,k<7→Sha.numB (UInt64.ofNat k) 1= [UInt8.ofNat k]:=by decide
theorem okN1: ∀k,k<7→okN (UInt64.ofNat k) 1=true:=by decide
def qOr(o r:xA):Int:=qCU (okF r 16) 10 (qCU (okF o 16) 10 0)
def pbs(o r:xA):xA:=qLa r 16 (qLa o 16 [] 0) (qCU (okF o 16) 10 0)
theorem qQd(o r:xA)(k:Nat)(hk:k≤6):qCU (okN (UInt64.ofNat k) 1) 10 (qOr o r)=qBJ o r k:=by
 rw [okN1 k xB,qCB]
 unfold qOr qBJ qGr okF qCU
 by_cases h1:o.length=16<;>by_cases h2:r.length=16<;>simp [h1,h2]<;>omega
theorem qY8(o r:xA)(k:Nat)(hk:k≤6)(h:qBJ o r k=0):qLY (UInt64.ofNat k) 1 (pbs o r) (qOr o r)=qBM o r k:=by
  have hb:=qQd o r k hk
  unfold qLY qBM
  rw [hb,h,if_pos rfl,numB1 k xB]
  unfold qBJ at h
  split at h
  · rename_i h1
    rw [if_pos h1]
    have h2:=h1
    unfold qGr at h2
    unfold pbs
    rw [qGb h2.2.2.1,qL6 h2.2.2.1,qCB,qGb h2.2.2.2];simp
  · omega
theorem qXJ{o r:xA}{h:Int}(hn: ¬qBJ o r h=0):qBM o r h= []:=by
 unfold qBJ at hn;unfold qBM
 split at hn
 · omega
 · rename_i h1;rw [if_neg h1]
theorem qVj{o r:xA}{h:Int}(hn:h<0∨6<h):Value.tuple #[Str [],I 10]= .tuple #[Str (qBM o r h),I (qBJ o r h)]:=by
 have h1: ¬qGr o r h:=by unfold qGr;omega
 unfold qBM qBJ
 rw [if_neg h1,if_neg h1]
theorem qXI(o r:xA)(k:Nat)(hk:k≤6):Value.tuple #[Str (if qCU (okN (UInt64.ofNat k) 1) 10 (qOr o r)=0 then qLY (UInt64.ofNat k) 1 (pbs o r) (qOr o r) else []),I (qCU (okN (UInt64.ofNat k) 1) 10 (qOr o r))]= .tuple #[Str (qBM o r k),I (qBJ o r k)]:=by
 rw [qQd o r k hk]
 by_cases h:qBJ o r k=0
 · rw [if_pos h,qY8 o r k hk h]
 · rw [if_neg h,qXJ h]
theorem qEI(F:Hp)(o r:xA)(h:Int)(ho:o.length≤1048576)(hr:r.length≤1048576):
    Cz prog 100 [.agg #[Str o,Str r,I h]] F (.tuple #[Str (qBM o r h),I (qBJ o r h)]):=by
  refine Ct.walk func100 O ntmps100 O (λw0 hw0=>?_)
  refine J.g λ_ j1=>J.p (qAZ O O O) O λg1 _=>J.k 2 O<|J.c j1<|J.q λ_ j2=>J.g λ_ j3=>J.M 2 qLQ z3_ O O O O O<|J.a7 1 b3_ O O O O O<|J.f (qAS O O O) O<|J.b O<|J.b9 (d:=8) O (λh8=>?_) (λh8=>?_)
  ·
    refine J.k 4 O<|J.c j3<|J.c3 ?_
    exact J.g λ_ j4=>J.k 2 O<|J.c j4<|J.A<|J.W<|J.b0 hw0 (λ_ _ h=>h) (qCK O O O) (qAn () (qVj xB) trivial [0] O xC)
  refine J.D (qAA O O qLQ O z3_ O) O<|J.D (qAC 1 O O O b3_ O) O<|J.D (qAz O O O) O<|J.b O<|J.c j3<|J.a0 O (λh12=>?_) (λh12=>?_)
  ·
    exact J.g λ_ j5=>J.k 2 O<|J.c j5<|J.A<|J.W<|J.b0 hw0 (λ_ _ h=>h) (qCK O O O) (qAn () (qVj xB) trivial [0] O xC)
  refine J.T j2<|J.q λ_ j6=>?_
  obtain ⟨k,hk⟩:=zh (show 0≤h by omega)
  have hk6:k≤6:=xB
  refine J.H<|J.p (qAJ O qKy O) O λg4 _=>J.c j6<|J.q λ_ j7=>J.b1 [blk g1 [Str o,Str r,I h] 59] [] (.y 0 (.y 1 (.y 3 (.y 4 (.y 6 (.y 7 (.y 8 (.e 2 (.e 5 (.e 9 (.e 10 (.y 11 (.y 12 (.y 13 (.y 14 .nil))))))))))))))) Tryz.wide xF xD ?_
  refine J.j O (qAA O O qLQ O z9_ O) O O<|J.j O (qAC 0 O O O b9_ O) O O<|J.j O (qAA O O qLQ O z9_ O) O O<|J.j O (qAC 0 O O O b9_ O) O O<|J.j O (qAA O O qLQ O z3_ O) O O<|J.j O (qAC 0 O O O b3_ O) O O<|J.j O ((qCL O O u3_ qEd).as (v':=W64 (UInt64.ofNat k)) (by rw [show(h%18446744073709551616).toNat=k by omega])) O O<|J.Z O (qAK O O ent (Ct.use1 2 O (λF' _=>qDY F' (blk g4 [.pointer none,.slice none 0 0,I 0] 158) g4 [] 0 (qGV g4) xC o xB 16))) O xD ?_
  rintro m15 hw15
  refine J.Z O (qAK O O ent (Ct.use1 2 O (λF' _=>qDY F' m15 g4 (qLa o 16 [] 0) (qCU (okF o 16) 10 0) hw15 (by have:=qEB o 16 [] 0;simp only [jE] at this;omega) r xB 16))) O xD ?_
  rintro m18 hw18
  refine J.Z O (qAK O O ent (Ct.use1 2 O (λF' _=>qDw F' m18 g4 (pbs o r) (qOr o r) hw18 (by have:=qEB o 16 [] 0;have h2:=qEB r 16 (qLa o 16 [] 0) (qCU (okF o 16) 10 0);simp only [jE] at this;unfold pbs;omega) (UInt64.ofNat k) 1 xB xB))) O xD ?_
  rintro m22 hw22
  refine J.Z O (qAK O O ent (Ct.use1 2 O (λF' _=>qDa F' m22 g4 (qLY (UInt64.ofNat k) 1 (pbs o r) (qOr o r)) (qCU (okN (UInt64.ofNat k) 1) 10 (qOr o r)) hw22 (by have:=qEB o 16 [] 0;have h2:=qEB r 16 (qLa o 16 [] 0) (qCU (okF o 16) 10 0);have h3:=qS9 (UInt64.ofNat k) 1 (pbs o r) (qOr o r);simp only [jE] at this;unfold pbs at h3⊢;omega)))) O xD ?_
  rintro m23 hw23
  refine J.c2 (Str (if qCU (okN (UInt64.ofNat k) 1) 10 (qOr o r)=0 then qLY (UInt64.ofNat k) 1 (pbs o r) (qOr o r) else [])) ?_
  refine J.c2 (I (qCU (okN (UInt64.ofNat k) 1) 10 (qOr o r))) ?_
  refine J.b7 ?_
  refine J.b7 ?_
  refine J.a9<|J.u (J.G j7 ?_)
  exact J.A<|J.b0 hw0 (λ_ _ h=>h) (qCK O O O) (qAn () (by subst hk;exact qXI o r k hk6) trivial [0] O xC)
theorem qZm(d:Nat)(o r o' r':xA)(h h':Int)(w:World):(Op.equalIn (d+2) 59 (.agg #[Str o,Str r,I h]) (.agg #[Str o',Str r',I h'])).run prog w= .ok (decide (o=o'∧r=r'∧h=h')) w:=by
 have u3:=u3_
 have a3:=b3_
 have us:=u9_
 have ag:=b9_
 have hS:prog.underlying 59=some (.struct (prog.fieldsOf 59)):=xI
 have hp:prog.stoodInHeld 59=false:=xI
 rw [show d+2=(d+1)+1 from rfl,run_equalIn_struct w (d+1) 59 _ _ hS hp]
 simp only [Program.fieldsOf,qLQ]
 have hi: ∀(a b:Int) (w:World),(Op.equalIn (d+1) 3 (.int .i64 a) (.int .i64 b)).run prog w= .ok (a==b) w:=λa b w=>run_equalIn_int w d 3 .i64 .i64 a b u3
 have hs: ∀(a b:xA) (w:World),(Op.equalIn (d+1) 9 (Str a) (Str b)).run prog w= .ok (decide (a=b)) w:=λa b w=>by rw [run_equalIn_string w d 9 _ _ us,qFL]
 simp only [Op.eqFields]
 simp [part,a3,ag,hi,hs]
 by_cases h1:o=o'<;>by_cases h2:r=r'<;>by_cases h3:h=h'<;>simp [h1,h2,h3]
theorem qFW{o r:xA}{h:Int}(he:qBJ o r h=0):(qBM o r h).length=33:=by
  unfold qBJ at he;unfold qBM
  split at he
  · rename_i h1
    rw [if_pos h1]
    have h2:=h1
    unfold qGr at h2
    simp only [jA,jI]
    omega
  · omega
theorem qL7(F m:Hp)(g:Nat)(bs:xA)(bad:Int)(hw:Wtr m g bs bad)(hlen:bs.length≤1099511627776)(n:Nat)(hn:n<18446744073709551616)(size:Nat)(h1:1≤size)(h8:size<8):
    Ct prog 67 [Ptr g,N64 n,I size] [m,F] (λ_:Hp=>Ptr g) (λm'=>Wtr m' g (qLY (UInt64.ofNat n) size bs bad) (qCU (okN (UInt64.ofNat n) size) 10 bad)) (λm'=> [m',F]):=by
  rw [N_W hn]
  exact qDw F m g bs bad hw hlen (UInt64.ofNat n) size h1 h8
theorem qHj{n size:Nat}(hn:n<18446744073709551616)(h:n<2^(8*size)):okN (UInt64.ofNat n) size=true:=by
 unfold okN
 rw [qBF hn]
 exact decide_eq_true h
def qAh:xA:=List.replicate 16 0
def tb(s:xA):xA:=Sha.numB (UInt64.ofNat s.length) 2++s
def RS.after:RS→Nat→RS
 |st,0=>st
 |st,k+1=>(st.after k).textR
theorem qFo(s:xA):(tb s).length=2+s.length:=by unfold tb;rw [jA,Sha.numB_length]
theorem wtrN(g:Nat):Wtr (blk g [.pointer none,.slice none 0 0,I 0] 158) g [] 0:=
 ⟨[.pointer none,.slice none 0 0,I 0],λ_=>none,none,0,none,by funext k;simp only [U];cases blk g [.pointer none,.slice none 0 0,I 0] 158 k<;>rfl,λ_=> .inr O,O,⟨O,.inl O,O,qBh.nil,.inl O⟩,O⟩
theorem qMP(e:Int):qCU true e 0=0:=by unfold qCU;rw [if_neg xD]
theorem qRE(F m:Hp)(g:Nat)(bs:xA)(hw:Wtr m g bs 0)(hlen:bs.length≤1099511627776)(k size:Nat)(h1:1≤size)(h8:size<8)(hk:k<2^(8*size)):
    Ct prog 67 [Ptr g,N64 k,I size] [m,F] (λ_:Hp=>Ptr g) (λm'=>Wtr m' g (bs++Sha.numB (UInt64.ofNat k) size) 0) (λm'=> [m',F]):=by
  have hlt:k<18446744073709551616:=zK hk (jZ (jh xC (show 8*size≤64 by omega)) xC)
  have hn:(UInt64.ofNat k).toNat=k:=qBF hlt
  have e:okN (UInt64.ofNat k) size=true:=by unfold okN;rw [hn];exact decide_eq_true hk
  have h:=qDw F m g bs 0 hw hlen (UInt64.ofNat k) size h1 h8
  rw [qCm e,e,qMP] at h
  rw [N_W hlt];exact h
theorem qIm(F m:Hp)(g:Nat)(bs:xA)(hw:Wtr m g bs 0)(hlen:bs.length≤1099511627776)(s:xA)(hs:s.length≤4096):
    Ct prog 134 [Ptr g,Str s] [m,F] (λ_:Hp=>Ptr g) (λm'=>Wtr m' g (bs++tb s) 0) (λm'=> [m',F]):=by
  have h:=qP7 F m g bs 0 hw hlen s xB
  have e:okT s=true:=decide_eq_true hs
  have e2:qLV s bs 0=bs++tb s:=by unfold qLV tb;rw [e,qMP,if_pos rfl,jW]
  rw [e2,e,qMP] at h;exact h
theorem qK9(F m:Hp)(g:Nat)(bs:xA)(hw:Wtr m g bs 0)(hlen:bs.length≤1099511627776):
    Ct prog 68 [Ptr g] [m,F] (λ_:Hp=> .tuple #[Str bs,I (0:Nat)]) (λm'=>Wtr m' g bs 0) (λm'=> [m',F]):=by
  have h:=qDa F m g bs 0 hw xB
  rw [if_pos rfl] at h;exact h
theorem qQ3{P:Program}{env:Env}{rs:List Hp}{o:Oper}{t e x q r sz A n' c h m}(ho:o.op= .slice t x none (some q) (some r))(hx:ev env x=some (.slice A n' c))(hu:P.underlying t=some (.slice e))(hz: ∀w,(sizeOf e).run P w= .ok sz w)
    (hhi:ev env q=some (I (h:Nat))) (hmx:ev env r=some (I (m:Nat))) (hr:h≤m∧m≤c):YOp P env rs o (.slice A h m):=λn a w hk _=>by
  simp [execOp,ho,hk.ev hx,hk.ev hhi,hk.ev hmx,Instr.sliceAt,Instr.slice,run_underlying hu,Instr.sliceBounds,Instr.sliceBound,asIntOf,hr.1,hr.2,hz]
  intro _
  cases A<;>simp [Addr.add]
namespace Wd
open Sha
def drawN(fuel:Nat)(n:UInt64)(s:Strm):Option (UInt64×Strm):=if n.toNat<2 then some (0,s) else(draw (stop n) fuel s).map λx=>(x.1%n,x.2)
def start(a:Nat):List Int:=(List.range a).map λi:Nat=>(i:Int)
def wins(fuel a:Nat)(s0:Strm):Nat→Option (List Int×Strm)
  |0=>some (start a,s0)
  |k+1=>(wins fuel a s0 k).bind λx=>(drawN fuel (UInt64.ofNat (a-k)) x.2).map λy=>
      ((x.1.set k (x.1.getD (k+y.1.toNat) 0)).set (k+y.1.toNat) (x.1.getD k 0),y.2)
def seedOf(seed:xA)(band:Nat):xA:=Sha.tagged 17 [seed,[UInt8.ofNat band]]
theorem drawN_lt{fuel:Nat}{n:UInt64}{s:Strm}{v:UInt64}{s':Strm}(h:drawN fuel n s=some (v,s'))(hn:1≤n.toNat):v.toNat<n.toNat:=by
  unfold drawN at h
  split at h
  · simp only [zO,ze] at h
    rw [←h.1];exact hn
  · obtain ⟨x,_,h2⟩:=Option.map_eq_some_iff.1 h
    simp only [ze] at h2
    rw [←h2.1,UInt64.toNat_mod]
    exact Nat.mod_lt _ hn
theorem drawN_ok{fuel:Nat}{n:UInt64}{s:Strm}{v:UInt64}{s':Strm}(h:drawN fuel n s=some (v,s'))(ho:s.Ok8):s'.Ok8∧s'.seed=s.seed:=by
  unfold drawN at h
  split at h
  · simp only [zO,ze] at h
    rw [←h.2];exact⟨ho,O⟩
  · obtain ⟨x,h1,h2⟩:=Option.map_eq_some_iff.1 h
    obtain ⟨k,s1⟩:=x
    simp only [ze] at h2
    rw [←h2.2];exact qR8 h1 ho
theorem wins_pre{fuel a:Nat}{s0:Strm}: ∀{k j:Nat} {x:List Int×Strm},wins fuel a s0 k=some x→j≤k→ ∃y,wins fuel a s0 j=some y
  |0,j,x,h,hj=>⟨x,by rw [show j=0 by omega];exact h⟩
  |k+1,j,x,h,hj=>by
    by_cases e:j=k+1
    · exact⟨x,by rw [e];exact h⟩
    · obtain ⟨z,hz,_⟩:=Option.bind_eq_some_iff.1 (show(wins fuel a s0 k).bind _=some x from h)
      exact wins_pre hz xB
def part(a k:Nat):List Value:=((List.range k).map λi=>I (i:Nat))++List.replicate (a-k) (I 0)
theorem part_zero(a:Nat):(List.replicate a [I 0]).flatten=part a 0:=by
 unfold part
 simp only [List.range_zero,zV,jq,z7]
 induction a with
 |zero=>rfl
 |succ a ih=>simp only [yK,jc,ih];rfl
theorem part_len(a k:Nat)(h:k≤a):(part a k).length=a:=by simp [part];omega
theorem part_succ(a k:Nat)(h:k<a):qBB (part a k) k [I k]=part a (k+1):=by
 have e:a-k=(a-(k+1))+1:=xB
 have h2:=qLn ((List.range k).map λi=>I (i:Nat)) (I 0) (a-(k+1)) (I k)
 rw [jO,zX] at h2
 unfold qBB part
 rw [e,jI,h2,jx,jM]
 rfl
theorem part_full(a:Nat):part a a=(start a).map λx=>I x:=by simp [part,start]
theorem setAt_ints(l:List Int)(k:Nat)(x:Int)(h:k<l.length):qBB (l.map λx=>I x) k [I x]=(l.set k x).map λx=>I x:=by
 unfold qBB
 rw [jI,List.set_eq_take_append_cons_drop,if_pos h,jM,jd,List.map_take,List.map_drop]
 simp
theorem getI{l:List Int}{j:Nat}(h:j<l.length):(l.map λx=>I x)[j]?=some (I (l.getD j 0)):=by
 rw [jN,jC h,jB,jC h];rfl
def find:List Int→Int→Nat→Int
 | [],_,_=> -1
 |a::r,v,k=>if v=a then(k:Int) else find r v (k+1)
end Wd
theorem qSc(F:Hp)(hK:KF F)(g:Nat)(s:Sha.Strm)(ho:s.Ok8)(hs:s.seed.length≤1048576)(n:UInt64)(fuel:Nat)(k:UInt64)(s':Sha.Strm)(hd:Wd.drawN fuel n s=some (k,s')):
    Ct prog 146 [Ptr g,W64 n] [blk g s.cells 286,F] (λ_:Unit=>W64 k) (λ_=>True) (λ_=> [blk g s'.cells 286,F]):=by
  unfold Wd.drawN at hd
  split at hd
  · rename_i hn
    simp only [zO,ze] at hd
    obtain ⟨rfl,rfl⟩:=hd
    exact qMc F g s n hn
  · rename_i hn
    obtain ⟨x,h1,h2⟩:=Option.map_eq_some_iff.1 hd
    obtain ⟨y,s1⟩:=x
    simp only [ze] at h2
    obtain ⟨rfl,rfl⟩:=h2
    exact qOf F hK g s ho hs n xB fuel y s1 h1
theorem of_ct(F:Hp)(hK:KF F)(seed:xA)(hseed:seed.length≤1048576)(b a sl:Nat)(hb:b<16)(ha:a≤64)(h1:1≤sl)(hsl:sl≤a)(fuel:Nat)(l:List Int)(st:Sha.Strm)(hw:Wd.wins fuel a (Sha.Strm.new (Wd.seedOf seed b)) sl=some (l,st)):
    Ct prog 77 [Str seed,I b,I a,I sl] [F] (λg:Nat=> .tuple #[.slice (some ⟨g,0,none⟩) sl sl,I 0]) (λ_=>True) (λg=> [F,blk g (l.map λx=>I x) 3]):=by
  have hsd:(Wd.seedOf seed b).length≤1048576:=by unfold Wd.seedOf;rw [Sha.tagged_length];decide
  refine Ct.walk func77 O ntmps77 O (λw0 hw0=>?_)
  refine J.g λ_ j1=>J.k 2 O<|J.c j1<|J.q λ_ j2=>J.V<|J.g λ_ j3=>J.b O<|J.f ((qAS O O O).no xB) O<|J.k 2 O<|J.D ((qBL O O O).no xB) O<|J.k 3 O<|J.D ((qAS O O O).no xB) O<|J.k 3 O<|J.D ((qAz O O O).no xB) O<|J.k 3 O<|J.D ((qAS O O O).no xB) O<|J.k 2 O<|J.c j3<|J.a2 ?_
  refine J.g λ_ j4=>J.k 2 O<|J.f ((qAz O O O).no xB) O<|J.b O<|J.c j4<|J.a2 ?_
  refine J.b5<|J.a3<|J.u (J.G j2 ?_)
  refine J.g λ_ j5=>J.k 2 O<|J.f (qAw O O u3_ u5_) O<|J.p (qAE (l:= [.tmp 40]) (xs:= [[B8 (UInt8.ofNat b)]]) O O O O qBt el5 O xC xC xD) O λg41 _=>J.f (qBn (l:= [UInt8.ofNat b]) O O qBt u5_ u9_ (m:=blk g41 [B8 (UInt8.ofNat b)] 5) xD (qAl (q:=True) (xs:= [[B8 (UInt8.ofNat b)]]) O xD).sl) O<|J.p (qAE (l:= [.tmp 38,.tmp 42]) (xs:= [[Str seed],[Str [UInt8.ofNat b]]]) O O O O qAk el9 O xC xC xD) O λg43 _=>J.p (qAa O O (λF' hF=>qA6 F' (hK.mono (Fa hF)) 17 (some ⟨g43,0,none⟩) 2 2 [seed,[UInt8.ofNat b]] (((qAl (q:=True) (xs:=qAG [seed,[UInt8.ofNat b]]) O (by simp [qAG])).sl (m:=blk g43 [Str seed,Str [UInt8.ofNat b]] 9)).mono (Fa hF)) xK xC)) O λg44 _=>J.p (qBr O O (λF' _=>qKd F' (Wd.seedOf seed b))) O λg45 _=>J.b O<|J.c j5<|J.g λ_ j6=>J.b O<|J.p (qCP O O qDM el3 xB xB) O λg47 _=>J.c5 [0,3,4] [F,blk g45 (Sha.Strm.new (Wd.seedOf seed b)).cells 286,blk g47 (List.replicate a [I 0]).flatten 3] O xC<|J.b O<|J.c j6<|J.q λ_ j7=>J.g λ_ j8=>J.b O<|J.f (qAR qDM O O) O<|J.b O<|J.c j8<|J.V<|J.b6 (λk:Nat=> [(2,I a),(3,I sl),(10,Ptr g45),(11,.slice (some ⟨g47,0,none⟩) a a),(49,I a),(50,I k)]) (λk=> [F,blk g45 (Sha.Strm.new (Wd.seedOf seed b)).cells 286,blk g47 (Wd.part a k) 3]) (λk=>k≤a) (λk=>a-k) 0 (jG _) ⟨O,O,O,O,O,O,trivial⟩ (λ_ h=>by rw [←Wd.part_zero];exact h) ?_
  intro k hk I1 hI1
  refine J.g λ_ j9=>J.f (qAS O O O) O<|J.c j9<|J.q λ_ j10=>J.a0 O (λh51=>?_) (λh51=>?_)
  ·
    refine J.T j10<|J.q λ_ j11=>J.V<|J.g λ_ j12=>J.k 2 O<|J.c j12<|J.H<|J.k 3 O<|J.f (qAj (i:=k) (j:=k) O O O qDM z3_ xB xB) O<|J.a6 (qAT (i:=2) O O O O O z3_ O (by rw [Wd.part_len a k xB];show k+1≤a;omega)) O O λ_ _=>J.a4<|J.a3<|J.u (J.G j11 ?_)
    exact J.H<|J.f (qAQ O O O xB) O<|J.b O<|J.a4<|J.u<|J.a5 (k+1) (λx (hx:x≤a∧a-x<a-k)=>hI1 x hx.1 hx.2) ⟨xB,xB⟩ ⟨O,O,O,O,O,O,trivial⟩ (λ_ h=>by rw [←Wd.part_succ a k xB];exact h)
  refine J.b3<|J.a1<|J.a1<|J.b4 ?_
  refine J.u (J.G j7 ?_)
  refine J.q λ_ j13=>J.q λ_ j14=>?_
  have hka:a=k:=xB
  subst hka
  refine J.H<|J.k 2 O<|J.c j14<|J.V<|J.b6 (X:=Nat×List Int×Sha.Strm) (λx=> [(2,I a),(3,I sl),(10,Ptr g45),(11,.slice (some ⟨g47,0,none⟩) a a),(58,I sl),(59,I x.1)]) (λx=> [F,blk g45 x.2.2.cells 286,blk g47 (x.2.1.map λx=>I x) 3]) (λx=>x.1≤sl∧Wd.wins fuel a (Sha.Strm.new (Wd.seedOf seed b)) x.1=some (x.2.1,x.2.2)∧x.2.1.length=a∧x.2.2.Ok8∧x.2.2.seed=Wd.seedOf seed b) (λx=>sl-x.1) (0,Wd.start a,(Sha.Strm.new (Wd.seedOf seed b))) (⟨jG _,O,by simp [Wd.start],O,O⟩) ⟨O,O,O,O,O,O,trivial⟩ (λ_ h=>by rw [←Wd.part_full];exact h) ?_
  rintro⟨k,li,s1⟩ ⟨hk,hwk,hll,ho,hse⟩ I3 hI3
  dsimp only at hk hwk hll ho hse⊢
  refine J.g λ_ j15=>J.f (qAS O O O) O<|J.c j15<|J.q λ_ j16=>J.a0 O (λh60=>?_) (λh60=>?_)
  ·
    refine J.T j16<|J.q λ_ j17=>J.V<|J.g λ_ j18=>J.k 2 O<|J.c j18<|J.q λ_ j19=>?_
    have hks:k<sl:=xB
    obtain ⟨y,hy⟩:=Wd.wins_pre hw (show k+1≤sl by omega)
    have hy2:=hy
    rw [Wd.wins,hwk] at hy2
    obtain ⟨⟨v,s2⟩,hdr,hy3⟩:=Option.map_eq_some_iff.1 (show(Wd.drawN fuel (UInt64.ofNat (a-k)) s1).map _=some y from hy2)
    have hak:(UInt64.ofNat (a-k)).toNat=a-k:=by rw [zB];exact jb xB
    have hv:=Wd.drawN_lt hdr xB
    have hok2:=Wd.drawN_ok hdr ho
    rw [hak] at hv
    refine J.H<|J.k 4 O<|J.f ((qA3 O O O xB).nat (a-k) xB) O<|J.f (qAx O O u3_ qEd xB) O<|J.p (qAK O O ent (Ct.use1 1 O (λF' hF=>qSc F' (hK.mono (Fa hF)) g45 s1 ho (by rw [hse];exact hsd) (UInt64.ofNat (a-k)) fuel v s2 hdr))) O λg68 _=>J.f (qE8 O O qEd u3_ xB) O<|J.f ((qAQ O O O xB).nat (k+v.toNat) xB) O<|J.b O<|J.c j19<|J.b1 [blk g47 (li.map λx=>I x) 3] [13,14,15,100002,100003] (.y 0 (.y 1 (.y 2 (.y 3 (.y 4 (.y 5 (.y 6 (.y 7 (.y 8 (.y 9 (.y 10 (.y 11 (.y 12 (.e 13 (.e 14 (.e 15 .nil)))))))))))))))) Tryz.wide xF xD ?_
    refine J.L ?_
    refine J.L ?_
    refine J.d3 O (qA2 O O) O O O ?_
    refine J.d3 O (qA2 O O) O O O ?_
    refine J.L ?_
    refine J.L ?_
    refine J.j O (qAj (i:=k+v.toNat) (j:=k+v.toNat) O O O qDM z3_ xB xB) O O<|J.j O (qAC 0 O O O b3_ (Wd.getI (l:=li) (j:=k+v.toNat) xB)) O O<|J.L ?_
    refine J.L ?_
    refine J.j O (qAj (i:=k) (j:=k) O O O qDM z3_ xB xB) O O<|J.j O (qAC 0 O O O b3_ (Wd.getI (l:=li) (j:=k) xB)) O O<|J.j O (qAj (i:=k) (j:=k) O O O qDM z3_ xB xB) O O<|J.c1 O (qAT (i:=2) O O O O O z3_ O (by rw [jO];show k+1≤_;omega)) O O O λ_ _=>J.d1 O (YOp.eop (qAj (i:=k+v.toNat) (j:=k+v.toNat) O O O qDM z3_ xB xB)) O O O O ?_
    intro _ _
    refine J.c1 O (qAT (i:=2) O O O O O z3_ O (by rw [qC7 (by rw [jO];omega),jO];show k+v.toNat+1≤_;omega)) O O O λ_ _=>J.a9<|J.a3<|J.u (J.G j17 ?_)
    refine J.H<|J.f (qAQ O O O xB) O<|J.b O<|J.a4<|J.u ?_
    rw [Wd.setAt_ints _ _ _ xB,Wd.setAt_ints _ _ _ (by rw [jo];omega)]
    exact J.a5 (k+1,(li.set k (li.getD (k+v.toNat) 0)).set (k+v.toNat) (li.getD k 0),s2) (λx (hx:_∧sl-x.1<sl-k)=>hI3 x hx.1 hx.2) ⟨⟨by dsimp only;omega,by dsimp only;rw [hy];exact congrArg some hy3.symm,by dsimp only;rw [jo,jo];exact hll,hok2.1,hok2.2.trans hse⟩,by dsimp only;omega⟩ ⟨O,O,O,O,O,O,trivial⟩ (λ_ h=>h)
  refine J.b3<|J.a1<|J.a1<|J.b4 ?_
  refine J.u (J.G j13 ?_)
  refine J.q λ_ j20=>?_
  have hks:sl=k:=xB
  subst hks
  rw [hwk] at hw
  simp only [zO,ze] at hw
  exact J.H<|J.k 3 O<|J.f (qQ3 O O qDM z3_ O O xB) O<|J.k 2 O<|J.c j20<|J.A<|J.b0 hw0 (λ_ _ h=>h) (qCK O O O) (qAn g47 O trivial [0,2] (by rw [←hw.1];rfl) xC)
theorem qUk(F:Hp)(A:Option Addr)(n c:Nat)(l:List Int)(hl:Sl F 1 A n c (qF0 l))(v:Int)(hn:n<4611686018427387904):
    Cz prog 216 [.slice A n c,I v] F (I (Wd.find l v 0)):=by
  have hlen:l.length=n:=by have:=hl.1;simpa [qF0] using this
  refine Ct.walk func216 O ntmps216 O (λw0 hw0=>?_)
  refine J.g λ_ j1=>J.b O<|J.c j1<|J.q λ_ j2=>J.g λ_ j3=>J.b O<|J.f (qAR qDM O O) O<|J.b O<|J.c j3<|J.V<|J.b6 (λk:Nat=> [(0,.slice A n c),(1,I v),(7,I n),(8,I k)]) (λ_=> [F]) (λk=>k≤n∧Wd.find (l.drop k) v k=Wd.find l v 0) (λk=>n-k) 0 (⟨jG _,O⟩) ⟨O,O,O,O,trivial⟩ (λ_ h=>h) ?_
  rintro k ⟨hk,hc⟩ I0 hI0
  refine J.g λ_ j4=>J.f (qAS O O O) O<|J.c j4<|J.q λ_ j5=>J.a0 O (λh9=>?_) (λh9=>?_)
  ·
    refine J.T j5<|J.q λ_ j6=>J.V<|J.g λ_ j7=>J.k 2 O<|J.c j7<|J.q λ_ j8=>?_
    have hkn:k<n:=xB
    obtain ⟨s,hs⟩: ∃s,l[k]?=some s:=⟨_,jC xB⟩
    have hdr:l.drop k=s::l.drop (k+1):=by
      obtain ⟨hk2,rfl⟩:=List.getElem?_eq_some_iff.1 hs
      exact zE hk2
    rw [hdr,Wd.find] at hc
    refine J.H<|J.k 3 O<|J.f (qAF O O O qDM z3_ hl xB) O<|J.f (qAI O O b3_ (m:=F) xD (hl.elem (qRn hs))) O<|J.f (qAX O O O) O<|J.c j8<|J.a0 O (λh16=>?_) (λh16=>?_)
    ·
      refine J.g λ_ j9=>J.k 2 O<|J.c j9<|J.A<|J.a8<|J.W<|J.W<|J.a8<|J.W ?_
      rw [if_pos h16] at hc
      exact J.E hw0 O () (by rw [←hc]) trivial [0] O xC
    refine J.b5<|J.a3<|J.u (J.G j6 ?_)
    refine J.H<|J.f (qAQ O O O xB) O<|J.b O<|J.a4<|J.u ?_
    rw [if_neg h16] at hc
    exact J.a5 (k+1) (λx (hx:_∧n-x<n-k)=>hI0 x hx.1 hx.2) ⟨⟨xB,hc⟩,xB⟩ ⟨O,O,O,O,trivial⟩ (λ_ h=>h)
  refine J.b3<|J.a1<|J.a1<|J.b4 ?_
  refine J.u (J.G j2 ?_)
  refine J.q λ_ j10=>?_
  rw [jr xB] at hc
  exact J.H<|J.b O<|J.c j10<|J.A<|J.E hw0 O () (by rw [←hc];rfl) trivial [0] O xC
theorem qWo(F:Hp)(A:Option Addr)(n c:Nat)(l:List Int)(hl:Sl F 1 A n c (qF0 l))(v:Int)(hn:n<4611686018427387904):
    Cz prog 188 [.slice A n c,I v] F (.tuple #[I (max (Wd.find l v 0) 0),.bool (decide (0≤Wd.find l v 0))]):=by
  refine Ct.walk func188 O ntmps188 O (λw0 hw0=>?_)
  exact J.g λ_ j1=>J.k 2 O<|J.c j1<|J.g λ_ j2=>J.k 2 O<|J.p (qAK O O ent (qUk F A n c l hl v hn)) O λg9 _=>J.b O<|J.c j2<|J.g λ_ j3=>J.b O<|J.f (qIB O O O) O<|J.b O<|J.f (qBL O O O) O<|J.k 2 O<|J.c j3<|J.A<|J.b0 hw0 (λ_ _ h=>h) (qCK O O O) (qAn () O trivial [0] O xC)
end Go.Proofs.YtcgcjaflllmlpaaGreatDoor
namespace Go.Proofs.YtcgcjaflllmlpaaGreatDoor
open Go Go.Fw Go.Proofs.Tryz
def sgB(i:Nat)(ch pt:List xA):xA:= [UInt8.ofNat i]++ch.flatten++ [UInt8.ofNat pt.length]++pt.flatten
theorem qVq: ∀k,k<256→Sha.numB (UInt64.ofNat k) 1= [UInt8.ofNat k]:=by decide+kernel
theorem qUE: ∀k,k<256→okN (UInt64.ofNat k) 1=true:=by decide+kernel
theorem qKt{l:List xA}{k:Nat}(h:k<l.length):(l.take (k+1)).flatten=(l.take k).flatten++l.getD k []:=by
 rw [jQ h,zM,jc,js,jR,jB,jC h];rfl
theorem qFw{l:List xA}(h: ∀s∈l,s.length=16):l.flatten.length=16*l.length:=by
 induction l with
 |nil=>rfl
 |cons a l ih=>
  rw [jc,jA,ih (λs hs=>h s (.tail _ hs)),h a (.head _),jD];omega
theorem qIO{l:List xA}(h: ∀s∈l,s.length=16){k:Nat}(hk:k<l.length):(l.getD k []).length=16:=by
 rw [jB,jC hk]
 exact h _ (ja hk)
theorem qMt{l:List xA}(h: ∀s∈l,s.length=16)(k:Nat):(l.take k).flatten.length≤16*l.length:=by
 rw [qFw (λs hs=>h s (yI hs)),jF];omega
theorem qOj(F:Hp)(i:Nat)(A1:Option Addr)(c1:Nat)(ch:List xA)(hch:Sl F 1 A1 35 c1 (qAG ch))(A2:Option Addr)(n2 c2:Nat)(pt:List xA)(hpt:Sl F 1 A2 n2 c2 (qAG pt))
    (hi:i≤63) (hn:n2≤6) (hc16: ∀s∈ch,s.length=16) (hp16: ∀s∈pt,s.length=16):
    Cz prog 133 [.agg #[I i,.slice A1 35 c1,.slice A2 n2 c2]] F (.tuple #[Str (sgB i ch pt),I 0]):=by
  have hl1:ch.length=35:=by have:=hch.1;simpa [qAG] using this
  have hl2:pt.length=n2:=by have:=hpt.1;simpa [qAG] using this
  refine Ct.walk func133 O ntmps133 O (λw0 hw0=>?_)
  refine J.g λ_ j1=>J.p (qAZ O O O) O λg1 _=>J.k 2 O<|J.c j1 ?_
  refine J.q λ_ j2=>J.g λ_ j3=>J.M 0 qJx z3_ O O O O O<|J.a7 1 b3_ O O O O O<|J.f ((qAS O O O).no xB) O<|J.b O<|J.D (qAA O O qJx O z3_ O) O<|J.D (qAC 1 O O O b3_ O) O<|J.D ((qAz O O O).no xB) O<|J.k 2 O<|J.D (qAA O O qJx O qB1 O) O<|J.D (qAC 1 O O O qCC O) O<|J.D (qAR qAk O O) O<|J.D ((qAe O O O).no xB) O<|J.k 2 O<|J.D (qAA O O qJx O qB1 O) O<|J.D (qAC 1 O O O qCC O) O<|J.D (qAR qAk O O) O<|J.D ((qAz O O O).no xB) O<|J.b O<|J.c j3 ?_
  refine J.a2 ?_
  refine J.T j2 ?_
  refine J.g λ_ j4=>J.p (qAJ O qKy O) O λg4 _=>J.c j4 ?_
  refine J.g λ_ j5=>J.M 0 qJx z3_ O O O O O<|J.a7 1 b3_ O O O O O<|J.f ((qAx O O u3_ qEd xB)) O<|J.p (qAK O O ent (Ct.use1 2 O (λF' _=>qDw F' (blk g4 [.pointer none,.slice none 0 0,I 0] 158) g4 [] 0 (qGV g4) xC (UInt64.ofNat i) 1 xB xB))) O ?_
  rintro m32 hw32
  rw [qUE i xB,qCB,qCm (qUE i xB),qVq i xB,jq] at hw32
  refine J.c j5 ?_
  refine J.q λ_ j6=>J.g λ_ j7=>J.M 1 qJx qB1 O O O O O<|J.a7 1 qCC O O O O O<|J.f (qAR qAk O O) O<|J.b O<|J.c j7 ?_
  refine J.V<|J.b6 (X:=Nat×Hp) (λx=> [(1,Ptr g1),(4,Ptr g4),(34,.slice A1 35 c1),(35,I 35),(36,I x.1)]) (λx=> [F,blk g1 [I i,.slice A1 35 c1,.slice A2 n2 c2] 68,x.2]) (λx=>x.1≤35∧Wtr x.2 g4 ([UInt8.ofNat i]++(ch.take x.1).flatten) 0) (λx=>35-x.1) (0,m32) (⟨jG _,by rw [zg,js,jR];exact hw32⟩) ⟨O,O,O,O,O,trivial⟩ (λ_ h=>h) ?_
  rintro⟨k,m⟩ ⟨hk,hw⟩ I0 hI0
  dsimp only at hk hw⊢
  refine J.g λ_ j8=>J.f (qAS O O O) O<|J.c j8 ?_
  refine J.q λ_ j9=>J.a0 O (λh37=>?_) (λh37=>?_)
  ·
    refine J.T j9 ?_
    refine J.q λ_ j10=>J.V<|J.g λ_ j11=>J.f (qAF O O O qAk z9_ hch xB) O<|J.f (qAI O O b9_ (m:=F) xD (hch.elem (qAY (qAi [] (show k<ch.length by omega))))) O<|J.b O<|J.c j11 ?_
    have hg16:=qIO hc16 (show k<ch.length by omega)
    refine J.H<|J.b O<|J.p (qAK O O ent (Ct.use1 2 O (λF' _=>qDY F' m g4 ([UInt8.ofNat i]++(ch.take k).flatten) 0 hw (by have:=qMt hc16 k;have:=qMt hp16 k;have h3:=qFw hc16;simp only [jA,jI];omega) (ch.getD k []) xB 16))) O ?_
    rintro m41 hw41
    rw [qGb (qIO hc16 xB),qL6 (qIO hc16 xB),qCB,jW,←qKt xB] at hw41
    refine J.a4<|J.a3<|J.u (J.G j10 ?_)
    exact J.H<|J.f ((qAQ O O O xB).nat (k+1) xB) O<|J.b O<|J.a4<|J.u<|J.a5 (k+1,m41) (λx (hx:_∧35-x.1<35-k)=>hI0 x hx.1 hx.2) ⟨⟨by dsimp only;omega,hw41⟩,by dsimp only;omega⟩ ⟨O,O,O,O,O,trivial⟩ (λ_ h=>h)
  refine J.b3<|J.a1<|J.a1<|J.b4 ?_
  refine J.u (J.G j6 ?_)
  refine J.q λ_ j12=>?_
  rw [jf xB] at hw
  refine J.H<|J.M 2 qJx qB1 O O O O O<|J.a7 1 qCC O O O O O<|J.f (qAR qAk O O) O<|J.f ((qAx O O u3_ qEd xB)) O<|J.p (qAK O O ent (Ct.use1 2 O (λF' _=>qDw F' m g4 ([UInt8.ofNat i]++ch.flatten) 0 hw (by have h3:=qFw hc16;simp only [jA,jI];omega) (UInt64.ofNat n2) 1 xB xB))) O ?_
  rintro m47 hw47
  rw [qUE n2 xB,qCB,qCm (qUE n2 xB),qVq n2 xB] at hw47
  refine J.c j12 ?_
  refine J.q λ_ j13=>J.g λ_ j14=>J.M 2 qJx qB1 O O O O O<|J.a7 1 qCC O O O O O<|J.f (qAR qAk O O) O<|J.b O<|J.c j14 ?_
  refine J.V<|J.b6 (X:=Nat×Hp) (λx=> [(4,Ptr g4),(49,.slice A2 n2 c2),(50,I n2),(51,I x.1)]) (λx=> [F,blk g1 [I i,.slice A1 35 c1,.slice A2 n2 c2] 68,x.2]) (λx=>x.1≤n2∧Wtr x.2 g4 (([UInt8.ofNat i]++ch.flatten++ [UInt8.ofNat pt.length])++(pt.take x.1).flatten) 0) (λx=>n2-x.1) (0,m47) (⟨jG _,by rw [zg,js,jR,hl2];exact hw47⟩) ⟨O,O,O,O,trivial⟩ (λ_ h=>h) ?_
  rintro⟨k,mp⟩ ⟨hk,hw2⟩ I2 hI2
  dsimp only at hk hw2⊢
  refine J.g λ_ j15=>J.f (qAS O O O) O<|J.c j15 ?_
  refine J.q λ_ j16=>J.a0 O (λh52=>?_) (λh52=>?_)
  ·
    refine J.T j16 ?_
    refine J.q λ_ j17=>J.V<|J.g λ_ j18=>J.f (qAF O O O qAk z9_ hpt xB) O<|J.f (qAI O O b9_ (m:=F) xD (hpt.elem (qAY (qAi [] (show k<pt.length by omega))))) O<|J.b O<|J.c j18 ?_
    have hg16:=qIO hp16 (show k<pt.length by omega)
    refine J.H<|J.b O<|J.p (qAK O O ent (Ct.use1 2 O (λF' _=>qDY F' mp g4 (([UInt8.ofNat i]++ch.flatten++ [UInt8.ofNat pt.length])++(pt.take k).flatten) 0 hw2 (by have:=qMt hc16 k;have:=qMt hp16 k;have h3:=qFw hc16;simp only [jA,jI];omega) (pt.getD k []) xB 16))) O ?_
    rintro m56 hw56
    rw [qGb (qIO hp16 xB),qL6 (qIO hp16 xB),qCB,jW,←qKt xB] at hw56
    refine J.a4<|J.a3<|J.u (J.G j17 ?_)
    exact J.H<|J.f ((qAQ O O O xB).nat (k+1) xB) O<|J.b O<|J.a4<|J.u<|J.a5 (k+1,m56) (λx (hx:_∧n2-x.1<n2-k)=>hI2 x hx.1 hx.2) ⟨⟨by dsimp only;omega,hw56⟩,by dsimp only;omega⟩ ⟨O,O,O,O,trivial⟩ (λ_ h=>h)
  refine J.b3<|J.a1<|J.a1<|J.b4 ?_
  refine J.u (J.G j13 ?_)
  refine J.q λ_ j19=>?_
  rw [jf xB] at hw2
  refine J.H<|J.p (qAK O O ent (Ct.use1 2 O (λF' _=>qDa F' mp g4 (sgB i ch pt) 0 hw2 (by unfold sgB;have h3:=qFw hc16;have h4:=qFw hp16;simp only [jA,jI];omega)))) O ?_
  rintro m58 hw58
  refine J.k 4 O<|J.c j19 ?_
  exact J.A<|J.b0 hw0 (λ_ _ h=>h) (qCK O O O) (qAn () O trivial [0] O xC)
def RS.tk(st:RS)(n:Nat):Nat→RS
 |0=>st
 |k+1=>(st.tk n k).take n
def RS.os(st:RS)(n:Nat):Nat→List xA
 |0=> []
 |k+1=>st.os n k++ [(st.tk n k).out n]
def ck(s:xA)(n k:Nat):List xA:=(List.range k).map λj=>(s.drop (n*j)).take n
def dA(s:xA):RS:=((⟨s,0⟩:RS).take 1).tk 16 35
theorem ck_16{s:xA}{k:Nat}(h:16*k≤s.length): ∀x∈ck s 16 k,x.length=16:=λx hx=>by
 simp only [ck,zc,List.mem_range] at hx
 obtain ⟨j,hj,rfl⟩:=hx
 rw [jF,jH];omega
theorem qIu{i:Nat}{ch pt:List xA}(hc: ∀s∈ch,s.length=16)(hp: ∀s∈pt,s.length=16)(h1:ch.length=35):(sgB i ch pt).length=562+16*pt.length:=by
 unfold sgB
 simp only [jA,jI,qFw hc,qFw hp,h1]
theorem Mk.lvl_16(l:List xA)(hs: ∀s∈l,s.length=16): ∀j,∀s∈Mk.lvl l j,s.length=16
 |0,s,h=>hs s h
 |j+1,s,h=>by
  simp only [Mk.lvl,Mk.above,zc] at h
  obtain ⟨k,_,rfl⟩:=h
  exact Mk.node_length _ _
theorem Mk.path_16(l:List xA)(i h:Nat)(hs: ∀s∈l,s.length=16)(hl:l.length=2^h)(hi:i<2^h): ∀s∈Mk.path l i h,s.length=16:=λs hp=>by
 unfold Mk.path at hp
 simp only [zc,List.mem_range] at hp
 obtain ⟨j,hj,rfl⟩:=hp
 refine Mk.lvl_16 l hs j _ (Mk.getS_mem ?_)
 rw [Mk.lvl_length l h hl j xB,show h-j=(h-1-j)+1 by omega,jt,zu]
 refine Mk.xor_one _ _ ?_
 rw [yA (zA j),Nat.mul_assoc,←Nat.pow_add,zu,←jt,show(h-1-j+j).succ=h by omega]
 exact hi
theorem Xm.leaves_16(seed:xA)(k:Nat): ∀s∈Xm.leaves seed k,s.length=16:=λs hs=>by
 simp only [Xm.leaves,zc] at hs
 obtain ⟨i,_,rfl⟩:=hs
 exact Xm.pub_length _ _
theorem Mk.root_16(seed:xA)(h:Nat):(Xm.root seed h).length=16:=by
 unfold Xm.root Mk.root
 exact Mk.lvl_16 _ (Xm.leaves_16 _ _) h _ (Mk.getS_mem (by rw [Mk.lvl_length _ h (Xm.leaves_length _ _) h (jK _),zH];decide))
theorem Wo.signs_len(seed:xA)(i:Nat)(d:List Nat):(Wo.signs seed i d 35).length=35:=by simp [Wo.signs]
def qVS(m:Hp)(g:Nat)(seed:xA)(h:Nat):Prop:= ∃A c,qAM m ⟨g,0,none⟩ (qBW seed (Wo.opn seed) (Xm.root seed h) h A (2^h) c)∧Sl m 1 A (2^h) c (qAG (Xm.leaves seed (2^h)))
theorem qVS.mono{m m':Hp}{g:Nat}{seed:xA}{h:Nat}(hk:qVS m g seed h)(hl:Le m m'):qVS m' g seed h:=by
 obtain ⟨A,c,h1,h2⟩:=hk
 exact⟨A,c,h1.mono hl,h2.mono hl⟩
def sgC(seed:xA)(i:Nat)(mg:xA):List xA:=Wo.signs seed i (Wo.digs (Xm.digest (Wo.opn seed) i mg)) 35
def sgP(seed:xA)(h i:Nat):List xA:=Mk.path (Xm.leaves seed (2^h)) i h
theorem qGm(seed:xA)(i:Nat)(mg:xA):(sgC seed i mg).length=35:=Wo.signs_len _ _ _
theorem qM1(seed:xA)(i:Nat)(mg:xA): ∀s∈sgC seed i mg,s.length=16:=Wo.signs_16 _ _ _ _
theorem qFT(seed:xA)(h i:Nat):(sgP seed h i).length=h:=Mk.path_length _ _ _
theorem qM0(seed:xA){h i:Nat}(hi:i<2^h): ∀s∈sgP seed h i,s.length=16:=Mk.path_16 _ _ _ (Xm.leaves_16 _ _) (Xm.leaves_length _ _) hi
theorem qMj(F:Hp)(hK:KF F)(seed:xA)(h:Nat)(hs:seed.length≤1048576)(h6:h≤6):
    Ct prog 18 [Str seed,I (h:Nat)] [F] (λx:Nat×Hp=> .tuple #[Ptr x.1,I 0]) (λx=>qVS x.2 x.1 seed h) (λx=> [F,x.2]):=λw0 w hw=>
  (qWO F hK seed h hs h6 w0 w hw).mono λe w' ⟨x,he,hx,hs'⟩=>⟨x,he,hx.see,hs'.pick [1,0] xC⟩
theorem qJq(F:Hp)(hK:KF F)(g:Nat)(seed:xA)(h:Nat)(hk:qVS F g seed h)(hs:seed.length≤1048576)(h6:h≤6)(i:Nat)(hi:i<2^h)(mg:xA)(hm:mg.length≤1048576):
    Ct prog 34 [Ptr g,I (i:Nat),Str mg] [F] (λx:(Option Addr×Nat×Hp)×(Option Addr×Nat×Hp)=> .tuple #[.agg #[I (i:Nat),.slice x.1.1 (sgC seed i mg).length x.1.2.1,.slice x.2.1 (sgP seed h i).length x.2.2.1],I 0])
      (λx=>Row x.1.2.2 9 1 x.1.1 (sgC seed i mg).length x.1.2.1 (qAG (sgC seed i mg))∧Row x.2.2.2 9 1 x.2.1 (sgP seed h i).length x.2.2.1 (qAG (sgP seed h i))) (λx=> [F,x.1.2.2,x.2.2.2]):=by
  obtain ⟨A,c,h1,h2⟩:=hk
  rw [qGm,qFT]
  exact qS5 F hK g seed h A c h1 h2 hs h6 mg hm i hi
theorem qIc(F:Hp)(g:Nat)(seed:xA)(h:Nat)(hk:qVS F g seed h):Cz prog 19 [Ptr g] F (.agg #[Str (Wo.opn seed),Str (Xm.root seed h),I (h:Nat)]):=by
 obtain ⟨A,c,h1,h2⟩:=hk
 exact qOO F g seed (Wo.opn seed) (Xm.root seed h) h A (2^h) c h1
theorem qHW(seed:xA)(h i:Nat)(hi:i<2^h):Mk.climb (Wo.pub seed i) i (sgP seed h i)=Xm.root seed h:=by
 have:=Mk.climb_root (Xm.leaves seed (2^h)) h i (Xm.leaves_length _ _) hi
 rw [Xm.leaves_get seed _ i hi] at this
 exact this
theorem qIb(F:Hp)(hK:KF F)(seed:xA)(h i:Nat)(mg:xA)(A1:Option Addr)(n1 c1:Nat)(hch:Sl F 1 A1 n1 c1 (qAG (sgC seed i mg)))(A2:Option Addr)(n2 c2:Nat)(hpt:Sl F 1 A2 n2 c2 (qAG (sgP seed h i)))(hm:mg.length≤1048576)(h6:h≤6)(hi:i<2^h):
    Cz prog 132 [.agg #[Str (Wo.opn seed),Str (Xm.root seed h),I (h:Nat)],Str mg,.agg #[I (i:Nat),.slice A1 n1 c1,.slice A2 n2 c2]] F (.bool true):=by
  have e1:(sgC seed i mg).length=n1:=by have:=hch.1;simpa [qAG] using this
  have e2:(sgP seed h i).length=n2:=by have:=hpt.1;simpa [qAG] using this
  rw [qGm] at e1
  rw [qFT] at e2
  subst e1
  subst e2
  have:=qHq F hK (Wo.opn seed) (Xm.root seed h) h mg i A1 c1 (sgC seed i mg) hch (qM1 _ _ _) A2 c2 (sgP seed h i) hpt (λs hs=>by rw [qM0 seed hi s hs];decide) (by rw [Wo.opn_length];decide) hm h6 hi
  have e:Wo.publicOf (Wo.opn seed) i (Wo.ends (Wo.opn seed) i (Wo.digs (Xm.digest (Wo.opn seed) i mg)) (sgC seed i mg) 35)=Wo.pub seed i:=Wo.recPub seed i _ (by rw [Xm.digest_length];decide)
  rw [e,qHW seed h i hi,decide_eq_true rfl] at this
  exact this
theorem qMG{l:List xA}(h: ∀s∈l,s.length=16): ∀s∈l,s.length≤1048576:=λs hs=>by rw [h s hs];decide
def qIH(ep:Nat)(bd:Int)(hd:xA)(nm:Int):Prop:=ep≤4294967295∧0≤bd∧bd<16∧hd.length=16∧0≤nm∧nm<64
instance (ep:Nat) (bd:Int) (hd:xA) (nm:Int):Decidable (qIH ep bd hd nm):=by unfold qIH;infer_instance
def plB(ep bd nm:Nat):xA:=Sha.numB (UInt64.ofNat ep) 4++Sha.numB (UInt64.ofNat bd) 1++Sha.numB (UInt64.ofNat nm) 2
theorem qQs(ep bd nm:Nat):(plB ep bd nm).length=7:=by unfold plB;simp only [jA,Sha.numB_length]
def atM(ep bd nm:Nat)(hd:xA):xA:=Sha.tagged 18 [plB ep bd nm,hd]
theorem qSh(ep bd nm:Nat)(hd:xA):(atM ep bd nm hd).length=16:=Sha.tagged_length _ _
theorem qO7{ep:Nat}{bd:Int}{hd:xA}{nm:Int}(h1:(ep:Int)≤4294967295)(h2:0≤bd)(h3:bd<16)(h4:(hd.length:Int)=16)(h5:0≤nm):(nm<64)=qIH ep bd hd nm:=propext ⟨λh=>⟨xB,h2,h3,xB,h5,h⟩,λh=>h.2.2.2.2.2⟩
theorem qO8{ep:Nat}{bd:Int}{hd:xA}{nm:Int}(h: ¬(ep:Int)≤4294967295∨ ¬0≤bd∨ ¬bd<16∨ ¬(hd.length:Int)=16∨ ¬0≤nm):false=decide (qIH ep bd hd nm):=by
 symm
 apply decide_eq_false
 unfold qIH
 omega
theorem qSj(F:Hp)(ep:Nat)(bd:Int)(hd:xA)(nm:Int)(i:Int)(A1 A2:Option Addr)(n1 c1 n2 c2:Nat):
    Cz prog 83 [.agg #[N64 ep,I bd,Str hd,I nm,I i,.slice A1 n1 c1,.slice A2 n2 c2]] F (.bool (decide (qIH ep bd hd nm))):=by
  refine Ct.walk func83 O ntmps83 O (λw0 hw0=>?_)
  refine J.g λ_ j1=>J.p (qAZ O O O) O λg1 _=>J.b O<|J.c j1 ?_
  refine J.g λ_ j2=>J.M 0 qF6 qEW O O O O O<|J.a7 1 qFM O O O O O<|J.f (qCY O O O) O<|J.b O<|J.b9 (d:=6) O (λh6=>?_) (λh6=>?_)
  ·
    refine J.D (qAA O O qF6 O z3_ O) O<|J.D (qAC 1 O O O b3_ O) O<|J.D (qBL O O O) O<|J.k 2 O<|J.b9 (d:=11) O (λh11=>?_) (λh11=>?_)
    ·
      refine J.D (qAA O O qF6 O z3_ O) O<|J.D (qAC 1 O O O b3_ O) O<|J.D (qAS O O O) O<|J.k 2 O<|J.b9 (d:=16) O (λh16=>?_) (λh16=>?_)
      ·
        refine J.D (qAA O O qF6 O z9_ O) O<|J.D (qAC 1 O O O b9_ O) O<|J.D (qAs u9_ O O) O<|J.D (qAX O O O) O<|J.k 2 O<|J.b9 (d:=22) O (λh22=>?_) (λh22=>?_)
        ·
          refine J.D (qAA O O qF6 O z3_ O) O<|J.D (qAC 1 O O O b3_ O) O<|J.D (qBL O O O) O<|J.k 2 O<|J.b9 (d:=27) O (λh27=>?_) (λh27=>?_)
          ·
            refine J.D (qAA O O qF6 O z3_ O) O<|J.D (qAC 1 O O O b3_ O) O<|J.D (qAS O O O) O<|J.f ((by first|exact(qCv O O O).as (v':= .bool (decide (qIH ep bd hd nm))) (congrArg Value.bool (decide_eq_decide.2 (iff_of_eq (qO7 xG xG xG xG xG))))|exact(qCc O O O).as (v':= .bool (decide (qIH ep bd hd nm))) (congrArg Value.bool (qO8 xB)))) O<|J.b O<|J.c j2 ?_
            exact J.A<|J.E hw0 O () O trivial [0] O xC
          refine J.k 3 O<|J.f ((by first|exact(qCv O O O).as (v':= .bool (decide (qIH ep bd hd nm))) (congrArg Value.bool (decide_eq_decide.2 (iff_of_eq (qO7 xG xG xG xG xG))))|exact(qCc O O O).as (v':= .bool (decide (qIH ep bd hd nm))) (congrArg Value.bool (qO8 xB)))) O<|J.b O<|J.c j2 ?_
          exact J.A<|J.E hw0 O () O trivial [0] O xC
        refine J.k 8 O<|J.f ((by first|exact(qCv O O O).as (v':= .bool (decide (qIH ep bd hd nm))) (congrArg Value.bool (decide_eq_decide.2 (iff_of_eq (qO7 xG xG xG xG xG))))|exact(qCc O O O).as (v':= .bool (decide (qIH ep bd hd nm))) (congrArg Value.bool (qO8 xB)))) O<|J.b O<|J.c j2 ?_
        exact J.A<|J.E hw0 O () O trivial [0] O xC
      refine J.k 14 O<|J.f ((by first|exact(qCv O O O).as (v':= .bool (decide (qIH ep bd hd nm))) (congrArg Value.bool (decide_eq_decide.2 (iff_of_eq (qO7 xG xG xG xG xG))))|exact(qCc O O O).as (v':= .bool (decide (qIH ep bd hd nm))) (congrArg Value.bool (qO8 xB)))) O<|J.b O<|J.c j2 ?_
      exact J.A<|J.E hw0 O () O trivial [0] O xC
    refine J.k 19 O<|J.f ((by first|exact(qCv O O O).as (v':= .bool (decide (qIH ep bd hd nm))) (congrArg Value.bool (decide_eq_decide.2 (iff_of_eq (qO7 xG xG xG xG xG))))|exact(qCc O O O).as (v':= .bool (decide (qIH ep bd hd nm))) (congrArg Value.bool (qO8 xB)))) O<|J.b O<|J.c j2 ?_
    exact J.A<|J.E hw0 O () O trivial [0] O xC
  refine J.k 24 O<|J.f ((by first|exact(qCv O O O).as (v':= .bool (decide (qIH ep bd hd nm))) (congrArg Value.bool (decide_eq_decide.2 (iff_of_eq (qO7 xG xG xG xG xG))))|exact(qCc O O O).as (v':= .bool (decide (qIH ep bd hd nm))) (congrArg Value.bool (qO8 xB)))) O<|J.b O<|J.c j2 ?_
  exact J.A<|J.E hw0 O () O trivial [0] O xC
theorem qSi(F:Hp)(ep bd nm:Nat)(hd:xA)(i:Int)(A1 A2:Option Addr)(n1 c1 n2 c2:Nat)(h1:ep≤4294967295)(h2:bd<16)(h3:nm<64)(h4:hd.length=16):
    Cz prog 84 [.agg #[N64 ep,I (bd:Nat),Str hd,I (nm:Nat),I i,.slice A1 n1 c1,.slice A2 n2 c2]] F (Str (plB ep bd nm)):=by
  refine Ct.walk func84 O ntmps84 O (λw0 hw0=>?_)
  refine J.g λ_ j1=>J.p (qAZ O O O) O λg1 _=>J.b O<|J.c j1 ?_
  refine J.g λ_ j2=>J.p (qAJ O qKy O) O λg3 _=>J.c j2 ?_
  refine J.q λ_ j3=>J.b1 [blk g1 [N64 ep,I (bd:Nat),Str hd,I (nm:Nat),I i,.slice A1 n1 c1,.slice A2 n2 c2] 70] [] (.y 0 (.y 1 (.y 3 (.y 4 (.y 5 (.y 7 (.y 8 (.y 9 (.e 2 (.e 6 (.e 10 (.e 11 (.y 12 (.y 13 (.y 14 (.y 15 (.y 16 .nil))))))))))))))))) Tryz.wide xF xD ?_
  refine J.j O (qAA O O qF6 O qEW O) O O<|J.j O (qAC 0 O O O qFM O) O O<|J.j O (qAA O O qF6 O z3_ O) O O<|J.j O (qAC 0 O O O b3_ O) O O<|J.j O (qAx O O u3_ qEd xB) O O<|J.j O (qAA O O qF6 O z3_ O) O O<|J.j O (qAC 0 O O O b3_ O) O O<|J.j O (qAx O O u3_ qEd xB) O O<|J.Z O (qAK O O ent (Ct.use1 2 O (λF' _=>qL7 F' (blk g3 [.pointer none,.slice none 0 0,I 0] 158) g3 [] 0 (qGV g3) xC ep xB 4 xB xB))) O xD ?_
  rintro m9 hw9
  rw [(qHj (size:=4) xB xB),qCB,qCm (qHj (size:=4) xB xB),jq] at hw9
  refine J.Z O (qAK O O ent (Ct.use1 2 O (λF' _=>qDw F' m9 g3 (Sha.numB (UInt64.ofNat ep) 4) 0 hw9 (by rw [Sha.numB_length];omega) (UInt64.ofNat bd) 1 xB xB))) O xD ?_
  rintro m13 hw13
  rw [(qHj (size:=1) xB xB),qCB,qCm (qHj (size:=1) xB xB)] at hw13
  refine J.Z O (qAK O O ent (Ct.use1 2 O (λF' _=>qDw F' m13 g3 ((Sha.numB (UInt64.ofNat ep) 4)++Sha.numB (UInt64.ofNat bd) 1) 0 hw13 (by rw [jA,Sha.numB_length,Sha.numB_length];omega) (UInt64.ofNat nm) 2 xB xB))) O xD ?_
  rintro m17 hw17
  rw [(qHj (size:=2) xB xB),qCB,qCm (qHj (size:=2) xB xB)] at hw17
  refine J.Z O (qAK O O ent (Ct.use1 2 O (λF' _=>qDa F' m17 g3 (plB ep bd nm) 0 hw17 (by rw [qQs];omega)))) O xD ?_
  rintro m18 _
  refine J.L ?_
  refine J.c2 (Str (plB ep bd nm)) ?_
  refine J.c2 (I 0) ?_
  refine J.b7 ?_
  refine J.b7 ?_
  refine J.a9<|J.u (J.G j3 ?_)
  refine J.g λ_ j4=>J.k 2 O<|J.c j4 ?_
  exact J.A<|J.E hw0 O () O trivial [0] O xC
theorem qHZ(F:Hp)(hK:KF F)(ep bd nm:Nat)(hd:xA)(i:Int)(A1 A2:Option Addr)(n1 c1 n2 c2:Nat)(h1:ep≤4294967295)(h2:bd<16)(h3:nm<64)(h4:hd.length=16):
    Cz prog 35 [.agg #[N64 ep,I (bd:Nat),Str hd,I (nm:Nat),I i,.slice A1 n1 c1,.slice A2 n2 c2]] F (Str (atM ep bd nm hd)):=by
  refine Ct.walk func35 O ntmps35 O (λw0 hw0=>?_)
  refine J.g λ_ j1=>J.p (qAZ O O O) O λg1 _=>J.b O<|J.c j1 ?_
  refine J.q λ_ j2=>J.g λ_ j3=>J.b8 1 isAgg70 qHp O O O O O<|J.p (qAa O O (λF' hF=>qSj F' ep bd hd nm i A1 A2 n1 c1 n2 c2)) O λg4 _=>J.f ((qAt O O).as (v':= .bool false) (by rw [decide_eq_true (show qIH ep bd hd nm from⟨h1,xB,xB,h4,xB,xB⟩)];rfl)) O<|J.c j3 ?_
  refine J.a2 ?_
  refine J.T j2 ?_
  refine J.q λ_ j4=>J.b1 [blk g1 [N64 ep,I (bd:Nat),Str hd,I (nm:Nat),I i,.slice A1 n1 c1,.slice A2 n2 c2] 70] [] (.y 0 (.y 2 (.y 3 (.e 1 (.e 4 (.e 5 (.y 6 .nil))))))) Tryz.wide xF xD ?_
  refine J.j O (qAW 0 O O O isAgg70 qHp O) O O<|J.j O (qAA O O qF6 O z9_ O) O O<|J.j O (qAC 0 O O O b9_ O) O O<|J.Z O (qAa O O (λF' hF=>qSi F' ep bd nm hd i A1 A2 n1 c1 n2 c2 h1 h2 h3 h4)) O xD λg7 _=>J.Z O (qAE (l:= [.tmp 7,.tmp 9]) (xs:= [[Str (plB ep bd nm)],[Str (hd)]]) O O O O qAk el9 O xC xC xD) O xD λg10 _=>J.Z O (qAa O O (λF' hF=>qA6 F' (hK.mono (Fa hF)) 18 (some ⟨g10,0,none⟩) 2 2 [plB ep bd nm,hd] ((slS [plB ep bd nm,hd] O).mono (hF (blk g10 (([plB ep bd nm,hd]:List xA).map λs=>Str s) 9) xD)) (by simp only [jc,js,jR,jA,qQs,h4];decide) xC)) O xD λg11 _=>J.b7 ?_
  refine J.a9<|J.u (J.G j4 ?_)
  exact J.A<|J.E hw0 O () O trivial [0] O xC
theorem qPT(F:Hp)(hK:KF F)(ep bd nm:Nat)(hd:xA)(h1:ep≤4294967295)(h2:bd<16)(h3:nm<64)(h4:hd.length=16)(o r:xA)(i:Nat)(A1:Option Addr)(c1:Nat)(ch:List xA)(hch:Sl F 1 A1 35 c1 (qAG ch))(hc16: ∀s∈ch,s.length=16)(A2:Option Addr)(h c2:Nat)(pt:List xA)(hpt:Sl F 1 A2 h c2 (qAG pt))(hp16: ∀s∈pt,s.length=16)(ho:o.length≤1048576)(h6:h≤6)(hi:i<2^h):
    Cz prog 144 [.agg #[N64 ep,I (bd:Nat),Str hd,I (nm:Nat),I (i:Nat),.slice A1 35 c1,.slice A2 h c2],.agg #[Str o,Str r,I h]] F (.bool (decide (Mk.climb (Wo.publicOf o i (Wo.ends o i (Wo.digs (Xm.digest o i (atM ep bd nm hd))) ch 35)) i pt=r))):=by
  refine Ct.walk func144 O ntmps144 O (λw0 hw0=>?_)
  refine J.g λ_ j1=>J.p (qAZ O O O) O λg2 _=>J.p (qAZ O O O) O λg3 _=>J.b O<|J.c j1 ?_
  refine J.q λ_ j2=>J.b1 [blk g2 [N64 ep,I (bd:Nat),Str hd,I (nm:Nat),I (i:Nat),.slice A1 35 c1,.slice A2 h c2] 70,blk g3 [Str o,Str r,I h] 59] [] (.y 0 (.e 1 (.y 2 (.y 3 (.y 4 (.y 6 (.y 7 (.e 5 (.e 8 (.y 9 (.y 10 .nil))))))))))) Tryz.wide xF xD ?_
  refine J.j O (qAW 0 O O O isAgg70 qHp O) O O<|J.Z O (qAa O O (λF' hF=>(qSj F' ep bd hd nm (i:Nat) A1 A2 35 c1 h c2).mono (φ2:=λ_=>True) (val2:=λ_:Unit=> .bool true) id (λ_ _=>congrArg Value.bool (decide_eq_true (show qIH ep bd hd nm from⟨h1,xB,xB,h4,xB,xB⟩))) (λ_ _=>trivial) (λ_ _ _ _ h=>h))) O xD λg6 _=>J.L ?_
  refine J.c0 O (qAW 1 O O O qLS qEA O) O O<|J.c0 O (qAW 0 O O O isAgg70 qHp O) O O<|J.c0 O (qAA O O qF6 O qLO O) O O<|J.c0 O (qE6 0 O O isAgg68 qLO (vs:= [I (i:Nat),.slice A1 35 c1,.slice A2 h c2]) O (qAM.blk 4 (λj u hj=>by match j with|0=>exact hj|1=>exact hj|2=>exact hj)) O) O O<|J.e5 O (qAa O O (λF' hF=>qHZ F' (hK.mono (Fa hF)) ep bd nm hd (i:Nat) A1 A2 35 c1 h c2 h1 h2 h3 h4)) (Wan.is O O O O O) O O xD ?_
  intro g10 _
  refine J.e5 O (qAa O O (λF' hF=>qHq F' (hK.mono (Fa hF)) o r h (atM ep bd nm hd) i A1 c1 ch (hch.mono (Fa hF)) hc16 A2 c2 pt (hpt.mono (Fa hF)) (qMG hp16) ho (by rw [qSh];decide) h6 hi)) (Wan.is O O O O O) O O xD ?_
  intro g13 _
  refine J.d7 ?_
  refine J.b7 ?_
  refine J.a9<|J.u (J.G j2 ?_)
  exact J.A<|J.E hw0 O () O trivial [0] O xC
end Go.Proofs.YtcgcjaflllmlpaaGreatDoor