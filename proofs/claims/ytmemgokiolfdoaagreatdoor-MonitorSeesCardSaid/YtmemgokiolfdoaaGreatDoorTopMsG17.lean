/- A part of the proof. -/
import Derived.Test.YtmemgokiolfdoaaGreatDoorTopMsG16
set_option maxRecDepth 100000
set_option maxHeartbeats 1000000
set_option linter.unusedSimpArgs false
set_option linter.unusedVariables false
namespace Go.Proofs.YtmemgokiolfdoaaGreatDoor
open Go Go.Fw Go.Proofs.Tryz
structure Tw where
 a:UInt8
 b:UInt8
 deriving DecidableEq
def Tw.cells(x:Tw):List Value:= [B8 (x.a),B8 (x.b)]
def qCc(l:List Sm.PR)(d i:Nat):List xA:=(List.range i).map λj=>Sm.ndB l (kF j d) d
abbrev qAo(l:List Sm.PR)(d:Nat):List xA:=qCc l d (2^d)
theorem qHF(l:List Sm.PR)(d i:Nat):qCc l d (i+1)=qCc l d i++ [Sm.ndB l (kF i d) d]:=by unfold qCc;rw [jx,jO];rfl
theorem qBy(l:List Sm.PR)(d i:Nat):(qCc l d i).length=i:=by unfold qCc;rw [jP,zg]
theorem qFd(l:List Sm.PR)(d:Nat){i j:Nat}(h:j<i):(qCc l d i).getD j []=Sm.ndB l (kF j d) d:=by
 unfold qCc
 rw [jB,jN,zB h];rfl
theorem qDC{d:Nat}(hd:d≤4):cnt ((d:Nat):Int)=2^d:=by
 unfold cnt
 rw [if_neg xB];rfl
theorem qXE{d:Nat}(hd:d≤4):0<2^d∧2^d≤16:=⟨zA _,jg (jn xC hd) xC⟩
theorem qRG{l:List Sm.PR}(hf:qCS l){e:Nat}(he:e≤15):Sb.lvl (qAo l (e+1))=qAo l e:=by
 have e2:2^(e+1)/2=2^e:=by rw [jw,Nat.mul_div_cancel _ xC]
 have h2:2^(e+1)=2^e*2:=jw 2 e
 unfold Sb.lvl
 rw [qBy,e2]
 show _=(List.range (2^e)).map _
 refine List.map_congr_left λj hj=>?_
 have hj2:=List.mem_range.1 hj
 rw [qFd _ _ xB,qFd _ _ xB]
 exact qO0 hf (qIW j e) he (qRo xB hj2).symm
theorem qIP{l:List Sm.PR}(hf:qCS l){d:Nat}(hd:d≤16): ∀j,j≤d→Sb.lvls (qAo l d) j=qAo l (d-j)
 |0,_=>rfl
 |j+1,hj=>by
  rw [Sb.lvls_succ,qIP hf hd j xB,show d-j=(d-(j+1))+1 by omega,qRG hf xB]
theorem qOz{l:List Sm.PR}(hf:qCS l){d:Nat}(hd:d≤16):Sb.root (qAo l d) d=Sm.nd 128 l:=by
 have e:Sb.root (qAo l d) d=(Sb.lvls (qAo l d) d).getD 0 []:=by unfold Sb.root;rfl
 rw [e,qIP hf hd d (jJ _),jv,qFd _ _ xC,Sm.ndB_zero]
theorem qJQ{l:List Sm.PR}(hf:qCS l){d:Nat}(hd:d≤4):qLU (qAo l d) ((d:Nat):Int)=0∧qCW (qAo l d) ((d:Nat):Int)=Sm.nd 128 l:=by
 have h1:qLU (qAo l d) ((d:Nat):Int)=0:=by
  unfold qLU
  rw [qDC hd,if_neg (by have:=qXE hd;omega),qBy,if_neg (λh=>h rfl)]
 refine⟨h1,?_⟩
 unfold qCW
 rw [if_pos h1]
 exact qOz hf xB
def ofV(k:xA)(d:Nat):Nat:=if k.length=16 then qFz k d else 0
def ofE(k:xA):Nat:=if k.length=16 then 0 else 10
theorem qSa(F:Hp)(hK:qAG F ⟨3,0,none⟩ (Sha.K.map W32))(g:Nat)(l:List Sm.PR)(hT:qCl F g l)(hf:qCS l)(d:Nat)(hd:d≤4):Ct prog 118 [Ptr g,I (d:Nat)] [F] (λx:Option Addr×Nat×Hp=> .tuple #[.slice x.1 (qAo l d).length x.2.1,I (0:Nat)]) (λx=>Row x.2.2 9 1 x.1 (qAo l d).length x.2.1 (qAH (qAo l d))) (λx=> [F,x.2.2]):=by
 have hpw:=qXE hd
 have hcn:=qDC hd
 refine Ct.walk func118 O ntmps118 O (λw0 hw0=>?_)
 refine J.f λ_ j1=>J.p 2 O<|J.c j1<|J.f λ_ j2=>J.b O<|J.q (qAZ O O (λF' hF=>qCP F' ((d:Nat):Int))) O λg10 _=>J.b O<|J.c j2<|J.k λ_ j3=>J.k λ_ j4=>?_
 rw [hcn]
 refine J.H<|J.b O<|J.g ((qAe O O O).no xB) O<|J.c j4<|J.a3 ?_
 refine J.M j3<|J.f λ_ j5=>J.b O<|J.c j5<|J.k λ_ j6=>J.f λ_ j7=>J.p 2 O<|J.c j7<|J.T<|J.b5 (X:=Nat×Option Addr×Nat×Hp) (λζ=> [(0,Ptr g),(1,I (d:Nat)),(7,.slice ζ.2.1 ((qCc l d ζ.1).length) ζ.2.2.1),(13,I (2^d:Nat)),(14,I (ζ.1:Nat))]) (λζ=> [F,ζ.2.2.2]) (λζ=>ζ.1≤2^d∧Row ζ.2.2.2 9 1 ζ.2.1 (qCc l d ζ.1).length ζ.2.2.1 (qAH (qCc l d ζ.1))) (λζ=>2^d-ζ.1) (0,none,0,(λ_=>none)) (⟨jE _,qBZ.nil⟩) ⟨O,O,O,O,O,trivial⟩ (λ_ h=>h.empty.pick [0,1] xC) ?_
 rintro⟨i,A,c,m⟩ ⟨hi,hr⟩ I0 hI0
 dsimp only at hi hr⊢
 have hnl:=qBy l d i
 refine J.f λ_ j8=>J.g (qAS O O O) O<|J.c j8<|J.k λ_ j9=>J.Z O (λh15=>?_) (λh15=>?_)
 ·
  have hi2:i<2^d:=xB
  have hkf:=qIW i d
  have hmd:min (((d:Nat):Int)).toNat 128=d:=by rw [jY];omega
  refine J.M j9<|J.k λ_ j10=>J.T<|J.f λ_ j11=>J.p 2 O<|J.c j11<|J.H<|J.p 4 O<|J.q (qAZ O O (λF' hF=>qLD F' i d xB xG)) O λg21 _=>J.b O<|J.q (qAZ O O (λF' hF=>qGI F' (hK.mo hF) g l (hT.mono (Fa hF)) xG (kF i d) xN ((d:Nat):Int) (by first|assumption|exact qIr xG|exact qMz xG xG))) O λg23 _=>J.q (qAE (l:= [.tmp 23]) (xs:= [[Str (Sm.ndB l (kF i d) (min ((d:Nat):Int).toNat 128))]]) O O O O qAn el9 O xC xC xD) O λg24 _=>?_
  change J _ _ _ [F,m,blk g24 [Str (Sm.ndB l (kF i d) (min ((d:Nat):Int).toNat 128))] 9] _
  refine J.q (qAX (i:=1) (xs:=qAH (qCc l d i)) (m2:=blk g24 [Str (Sm.ndB l (kF i d) (min ((d:Nat):Int).toNat 128))] 9) (ys:= [[Str (Sm.ndB l (kF i d) (min ((d:Nat):Int).toNat 128))]]) O O O qAn qAn el9 O hr xD ((qBO (q:=True) (qAH [Sm.ndB l (kF i d) (min ((d:Nat):Int).toNat 128)]) O (by simp [qAH]) O).sl) O xB xB) O ?_
  rintro⟨A25,c25,m25⟩ h25
  try dsimp only at h25
  change J _ ((25,.slice A25 (((qCc l d i).length)+1) c25)::_) _ [_,m25,_] _
  rw [←qCD] at h25
  refine J.b O<|J.a4<|J.a2<|J.u (J.D j10 ?_)
  exact J.H<|J.g ((qAR O O O xB).nat (i+1) xB) O<|J.b O<|J.a4<|J.u<|J.a8 (i+1,A25,c25,m25) (λη (hη:_∧2^d-η.1<2^d-i)=>hI0 η hη.1 hη.2) ⟨⟨by dsimp only;omega,by dsimp only;rw [qHF,jA];rw [hmd] at h25;exact h25⟩,by first|omega|(dsimp only;omega)⟩ ⟨O,O,by dsimp only;rw [qHF,jA];rfl,O,O,trivial⟩ (λ_ h=>h.pick [0,1] xC)
 refine J.b3<|J.a0<|J.a0<|J.b4 ?_
 refine J.u (J.D j6 ?_)
 refine J.f λ_ j12=>J.p 3 O<|J.c j12<|J.A ?_
 obtain rfl:i=2^d:=by omega
 exact J.a9 hw0 (λ_ _ h=>h) (qBw O O O) (qAg (A,c,m) O hr [0,1] O xC)
theorem qWD(F:Hp)(k:xA)(hk:k.length≤1000000)(d:Nat)(hd:d≤4):Cz prog 138 [Str (k),I (d:Nat)] F (.tuple #[I (ofV k d:Nat),I (ofE k:Nat)]):=by
 have hpw:=qXE hd
 have hcn:=qDC hd
 refine Ct.walk func138 O ntmps138 O (λw0 hw0=>?_)
 refine J.f λ_ j1=>J.p 2 O<|J.c j1<|J.k λ_ j2=>J.T<|J.f λ_ j3=>J.b O<|J.q (qAZ O O (λF' hF=>qCP F' ((d:Nat):Int))) O λg8 _=>J.g ((qAe O O O).no xB) O<|J.b O<|J.c j3<|J.a3 ?_
 refine J.f λ_ j4=>J.b O<|J.g (qAu u9_ O O) O<|J.g (qAV O O O) O<|J.b O<|J.c j4<|J.Z O (λh10=>?_) (λh10=>?_)
 ·
  exact J.f λ_ j5=>J.p 2 O<|J.c j5<|J.A<|J.a5<|J.V<|J.a9 hw0 (λ_ _ h=>h) (qBw O O O) (qAg () (by unfold ofV ofE;rw [if_neg xB,if_neg xB];rfl) trivial [0] O xC)
 refine J.b2<|J.a2<|J.u (J.D j2 ?_)
 exact J.f λ_ j6=>J.p 2 O<|J.q (qAZ O O (λF' hF=>qYR F' k (by first|omega|exact hsm _) d xB)) O λg16 _=>J.p 2 O<|J.c j6<|J.A<|J.a9 hw0 (λ_ _ h=>h) (qBw O O O) (qAg () (by unfold ofV ofE;rw [if_pos xB,if_pos xB];rfl) trivial [0] O xC)
theorem qMw{s bs:xA}(h:s.length≤4096):qLp s bs 0=bs++Sha.numB (UInt64.ofNat s.length) 2++s∧qCV (okT s) 2 0=0:=by
 have h1:okT s=true:=decide_eq_true h
 unfold qLp
 rw [h1,qCB,if_pos rfl]
 exact⟨O,O⟩
structure Hd where
 ep:Nat
 par:xA
 dep:Int
 aud:Int
 nodes:List xA
def qEn(s:xA):Prop:=s= [0]∨(s.length=17∧(s.getD 0 0=1∨s.getD 0 0=2))
instance (s:xA):Decidable (qEn s):=by unfold qEn;infer_instance
def Hd.cells(x:Hd)(A:Option Addr)(c:Nat):List Value:= [N64 x.ep,Str x.par,I x.dep,I x.aud,.slice A x.nodes.length c]
def Hd.out(x:Hd):Prop:=4294967295<x.ep∨x.par.length≠16∨cnt x.dep=0∨x.aud<0∨64<x.aud
instance (x:Hd):Decidable x.out:=by unfold Hd.out;infer_instance
def Hd.err(x:Hd):Int:=if x.out then 10 else if x.nodes.length≠cnt x.dep then 22 else if∀s∈x.nodes,qEn s then 0 else 4
def ndB(s:xA):xA:=Sha.numB (UInt64.ofNat s.length) 2++s
def Hd.bytes(x:Hd):xA:=Sha.numB (UInt64.ofNat x.ep) 4++x.par++ [UInt8.ofNat x.dep.toNat]++ [UInt8.ofNat x.aud.toNat]++(x.nodes.map ndB).flatten
def Hd.enc(x:Hd):xA:=if x.err=0 then x.bytes else []
def Hd.dig(x:Hd):xA:=if x.err=0 then Sha.tagged 14 [x.bytes] else []
def Hd.good(x:Hd):Prop:=x.ep<18446744073709551616∧x.par.length≤1048576∧x.nodes.length≤1073741824
theorem qLE{x:Hd}(h:x.out):x.err=10:=if_pos h
theorem qZl{x:Hd}(h: ¬x.out)(h2:x.nodes.length≠cnt x.dep):x.err=22:=by unfold Hd.err;rw [if_neg h,if_pos h2]
theorem err_4{x:Hd}(h: ¬x.out)(h2: ¬x.nodes.length≠cnt x.dep){s:xA}(hs:s∈x.nodes)(hn: ¬qEn s):x.err=4:=by unfold Hd.err;rw [if_neg h,if_neg h2,if_neg (λe=>hn (e s hs))]
theorem qZm{x:Hd}(h: ¬x.out)(h2: ¬x.nodes.length≠cnt x.dep)(hs: ∀s∈x.nodes,qEn s):x.err=0:=by unfold Hd.err;rw [if_neg h,if_neg h2,if_pos hs]
theorem qR7{x:Hd}(h:x.err=0): ¬x.out∧x.nodes.length=cnt x.dep∧ ∀s∈x.nodes,qEn s:=by
  unfold Hd.err at h
  split at h
  · omega
  · rename_i h1
    split at h
    · omega
    · rename_i h2
      split at h
      · rename_i h3;exact⟨h1,Decidable.not_not.1 h2,h3⟩
      · omega
theorem qNe{s:xA}(h:qEn s):s.length≤17:=by
 rcases h with rfl|⟨h,_⟩
 · decide
 · omega
theorem qYV{l:List xA}{p:xA→Prop}{k:Nat}(h:k<l.length)(h1: ∀s∈l.take k,p s)(h2:p (l.getD k [])): ∀s∈l.take (k+1),p s:=λs hs=>by
  rw [jK h] at hs
  rcases List.mem_append.1 hs with h3|h3
  · exact h1 s h3
  · rw [jS] at h3
    rw [h3]
    rw [jB,jC h] at h2
    exact h2
theorem qR2{l:List xA}{k:Nat}(h:k<l.length):l.getD k []∈l:=by
 rw [jB,jC h]
 exact jQ h
theorem u8eq{c:UInt8}(k:UInt8):((c.toNat:Int)=(k.toNat:Int))↔c=k:=⟨λh=>UInt8.toNat_inj.1 xB,λh=>by rw [h]⟩
theorem qUy(F:Hp)(s:xA):Cz prog 141 [Str s] F (.bool (decide (qEn s))):=by
 refine Ct.walk func141 O ntmps141 O (λw0 hw0=>?_)
 refine J.f λ_ j1=>J.b O<|J.c j1 ?_
 refine J.f λ_ j2=>J.b O<|J.g (qBY O O O) O<|J.b O<|J.b9 (d:=5) O (λh5=>?_) (λh5=>?_)
 ·
  refine J.p 4 O<|J.c9 (Wan.un O O O O) O O ?_
  refine J.c9 (Wan.un O O O O) O O ?_
  refine J.c9 (Wan.un O O O O) O O ?_
  refine J.c9 (Wan.un O O O O) O O ?_
  refine J.c9 (Wan.un O O O O) O O ?_
  refine J.c9 (Wan.un O O O O) O O ?_
  refine J.c9 (Wan.un O O O O) O O ?_
  refine J.c9 (Wan.un O O O O) O O ?_
  refine J.p 3 O<|J.c j2 ?_
  exact J.A<|J.E hw0 O () (congrArg Value.bool (decide_eq_true (show qEn s from .inl h5)).symm) trivial [0] O xC
 refine J.b O<|J.G (qAu u9_ O O) O<|J.G (qAe O O O) O<|J.b O<|J.b9 (d:=9) O (λh9=>?_) (λh9=>?_)
 ·
  refine J.b O<|J.G (qBl (i:=0) (c:=s.getD 0 0) u9_ O O O (by rw [jB,jC (show 0<s.length by omega)];rfl)) O ?_
  refine J.G (qAe O O O) O<|J.b O<|J.b9 (d:=13) O (λh13=>?_) (λh13=>?_)
  ·
   refine J.p 7 O<|J.c j2 ?_
   exact J.A<|J.E hw0 O () (congrArg Value.bool (decide_eq_true (show qEn s from .inr ⟨xB,.inl ((u8eq 1).1 h13)⟩)).symm) trivial [0] O xC
  refine J.b O<|J.G (qBl (i:=0) (c:=s.getD 0 0) u9_ O O O (by rw [jB,jC (show 0<s.length by omega)];rfl)) O ?_
  refine J.G (qAe O O O) O<|J.p 4 O<|J.c j2 ?_
  exact J.A<|J.E hw0 O () (congrArg Value.bool (decide_eq_decide.2 ⟨λh=>(show qEn s from .inr ⟨xB,.inr ((u8eq 2).1 h)⟩),λh=>by rcases h with h|⟨_,h|h⟩;exact absurd h h5;exact absurd ((u8eq 1).2 h) h13;exact(u8eq 2).2 h⟩)) trivial [0] O xC
 refine J.p 4 O<|J.c9 (Wan.un O O O O) O O ?_
 refine J.c9 (Wan.un O O O O) O O ?_
 refine J.c9 (Wan.un O O O O) O O ?_
 refine J.p 4 O<|J.c j2 ?_
 exact J.A<|J.E hw0 O () (congrArg Value.bool (decide_eq_false (show¬qEn s from λh=>by rcases h with h|⟨h,_⟩;exact h5 h;omega)).symm) trivial [0] O xC
theorem qHQ(F:Hp)(x:Hd)(A:Option Addr)(c:Nat)(hg:x.good)(hsl:Sl F 1 A x.nodes.length c (qAH x.nodes)):
    Cz prog 69 [.agg #[N64 x.ep,Str x.par,I x.dep,I x.aud,.slice A x.nodes.length c]] F (I x.err):=by
  obtain ⟨hg1,hg2,hg3⟩:=hg
  refine Ct.walk func69 O ntmps69 O (λw0 hw0=>?_)
  refine J.f λ_ j1=>J.q (qAb O O O) O λg1 _=>J.b O<|J.c j1 ?_
  refine J.f λ_ j2=>J.W 2 qEJ z3_ O O O O O<|J.a6 1 b3_ O O O O O<|J.q (qAZ O O (λF' hF=>qCP F' x.dep)) O λg8 _=>J.b O<|J.c j2 ?_
  refine J.k λ_ j3=>J.T<|J.f λ_ j4=>J.W 0 qEJ qDs O O O O O<|J.a6 1 qEv O O O O O<|J.g (qA5 O O O) O<|J.b O<|J.b9 (d:=13) O (λh13=>?_) (λh13=>?_)
  ·
    refine J.p 20 O<|J.c j4 ?_
    refine J.c3 ?_
    refine J.f λ_ j5=>J.b O<|J.c j5 ?_
    exact J.A<|J.a5<|J.V<|J.E hw0 O () (congrArg I (qLE (show x.out by unfold Hd.out;omega)).symm) trivial [0] O xC
  refine J.G (qAA O O qEJ O z9_ O) O<|J.G (qAD 1 O O O b9_ O) O<|J.G (qAu u9_ O O) O<|J.G (qAV O O O) O<|J.p 2 O<|J.b9 (d:=19) O (λh19=>?_) (λh19=>?_)
  ·
    refine J.p 14 O<|J.c j4 ?_
    refine J.c3 ?_
    refine J.f λ_ j6=>J.b O<|J.c j6 ?_
    exact J.A<|J.a5<|J.V<|J.E hw0 O () (congrArg I (qLE (show x.out by unfold Hd.out;omega)).symm) trivial [0] O xC
  refine J.b O<|J.G (qAe O O O) O<|J.p 2 O<|J.b9 (d:=23) O (λh23=>?_) (λh23=>?_)
  ·
    refine J.p 10 O<|J.c j4 ?_
    refine J.c3 ?_
    refine J.f λ_ j7=>J.b O<|J.c j7 ?_
    exact J.A<|J.a5<|J.V<|J.E hw0 O () (congrArg I (qLE (show x.out by unfold Hd.out;omega)).symm) trivial [0] O xC
  refine J.G (qAA O O qEJ O z3_ O) O<|J.G (qAD 1 O O O b3_ O) O<|J.G (qAS O O O) O<|J.p 2 O<|J.b9 (d:=28) O (λh28=>?_) (λh28=>?_)
  ·
    refine J.p 5 O<|J.c j4 ?_
    refine J.c3 ?_
    refine J.f λ_ j8=>J.b O<|J.c j8 ?_
    exact J.A<|J.a5<|J.V<|J.E hw0 O () (congrArg I (qLE (show x.out by unfold Hd.out;omega)).symm) trivial [0] O xC
  refine J.G (qAA O O qEJ O z3_ O) O<|J.G (qAD 1 O O O b3_ O) O<|J.G (qA5 O O O) O<|J.p 2 O<|J.c j4 ?_
  refine J.Z O (λh9=>?_) (λh9=>?_)
  ·
    refine J.f λ_ j9=>J.b O<|J.c j9 ?_
    exact J.A<|J.a5<|J.V<|J.E hw0 O () (congrArg I (qLE (show x.out by unfold Hd.out;omega)).symm) trivial [0] O xC
  refine J.f λ_ j10=>J.W 4 qEJ qB9 O O O O O<|J.a6 1 qCQ O O O O O<|J.g (qAO qAn O O) O<|J.b O<|J.g (qAV O O O) O<|J.b O<|J.c j10 ?_
  refine J.Z O (λh33=>?_) (λh33=>?_)
  ·
    refine J.f λ_ j11=>J.b O<|J.c j11 ?_
    exact J.A<|J.a5<|J.V<|J.E hw0 O () (congrArg I (qZl (by unfold Hd.out;omega) xB).symm) trivial [0] O xC
  refine J.b2<|J.a2<|J.u (J.D j3 ?_)
  refine J.k λ_ j12=>J.k λ_ j13=>?_
  have hno: ¬x.out:=by unfold Hd.out;omega
  have hcn: ¬x.nodes.length≠cnt x.dep:=xB
  refine J.H<|J.W 4 qEJ qB9 O O O O O<|J.a6 1 qCQ O O O O O<|J.g (qAO qAn O O) O<|J.b O<|J.c j13 ?_
  refine J.T<|J.b5 (X:=Nat) (λk=> [(40,.slice A x.nodes.length c),(41,I x.nodes.length),(42,I k)]) (λ_=> [F,blk g1 [N64 x.ep,Str x.par,I x.dep,I x.aud,.slice A x.nodes.length c] 52]) (λk=>k≤x.nodes.length∧ ∀s∈x.nodes.take k,qEn s) (λk=>x.nodes.length-k) 0 (⟨jE _,λs hs=>by simp at hs⟩) ⟨O,O,O,trivial⟩ (λ_ h=>h) ?_
  intro k ⟨hk,hall⟩ I0 hI0
  refine J.f λ_ j14=>J.g (qAS O O O) O<|J.c j14 ?_
  refine J.k λ_ j15=>J.Z O (λh43=>?_) (λh43=>?_)
  ·
    refine J.M j15 ?_
    refine J.k λ_ j16=>J.T<|J.f λ_ j17=>J.g (qAF O O O qAn z9_ hsl xB) O<|J.g (qAI O O b9_ (m:=F) xD (hsl.elem (qAc (qAi [] (show k<x.nodes.length by omega))))) O<|J.b O<|J.c j17 ?_
    refine J.f λ_ j18=>J.b O<|J.q (qAZ O O (λF' hF=>qUy F' (x.nodes.getD k []))) O λg47 _=>J.g (qFc O O) O<|J.c j18 ?_
    refine J.Z O (λh48=>?_) (λh48=>?_)
    ·
      refine J.f λ_ j19=>J.b O<|J.c j19 ?_
      exact J.A<|J.a5<|J.V<|J.V<|J.a5<|J.V<|J.E hw0 O () (congrArg I (err_4 hno hcn (qR2 (show k<x.nodes.length by omega)) h48).symm) trivial [0] O xC
    refine J.b2<|J.a2<|J.u (J.D j16 ?_)
    exact J.H<|J.g ((qAR O O O xB).nat (k+1) xB) O<|J.b O<|J.a4<|J.u<|J.a8 (k+1) (λx2 (hx:_∧x.nodes.length-x2<x.nodes.length-k)=>hI0 x2 hx.1 hx.2) ⟨⟨xB,qYV xB hall (Decidable.not_not.1 h48)⟩,xB⟩ ⟨O,O,O,trivial⟩ (λ_ h=>h)
  refine J.b3<|J.a0<|J.a0<|J.b4 ?_
  refine J.u (J.D j12 ?_)
  refine J.k λ_ j20=>?_
  rw [jV xB] at hall
  refine J.H<|J.b O<|J.c j20 ?_
  exact J.A<|J.E hw0 O () (congrArg I (qZm hno hcn hall).symm) trivial [0] O xC
def Hd.base(x:Hd):xA:=Sha.numB (UInt64.ofNat x.ep) 4++x.par++ [UInt8.ofNat x.dep.toNat]++ [UInt8.ofNat x.aud.toNat]
theorem qVu: ∀k,k<65→Sha.numB (UInt64.ofNat k) 1= [UInt8.ofNat k]:=by decide+kernel
theorem qUL: ∀k,k<65→okN (UInt64.ofNat k) 1=true:=by decide+kernel
theorem qQ0{x:Hd}(h: ¬x.out):x.ep≤4294967295∧x.par.length=16∧(0≤x.dep∧x.dep≤4)∧0≤x.aud∧x.aud≤64:=by
 have h1: ¬cnt x.dep=0:=λe=>h (.inr (.inr (.inl e)))
 rw [qGX] at h1
 unfold Hd.out at h
 omega
theorem qXj{l:List xA}{k:Nat}(h:k<l.length):((l.take (k+1)).map ndB).flatten=((l.take k).map ndB).flatten++ndB (l.getD k []):=by
 rw [jK h,jO,zK,jb,zT,ji,zQ,jR,jB,jC h];rfl
theorem nd_small{l:List xA}(h: ∀s∈l,qEn s):(l.map ndB).flatten.length≤19*l.length:=by
 induction l with
 |nil=>exact jE _
 |cons a l ih=>
  have h1:=ih (λs hs=>h s (.tail _ hs))
  have h2:=qNe (h a (.head _))
  rw [jb,ji,jA,jD]
  unfold ndB at h1⊢
  rw [jA,Sha.numB_length];omega
theorem qOB{x:Hd}(h: ¬x.out):x.base.length=22:=by
 have:=qQ0 h
 unfold Hd.base
 simp only [jA,Sha.numB_length,jH];omega
theorem qPB(F:Hp)(x:Hd)(A:Option Addr)(c:Nat)(hg:x.good)(hsl:Sl F 1 A x.nodes.length c (qAH x.nodes)):
    Cz prog 142 [.agg #[N64 x.ep,Str x.par,I x.dep,I x.aud,.slice A x.nodes.length c]] F (.tuple #[Str x.enc,I x.err]):=by
  refine Ct.walk func142 O ntmps142 O (λw0 hw0=>?_)
  refine J.f λ_ j1=>J.q (qAb O O O) O λg1 _=>J.p 2 O<|J.c j1 ?_
  refine J.k λ_ j2=>J.f λ_ j3=>J.c0 1 qGA qDP O O O O O<|J.q (qAZ O O (λF' hF=>qHQ F' x A c hg (hsl.mono (Fa hF)))) O λg9 _=>J.b O<|J.c j3 ?_
  refine J.f λ_ j4=>J.b O<|J.g (qAV O O O) O<|J.c j4 ?_
  refine J.Z O (λh11=>?_) (λh11=>?_)
  ·
    refine J.f λ_ j5=>J.p 3 O<|J.c j5 ?_
    exact J.A<|J.V<|J.a9 hw0 (λ_ _ h=>h) (qBw O O O) (qAg () (by unfold Hd.enc;rw [if_neg xB]) trivial [0] O xC)
  refine J.M j2 ?_
  refine J.k λ_ j6=>?_
  have e0:x.err=0:=xB
  obtain ⟨e1,e2,e3⟩:=qR7 e0
  obtain ⟨e4,e5,e6,e7,e8⟩:=qQ0 e1
  have hbl:=qOB e1
  have hc16:=qWB x.dep
  refine J.H<|J.q (qAJ O qLI O) O λg5 _=>J.c j6 ?_
  refine J.k λ_ j7=>J.b1 [blk g1 [N64 x.ep,Str x.par,I x.dep,I x.aud,.slice A x.nodes.length c] 52] [] (.y 0 (.y 1 (.y 3 (.y 4 (.y 6 (.y 7 (.y 8 (.y 10 (.y 11 (.y 12 (.e 2 (.e 5 (.e 9 (.e 13 .nil)))))))))))))) Tryz.wide xF xD ?_
  refine J.j O (qAA O O qEJ O qDs O) O O<|J.j O (qAD 0 O O O qEv O) O O<|J.j O (qAA O O qEJ O z9_ O) O O<|J.j O (qAD 0 O O O b9_ O) O O<|J.j O (qAA O O qEJ O z3_ O) O O<|J.j O (qAD 0 O O O b3_ O) O O<|J.j O ((qCH O O u3_ qEV).as (v':=W64 (UInt64.ofNat x.dep.toNat)) (by rw [show(x.dep%18446744073709551616).toNat=x.dep.toNat by omega])) O O<|J.j O (qAA O O qEJ O z3_ O) O O<|J.j O (qAD 0 O O O b3_ O) O O<|J.j O ((qCH O O u3_ qEV).as (v':=W64 (UInt64.ofNat x.aud.toNat)) (by rw [show(x.aud%18446744073709551616).toNat=x.aud.toNat by omega])) O O<|J.a1 O (qAK O O ent (Ct.use1 2 O (λF' _=>qMN F' (blk g5 [.pointer none,.slice none 0 0,I 0] 148) g5 [] 0 (qGe g5) xC x.ep xB 4 xB xB))) O xD ?_
  rintro m15 hw15
  rw [qHv (size:=4) xB xB,qCB,qCq (qHv (size:=4) xB xB),jr] at hw15
  refine J.a1 O (qAK O O ent (Ct.use1 2 O (λF' _=>qDc F' m15 g5 (Sha.numB (UInt64.ofNat x.ep) 4) 0 hw15 (by rw [Sha.numB_length];omega) x.par xB 16))) O xD ?_
  rintro m18 hw18
  rw [qGk e5,qMM e5,qCB] at hw18
  refine J.a1 O (qAK O O ent (Ct.use1 2 O (λF' _=>qD4 F' m18 g5 ((Sha.numB (UInt64.ofNat x.ep) 4)++x.par) 0 hw18 (by simp only [jA,Sha.numB_length];omega) (UInt64.ofNat x.dep.toNat) 1 xB xB))) O xD ?_
  rintro m22 hw22
  rw [qUL _ xB,qCB,qCq (qUL _ xB),qVu _ xB] at hw22
  refine J.a1 O (qAK O O ent (Ct.use1 2 O (λF' _=>qD4 F' m22 g5 (((Sha.numB (UInt64.ofNat x.ep) 4)++x.par)++ [UInt8.ofNat x.dep.toNat]) 0 hw22 (by simp only [jA,Sha.numB_length,jH];omega) (UInt64.ofNat x.aud.toNat) 1 xB xB))) O xD ?_
  rintro m26 hw26
  rw [qUL _ xB,qCB,qCq (qUL _ xB),qVu _ xB] at hw26
  refine J.b0<|J.u (J.D j7 ?_)
  refine J.k λ_ j8=>J.f λ_ j9=>J.W 4 qEJ qB9 O O O O O<|J.a6 1 qCQ O O O O O<|J.g (qAO qAn O O) O<|J.b O<|J.c j9 ?_
  refine J.T<|J.b5 (X:=Nat×Hp) (λx2=> [(5,Ptr g5),(28,.slice A x.nodes.length c),(29,I x.nodes.length),(30,I x2.1)]) (λx2=> [F,blk g1 [N64 x.ep,Str x.par,I x.dep,I x.aud,.slice A x.nodes.length c] 52,x2.2]) (λx2=>x2.1≤x.nodes.length∧Wtr x2.2 g5 (x.base++((x.nodes.take x2.1).map ndB).flatten) 0) (λx2=>x.nodes.length-x2.1) (0,m26) (⟨jE _,by rw [zm,zT,zQ,jR];exact hw26⟩) ⟨O,O,O,O,trivial⟩ (λ_ h=>h) ?_
  rintro⟨k,m⟩ ⟨hk,hw⟩ I0 hI0
  dsimp only at hk hw⊢
  refine J.f λ_ j10=>J.g (qAS O O O) O<|J.c j10 ?_
  refine J.k λ_ j11=>J.Z O (λh31=>?_) (λh31=>?_)
  ·
    refine J.M j11 ?_
    refine J.k λ_ j12=>J.T<|J.f λ_ j13=>J.g (qAF O O O qAn z9_ hsl xB) O<|J.g (qAI O O b9_ (m:=F) xD (hsl.elem (qAc (qAi [] (show k<x.nodes.length by omega))))) O<|J.b O<|J.c j13 ?_
    have hnl:=qNe (e3 _ (qR2 (show k<x.nodes.length by omega)))
    refine J.H<|J.b O<|J.q (qAK O O ent (Ct.use1 2 O (λF' _=>qP0 F' m g5 (x.base++((x.nodes.take k).map ndB).flatten) 0 hw (by have:=nd_small (λs hs=>e3 s (yH hs): ∀s∈x.nodes.take k,qEn s);rw [jF] at this;rw [jA,hbl];omega) (x.nodes.getD k []) xB))) O ?_
    rintro m35 hw35
    rw [(qMw xB).1,(qMw (s:=x.nodes.getD k []) (bs:= []) xB).2,jX,jX] at hw35
    change Wtr m35 g5 (x.base++(((x.nodes.take k).map ndB).flatten++ndB (x.nodes.getD k []))) 0 at hw35
    rw [←qXj xB] at hw35
    refine J.a4<|J.a2<|J.u (J.D j12 ?_)
    exact J.H<|J.g ((qAR O O O xB).nat (k+1) xB) O<|J.b O<|J.a4<|J.u<|J.a8 (k+1,m35) (λx2 (hx:_∧x.nodes.length-x2.1<x.nodes.length-k)=>hI0 x2 hx.1 hx.2) ⟨⟨by dsimp only;omega,hw35⟩,by dsimp only;omega⟩ ⟨O,O,O,O,trivial⟩ (λ_ h=>h)
  refine J.b3<|J.a0<|J.a0<|J.b4 ?_
  refine J.u (J.D j8 ?_)
  refine J.k λ_ j14=>?_
  rw [jV xB] at hw
  change Wtr m g5 x.bytes 0 at hw
  refine J.H<|J.q (qAK O O ent (Ct.use1 2 O (λF' _=>qDf F' m g5 x.bytes 0 hw (by have:=nd_small e3;unfold Hd.bytes;unfold Hd.base at hbl;rw [jA,hbl];omega)))) O ?_
  rintro m37 _
  refine J.p 4 O<|J.c j14 ?_
  exact J.A<|J.a9 hw0 (λ_ _ h=>h) (qBw O O O) (qAg () (by unfold Hd.enc;rw [if_pos e0,e0]<;>rfl) trivial [0] O xC)
theorem qSU{x:Hd}(h:x.err=0):x.bytes.length≤326:=by
 obtain ⟨e1,e2,e3⟩:=qR7 h
 have h1:=qOB e1
 have h2:=nd_small e3
 have h3:=qWB x.dep
 unfold Hd.bytes
 unfold Hd.base at h1
 rw [jA,h1];omega
theorem enc_0{x:Hd}(h:x.err=0):x.enc=x.bytes:=if_pos h
theorem qJi{x:Hd}(h:x.err=0):x.dig.length=16:=by unfold Hd.dig;rw [if_pos h,Sha.tagged_length]
theorem qLL(x:Hd):x.dig.length≤16:=by
 unfold Hd.dig
 split
 · rw [Sha.tagged_length];exact jJ _
 · exact jE _
theorem qCo(F:Hp)(hK:qAG F ⟨3,0,none⟩ (Sha.K.map W32))(x:Hd)(A:Option Addr)(c:Nat)(hg:x.good)(hsl:Sl F 1 A x.nodes.length c (qAH x.nodes)):
    Cz prog 70 [.agg #[N64 x.ep,Str x.par,I x.dep,I x.aud,.slice A x.nodes.length c]] F (Str x.dig):=by
  refine Ct.walk func70 O ntmps70 O (λw0 hw0=>?_)
  refine J.f λ_ j1=>J.q (qAb O O O) O λg1 _=>J.b O<|J.c j1 ?_
  refine J.f λ_ j2=>J.c0 1 qGA qDP O O O O O<|J.q (qAZ O O (λF' hF=>qPB F' x A c hg (hsl.mono (Fa hF)))) O λg7 _=>J.p 5 O<|J.c j2 ?_
  refine J.k λ_ j3=>J.f λ_ j4=>J.b O<|J.g (qAV O O O) O<|J.c j4 ?_
  refine J.Z O (λh11=>?_) (λh11=>?_)
  ·
    refine J.f λ_ j5=>J.b O<|J.c j5 ?_
    exact J.A<|J.V<|J.E hw0 O () (by unfold Hd.dig;rw [if_neg xB]) trivial [0] O xC
  refine J.M j3 ?_
  refine J.k λ_ j6=>?_
  have e0:x.err=0:=xB
  refine J.H<|J.g ((qA2 O O).as (v':=Str x.bytes) (congrArg Str (enc_0 e0))) O<|J.q (qAE (l:= [.tmp 12]) (xs:= [[Str (x.bytes)]]) O O O O qAn el9 O xC xC xD) O λg13 _=>J.q (qAZ O O (λF' hF=>qA3 F' (hK.mono (Fa hF)) 14 (some ⟨g13,0,none⟩) 1 1 [x.bytes] ((slS [x.bytes] O).mono (hF (blk g13 (([x.bytes]:List xA).map λs=>Str s) 9) xD)) (by have:=qSU e0;simp;omega) xC)) O λg14 _=>J.b O<|J.c j6 ?_
  exact J.A<|J.E hw0 O () (by unfold Hd.dig;rw [if_pos e0]) trivial [0] O xC
def Hd.gen(x:Hd):Int:=if x.err≠0 then x.err else if x.ep≠0 then 14 else if x.par≠qAk then 15 else 0
def Hd.next(x y:Hd):Int:=if y.err≠0 then y.err else if y.ep=0∨y.ep-1≠x.ep then 14 else if x.dig= []∨y.par≠x.dig then 15 else if y.dep≠x.dep∨y.aud<x.aud then 22 else 0
def Hd.same(x y:Hd):Prop:=x.err=0∧y.err=0∧x.enc=y.enc
instance (x y:Hd):Decidable (x.same y):=by unfold Hd.same;infer_instance
theorem gen_1{x:Hd}(h:x.err≠0):x.gen=x.err:=if_pos h
theorem gen_2{x:Hd}(h: ¬x.err≠0)(h2:x.ep≠0):x.gen=14:=by unfold Hd.gen;rw [if_neg h,if_pos h2]
theorem gen_3{x:Hd}(h: ¬x.err≠0)(h2: ¬x.ep≠0)(h3:x.par≠qAk):x.gen=15:=by unfold Hd.gen;rw [if_neg h,if_neg h2,if_pos h3]
theorem qZh{x:Hd}(h: ¬x.err≠0)(h2: ¬x.ep≠0)(h3: ¬x.par≠qAk):x.gen=0:=by unfold Hd.gen;rw [if_neg h,if_neg h2,if_neg h3]
theorem qZN{x y:Hd}(h:y.err≠0):x.next y=y.err:=if_pos h
theorem qVz{x y:Hd}(h: ¬y.err≠0)(h2:y.ep=0∨y.ep-1≠x.ep):x.next y=14:=by unfold Hd.next;rw [if_neg h,if_pos h2]
theorem qVy{x y:Hd}(h: ¬y.err≠0)(h2: ¬(y.ep=0∨y.ep-1≠x.ep))(h3:x.dig= []∨y.par≠x.dig):x.next y=15:=by unfold Hd.next;rw [if_neg h,if_neg h2,if_pos h3]
theorem qVx{x y:Hd}(h: ¬y.err≠0)(h2: ¬(y.ep=0∨y.ep-1≠x.ep))(h3: ¬(x.dig= []∨y.par≠x.dig))(h4:y.dep≠x.dep∨y.aud<x.aud):x.next y=22:=by unfold Hd.next;rw [if_neg h,if_neg h2,if_neg h3,if_pos h4]
theorem qVw{x y:Hd}(h: ¬y.err≠0)(h2: ¬(y.ep=0∨y.ep-1≠x.ep))(h3: ¬(x.dig= []∨y.par≠x.dig))(h4: ¬(y.dep≠x.dep∨y.aud<x.aud)):x.next y=0:=by unfold Hd.next;rw [if_neg h,if_neg h2,if_neg h3,if_neg h4]
theorem qUz(F:Hp)(hK:qAG F ⟨3,0,none⟩ (Sha.K.map W32))(x:Hd)(A:Option Addr)(c:Nat)(hg:x.good)(hsl:Sl F 1 A x.nodes.length c (qAH x.nodes))(y:Hd)(B:Option Addr)(e:Nat)(hgy:y.good)(hsy:Sl F 1 B y.nodes.length e (qAH y.nodes)):
    Cz prog 15 [.agg #[N64 x.ep,Str x.par,I x.dep,I x.aud,.slice A x.nodes.length c],.agg #[N64 y.ep,Str y.par,I y.dep,I y.aud,.slice B y.nodes.length e]] F (I (x.next y)):=by
  obtain ⟨hgx1,hgx2,hgx3⟩:=id hg
  obtain ⟨hgy1,hgy2,hgy3⟩:=id hgy
  refine Ct.walk func15 O ntmps15 O (λw0 hw0=>?_)
  refine J.f λ_ j1=>J.q (qAb O O O) O λg2 _=>J.q (qAb O O O) O λg3 _=>?_
  change J _ _ _ [_,_,blk g3 [N64 y.ep,Str y.par,I y.dep,I y.aud,.slice B y.nodes.length e] 52] _
  refine J.b O<|J.c j1 ?_
  refine J.k λ_ j2=>J.b1 [F,blk g2 [N64 x.ep,Str x.par,I x.dep,I x.aud,.slice A x.nodes.length c] 52,blk g3 [N64 y.ep,Str y.par,I y.dep,I y.aud,.slice B y.nodes.length e] 52] [] (.y 0 (.y 2 (.e 1 (.e 3 (.y 4 (.y 5 .nil)))))) Tryz.wide xF xD ?_
  refine J.j O (qAU 2 O O O qGA qDP O) O O<|J.j O (qAU 1 O O O qGA qDP O) O O<|J.a1 O (qAZ O O (λF' hF=>qHQ F' y B e hgy (hsy.mono (Fa hF)))) O xD λg8 _=>J.a1 O (qAZ O O (λF' hF=>qCo F' (hK.mo hF) x A c hg (hsl.mono (Fa hF)))) O xD λg10 _=>J.b7 ?_
  refine J.b7 ?_
  refine J.b0<|J.u (J.D j2 ?_)
  refine J.k λ_ j3=>J.T<|J.f λ_ j4=>J.b O<|J.g (qAV O O O) O<|J.b O<|J.c j4 ?_
  refine J.Z O (λh11=>?_) (λh11=>?_)
  ·
    refine J.f λ_ j5=>J.p 2 O<|J.c j5 ?_
    exact J.A<|J.a5<|J.V<|J.E hw0 O () (congrArg I (qZN xB).symm) trivial [0] O xC
  refine J.f λ_ j6=>J.W 0 qEJ qDs O O O O O<|J.a6 2 qEv O O O O O<|J.g (qAe O O O) O<|J.b O<|J.b9 (d:=19) O (λh19=>?_) (λh19=>?_)
  ·
    refine J.p 8 O<|J.c j6 ?_
    refine J.c3 ?_
    refine J.f λ_ j7=>J.b O<|J.c j7 ?_
    exact J.A<|J.a5<|J.V<|J.E hw0 O () (congrArg I (qVz xB xB).symm) trivial [0] O xC
  refine J.G (qAA (j:=0) O O qEJ O qDs O) O<|J.G (qAD 2 O O O qEv O) O<|J.G (qQ2 (b:=1) O O O xB) O<|J.G (qAA (j:=0) O O qEJ O qDs O) O<|J.G (qAD 1 O O O qEv O) O<|J.G (qAV O O O) O<|J.p 2 O<|J.c j6 ?_
  refine J.Z O (λh15=>?_) (λh15=>?_)
  ·
    refine J.f λ_ j8=>J.b O<|J.c j8 ?_
    exact J.A<|J.a5<|J.V<|J.E hw0 O () (congrArg I (qVz xB xB).symm) trivial [0] O xC
  refine J.f λ_ j9=>J.b O<|J.g (qBY O O O) O<|J.b O<|J.b9 (d:=30) O (λh30=>?_) (λh30=>?_)
  ·
    refine J.p 6 O<|J.c j9 ?_
    refine J.c3 ?_
    refine J.f λ_ j10=>J.b O<|J.c j10 ?_
    exact J.A<|J.a5<|J.V<|J.E hw0 O () (congrArg I (qVy xB xB (.inl h30)).symm) trivial [0] O xC
  refine J.G (qAA (j:=1) O O qEJ O z9_ O) O<|J.G (qAD 2 O O O b9_ O) O<|J.b O<|J.G (qDH O O O) O<|J.p 2 O<|J.c j9 ?_
  refine J.Z O (λh27=>?_) (λh27=>?_)
  ·
    refine J.f λ_ j11=>J.b O<|J.c j11 ?_
    exact J.A<|J.a5<|J.V<|J.E hw0 O () (congrArg I (qVy xB xB (.inr h27)).symm) trivial [0] O xC
  refine J.f λ_ j12=>J.W 2 qEJ z3_ O O O O O<|J.a6 2 b3_ O O O O O<|J.W 2 qEJ z3_ O O O O O<|J.a6 1 b3_ O O O O O<|J.g (qAV O O O) O<|J.b O<|J.b9 (d:=42) O (λh42=>?_) (λh42=>?_)
  ·
    refine J.p 7 O<|J.c j12 ?_
    refine J.c3 ?_
    refine J.f λ_ j13=>J.b O<|J.c j13 ?_
    exact J.A<|J.a5<|J.V<|J.E hw0 O () (congrArg I (qVx xB xB (λh=>h.elim h30 h27) xB).symm) trivial [0] O xC
  refine J.G (qAA (j:=3) O O qEJ O z3_ O) O<|J.G (qAD 2 O O O b3_ O) O<|J.G (qAA (j:=3) O O qEJ O z3_ O) O<|J.G (qAD 1 O O O b3_ O) O<|J.G (qAS O O O) O<|J.p 2 O<|J.c j12 ?_
  refine J.Z O (λh36=>?_) (λh36=>?_)
  ·
    refine J.f λ_ j14=>J.b O<|J.c j14 ?_
    exact J.A<|J.a5<|J.V<|J.E hw0 O () (congrArg I (qVx xB xB (λh=>h.elim h30 h27) xB).symm) trivial [0] O xC
  refine J.b2<|J.a2<|J.u (J.D j3 ?_)
  refine J.f λ_ j15=>J.b O<|J.c j15 ?_
  exact J.A<|J.E hw0 O () (congrArg I (qVw xB xB (λh=>h.elim h30 h27) xB).symm) trivial [0] O xC
theorem qJa(F:Hp)(hK:qAG F ⟨3,0,none⟩ (Sha.K.map W32))(x:Hd)(A:Option Addr)(c:Nat)(hg:x.good)(hsl:Sl F 1 A x.nodes.length c (qAH x.nodes))(hsm: ∀s∈x.nodes,s.length≤1048576):
    Cz prog 40 [.agg #[N64 x.ep,Str x.par,I x.dep,I x.aud,.slice A x.nodes.length c]] F (Str (qCW x.nodes x.dep)):=by
  refine Ct.walk func40 O ntmps40 O (λw0 hw0=>?_)
  refine J.f λ_ j1=>J.q (qAb O O O) O λg1 _=>J.b O<|J.c j1 ?_
  refine J.f λ_ j2=>J.W 4 qEJ qB9 O O O O O<|J.a6 1 qCQ O O O O O<|J.W 2 qEJ z3_ O O O O O<|J.a6 1 b3_ O O O O O<|J.q (qAZ O O (λF' hF=>qVI F' (hK.mo hF) x.dep x.nodes A c (hsl.mono (Fa hF)) hsm)) O λg10 _=>J.p 5 O<|J.c j2 ?_
  refine J.f λ_ j3=>J.p 2 O<|J.c j3 ?_
  exact J.A<|J.E hw0 O () O trivial [0] O xC
end Go.Proofs.YtmemgokiolfdoaaGreatDoor