/- A part of the proof. -/
import Derived.Test.YtfldiegfenndjaaGreatDoorTopAoG8
import Derived.Test.YtfldiegfenndjaaGreatDoorTopAoG17
import Derived.Test.YtfldiegfenndjaaGreatDoorTopAoG18
set_option linter.unusedSimpArgs false
set_option linter.unusedVariables false
namespace Go.Proofs.YtfldiegfenndjaaGreatDoor
open Go Go.Fw Go.Proofs.Tryz
set_option maxRecDepth 100000
set_option maxHeartbeats 1000000
theorem qKQ{s bs:List UInt8}(h:s.length≤4096):qMe s bs 0=bs++Sha.numB (UInt64.ofNat s.length) 2++s∧qD5 (okT s) 2 0=0:=by
 have h1:okT s=true:=decide_eq_true h
 unfold qMe
 rw [h1,qEW,if_pos rfl]
 exact⟨rfl,rfl⟩
structure Hd where
 ep:Nat
 par:List UInt8
 dep:Int
 aud:Int
 nodes:List (List UInt8)
def qD3(s:List UInt8):Prop:=s= [0]∨(s.length=17∧(s.getD 0 0=1∨s.getD 0 0=2))
instance (s:List UInt8):Decidable (qD3 s):=by unfold qD3;infer_instance
def Hd.out(x:Hd):Prop:=4294967295<x.ep∨x.par.length≠16∨cnt x.dep=0∨x.aud<0∨64<x.aud
instance (x:Hd):Decidable x.out:=by unfold Hd.out;infer_instance
def Hd.err(x:Hd):Int:=if x.out then 10 else if x.nodes.length≠cnt x.dep then 22 else if∀s∈x.nodes,qD3 s then 0 else 4
def ndB(s:List UInt8):List UInt8:=Sha.numB (UInt64.ofNat s.length) 2++s
def Hd.bytes(x:Hd):List UInt8:=Sha.numB (UInt64.ofNat x.ep) 4++x.par++ [UInt8.ofNat x.dep.toNat]++ [UInt8.ofNat x.aud.toNat]++(x.nodes.map ndB).flatten
def Hd.enc(x:Hd):List UInt8:=if x.err=0 then x.bytes else []
def Hd.dig(x:Hd):List UInt8:=if x.err=0 then Sha.tagged 14 [x.bytes] else []
def Hd.good(x:Hd):Prop:=x.ep<18446744073709551616∧x.par.length≤1048576∧x.nodes.length≤1073741824
theorem qI3{x:Hd}(h:x.out):x.err=10:=if_pos h
theorem qUE{x:Hd}(h: ¬x.out)(h2:x.nodes.length≠cnt x.dep):x.err=22:=by unfold Hd.err;rw [if_neg h,if_pos h2]
theorem err_4{x:Hd}(h: ¬x.out)(h2: ¬x.nodes.length≠cnt x.dep){s:List UInt8}(hs:s∈x.nodes)(hn: ¬qD3 s):x.err=4:=by unfold Hd.err;rw [if_neg h,if_neg h2,if_neg (λe=>hn (e s hs))]
theorem qUF{x:Hd}(h: ¬x.out)(h2: ¬x.nodes.length≠cnt x.dep)(hs: ∀s∈x.nodes,qD3 s):x.err=0:=by unfold Hd.err;rw [if_neg h,if_neg h2,if_pos hs]
theorem qON{x:Hd}(h:x.err=0): ¬x.out∧x.nodes.length=cnt x.dep∧ ∀s∈x.nodes,qD3 s:=by
  unfold Hd.err at h
  split at h
  · omega
  · rename_i h1
    split at h
    · omega
    · rename_i h2
      split at h
      · rename_i h3;exact⟨h1,Decidable.not_not.1 h2,h3⟩
      · omega
theorem qKw{s:List UInt8}(h:qD3 s):s.length≤17:=by
 rcases h with rfl|⟨h,_⟩
 · decide
 · omega
theorem qTA{l:List (List UInt8)}{p:List UInt8→Prop}{k:Nat}(h:k<l.length)(h1: ∀s∈l.take k,p s)(h2:p (l.getD k [])): ∀s∈l.take (k+1),p s:=λs hs=>by
  rw [jO h] at hs
  rcases List.mem_append.1 hs with h3|h3
  · exact h1 s h3
  · rw [jU] at h3
    rw [h3]
    rw [jB,jC h] at h2
    exact h2
theorem qOI{l:List (List UInt8)}{k:Nat}(h:k<l.length):l.getD k []∈l:=by
 rw [jB,jC h]
 exact jc h
theorem u8eq{c:UInt8}(k:UInt8):((c.toNat:Int)=(k.toNat:Int))↔c=k:=⟨λh=>UInt8.toNat_inj.1 (by omega),λh=>by rw [h]⟩
theorem qP6(F:Hp)(s:List UInt8):Ct prog 137 [Str s] [F] (λ_:Unit=> .bool (decide (qD3 s))) (λ_=>True) (λ_=> [F]):=by
 refine Ct.walk func137 rfl ntmps137 rfl (λw0 hw0=>?_)
 refine J.g λK1 hK1=>J.b V<|J.c hK1<|J.A 0 ?_
 refine J.g λK2 hK2=>J.b V<|J.f (qBb V V V) V<|J.b V<|J.c6 (d:=5) V (λh5=>?_) (λh5=>?_)
 ·
  refine J.j 4 V<|J.d7 (Wan.un V V V V) V V ?_
  refine J.d7 (Wan.un V V V V) V V ?_
  refine J.d7 (Wan.un V V V V) V V ?_
  refine J.d7 (Wan.un V V V V) V V ?_
  refine J.d7 (Wan.un V V V V) V V ?_
  refine J.d7 (Wan.un V V V V) V V ?_
  refine J.d7 (Wan.un V V V V) V V ?_
  refine J.d7 (Wan.un V V V V) V V ?_
  refine J.j 3 V<|J.c hK2<|J.A 2 ?_
  exact J.D<|J.Z hw0 V () (congrArg Value.bool (decide_eq_true (show qD3 s from .inl h5)).symm) trivial [0] rfl (by decide)
 refine J.b V<|J.T (qAg u9_ V V) V<|J.T (qAS V V V) V<|J.b V<|J.c6 (d:=9) V (λh9=>?_) (λh9=>?_)
 ·
  refine J.b V<|J.T (qBK (i:=0) (c:=s.getD 0 0) u9_ V V V (by rw [jB,jC (show 0<s.length by omega)];rfl)) rfl ?_
  refine J.T (qAS V V V) V<|J.b V<|J.c6 (d:=13) V (λh13=>?_) (λh13=>?_)
  ·
   refine J.j 7 V<|J.c hK2<|J.A 2 ?_
   exact J.D<|J.Z hw0 V () (congrArg Value.bool (decide_eq_true (show qD3 s from .inr ⟨by omega,.inl ((u8eq 1).1 h13)⟩)).symm) trivial [0] rfl (by decide)
  refine J.b V<|J.T (qBK (i:=0) (c:=s.getD 0 0) u9_ V V V (by rw [jB,jC (show 0<s.length by omega)];rfl)) rfl ?_
  refine J.T (qAS V V V) V<|J.j 4 V<|J.c hK2<|J.A 2 ?_
  exact J.D<|J.Z hw0 V () (congrArg Value.bool (decide_eq_decide.2 ⟨λh=>(show qD3 s from .inr ⟨by omega,.inr ((u8eq 2).1 h)⟩),λh=>by rcases h with h|⟨_,h|h⟩;exact absurd h h5;exact absurd ((u8eq 1).2 h) h13;exact(u8eq 2).2 h⟩)) trivial [0] rfl (by decide)
 refine J.j 4 V<|J.d7 (Wan.un V V V V) V V ?_
 refine J.d7 (Wan.un V V V V) V V ?_
 refine J.d7 (Wan.un V V V V) V V ?_
 refine J.j 4 V<|J.c hK2<|J.A 2 ?_
 exact J.D<|J.Z hw0 V () (congrArg Value.bool (decide_eq_false (show¬qD3 s from λh=>by rcases h with h|⟨h,_⟩;exact h5 h;omega)).symm) trivial [0] rfl (by decide)
theorem qIw(F:Hp)(x:Hd)(A:Option Addr)(c:Nat)(hg:x.good)(hsl:Sl F 1 A x.nodes.length c (qAH x.nodes)):
    Ct prog 82 [.agg #[N64 x.ep,Str x.par,I x.dep,I x.aud,.slice A x.nodes.length c]] [F] (λ_:Unit=>I x.err) (λ_=>True) (λ_=> [F]):=by
  obtain ⟨hg1,hg2,hg3⟩:=hg
  refine Ct.walk func82 rfl ntmps82 rfl (λw0 hw0=>?_)
  refine J.g λK1 hK1=>J.q (qAi V V V) V λg1 _=>J.b V<|J.c hK1<|J.A 1 ?_
  refine J.g λK2 hK2=>J.a2 2 qEC z3_ V V V V V<|J.c2 1 b3_ V V V V V<|J.q (qAB V V ent38 (Ct.use0 (λF' hF=>qEc F' x.dep))) V λg8 _=>J.b V<|J.c hK2<|J.E 1 3 ?_
  refine J.k λK3 hK3=>J.a1<|J.g λK4 hK4=>J.a2 0 qEC qCG V V V V V<|J.c2 1 qCZ V V V V V<|J.f (qA5 V V V) V<|J.b V<|J.c6 (d:=13) V (λh13=>?_) (λh13=>?_)
  ·
    refine J.j 20 V<|J.c hK4<|J.G 1 3 9 ?_
    refine J.c7 ?_
    refine J.g λK5 hK5=>J.b V<|J.c hK5<|J.A 2 ?_
    exact J.D<|J.b6<|J.a7<|J.Z hw0 V () (congrArg I (qI3 (show x.out by unfold Hd.out;omega)).symm) trivial [0] V (by decide)
  refine J.T (qAA V V qEC V z9_ V) V<|J.T (qAD 1 V V V b9_ V) V<|J.T (qAg u9_ V V) V<|J.T (qAU V V V) V<|J.j 2 V<|J.c6 (d:=19) V (λh19=>?_) (λh19=>?_)
  ·
    refine J.j 14 V<|J.c hK4<|J.G 1 3 9 ?_
    refine J.c7 ?_
    refine J.g λK6 hK6=>J.b V<|J.c hK6<|J.A 2 ?_
    exact J.D<|J.b6<|J.a7<|J.Z hw0 V () (congrArg I (qI3 (show x.out by unfold Hd.out;omega)).symm) trivial [0] V (by decide)
  refine J.b V<|J.T (qAS V V V) V<|J.j 2 V<|J.c6 (d:=23) V (λh23=>?_) (λh23=>?_)
  ·
    refine J.j 10 V<|J.c hK4<|J.G 1 3 9 ?_
    refine J.c7 ?_
    refine J.g λK7 hK7=>J.b V<|J.c hK7<|J.A 2 ?_
    exact J.D<|J.b6<|J.a7<|J.Z hw0 V () (congrArg I (qI3 (show x.out by unfold Hd.out;omega)).symm) trivial [0] V (by decide)
  refine J.T (qAA V V qEC V z3_ V) V<|J.T (qAD 1 V V V b3_ V) V<|J.T (qAT V V V) V<|J.j 2 V<|J.c6 (d:=28) V (λh28=>?_) (λh28=>?_)
  ·
    refine J.j 5 V<|J.c hK4<|J.G 1 3 9 ?_
    refine J.c7 ?_
    refine J.g λK8 hK8=>J.b V<|J.c hK8<|J.A 2 ?_
    exact J.D<|J.b6<|J.a7<|J.Z hw0 V () (congrArg I (qI3 (show x.out by unfold Hd.out;omega)).symm) trivial [0] V (by decide)
  refine J.T (qAA V V qEC V z3_ V) V<|J.T (qAD 1 V V V b3_ V) V<|J.T (qA5 V V V) V<|J.j 2 V<|J.c hK4<|J.G 1 3 9 ?_
  refine J.a4 V (λh9=>?_) (λh9=>?_)
  ·
    refine J.g λK9 hK9=>J.b V<|J.c hK9<|J.A 2 ?_
    exact J.D<|J.b6<|J.a7<|J.Z hw0 V () (congrArg I (qI3 (show x.out by unfold Hd.out;omega)).symm) trivial [0] V (by decide)
  refine J.g λK10 hK10=>J.a2 4 qEC qCA V V V V V<|J.c2 1 qCR V V V V V<|J.f (qAY qAh V V) V<|J.b V<|J.f (qAU V V V) V<|J.b V<|J.c hK10<|J.E 1 33 ?_
  refine J.a4 V (λh33=>?_) (λh33=>?_)
  ·
    refine J.g λK11 hK11=>J.b V<|J.c hK11<|J.A 2 ?_
    exact J.D<|J.b6<|J.a7<|J.Z hw0 V () (congrArg I (qUE (by unfold Hd.out;omega) (by omega)).symm) trivial [0] V (by decide)
  refine J.c0<|J.b0<|J.u (J.M hK3 ?_)
  refine J.A 1 ?_
  refine J.k λK12 hK12=>J.k λK13 hK13=>?_
  have hno: ¬x.out:=by unfold Hd.out;omega
  have hcn: ¬x.nodes.length≠cnt x.dep:=by omega
  refine J.H<|J.a2 4 qEC qCA V V V V V<|J.c2 1 qCR V V V V V<|J.f (qAY qAh V V) V<|J.b V<|J.c hK13<|J.G 40 41 42 ?_
  refine J.a1<|J.c1 (X:=Nat) (λk=> [(40,.slice A x.nodes.length c),(41,I x.nodes.length),(42,I k)]) (λ_=> [F,blk g1 [N64 x.ep,Str x.par,I x.dep,I x.aud,.slice A x.nodes.length c] 39]) (λk=>k≤x.nodes.length∧ ∀s∈x.nodes.take k,qD3 s) (λk=>x.nodes.length-k) 0 (⟨jF _,λs hs=>by simp at hs⟩) ⟨rfl,rfl,rfl,trivial⟩ (λ_ h=>h) ?_
  intro k ⟨hk,hall⟩ I0 hI0
  refine J.g λK14 hK14=>J.f (qAT V V V) V<|J.c hK14<|J.O 40 41 42 43 ?_
  refine J.k λK15 hK15=>J.a4 V (λh43=>?_) (λh43=>?_)
  ·
    refine J.W hK15<|J.G 40 41 42 ?_
    refine J.k λK16 hK16=>J.a1<|J.g λK17 hK17=>J.f (qAF V V V qAh z9_ hsl (by omega)) V<|J.f (qAL V V b9_ (m:=F) (by simp) (hsl.elem (qAZ (qAd [] (show k<x.nodes.length by omega))))) rfl<|J.b rfl<|J.c hK17<|J.O 5 40 41 42 ?_
    refine J.g λK18 hK18=>J.b V<|J.q (qAB V V ent137 (Ct.use0 (λF' hF=>qP6 F' (x.nodes.getD k [])))) V λg47 _=>J.f (qF0 V V) V<|J.c hK18<|J.O 40 41 42 48 ?_
    refine J.a4 V (λh48=>?_) (λh48=>?_)
    ·
      refine J.g λK19 hK19=>J.b V<|J.c hK19<|J.A 2 ?_
      exact J.D<|J.b6<|J.a7<|J.a7<|J.b6<|J.a7<|J.Z hw0 V () (congrArg I (err_4 hno hcn (qOI (show k<x.nodes.length by omega)) h48).symm) trivial [0] V (by decide)
    refine J.c0<|J.b0<|J.u (J.M hK16 ?_)
    refine J.G 40 41 42 ?_
    exact J.H<|J.f ((qAQ V V V (by omega)).nat (k+1) (by omega)) V<|J.b V<|J.a8<|J.u<|J.a9 (k+1) (λx2 (hx:_∧x.nodes.length-x2<x.nodes.length-k)=>hI0 x2 hx.1 hx.2) ⟨⟨by omega,qTA (by omega) hall (Decidable.not_not.1 h48)⟩,by omega⟩ ⟨V,V,V,trivial⟩ (λ_ h=>h)
  refine J.b8<|J.a6<|J.a6<|J.b9 ?_
  refine J.u (J.M hK12 ?_)
  refine J.d0 [] trivial<|J.k λK20 hK20=>?_
  rw [jV (by omega)] at hall
  refine J.H<|J.b V<|J.c hK20<|J.A 2 ?_
  exact J.D<|J.Z hw0 V () (congrArg I (qUF hno hcn hall).symm) trivial [0] V (by decide)
def Hd.base(x:Hd):List UInt8:=Sha.numB (UInt64.ofNat x.ep) 4++x.par++ [UInt8.ofNat x.dep.toNat]++ [UInt8.ofNat x.aud.toNat]
theorem qQs: ∀k,k<65→Sha.numB (UInt64.ofNat k) 1= [UInt8.ofNat k]:=by decide+kernel
theorem qPh: ∀k,k<65→okN (UInt64.ofNat k) 1=true:=by decide+kernel
theorem qNc{x:Hd}(h: ¬x.out):x.ep≤4294967295∧x.par.length=16∧(0≤x.dep∧x.dep≤4)∧0≤x.aud∧x.aud≤64:=by
 have h1: ¬cnt x.dep=0:=λe=>h (.inr (.inr (.inl e)))
 rw [qH0] at h1
 unfold Hd.out at h
 omega
theorem qSR{l:List (List UInt8)}{k:Nat}(h:k<l.length):((l.take (k+1)).map ndB).flatten=((l.take k).map ndB).flatten++ndB (l.getD k []):=by
 rw [jO h,jM,zc,jR,zT,jW,jw,jS,jB,jC h];rfl
theorem nd_small{l:List (List UInt8)}(h: ∀s∈l,qD3 s):(l.map ndB).flatten.length≤19*l.length:=by
 induction l with
 |nil=>exact jF _
 |cons a l ih=>
  have h1:=ih (λs hs=>h s (.tail _ hs))
  have h2:=qKw (h a (.head _))
  rw [jR,jW,jA,jD]
  unfold ndB at h1⊢
  rw [jA,Sha.numB_length];omega
theorem qLS{x:Hd}(h: ¬x.out):x.base.length=22:=by
 have:=qNc h
 unfold Hd.base
 simp only [jA,Sha.numB_length,jP];omega
theorem qML(F:Hp)(x:Hd)(A:Option Addr)(c:Nat)(hg:x.good)(hsl:Sl F 1 A x.nodes.length c (qAH x.nodes)):
    Ct prog 43 [.agg #[N64 x.ep,Str x.par,I x.dep,I x.aud,.slice A x.nodes.length c]] [F] (λ_:Unit=> .tuple #[Str x.enc,I x.err]) (λ_=>True) (λ_=> [F]):=by
  refine Ct.walk func43 rfl ntmps43 rfl (λw0 hw0=>?_)
  refine J.g λK1 hK1=>J.q (qAi V V V) V λg1 _=>J.j 2 V<|J.c hK1<|J.A 1 ?_
  refine J.k λK2 hK2=>J.g λK3 hK3=>J.c8 1 qE0 qCj V V V V V<|J.q (qAB V V ent82 (Ct.use0 (λF' hF=>qIw F' x A c hg (hsl.mono (hF F (by simp)))))) rfl λg9 _=>J.b rfl<|J.c hK3<|J.E 1 4 ?_
  refine J.g λK4 hK4=>J.b V<|J.f (qAU V V V) V<|J.c hK4<|J.G 1 4 11 ?_
  refine J.a4 V (λh11=>?_) (λh11=>?_)
  ·
    refine J.g λK5 hK5=>J.j 3 V<|J.c hK5<|J.E 2 3 ?_
    exact J.D<|J.a7<|J.b4 hw0 (λ_ _ h=>h) (qDe V V V) (qAj () (by unfold Hd.enc;rw [if_neg (by omega)]) trivial [0] rfl (by decide))
  refine J.W hK2<|J.A 1 ?_
  refine J.k λK6 hK6=>?_
  have e0:x.err=0:=by omega
  obtain ⟨e1,e2,e3⟩:=qON e0
  obtain ⟨e4,e5,e6,e7,e8⟩:=qNc e1
  have hbl:=qLS e1
  have hc16:=qRD x.dep
  refine J.H<|J.q (qAO V qKB V) V λg5 _=>J.c hK6<|J.E 1 5 ?_
  refine J.k λK7 hK7=>J.b7 [blk g1 [N64 x.ep,Str x.par,I x.dep,I x.aud,.slice A x.nodes.length c] 39] [] (.y 0 (.y 1 (.y 3 (.y 4 (.y 6 (.y 7 (.y 8 (.y 10 (.y 11 (.y 12 (.e 2 (.e 5 (.e 9 (.e 13 .nil)))))))))))))) Tryz.wide (by decide+kernel) (by simp) ?_
  refine J.p V (qAA V V qEC V qCG V) V V<|J.p V (qAD 0 V V V qCZ V) V V<|J.p V (qAA V V qEC V z9_ V) V V<|J.p V (qAD 0 V V V b9_ V) V V<|J.p V (qAA V V qEC V z3_ V) V V<|J.p V (qAD 0 V V V b3_ V) V V<|J.p V ((qCd V V u3_ qED).as (v':=W64 (UInt64.ofNat x.dep.toNat)) (by rw [show(x.dep%18446744073709551616).toNat=x.dep.toNat by omega])) rfl rfl<|J.p rfl (qAA rfl rfl qEC rfl z3_ rfl) rfl rfl<|J.p rfl (qAD 0 rfl rfl rfl b3_ rfl) rfl rfl<|J.p rfl ((qCd rfl rfl u3_ qED).as (v':=W64 (UInt64.ofNat x.aud.toNat)) (by rw [show(x.aud%18446744073709551616).toNat=x.aud.toNat by omega])) rfl rfl<|J.b2 rfl (qAB rfl rfl ent83 (Ct.use1 2 rfl (λF' _=>qNm F' (blk g5 [.pointer none,.slice none 0 0,I 0] 188) g5 [] 0 (qMd g5) (by decide) x.ep (by omega) 4 (by omega) (by omega)))) rfl (by simp) ?_
  rintro m15 hw15
  rw [qIl (size:=4) (by omega) (by omega),qEW,qDH (qIl (size:=4) (by omega) (by omega)),jp] at hw15
  refine J.b2 V (qAB V V ent84 (Ct.use1 2 V (λF' _=>qLJ F' m15 g5 (Sha.numB (UInt64.ofNat x.ep) 4) 0 hw15 (by rw [Sha.numB_length];omega) x.par (by omega) 16))) rfl (by simp) ?_
  rintro m18 hw18
  rw [qTN e5,qTr e5,qEW] at hw18
  refine J.b2 V (qAB V V ent83 (Ct.use1 2 V (λF' _=>qE9 F' m18 g5 ((Sha.numB (UInt64.ofNat x.ep) 4)++x.par) 0 hw18 (by simp only [jA,Sha.numB_length];omega) (UInt64.ofNat x.dep.toNat) 1 (by omega) (by omega)))) rfl (by simp) ?_
  rintro m22 hw22
  rw [qPh _ (by omega),qEW,qDH (qPh _ (by omega)),qQs _ (by omega)] at hw22
  refine J.b2 V (qAB V V ent83 (Ct.use1 2 V (λF' _=>qE9 F' m22 g5 (((Sha.numB (UInt64.ofNat x.ep) 4)++x.par)++ [UInt8.ofNat x.dep.toNat]) 0 hw22 (by simp only [jA,Sha.numB_length,jP];omega) (UInt64.ofNat x.aud.toNat) 1 (by omega) (by omega)))) rfl (by simp) ?_
  rintro m26 hw26
  rw [qPh _ (by omega),qEW,qDH (qPh _ (by omega)),qQs _ (by omega)] at hw26
  refine J.b3<|J.u (J.M hK7 ?_)
  refine J.E 1 5 ?_
  refine J.k λK8 hK8=>J.g λK9 hK9=>J.a2 4 qEC qCA V V V V V<|J.c2 1 qCR V V V V V<|J.f (qAY qAh V V) V<|J.b V<|J.c hK9<|J.O 5 28 29 30 ?_
  refine J.a1<|J.c1 (X:=Nat×Hp) (λx2=> [(5,Ptr g5),(28,.slice A x.nodes.length c),(29,I x.nodes.length),(30,I x2.1)]) (λx2=> [F,blk g1 [N64 x.ep,Str x.par,I x.dep,I x.aud,.slice A x.nodes.length c] 39,x2.2]) (λx2=>x2.1≤x.nodes.length∧Wtr x2.2 g5 (x.base++((x.nodes.take x2.1).map ndB).flatten) 0) (λx2=>x.nodes.length-x2.1) (0,m26) (⟨jF _,by rw [zx,zT,jw,jS];exact hw26⟩) ⟨rfl,rfl,rfl,rfl,trivial⟩ (λ_ h=>h) ?_
  rintro⟨k,m⟩ ⟨hk,hw⟩ I0 hI0
  dsimp only at hk hw⊢
  refine J.g λK10 hK10=>J.f (qAT V V V) V<|J.c hK10<|J.a0 5 28 29 30 31 ?_
  refine J.k λK11 hK11=>J.a4 V (λh31=>?_) (λh31=>?_)
  ·
    refine J.W hK11<|J.O 5 28 29 30 ?_
    refine J.k λK12 hK12=>J.a1<|J.g λK13 hK13=>J.f (qAF V V V qAh z9_ hsl (by omega)) V<|J.f (qAL V V b9_ (m:=F) (by simp) (hsl.elem (qAZ (qAd [] (show k<x.nodes.length by omega))))) rfl<|J.b rfl<|J.c hK13<|J.a0 5 7 28 29 30 ?_
    have hnl:=qKw (e3 _ (qOI (show k<x.nodes.length by omega)))
    refine J.H<|J.b V<|J.q (qAB V V ent85 (Ct.use1 2 V (λF' _=>qRc F' m g5 (x.base++((x.nodes.take k).map ndB).flatten) 0 hw (by have:=nd_small (λs hs=>e3 s (List.mem_of_mem_take hs): ∀s∈x.nodes.take k,qD3 s);rw [jE] at this;rw [jA,hbl];omega) (x.nodes.getD k []) (by omega)))) rfl ?_
    rintro m35 hw35
    rw [(qKQ (by omega)).1,(qKQ (s:=x.nodes.getD k []) (bs:= []) (by omega)).2,jT,jT] at hw35
    change Wtr m35 g5 (x.base++(((x.nodes.take k).map ndB).flatten++ndB (x.nodes.getD k []))) 0 at hw35
    rw [←qSR (by omega)] at hw35
    refine J.a8<|J.b0<|J.u (J.M hK12 ?_)
    refine J.O 5 28 29 30 ?_
    exact J.H<|J.f ((qAQ V V V (by omega)).nat (k+1) (by omega)) V<|J.b V<|J.a8<|J.u<|J.a9 (k+1,m35) (λx2 (hx:_∧x.nodes.length-x2.1<x.nodes.length-k)=>hI0 x2 hx.1 hx.2) ⟨⟨by dsimp only;omega,hw35⟩,by dsimp only;omega⟩ ⟨V,V,V,V,trivial⟩ (λ_ h=>h)
  refine J.b8<|J.a6<|J.a6<|J.b9 ?_
  refine J.u (J.M hK8 ?_)
  refine J.A 5 ?_
  refine J.k λK14 hK14=>?_
  rw [jV (by omega)] at hw
  change Wtr m g5 x.bytes 0 at hw
  refine J.H<|J.q (qAB V V ent86 (Ct.use1 2 V (λF' _=>qFc F' m g5 x.bytes 0 hw (by have:=nd_small e3;unfold Hd.bytes;unfold Hd.base at hbl;rw [jA,hbl];omega)))) rfl ?_
  rintro m37 _
  refine J.j 4 V<|J.c hK14<|J.E 2 3 ?_
  exact J.D<|J.b4 hw0 (λ_ _ h=>h) (qDe V V V) (qAj () (by unfold Hd.enc;rw [if_pos e0,e0]<;>rfl) trivial [0] rfl (by decide))
theorem qOY{x:Hd}(h:x.err=0):x.bytes.length≤326:=by
 obtain ⟨e1,e2,e3⟩:=qON h
 have h1:=qLS e1
 have h2:=nd_small e3
 have h3:=qRD x.dep
 unfold Hd.bytes
 unfold Hd.base at h1
 rw [jA,h1];omega
theorem enc_0{x:Hd}(h:x.err=0):x.enc=x.bytes:=if_pos h
theorem qBs{x:Hd}(h:x.err=0):x.dig.length=16:=by unfold Hd.dig;rw [if_pos h,Sha.tagged_length]
theorem qA2(F:Hp)(hK:KF F)(x:Hd)(A:Option Addr)(c:Nat)(hg:x.good)(hsl:Sl F 1 A x.nodes.length c (qAH x.nodes)):
    Ct prog 11 [.agg #[N64 x.ep,Str x.par,I x.dep,I x.aud,.slice A x.nodes.length c]] [F] (λ_:Unit=>Str x.dig) (λ_=>True) (λ_=> [F]):=by
  refine Ct.walk func11 rfl ntmps11 rfl (λw0 hw0=>?_)
  refine J.g λK1 hK1=>J.q (qAi V V V) V λg1 _=>J.b V<|J.c hK1<|J.A 1 ?_
  refine J.g λK2 hK2=>J.c8 1 qE0 qCj V V V V V<|J.q (qAB V V ent43 (Ct.use0 (λF' hF=>qML F' x A c hg (hsl.mono (hF F (by simp)))))) rfl λg7 _=>J.j 5 rfl<|J.c hK2<|J.E 3 4 ?_
  refine J.k λK3 hK3=>J.g λK4 hK4=>J.b V<|J.f (qAU V V V) V<|J.c hK4<|J.E 3 11 ?_
  refine J.a4 V (λh11=>?_) (λh11=>?_)
  ·
    refine J.g λK5 hK5=>J.b V<|J.c hK5<|J.A 2 ?_
    exact J.D<|J.a7<|J.Z hw0 V () (by unfold Hd.dig;rw [if_neg (by omega)]) trivial [0] rfl (by decide)
  refine J.W hK3<|J.A 3 ?_
  refine J.k λK6 hK6=>?_
  have e0:x.err=0:=by omega
  refine J.H<|J.f ((qAb V V).as (v':=Str x.bytes) (congrArg Str (enc_0 e0))) V<|J.q (qAJ (l:= [.tmp 12]) (xs:= [[Str (x.bytes)]]) V V V V qAh el9 V (by decide) (by decide) (by simp)) rfl λg13 _=>J.q (qAB rfl rfl ent44 (Ct.use0 (λF' hF=>qA7 F' (hK.mono (hF _ (by simp))) 14 (some ⟨g13,0,none⟩) 1 1 [x.bytes] ((slS [x.bytes] rfl).mono (hF (blk g13 (([x.bytes]:List (List UInt8)).map λs=>Str s) 9) (by simp))) (by have:=qOY e0;simp;omega) (by decide)))) rfl λg14 _=>J.b rfl<|J.c hK6<|J.A 2 ?_
  exact J.D<|J.Z hw0 V () (by unfold Hd.dig;rw [if_pos e0]) trivial [0] rfl (by decide)
def Hd.next(x y:Hd):Int:=if y.err≠0 then y.err else if y.ep=0∨y.ep-1≠x.ep then 14 else if x.dig= []∨y.par≠x.dig then 15 else if y.dep≠x.dep∨y.aud<x.aud then 22 else 0
def Hd.same(x y:Hd):Prop:=x.err=0∧y.err=0∧x.enc=y.enc
instance (x y:Hd):Decidable (x.same y):=by unfold Hd.same;infer_instance
theorem qTy{x y:Hd}(h:y.err≠0):x.next y=y.err:=if_pos h
theorem qQy{x y:Hd}(h: ¬y.err≠0)(h2:y.ep=0∨y.ep-1≠x.ep):x.next y=14:=by unfold Hd.next;rw [if_neg h,if_pos h2]
theorem qQx{x y:Hd}(h: ¬y.err≠0)(h2: ¬(y.ep=0∨y.ep-1≠x.ep))(h3:x.dig= []∨y.par≠x.dig):x.next y=15:=by unfold Hd.next;rw [if_neg h,if_neg h2,if_pos h3]
theorem qQw{x y:Hd}(h: ¬y.err≠0)(h2: ¬(y.ep=0∨y.ep-1≠x.ep))(h3: ¬(x.dig= []∨y.par≠x.dig))(h4:y.dep≠x.dep∨y.aud<x.aud):x.next y=22:=by unfold Hd.next;rw [if_neg h,if_neg h2,if_neg h3,if_pos h4]
theorem qQv{x y:Hd}(h: ¬y.err≠0)(h2: ¬(y.ep=0∨y.ep-1≠x.ep))(h3: ¬(x.dig= []∨y.par≠x.dig))(h4: ¬(y.dep≠x.dep∨y.aud<x.aud)):x.next y=0:=by unfold Hd.next;rw [if_neg h,if_neg h2,if_neg h3,if_neg h4]
theorem qP7(F:Hp)(hK:KF F)(x:Hd)(A:Option Addr)(c:Nat)(hg:x.good)(hsl:Sl F 1 A x.nodes.length c (qAH x.nodes))(y:Hd)(B:Option Addr)(e:Nat)(hgy:y.good)(hsy:Sl F 1 B y.nodes.length e (qAH y.nodes)):
    Ct prog 49 [.agg #[N64 x.ep,Str x.par,I x.dep,I x.aud,.slice A x.nodes.length c],.agg #[N64 y.ep,Str y.par,I y.dep,I y.aud,.slice B y.nodes.length e]] [F] (λ_:Unit=>I (x.next y)) (λ_=>True) (λ_=> [F]):=by
  obtain ⟨hgx1,hgx2,hgx3⟩:=id hg
  obtain ⟨hgy1,hgy2,hgy3⟩:=id hgy
  refine Ct.walk func49 rfl ntmps49 rfl (λw0 hw0=>?_)
  refine J.g λK1 hK1=>J.q (qAi V V V) V λg2 _=>J.q (qAi V V V) V λg3 _=>?_
  change J _ _ _ [_,_,blk g3 [N64 y.ep,Str y.par,I y.dep,I y.aud,.slice B y.nodes.length e] 39] _
  refine J.b V<|J.c hK1<|J.E 2 3 ?_
  refine J.k λK2 hK2=>J.b7 [F,blk g2 [N64 x.ep,Str x.par,I x.dep,I x.aud,.slice A x.nodes.length c] 39,blk g3 [N64 y.ep,Str y.par,I y.dep,I y.aud,.slice B y.nodes.length e] 39] [] (.y 0 (.y 2 (.e 1 (.e 3 (.y 4 (.y 5 .nil)))))) Tryz.wide (by decide+kernel) (by simp) ?_
  refine J.p V (qAm 2 V V V qE0 qCj V) V V<|J.p V (qAm 1 V V V qE0 qCj V) V V<|J.b2 V (qAB V V ent82 (Ct.use0 (λF' hF=>qIw F' y B e hgy (hsy.mono (hF F (by simp)))))) rfl (by simp) λg8 _=>J.b2 rfl (qAB rfl rfl ent11 (Ct.use0 (λF' hF=>qA2 F' (hK.mo hF) x A c hg (hsl.mono (hF F (by simp)))))) rfl (by simp) λg10 _=>J.c3 ?_
  refine J.c3 ?_
  refine J.b3<|J.u (J.M hK2 ?_)
  refine J.O 2 3 5 6 ?_
  refine J.k λK3 hK3=>J.a1<|J.g λK4 hK4=>J.b V<|J.f (qAU V V V) V<|J.b V<|J.c hK4<|J.a0 2 3 5 6 11 ?_
  refine J.a4 V (λh11=>?_) (λh11=>?_)
  ·
    refine J.g λK5 hK5=>J.j 2 V<|J.c hK5<|J.A 4 ?_
    exact J.D<|J.b6<|J.a7<|J.Z hw0 V () (congrArg I (qTy (by omega)).symm) trivial [0] V (by decide)
  refine J.g λK6 hK6=>J.a2 0 qEC qCG V V V V V<|J.c2 2 qCZ V V V V V<|J.f (qAS V V V) V<|J.b V<|J.c6 (d:=19) V (λh19=>?_) (λh19=>?_)
  ·
    refine J.j 8 V<|J.c hK6<|J.O 2 3 6 15 ?_
    refine J.c7 ?_
    refine J.g λK7 hK7=>J.b V<|J.c hK7<|J.A 4 ?_
    exact J.D<|J.b6<|J.a7<|J.Z hw0 V () (congrArg I (qQy (by omega) (by omega)).symm) trivial [0] V (by decide)
  refine J.T (qAA (j:=0) V V qEC V qCG V) V<|J.T (qAD 2 V V V qCZ V) V<|J.T (qSD (b:=1) V V V (by omega)) V<|J.T (qAA (j:=0) V V qEC V qCG V) V<|J.T (qAD 1 V V V qCZ V) V<|J.T (qAU V V V) V<|J.j 2 V<|J.c hK6<|J.O 2 3 6 15 ?_
  refine J.a4 V (λh15=>?_) (λh15=>?_)
  ·
    refine J.g λK8 hK8=>J.b V<|J.c hK8<|J.A 4 ?_
    exact J.D<|J.b6<|J.a7<|J.Z hw0 V () (congrArg I (qQy (by omega) (by omega)).symm) trivial [0] V (by decide)
  refine J.g λK9 hK9=>J.b V<|J.f (qBb V V V) V<|J.b V<|J.c6 (d:=30) V (λh30=>?_) (λh30=>?_)
  ·
    refine J.j 6 V<|J.c hK9<|J.G 2 3 27 ?_
    refine J.c7 ?_
    refine J.g λK10 hK10=>J.b V<|J.c hK10<|J.A 4 ?_
    exact J.D<|J.b6<|J.a7<|J.Z hw0 V () (congrArg I (qQx (by omega) (by omega) (.inl h30)).symm) trivial [0] V (by decide)
  refine J.T (qAA (j:=1) V V qEC V z9_ V) V<|J.T (qAD 2 V V V b9_ V) V<|J.b V<|J.T (qBv V V V) V<|J.j 2 V<|J.c hK9<|J.G 2 3 27 ?_
  refine J.a4 V (λh27=>?_) (λh27=>?_)
  ·
    refine J.g λK11 hK11=>J.b V<|J.c hK11<|J.A 4 ?_
    exact J.D<|J.b6<|J.a7<|J.Z hw0 V () (congrArg I (qQx (by omega) (by omega) (.inr h27)).symm) trivial [0] V (by decide)
  refine J.g λK12 hK12=>J.a2 2 qEC z3_ V V V V V<|J.c2 2 b3_ V V V V V<|J.a2 2 qEC z3_ V V V V V<|J.c2 1 b3_ V V V V V<|J.f (qAU V V V) V<|J.b V<|J.c6 (d:=42) V (λh42=>?_) (λh42=>?_)
  ·
    refine J.j 7 V<|J.c hK12<|J.A 36 ?_
    refine J.c7 ?_
    refine J.g λK13 hK13=>J.b V<|J.c hK13<|J.A 4 ?_
    exact J.D<|J.b6<|J.a7<|J.Z hw0 V () (congrArg I (qQw (by omega) (by omega) (λh=>h.elim h30 h27) (by omega)).symm) trivial [0] V (by decide)
  refine J.T (qAA (j:=3) V V qEC V z3_ V) V<|J.T (qAD 2 V V V b3_ V) V<|J.T (qAA (j:=3) V V qEC V z3_ V) V<|J.T (qAD 1 V V V b3_ V) V<|J.T (qAT V V V) V<|J.j 2 V<|J.c hK12<|J.A 36 ?_
  refine J.a4 V (λh36=>?_) (λh36=>?_)
  ·
    refine J.g λK14 hK14=>J.b V<|J.c hK14<|J.A 4 ?_
    exact J.D<|J.b6<|J.a7<|J.Z hw0 V () (congrArg I (qQw (by omega) (by omega) (λh=>h.elim h30 h27) (by omega)).symm) trivial [0] V (by decide)
  refine J.c0<|J.b0<|J.u (J.M hK3 ?_)
  refine J.d0 [] trivial<|J.g λK15 hK15=>J.b V<|J.c hK15<|J.A 4 ?_
  exact J.D<|J.Z hw0 V () (congrArg I (qQv (by omega) (by omega) (λh=>h.elim h30 h27) (by omega)).symm) trivial [0] V (by decide)
theorem ent96:qAE prog 96:=qAE.of func96 rfl (by kernel_rfl)
theorem ent99:qAE prog 99:=qAE.of func99 rfl (by kernel_rfl)
theorem ent101:qAE prog 101:=qAE.of func101 rfl (by kernel_rfl)
theorem ent102:qAE prog 102:=qAE.of func102 rfl (by kernel_rfl)
theorem ent149:qAE prog 149:=qAE.of func149 rfl (by kernel_rfl)
theorem ent150:qAE prog 150:=qAE.of func150 rfl (by kernel_rfl)
theorem ent186:qAE prog 186:=qAE.of func186 rfl (by kernel_rfl)
def qFw(bs:List (List UInt8))(th:Bool)(pk pv k:List UInt8)(d:Nat):List UInt8:=clm k d bs (if th=true then Sb.leafN pk pv else [0]) bs.length
theorem qCY(k v:List UInt8):(Sb.leafN k v).length≤17:=by unfold Sb.leafN;rw [jD,Sha.tagged_length];exact jJ _
theorem qPZ(F:Hp)(hK:KF F)(A:Option Addr)(c:Nat)(bs:List (List UInt8))(hs:Sl F 1 A bs.length c (qAH bs))(th:Bool)(pk pv k:List UInt8)(d:Nat)(hg:qOq bs th pk pv k d)(hpv:pv.length≤1000000):Ct prog 150 [.agg #[.slice A bs.length c,.bool (th),Str (pk),Str (pv)],Str (k),I ((d:Nat):Int)] [F] (λ_:Unit=>Str (qFw bs th pk pv k d)) (λ_=>True) (λ_=> [F]):=by
 have hle:=hg.le
 have hk16:=hg.k16
 have hsm:=hg.small
 refine Ct.walk func150 rfl ntmps150 rfl (λw0 hw0=>?_)
 refine J.g λK1 hK1=>J.q (qAi V V V) V λg3 _=>J.b V<|J.c hK1<|J.G 1 2 3 ?_
 refine J.k λK2 hK2=>J.g λK3 hK3=>J.c8 1 qKI qGV V V V V V<|J.j 2 V<|J.q (qAB V V ent149 (Ct.use0 (λF' hF=>qJ3 F' A c bs (hs.mono (hF F (by simp))) th pk pv k d (by assumption)))) rfl λg11 _=>J.f (qAw rfl rfl) rfl<|J.c hK3<|J.O 1 2 3 12 ?_
 refine J.a5 ?_
 refine J.W hK2<|J.G 1 2 3 ?_
 refine J.g λK4 hK4=>J.b V<|J.c hK4<|J.O 1 2 3 7 ?_
 refine J.k λK5 hK5=>J.g λK6 hK6=>J.a2 1 qDI z4_ V V V V V<|J.c2 1 b4_ V V V V V<|J.c hK6<|J.a0 1 2 3 7 14 ?_
 refine J.e3 V (λh14=>?_) (λh14=>?_)
 ·
  have hpl:=(hg.yes h14).1
  refine J.H<|J.a2 2 qDI z9_ V V V V V<|J.c2 1 b9_ V V V V V<|J.a2 3 qDI z9_ V V V V V<|J.c2 1 b9_ V V V V V<|J.q (qAB V V ent176 (Ct.use0 (λF' hF=>qFQ F' (hK.mo hF) pk pv (by first|omega|exact jk V) (by first|omega|exact jk V)))) V λg19 _=>J.b V<|J.c hK5<|J.O 1 2 3 7 ?_
  refine J.g λK7 hK7=>J.c8 1 qKI qGV V V V V V<|J.j 3 V<|J.q (qAB V V ent186 (Ct.use0 (λF' hF=>qDQ F' (hK.mo hF) A c bs (hs.mono (hF F (by simp))) th pk pv (Sb.leafN pk pv) k d (by assumption) (by assumption) (by assumption) (by first|assumption|exact qCY _ _|exact jk rfl)))) rfl λg24 _=>J.b rfl<|J.c hK7<|J.A 6 ?_
  exact J.D<|J.Z hw0 V () (by unfold qFw;first|rw [if_pos (by assumption)]|rw [if_neg (by simp [*])]) trivial [0] rfl (by decide)
 refine J.W hK5<|J.O 1 2 3 7 ?_
 refine J.g λK8 hK8=>J.c8 1 qKI qGV V V V V V<|J.j 3 V<|J.q (qAB V V ent186 (Ct.use0 (λF' hF=>qDQ F' (hK.mo hF) A c bs (hs.mono (hF F (by simp))) th pk pv ([0]) k d (by assumption) (by assumption) (by assumption) (by first|assumption|exact qCY _ _|exact jk rfl)))) rfl λg24 _=>J.b rfl<|J.c hK8<|J.A 6 ?_
 exact J.D<|J.Z hw0 V () (by unfold qFw;first|rw [if_pos (by assumption)]|rw [if_neg (by simp [*])]) trivial [0] rfl (by decide)
theorem qIo(F:Hp)(k:List UInt8)(hk:k.length≤1000000)(pb pd:Nat)(b:List UInt8)(d:Int)(hpb:qAP F ⟨pb,0,none⟩ [Str b])(hpd:qAP F ⟨pd,0,none⟩ [I d])(hb:b.length≤1000000):Ct prog 99 [Str (k),Ptr pb,Ptr pd] [F] (λ_:Unit=> .bool (nbl b d k)) (λ_=>True) (λ_=> [F]):=by
 refine Ct.walk func99 rfl ntmps99 rfl (λw0 hw0=>?_)
 refine J.g λK1 hK1=>J.b V<|J.c hK1<|J.G 0 1 2 ?_
 refine J.g λK2 hK2=>J.b V<|J.f (qAL V V b9_ (m:=F) (by simp) (hpb)) rfl<|J.f (qAL rfl rfl b3_ (m:=F) (by simp) (hpd)) rfl<|J.q (qAB rfl rfl ent100 (Ct.use0 (λF' hF=>qEb F' k (by omega) b (by omega) d))) rfl λg8 _=>J.f (qAw rfl rfl) rfl<|J.b rfl<|J.c hK2<|J.A 4 ?_
 exact J.D<|J.Z hw0 V () (by unfold nbl;rfl) trivial [0] V (by decide)
theorem qPD(F:Hp)(A:Option Addr)(n c:Nat)(ks:List (List UInt8))(hs:Sl F 1 A n c (qAH ks))(hn:n≤1000000)(hsm: ∀k:Nat,(ks.getD k []).length≤1000000)(pb pd:Nat)(b:List UInt8)(d:Int)(hpb:qAP F ⟨pb,0,none⟩ [Str b])(hpd:qAP F ⟨pd,0,none⟩ [I d])(hb:b.length≤1000000):Ct prog 146 [.slice A n c,.func (.func 99) #[] #[Ptr pb,Ptr pd]] [F] (λ_:Unit=>I (ixS (nbl b d) ks)) (λ_=>True) (λ_=> [F]):=by
 have hkn:ks.length=n:=by have:=hs.1;simpa [qAH] using this
 refine Ct.walk func146 rfl ntmps146 rfl (λw0 hw0=>?_)
 refine J.g λK1 hK1=>J.b V<|J.c hK1<|J.E 0 1 ?_
 refine J.k λK2 hK2=>J.g λK3 hK3=>J.b V<|J.f (qAY qAh V V) V<|J.b V<|J.c hK3<|J.O 0 1 7 8 ?_
 refine J.a1<|J.c1 (X:=Nat) (λζ=> [(0,.slice A n c),(1,.func (.func 99) #[] #[Ptr pb,Ptr pd]),(7,I ((n:Nat):Int)),(8,I ((ζ:Nat):Int))]) (λζ=> [F]) (λζ=>ζ≤n∧ ∀j<ζ,nbl b d (ks.getD j [])=false) (λζ=>n-ζ) 0 (⟨jF _,λj h=>absurd h (jz j)⟩) ⟨V,V,V,V,trivial⟩ (λ_ h=>h) ?_
 rintro k ⟨hk,hno⟩ I0 hI0
 refine J.g λK4 hK4=>J.f (qAT V V V) V<|J.c hK4<|J.a0 0 1 7 8 9 ?_
 refine J.k λK5 hK5=>J.a4 V (λh9=>?_) (λh9=>?_)
 ·
  refine J.W hK5<|J.O 0 1 7 8 ?_
  refine J.k λK6 hK6=>J.a1<|J.g λK7 hK7=>J.j 2 V<|J.c hK7<|J.a0 0 1 5 7 8 ?_
  refine J.g λK8 hK8=>J.j 3 V<|J.f (qAF V V V qAh z9_ hs (by omega)) V<|J.f (qAL V V b9_ (m:=F) (by simp) (hs.elem (qAZ (qAd [] (by omega))))) rfl<|J.q (qDh rfl rfl rfl ent99 (Ct.use0 (λF' hF=>qIo F' (ks.getD k []) (by first|omega|(exact hsm _)) pb pd b d (hpb.mono (hF F (by simp))) (hpd.mono (hF F (by simp))) (by omega)))) rfl λg16 _=>J.c hK8<|J.b5 0 1 5 7 8 16 ?_
  refine J.e3 V (λh16=>?_) (λh16=>?_)
  ·
   refine J.g λK9 hK9=>J.j 2 V<|J.c hK9<|J.A 4 ?_
   exact J.D<|J.b6<|J.a7<|J.a7<|J.b6<|J.a7<|J.Z hw0 V () (by rw [qQ8 (k:=k) (by omega) (by simpa using h16) hno]) trivial [0] rfl (by decide)
  refine J.c0<|J.b0<|J.u (J.M hK6 ?_)
  refine J.O 0 1 7 8 ?_
  exact J.H<|J.f ((qAQ V V V (by omega)).nat (k+1) (by omega)) V<|J.b V<|J.a8<|J.u<|J.a9 (k+1) (λη (hη:_∧n-η<n-k)=>hI0 η hη.1 hη.2) ⟨⟨by omega,λj hj=>by rcases Nat.lt_succ_iff_lt_or_eq.1 hj with h|rfl;exact hno j h;simpa using h16⟩,by first|omega|(dsimp only;omega)⟩ ⟨rfl,rfl,rfl,rfl,trivial⟩ (λ_ h=>h)
 refine J.b8<|J.a6<|J.a6<|J.b9 ?_
 refine J.u (J.M hK2 ?_)
 refine J.d0 [] trivial<|J.g λK10 hK10=>J.b V<|J.c hK10<|J.A 4 ?_
 exact J.D<|J.Z hw0 V () (by rw [qQ6 (λj hj=>hno j (by omega))]) trivial [0] rfl (by decide)
theorem qPG(F m:Hp)(A:Option Addr)(n c:Nat)(ks:List (List UInt8))(hr:Row m 9 1 A n c (qAH ks))(hn:n≤1000000)(hsm: ∀k:Nat,(ks.getD k []).length≤1000000)(pb pd:Nat)(b:List UInt8)(d:Int)(hpb:qAP F ⟨pb,0,none⟩ [Str b])(hpd:qAP F ⟨pd,0,none⟩ [I d])(hb:b.length≤1000000):
    Ct prog 97 [.slice A n c,.func (.func 99) #[] #[Ptr pb,Ptr pd]] [m,F] (λ_:Hp=> .slice A (ks.filter λk=>!nbl b d k).length c) (λm'=>Row m' 9 1 A (ks.filter λk=>!nbl b d k).length c (qAH (ks.filter λk=>!nbl b d k))) (λm'=> [m',F]):=by
  have hkn:ks.length=n:=by have:=hr.len;simpa [qAH] using this
  have hnc:=hr.2.2.1
  refine Ct.walk func97 rfl ntmps97 rfl (λw0 hw0=>?_)
  change J _ [(0,_),(1,_)] _ _ _
  refine J.g λK1 hK1=>J.b V<|J.c hK1<|J.E 0 1 ?_
  refine J.g λK2 hK2=>J.j 2 V<|J.q (qAB V V ent146 (Ct.use0 (λF' hF=>qPD F' A n c ks (hr.sl.mono (hF m (by simp))) (by omega) (hsm) pb pd b d (hpb.mono (hF F (by simp))) (hpd.mono (hF F (by simp))) (by omega)))) rfl λg10 _=>J.b rfl<|J.c hK2<|J.G 0 1 5 ?_
  refine J.k λK3 hK3=>J.g λK4 hK4=>J.b V<|J.f (qAS V V V) V<|J.c hK4<|J.O 0 1 5 12 ?_
  refine J.a4 V (λh12=>?_) (λh12=>?_)
  ·
    refine J.g λK5 hK5=>J.j 2 V<|J.c hK5<|J.A 4 ?_
    refine J.D<|J.a7 ?_
    have hf:(ks.filter λk=>!nbl b d k)=ks:=qLB h12
    exact J.Z hw0 V m (by rw [hf,hkn]) (by rw [hf,hkn];exact hr) [0,1] rfl (by decide)
  refine J.W hK3<|J.G 0 1 5 ?_
  refine J.k λK6 hK6=>J.k λK7 hK7=>?_
  obtain ⟨i0,h5,hi0,hf0⟩:=qQ7 h12
  obtain ⟨ga,rfl⟩:=hr.at (by omega)
  rw [h5]
  refine J.H<|J.b V<|J.f ((qAQ V V V (by omega)).nat (i0+1) (by omega)) V<|J.b V<|J.c hK7<|J.O 0 1 5 6 ?_
  refine J.a1<|J.c1 (X:=Nat×Nat×List (List UInt8)×Hp) (λζ=> [(0,.slice (some ⟨ga,0,none⟩) n c),(1,.func (.func 99) #[] #[Ptr pb,Ptr pd]),(5,I ((ζ.1:Nat):Int)),(6,I ((ζ.2.1:Nat):Int))]) (λζ=> [ζ.2.2.2,F]) (λζ=>ζ.1<ζ.2.1∧ζ.2.1≤n∧ζ.2.2.1.length=n∧ζ.2.2.1.take ζ.1=(ks.take ζ.2.1).filter (λk=>!nbl b d k)∧ζ.2.2.1.drop ζ.2.1=ks.drop ζ.2.1∧Row ζ.2.2.2 9 1 (some ⟨ga,0,none⟩) n c (qAH ζ.2.2.1)) (λζ=>n-ζ.2.1) (i0,i0+1,ks,m) (⟨by dsimp only;omega,by dsimp only;omega,hkn,hf0,V,hr⟩) ⟨V,V,V,V,trivial⟩ (λ_ h=>h) ?_
  rintro⟨w,j,L,m⟩ ⟨hw,hj,hL,hA,hB,hr⟩ I0 hI0
  dsimp only at hw hj hL hA hB hr⊢
  refine J.k λK8 hK8=>J.g λK9 hK9=>J.j 2 V<|J.f (qAY qAh V V) V<|J.f (qAT V V V) V<|J.c hK9<|J.a0 0 1 5 6 19 ?_
  refine J.a4 V (λh19=>?_) (λh19=>?_)
  ·
    refine J.W hK8<|J.O 0 1 5 6 ?_
    refine J.k λK10 hK10=>J.a1<|J.g λK11 hK11=>J.j 2 V<|J.f (qA4 (i:=j) (j:=0+j*1) V V V qAh z9_ (by omega) (by omega)) V ?_
    have hnw:w<j:=hw
    refine J.f (qAL V V b9_ (m:=m) (by simp) (hr.sl.cells (qAZ (qAd [] (by omega))))) rfl<|J.b rfl<|J.c hK11<|J.a0 0 1 5 6 7 ?_
    refine J.k λK12 hK12=>?_
    have hgj:(L.getD j []).length≤1000000:=by
      have e0:=congrArg (λz=>z.getD 0 []) hB
      have e1:L.getD j []=ks.getD j []:=by simpa [jB,jt] using e0
      rw [e1];exact hsm j
    refine J.H<|J.j 2 V<|J.q (qDh V V V ent99 (Ct.use0 (λF' hF=>qIo F' (L.getD j []) (by first|omega|(exact hsm _)) pb pd b d (hpb.mono (hF F (by simp))) (hpd.mono (hF F (by simp))) (by omega)))) rfl λg28 _=>J.f (qAw rfl rfl) rfl<|J.c hK12<|J.b5 0 1 5 6 7 29 ?_
    refine J.e3 V (λh29=>?_) (λh29=>?_)
    ·
      refine J.g λK13 hK13=>J.j 3 V<|J.f (qA4 (i:=w) (j:=0+w*1) V V V qAh z9_ (by omega) (by omega)) V<|J.b1 (qBj (i:=0) (k:=w) (off:=0) (b:= [Str (L.getD j [])]) V V V V hr (vs:= [Str (L.getD j [])]) V z9_ V (by omega) (qAZ (qAd [] (by omega))) V (jJ _)) V V ?_
      rintro m9_1 hm9_1
      rw [qEH] at hm9_1
      refine J.c hK13<|J.O 0 1 5 6 ?_
      refine J.H<|J.b V<|J.f ((qAQ V V V (by omega)).nat (w+1) (by omega)) V<|J.b V<|J.a8<|J.b0<|J.u (J.M hK10 ?_)
      refine J.O 0 1 5 6 ?_
      exact J.H<|J.b V<|J.f ((qAQ V V V (by omega)).nat (j+1) (by omega)) V<|J.b V<|J.a8<|J.u<|J.a9 (w+1,j+1,L.set w (L.getD j []),m9_1) (λη (hη:_∧n-η.2.1<n-j)=>hI0 η hη.1 hη.2) ⟨⟨by dsimp only;omega,by dsimp only;omega,by dsimp only;rw [jm];exact hL,(qFY hw (by omega) (by omega) hA hB (by simpa using h29)).1,(qFY hw (by omega) (by omega) hA hB (by simpa using h29)).2,by assumption⟩,by first|omega|(dsimp only;omega)⟩ ⟨rfl,rfl,rfl,rfl,trivial⟩ (λ_ h=>h)
    refine J.c0<|J.b0<|J.u (J.M hK10 ?_)
    refine J.O 0 1 5 6 ?_
    exact J.H<|J.b V<|J.f ((qAQ V V V (by omega)).nat (j+1) (by omega)) V<|J.b V<|J.a8<|J.u<|J.a9 (w,j+1,L,m) (λη (hη:_∧n-η.2.1<n-j)=>hI0 η hη.1 hη.2) ⟨⟨by dsimp only;omega,by dsimp only;omega,hL,(qFZ (by omega) hA hB (by simpa using h29)).1,(qFZ (by omega) hA hB (by simpa using h29)).2,hr⟩,by first|omega|(dsimp only;omega)⟩ ⟨V,V,V,V,trivial⟩ (λ_ h=>h)
  refine J.b8<|J.a6<|J.a6<|J.b9 ?_
  refine J.u (J.M hK6 ?_)
  refine J.E 0 5 ?_
  refine J.g λK14 hK14=>J.j 2 V<|J.f (qC4 V V qAh z9_ V V (by omega)) V<|J.b1 (qEP (i:=0) (l:=w) (h:=n) V V (by split<;>simp [Addr.add_lit]) qAh el9 rfl rfl rfl (hr.shrink (by omega)) rfl (by omega) (by omega)) rfl rfl ?_
  rintro mc hmc
  refine J.c hK14<|J.E 0 5 ?_
  refine J.g λK15 hK15=>J.j 2 V<|J.f (qDg V V qAh z9_ V (by omega)) V<|J.b V<|J.c hK15<|J.A 4 ?_
  refine J.D ?_
  have hfl:(ks.filter λk=>!nbl b d k)=L.take w:=by rw [hA,jV (by omega)]
  have hfw:(ks.filter λk=>!nbl b d k).length=w:=by rw [hfl,jE];omega
  rw [qEj,←hfl] at hmc
  exact J.Z hw0 V mc (by rw [hfw]) (by rw [hfw];exact hmc) [0,1] rfl (by decide)
theorem qQG(F:Hp)(A:Option Addr)(n c:Nat)(ks:List (List UInt8))(hs:Sl F 1 A n c (qAH ks))(hn:n≤1000000):Ct prog 98 [.slice A n c] [F] (λx:Option Addr×Nat×Hp=> .slice x.1 (ks).length x.2.1) (λx=>Row x.2.2 9 1 x.1 (ks).length x.2.1 (qAH ks)) (λx=> [F,x.2.2]):=by
 have hkn:ks.length=n:=by have:=hs.1;simpa [qAH] using this
 refine Ct.walk func98 rfl ntmps98 rfl (λw0 hw0=>?_)
 refine J.g λK1 hK1=>J.b V<|J.c hK1<|J.A 0 ?_
 refine J.k λK2 hK2=>J.g λK3 hK3=>J.b V<|J.f ((qHY qAh V V V).as (v':= .bool (decide (A.isNone=true))) (congrArg Value.bool (by cases A<;>rfl))) rfl<|J.c hK3<|J.E 0 4 ?_
 refine J.a4 V (λh4=>?_) (λh4=>?_)
 ·
  refine J.g λK4 hK4=>J.b V<|J.c hK4<|J.A 2 ?_
  refine J.D<|J.a7 ?_
  have hk0:ks= []:=by
   refine je ?_
   rcases Nat.eq_zero_or_pos n with h|h
   · omega
   · obtain ⟨g,o,rfl⟩:=hs.at h;cases h4
  exact J.d4 [0,1] [F,(λ_=>none)] V (by decide)<|J.Z hw0 V (none,0,(λ_=>none)) (by rw [hk0];rfl) (by rw [hk0];exact qBc.nil) [0,1] rfl (by decide)
 refine J.W hK2<|J.A 0 ?_
 refine J.g λK5 hK5=>J.q (qCe V qAh el9) V λg5 _=>J.b V<|J.q (qAa (i:=1) (m2:=F) V V V qAh qAh el9 V (qAs (q:=True) (xs:=qAH ([])) V (by intro x hx;first|exact absurd hx (j7)|(rw [List.mem_singleton.1 hx];rfl))) (by simp) (hs) (qC5 _) (by omega) (by omega)) rfl ?_
 rintro⟨A7,c7,m7⟩ h7
 try dsimp only at h7
 replace h7:Row m7 9 1 A7 (0+n) c7 (qAH (ks)):=h7
 refine J.b V<|J.c hK5<|J.A 2 ?_
 refine J.D ?_
 rw [show 0+n=ks.length by omega] at h7
 exact J.Z hw0 V (A7,c7,m7) (by rw [←hkn,jn]) h7 [0,1] rfl (by decide)
theorem qId(F:Hp)(d:Int)(p9 p4:Nat)(A:Option Addr)(n c:Nat)(ks:List (List UInt8))(hs:Sl F 1 A n c (qAH ks))(h9:qAP F ⟨p9,0,none⟩ [.slice A n c])(b:List UInt8)(h4:qAP F ⟨p4,0,none⟩ [Str b])(hn:n≤1000000)(hb:b.length≤1000000)(hsm: ∀k:Nat,(ks.getD k []).length≤1000000):Ct prog 96 [I (d),Ptr p9,Ptr p4] [F] (λx:Option Addr×Nat×Hp=> .slice x.1 (ks.filter (λq=>!nbl b d q)).length x.2.1) (λx=>Row x.2.2 9 1 x.1 (ks.filter (λq=>!nbl b d q)).length x.2.1 (qAH (ks.filter (λq=>!nbl b d q)))) (λx=> [F,x.2.2]):=by
 have hkn:ks.length=n:=by have:=hs.1;simpa [qAH] using this
 refine Ct.walk func96 rfl ntmps96 rfl (λw0 hw0=>?_)
 refine J.g λK1 hK1=>J.q (qAi V V V) V λg3 _=>J.b V<|J.c hK1<|J.G 1 2 3 ?_
 refine J.g λK2 hK2=>J.f (qAL V V qCR (m:=F) (by simp) (h9)) rfl<|J.q (qAB rfl rfl ent98 (Ct.use (λF' hF=>qQG F' A n c ks (hs.mono (hF F (by simp))) (by omega)))) rfl ?_
 rintro⟨A6,c6,m6⟩ h6
 try dsimp only at h6
 refine J.f (qBy V V) V<|J.q (qAB V V ent97 (Ct.use1 2 V (λF' hF=>qPG F' m6 A6 ks.length c6 ks h6 (by omega) hsm p4 g3 b d (h4.mono (hF F (by simp))) (qAP.blk0.mono (hF (blk g3 [I (d)] 3) (by simp))) hb))) rfl ?_
 rintro m8 h8
 refine J.b V<|J.c hK2<|J.A 4 ?_
 exact J.D<|J.Z hw0 V (A6,c6,m8) V h8 [0,2] V (by decide)
theorem qUB(l:List Sm.PR)(k:List UInt8){d:Nat}(hd:d≤128):(Sm.keysS l).filter (λq=>!nbl k ((d:Nat):Int) q)=kd l k d:=by
 unfold kd nbl
 refine zZ λq _=>?_
 rw [Bool.not_not,jZ,jl hd]
theorem qSw(l:List Sm.PR)(k:List UInt8){d:Nat}(hd:d+1≤128):(kd l k d).filter (λq=>!nbl k ((d+1:Nat):Int) q)=kd l k (d+1):=by
 rw [←qSn]
 refine zZ λq _=>?_
 unfold nbl
 rw [Bool.not_not,jZ,jl hd]
theorem qP1{l:List Sm.PR}(hf:qC9 l)(k:List UInt8)(d j:Nat):((kd l k d).getD j []).length≤1000000:=by
  by_cases hj:j<(kd l k d).length
  · rw [jB,jC hj]
    obtain ⟨⟨v,hv⟩,_⟩:=qQ5 (jc hj)
    show((kd l k d)[j]).length≤1000000
    rw [show(kd l k d)[j].length=16 from hf.k16 _ hv];decide
  · rw [jB,ji (by omega)];decide
theorem qT6(l:List Sm.PR)(k:List UInt8)(d:Nat):(kd l k d).length≤l.length:=by
 have:=List.length_filter_le (λq=>Sm.belowB q k d) (Sm.keysS l)
 rw [Sm.keysS_len] at this;exact this
theorem qPW(F:Hp)(hK:KF F)(g:Nat)(l:List Sm.PR)(hT:qDm F g l)(hf:qC9 l)(k:List UInt8)(hk:k.length=16)(d:Nat)(hd:d≤128):
    Ct prog 47 [Ptr g,Str k,I ((d:Nat):Int)] [F] (λx:Nat×Option Addr×Nat×Hp=> .tuple #[.agg #[.slice x.2.1 (bsd l k d (x.1-d)).length x.2.2.1,.bool (qBN l k x.1),Str (qEN l k x.1),Str (qEf l k x.1)],I 0]) (λx=>qMb l k d x.1∧Row x.2.2.2 9 1 x.2.1 (bsd l k d (x.1-d)).length x.2.2.1 (qAH (bsd l k d (x.1-d)))) (λx=> [F,x.2.2.2]):=by
  have hln:=hf.few
  have hkl:=Sm.keysS_len l
  have hsm:=qGA hf.k16
  have hk0:=qUB l k hd
  have hkd0:=qT6 l k d
  refine Ct.walk func47 rfl ntmps47 rfl (λw0 hw0=>?_)
  refine J.g λK1 hK1=>J.q (qAi V V V) V λg4 _=>J.q (qAO V zeroValue58 V) V λg6 _=>J.b V<|J.c hK1<|J.O 0 2 4 6 ?_
  refine J.k λK2 hK2=>J.g λK3 hK3=>J.c2 1 b9_ V V V V V<|J.b V<|J.q (qAB V V ent94 (Ct.use0 (λF' hF=>qIe F' k ((d:Nat):Int)))) V λg14 _=>J.f ((qAw V V).as (v':= .bool false) (by rw [decide_eq_true (show k.length=16∧(0:Int)≤((d:Nat):Int)∧((d:Nat):Int)≤128 from⟨hk,by omega,by omega⟩)];rfl)) rfl<|J.c hK3<|J.a0 0 2 4 6 15 ?_
  refine J.a5 ?_
  refine J.W hK2<|J.O 0 2 4 6 ?_
  refine J.g λK4 hK4=>J.q (qAO V zeroValue58 V) V λg8 _=>J.c hK4<|J.a0 0 2 4 6 8 ?_
  refine J.g λK5 hK5=>J.b V<|J.q (qAB V V ent95 (Ct.use (λF' hF=>qKY F' g l (hT.mono (hF F (by simp))) (by omega)))) rfl ?_
  rintro⟨A18,c18,m18⟩ h18
  try dsimp only at h18
  refine J.q (qAO V zeroValue37 V) V λg9 _=>J.b1 (qAG (i:=5) (l:= [.slice none 0 0]) (vs:= [.slice A18 ((Sm.keysS l).length) c18]) V V V V V qCA V V) V V λ_ _=>J.c hK5<|J.b5 0 2 4 6 8 9 ?_
  refine J.g λK6 hK6=>J.f (qBy V V) V<|J.b V<|J.c hK6<|J.c5 0 2 4 6 8 9 10 ?_
  refine J.g λK7 hK7=>J.j 2 V<|J.q (qDh V V V ent96 (Ct.use (λF' hF=>qId F' ((d:Nat):Int) g9 g4 A18 ((Sm.keysS l).length) c18 (Sm.keysS l) (h18.sl.mono (hF m18 (by simp))) (qAP.blk0.mono (hF (blk g9 [.slice A18 ((Sm.keysS l).length) c18] 37) (by simp))) k (qAP.blk0.mono (hF (blk g4 [Str (k)] 9) (by simp))) (by omega) (by omega) (by assumption)))) rfl ?_
  rintro⟨A22,c22,m22⟩ h22
  try dsimp only at h22
  rw [hk0] at h22⊢
  refine J.b1 (qAG (i:=5) (l:= [.slice A18 ((Sm.keysS l).length) c18]) (vs:= [.slice A22 ((kd l k (d)).length) c22]) V V V V V qCA V V) V V λ_ _=>J.c hK7<|J.c5 0 2 4 6 8 9 10 ?_
  refine J.k λK8 hK8=>J.g λK9 hK9=>J.j 2 V<|J.c hK9<|J.c5 0 4 6 8 9 10 11 ?_
  refine J.a1<|J.c1 (X:=Nat×Option Addr×Nat×Hp×Option Addr×Nat×Hp) (λζ=> [(0,Ptr g),(4,Ptr g4),(6,Ptr g6),(8,Ptr g8),(9,Ptr g9),(10,.func (.func 96) #[] #[Ptr g9,Ptr g4]),(11,I ((d+ζ.1:Nat):Int))]) (λζ=> [F,blk g4 [Str (k)] 9,blk g6 [.slice none 0 0,.bool false,Str [],Str []] 58,blk g8 [.slice ζ.2.2.2.2.1 (bsd l k d (ζ.1)).length ζ.2.2.2.2.2.1,.bool false,Str [],Str []] 58,blk g9 [.slice ζ.2.1 (kd l k (d+ζ.1)).length ζ.2.2.1] 37,ζ.2.2.2.1,ζ.2.2.2.2.2.2]) (λζ=>d+ζ.1≤128∧(∀x,d≤x→x<d+ζ.1→2≤(cur l k x).length)∧Row ζ.2.2.2.1 9 1 ζ.2.1 (kd l k (d+ζ.1)).length ζ.2.2.1 (qAH (kd l k (d+ζ.1)))∧Row ζ.2.2.2.2.2.2 9 1 ζ.2.2.2.2.1 (bsd l k d (ζ.1)).length ζ.2.2.2.2.2.1 (qAH (bsd l k d (ζ.1)))) (λζ=>128-(d+ζ.1)) (0,A22,c22,m22,none,0,(λ_=>none)) (⟨hd,λx h1 h2=>absurd h2 (by omega),h22,qBc.nil⟩) ⟨V,V,V,V,V,V,V,trivial⟩ (λ_ h=>h.empty.pick [0,1,2,3,5,6,7] (by decide)) ?_
  rintro⟨n,A9,c9,m9,Ab,cb,mb⟩ ⟨he,htw,hr9,hrb⟩ I0 hI0
  dsimp only at he htw hr9 hrb⊢
  have hbl:=qCO l k d n
  refine J.k λK10 hK10=>J.g λK11 hK11=>J.c2 4 qCR V V V V V<|J.f (qAY qAh V V) V<|J.f (qA5 V V V) V<|J.c hK11<|J.d6 0 4 6 8 9 10 11 26 ?_
  refine J.a4 V (λh26=>?_) (λh26=>?_)
  ·
    have hcl:=qG6 hf.once k (d+n)
    have hlt:d+n<128:=by
      rcases zn (d+n) 128 with h|h
      · exact h
      · have hct:=qSz hf hk
        rw [show d+n=128 by omega] at h26 hcl
        omega
    have htl:(turn k (d+n)).length=16:=(qB0 k _).trans hk
    have hmn:min (((d+n+1:Nat):Int)).toNat 128=d+n+1:=by rw [jZ];omega
    have hsmk:=qP1 hf k (d+n)
    have hkdl:=qT6 l k (d+n)
    refine J.W hK10<|J.c5 0 4 6 8 9 10 11 ?_
    refine J.k λK12 hK12=>J.a1<|J.k λK13 hK13=>J.b7 [blk g8 [.slice Ab (bsd l k d (n)).length cb,.bool false,Str [],Str []] 58,blk g4 [Str (k)] 9] [12] (.y 0 (.y 1 (.y 2 (.y 3 (.y 4 (.y 6 (.y 7 (.e 5 (.e 8 (.e 9 (.e 10 (.y 11 (.e 12 .nil))))))))))))) Tryz.wide (by decide+kernel) (by simp) ?_
    refine J.p V (qAA V V qDI V qCA V) V V<|J.p V (qAD 0 V V V qCR V) V V<|J.L ?_
    refine J.p V (qAD 1 V V V b9_ V) V V<|J.L ?_
    refine J.L ?_
    refine J.p V ((qAQ V V V (by omega)).nat (d+n+1) (by omega)) V V<|J.b2 V (qAB V V ent101 (Ct.use0 (λF' hF=>qMs F' k (by assumption) (d+n) (by omega)))) V (by simp) λg34 _=>J.b2 rfl (qAB rfl rfl ent75 (Ct.use0 (λF' hF=>qFP F' (hK.mo hF) g l (hT.mono (hF F (by simp))) (by assumption) (turn k (d+n)) (by first|omega|decide) ((d+n+1:Nat):Int) (by first|assumption|exact qHJ (by assumption)|exact qKT (by assumption) (by assumption))))) rfl (by simp) λg37 _=>J.b2 rfl (qAJ (l:= [.tmp 37]) (xs:= [[Str (Sm.ndB l (turn k (d+n)) (min ((d+n+1:Nat):Int).toNat 128))]]) rfl rfl rfl rfl qAh el9 rfl (by decide) (by decide) (by simp)) rfl (by simp) λg38 _=>?_
    change J _ _ _ [F,blk g4 [Str (k)] 9,blk g6 [.slice none 0 0,.bool false,Str [],Str []] 58,blk g8 [.slice Ab (bsd l k d (n)).length cb,.bool false,Str [],Str []] 58,blk g9 [.slice A9 (kd l k (d+n)).length c9] 37,m9,mb,blk g38 [Str (Sm.ndB l (turn k (d+n)) (min ((d+n+1:Nat):Int).toNat 128))] 9] _
    refine J.b2 V (qAa (i:=6) (xs:=qAH (bsd l k d (n))) (m2:=blk g38 [Str (Sm.ndB l (turn k (d+n)) (min ((d+n+1:Nat):Int).toNat 128))] 9) (ys:= [[Str (Sm.ndB l (turn k (d+n)) (min ((d+n+1:Nat):Int).toNat 128))]]) V V V qAh qAh el9 V hrb (by simp) ((qCK (q:=True) (qAH [Sm.ndB l (turn k (d+n)) (min ((d+n+1:Nat):Int).toNat 128)]) rfl (by simp [qAH]) rfl).sl) rfl (by omega) (by omega)) rfl (by simp) ?_
    rintro⟨A39,c39,m39⟩ h39
    try dsimp only at h39
    change J _ ((39,.slice A39 (((bsd l k d (n)).length)+1) c39)::_) _ [_,_,_,_,_,_,m39,_] _
    rw [←qBx,hmn,←qQN] at h39
    rw [show(bsd l k d (n)).length+1=(bsd l k d (n+1)).length by rw [qCO,qCO]] at h39⊢
    refine J.p V (qAA V V qDI V qCA V) V V<|J.d2 V (qAV (i:=3) V V V V V qCA V (by simp)) rfl rfl rfl λ_ _=>J.b3<|J.u (J.M hK13 ?_)
    refine J.c5 0 4 6 8 9 10 11 ?_
    refine J.H<|J.j 2 V<|J.f ((qAQ V V V (by omega)).nat (d+n+1) (by omega)) V<|J.q (qDh V V V ent96 (Ct.use (λF' hF=>qId F' ((d+n+1:Nat):Int) g9 g4 A9 ((kd l k (d+n)).length) c9 (kd l k (d+n)) (hr9.sl.mono (hF m9 (by simp))) (qAP.blk0.mono (hF (blk g9 [.slice A9 (kd l k (d+n)).length c9] 37) (by simp))) k (qAP.blk0.mono (hF (blk g4 [Str (k)] 9) (by simp))) (by omega) (by omega) (by assumption)))) rfl ?_
    rintro⟨A44,c44,m44⟩ h44
    try dsimp only at h44
    rw [qSw l k (by omega)] at h44⊢
    refine J.b1 (qAG (i:=4) (l:= [.slice A9 (kd l k (d+n)).length c9]) (vs:= [.slice A44 ((kd l k (d+n+1)).length) c44]) V V V V V qCA V V) V V λ_ _=>J.a8<|J.b0<|J.u (J.M hK12 ?_)
    refine J.c5 0 4 6 8 9 10 11 ?_
    exact J.H<|J.b V<|J.f ((qAQ V V V (by omega)).nat (d+n+1) (by omega)) V<|J.b V<|J.a8<|J.u<|J.a9 (n+1,A44,c44,m44,A39,c39,m39) (λη (hη:_∧128-(d+η.1)<128-(d+n))=>hI0 η hη.1 hη.2) ⟨⟨by dsimp only;omega,λx h1 h2=>by rcases zn x (d+n) with h|h;exact htw x h1 h;rw [show x=d+n by dsimp only at h2;omega,←hcl];omega,h44,h39⟩,by dsimp only;omega⟩ ⟨rfl,rfl,rfl,rfl,rfl,rfl,rfl,trivial⟩ (λ_ h=>h.pick [0,1,2,3,4,8,6] (by decide))
  have hst:qMb l k d (d+n):=⟨by omega,he,by rw [←qG6 hf.once];omega,λx h1 h2=>htw x h1 h2⟩
  have hdn:d+n-d=n:=by omega
  refine J.b8<|J.a6<|J.a6<|J.b9 ?_
  refine J.u (J.M hK8 ?_)
  refine J.O 0 6 8 9 ?_
  refine J.k λK14 hK14=>J.g λK15 hK15=>J.c2 4 qCR V V V V V<|J.f (qAY qAh V V) V<|J.f (qAS V V V) V<|J.c hK15<|J.a0 0 6 8 9 47 ?_
  refine J.a4 V (λh47=>?_) (λh47=>?_)
  ·
    refine J.k λK16 hK16=>J.b7 [blk g9 [.slice A9 (kd l k (d+n)).length c9] 37,m9] [] (.y 0 (.y 1 (.y 2 (.y 3 (.e 4 (.y 5 (.e 6 .nil))))))) Tryz.wide (by decide+kernel) (by simp) ?_
    refine J.p V (qAD 0 (v:= .slice A9 (kd l k (d+n)).length c9) V V V qCR V) V V<|J.p V (qAF (i:=0) V V V qAh z9_ hr9.sl (by omega)) V V<|J.p V (qAL V V b9_ (m:=m9) (by simp) (hr9.sl.elem (qAZ (qAd [] (by omega))))) rfl rfl<|J.p rfl (qAA rfl rfl qDI rfl z4_ rfl) rfl rfl<|J.h8 rfl (qAV (i:=3) rfl rfl rfl rfl rfl z4_ rfl (by simp)) rfl rfl (by simp) λ_ _=>J.p rfl (qAA rfl rfl qDI rfl z9_ rfl) rfl rfl<|J.h8 rfl (qAV (i:=3) (l:= [.slice Ab (bsd l k d (n)).length cb,.bool true,Str [],Str []]) (vs:= [Str ((kd l k (d+n)).getD 0 [])]) rfl rfl rfl rfl rfl z9_ rfl (by simp)) rfl rfl (by simp) λ_ _=>J.b3<|J.u (J.M hK16 ?_)
    refine J.G 0 6 8 ?_
    refine J.H<|J.b V<|J.a2 2 qDI z9_ V V V V V<|J.c2 3 b9_ V V V V V<|J.q (qAB V V ent102 (Ct.use0 (λF' hF=>qRa F' g l (hT.mono (hF F (by simp))) ((kd l k (d+n)).getD 0 [])))) rfl λg57 _=>J.j 3 rfl<|J.a2 3 qDI z9_ rfl rfl rfl rfl rfl<|J.b1 (qAV (i:=3) (l:= [.slice Ab (bsd l k d (n)).length cb,.bool true,Str ((kd l k (d+n)).getD 0 []),Str []]) (vs:= [Str ((Sm.getP l ((kd l k (d+n)).getD 0 [])).getD [])]) rfl rfl rfl rfl rfl z9_ rfl (by simp)) rfl rfl λ_ _=>J.c hK14<|J.E 6 8 ?_
    refine J.g λK17 hK17=>J.c8 3 qKI qGV V V V V V<|J.b1 (qAG (i:=2) (l:= [.slice none 0 0,.bool false,Str [],Str []]) (vs:= [.slice Ab (bsd l k d (n)).length cb,.bool true,Str ((kd l k (d+n)).getD 0 []),Str ((Sm.getP l ((kd l k (d+n)).getD 0 [])).getD [])]) V V V V V qGV V V) V V λ_ _=>J.b V<|J.c hK17<|J.E 6 7 ?_
    exact J.D<|J.b4 hw0 (λ_ _ h=>h) (rv2 V (RV.blkA 2 V V qKI qGV) V) (qAj (d+n,Ab,cb,mb) (by dsimp only;rw [hdn];unfold qBN qEN qEf;rw [if_pos (by omega),if_pos (by omega),decide_eq_true (by omega)]) ⟨hst,by dsimp only;rw [hdn];exact hrb⟩ [0,6] rfl (by decide))
  refine J.W hK14<|J.E 6 8 ?_
  refine J.g λK18 hK18=>J.c8 3 qKI qGV V V V V V<|J.b1 (qAG (i:=2) (l:= [.slice none 0 0,.bool false,Str [],Str []]) (vs:= [.slice Ab (bsd l k d (n)).length cb,.bool false,Str [],Str []]) V V V V V qGV V V) V V λ_ _=>J.b V<|J.c hK18<|J.E 6 7 ?_
  exact J.D<|J.b4 hw0 (λ_ _ h=>h) (rv2 V (RV.blkA 2 V V qKI qGV) V) (qAj (d+n,Ab,cb,mb) (by dsimp only;rw [hdn];unfold qBN qEN qEf;rw [if_neg (by omega),if_neg (by omega),decide_eq_false (by omega)]) ⟨hst,by dsimp only;rw [hdn];exact hrb⟩ [0,6] rfl (by decide))
theorem qLx{kv:List Sm.PR}(hf:qC9 kv){k:List UInt8}(hk:k.length=16){d s:Nat}(h:qMb kv k d s):qFw (bsd kv k d (s-d)) (qBN kv k s) (qEN kv k s) (qEf kv k s) k d=Sm.ndB kv k d:=by
 have h1:=h.le
 have h2:=h.ge
 have h3:=qH1 hf hk (d:=d) (n:=s-d) (by omega) (s-d) (jJ _)
 rw [show d+(s-d)=s by omega,show s-(s-d)=d by omega] at h3
 unfold qFw
 rw [qQE hf h,qCO]
 exact h3
theorem qL3{kv:List Sm.PR}(hf:qC9 kv)(k:List UInt8)(s:Nat):(qEf kv k s).length≤1000000:=by
 unfold qEf
 split
 · exact qG9 hf.small _
 · exact jF _
end Go.Proofs.YtfldiegfenndjaaGreatDoor
