/- A part of the proof. -/
import Derived.Test.YtllnfioplpipiaaGreatDoorTopOrG8
import Derived.Test.YtllnfioplpipiaaGreatDoorTopOrG18
import Derived.Test.YtllnfioplpipiaaGreatDoorTopOrG21
set_option linter.unusedSimpArgs false
set_option linter.unusedVariables false
namespace Go.Proofs.YtllnfioplpipiaaGreatDoor
open Go Go.Fw Go.Proofs.Tryz
set_option maxRecDepth 100000
set_option maxHeartbeats 1000000
theorem qKM{s bs:List UInt8}(h:s.length≤4096):qJL s bs 0=bs++Sha.numB (UInt64.ofNat s.length) 2++s∧qBp (okT s) 2 0=0:=by
 have h1:okT s=true:=decide_eq_true h
 unfold qJL
 rw [h1,qB8,if_pos rfl]
 exact⟨rfl,rfl⟩
structure Hd where
 ep:Nat
 par:List UInt8
 dep:Int
 aud:Int
 nodes:List (List UInt8)
def qDZ(s:List UInt8):Prop:=s= [0]∨(s.length=17∧(s.getD 0 0=1∨s.getD 0 0=2))
instance (s:List UInt8):Decidable (qDZ s):=by unfold qDZ;infer_instance
def Hd.cells(x:Hd)(A:Option Addr)(c:Nat):List Value:= [N64 x.ep,Str x.par,I x.dep,I x.aud,.slice A x.nodes.length c]
def Hd.out(x:Hd):Prop:=4294967295<x.ep∨x.par.length≠16∨cnt x.dep=0∨x.aud<0∨64<x.aud
instance (x:Hd):Decidable x.out:=by unfold Hd.out;infer_instance
def Hd.err(x:Hd):Int:=if x.out then 10 else if x.nodes.length≠cnt x.dep then 22 else if∀s∈x.nodes,qDZ s then 0 else 4
def ndB(s:List UInt8):List UInt8:=Sha.numB (UInt64.ofNat s.length) 2++s
def Hd.bytes(x:Hd):List UInt8:=Sha.numB (UInt64.ofNat x.ep) 4++x.par++ [UInt8.ofNat x.dep.toNat]++ [UInt8.ofNat x.aud.toNat]++(x.nodes.map ndB).flatten
def Hd.enc(x:Hd):List UInt8:=if x.err=0 then x.bytes else []
def Hd.dig(x:Hd):List UInt8:=if x.err=0 then Sha.tagged 14 [x.bytes] else []
def Hd.good(x:Hd):Prop:=x.ep<18446744073709551616∧x.par.length≤1048576∧x.nodes.length≤1073741824
theorem qIs{x:Hd}(h:x.out):x.err=10:=if_pos h
theorem qUZ{x:Hd}(h: ¬x.out)(h2:x.nodes.length≠cnt x.dep):x.err=22:=by unfold Hd.err;rw [if_neg h,if_pos h2]
theorem err_4{x:Hd}(h: ¬x.out)(h2: ¬x.nodes.length≠cnt x.dep){s:List UInt8}(hs:s∈x.nodes)(hn: ¬qDZ s):x.err=4:=by unfold Hd.err;rw [if_neg h,if_neg h2,if_neg (λe=>hn (e s hs))]
theorem err_0{x:Hd}(h: ¬x.out)(h2: ¬x.nodes.length≠cnt x.dep)(hs: ∀s∈x.nodes,qDZ s):x.err=0:=by unfold Hd.err;rw [if_neg h,if_neg h2,if_pos hs]
theorem qOO{x:Hd}(h:x.err=0): ¬x.out∧x.nodes.length=cnt x.dep∧ ∀s∈x.nodes,qDZ s:=by
  unfold Hd.err at h
  split at h
  · omega
  · rename_i h1
    split at h
    · omega
    · rename_i h2
      split at h
      · rename_i h3;exact⟨h1,Decidable.not_not.1 h2,h3⟩
      · omega
theorem qKv{s:List UInt8}(h:qDZ s):s.length≤17:=by
 rcases h with rfl|⟨h,_⟩
 · decide
 · omega
theorem qTk{l:List (List UInt8)}{p:List UInt8→Prop}{k:Nat}(h:k<l.length)(h1: ∀s∈l.take k,p s)(h2:p (l.getD k [])): ∀s∈l.take (k+1),p s:=λs hs=>by
  rw [List.take_succ_eq_append_getElem h] at hs
  rcases List.mem_append.1 hs with h3|h3
  · exact h1 s h3
  · rw [List.mem_singleton] at h3
    rw [h3]
    rw [List.getD_eq_getElem?_getD,List.getElem?_eq_getElem h] at h2
    exact h2
theorem qOJ{l:List (List UInt8)}{k:Nat}(h:k<l.length):l.getD k []∈l:=by
 rw [List.getD_eq_getElem?_getD,List.getElem?_eq_getElem h]
 exact List.getElem_mem h
theorem u8eq{c:UInt8}(k:UInt8):((c.toNat:Int)=(k.toNat:Int))↔c=k:=⟨λh=>UInt8.toNat_inj.1 (by omega),λh=>by rw [h]⟩
theorem qQc(F:Hp)(s:List UInt8):Ct prog 119 [Str s] [F] (λ_:Unit=> .bool (decide (qDZ s))) (λ_=>True) (λ_=> [F]):=by
 refine Ct.walk func119 rfl ntmps119 rfl (λw0 hw0=>?_)
 change J _ [(0,_)] _ _ _
 refine J.g λK1 hK1=>J.b O<|J.c hK1<|J.u 0 ?_
 refine J.g λK2 hK2=>J.b O<|J.f (qBQ O O O) O<|J.b O<|J.c4 (d:=5) O (λh5=>?_) (λh5=>?_)
 ·
  refine J.p 4 O<|J.d4 (Wan.un O O O O) O O ?_
  refine J.d4 (Wan.un O O O O) O O ?_
  refine J.d4 (Wan.un O O O O) O O ?_
  refine J.d4 (Wan.un O O O O) O O ?_
  refine J.d4 (Wan.un O O O O) O O ?_
  refine J.d4 (Wan.un O O O O) O O ?_
  refine J.d4 (Wan.un O O O O) O O ?_
  refine J.d4 (Wan.un O O O O) O O ?_
  refine J.p 3 O<|J.c hK2<|J.u 2 ?_
  exact J.D<|J.M hw0 O () (congrArg Value.bool (decide_eq_true (show qDZ s from .inl h5)).symm) trivial [0] rfl (by decide)
 refine J.b O<|J.Z (qAl u9_ O O) O<|J.Z (qAY O O O) O<|J.b O<|J.c4 (d:=9) O (λh9=>?_) (λh9=>?_)
 ·
  refine J.b O<|J.Z (qBW (i:=0) (c:=s.getD 0 0) u9_ O O O (by rw [List.getD_eq_getElem?_getD,List.getElem?_eq_getElem (show 0<s.length by omega)];rfl)) rfl ?_
  refine J.Z (qAY O O O) O<|J.b O<|J.c4 (d:=13) O (λh13=>?_) (λh13=>?_)
  ·
   refine J.p 7 O<|J.c hK2<|J.u 2 ?_
   exact J.D<|J.M hw0 O () (congrArg Value.bool (decide_eq_true (show qDZ s from .inr ⟨by omega,.inl ((u8eq 1).1 h13)⟩)).symm) trivial [0] rfl (by decide)
  refine J.b O<|J.Z (qBW (i:=0) (c:=s.getD 0 0) u9_ O O O (by rw [List.getD_eq_getElem?_getD,List.getElem?_eq_getElem (show 0<s.length by omega)];rfl)) rfl ?_
  refine J.Z (qAY O O O) O<|J.p 4 O<|J.c hK2<|J.u 2 ?_
  exact J.D<|J.M hw0 O () (congrArg Value.bool (decide_eq_decide.2 ⟨λh=>(show qDZ s from .inr ⟨by omega,.inr ((u8eq 2).1 h)⟩),λh=>by rcases h with h|⟨_,h|h⟩;exact absurd h h5;exact absurd ((u8eq 1).2 h) h13;exact(u8eq 2).2 h⟩)) trivial [0] rfl (by decide)
 refine J.p 4 O<|J.d4 (Wan.un O O O O) O O ?_
 refine J.d4 (Wan.un O O O O) O O ?_
 refine J.d4 (Wan.un O O O O) O O ?_
 refine J.p 4 O<|J.c hK2<|J.u 2 ?_
 exact J.D<|J.M hw0 O () (congrArg Value.bool (decide_eq_false (show¬qDZ s from λh=>by rcases h with h|⟨h,_⟩;exact h5 h;omega)).symm) trivial [0] rfl (by decide)
theorem qOD(F:Hp)(x:Hd)(A:Option Addr)(c:Nat)(hg:x.good)(hsl:Sl F 1 A x.nodes.length c (qAG x.nodes)):
    Ct prog 58 [.agg #[N64 x.ep,Str x.par,I x.dep,I x.aud,.slice A x.nodes.length c]] [F] (λ_:Unit=>I x.err) (λ_=>True) (λ_=> [F]):=by
  obtain ⟨hg1,hg2,hg3⟩:=hg
  refine Ct.walk func58 rfl ntmps58 rfl (λw0 hw0=>?_)
  change J _ [(0,_)] _ _ _
  refine J.g λK1 hK1=>J.k (qAi O O (l:= [N64 x.ep,Str x.par,I x.dep,I x.aud,.slice A x.nodes.length c]) O) O λg1 _=>?_
  change J _ _ _ [F,blk g1 [N64 x.ep,Str x.par,I x.dep,I x.aud,.slice A x.nodes.length c] 52] _
  refine J.b O<|J.c hK1<|J.u 1 ?_
  refine J.g λK2 hK2=>J.a3 2 qGx z3_ O O O O O<|J.c7 1 b3_ O O O O O<|J.k (qAA O O ent27 (Ct.use0 (λF' hF=>qCC F' x.dep))) O λg8 _=>J.b O<|J.c hK2<|J.E 1 3 ?_
  refine J.j λK3 hK3=>J.V<|J.g λK4 hK4=>J.a3 0 qGx qF9 O O O O O<|J.c7 1 qHt O O O O O<|J.f (qAz O O O) O<|J.b O<|J.c4 (d:=13) O (λh13=>?_) (λh13=>?_)
  ·
    refine J.p 20 O<|J.c hK4<|J.G 1 3 9 ?_
    refine J.d0 ?_
    refine J.g λK5 hK5=>J.b O<|J.c hK5<|J.u 2 ?_
    exact J.D<|J.b1<|J.a4<|J.M hw0 O () (congrArg I (qIs (show x.out by unfold Hd.out;omega)).symm) trivial [0] O (by decide)
  refine J.Z (qAB (j:=1) O O qGx O z9_ O) O<|J.Z (qAE 1 O O O b9_ O) O<|J.Z (qAl u9_ O O) O<|J.Z (qAb O O O) O<|J.p 2 O<|J.c4 (d:=19) O (λh19=>?_) (λh19=>?_)
  ·
    refine J.p 14 O<|J.c hK4<|J.G 1 3 9 ?_
    refine J.d0 ?_
    refine J.g λK6 hK6=>J.b O<|J.c hK6<|J.u 2 ?_
    exact J.D<|J.b1<|J.a4<|J.M hw0 O () (congrArg I (qIs (show x.out by unfold Hd.out;omega)).symm) trivial [0] O (by decide)
  refine J.b O<|J.Z (qAY O O O) O<|J.p 2 O<|J.c4 (d:=23) O (λh23=>?_) (λh23=>?_)
  ·
    refine J.p 10 O<|J.c hK4<|J.G 1 3 9 ?_
    refine J.d0 ?_
    refine J.g λK7 hK7=>J.b O<|J.c hK7<|J.u 2 ?_
    exact J.D<|J.b1<|J.a4<|J.M hw0 O () (congrArg I (qIs (show x.out by unfold Hd.out;omega)).symm) trivial [0] O (by decide)
  refine J.Z (qAB (j:=3) O O qGx O z3_ O) O<|J.Z (qAE 1 O O O b3_ O) O<|J.Z (qAT O O O) O<|J.p 2 O<|J.c4 (d:=28) O (λh28=>?_) (λh28=>?_)
  ·
    refine J.p 5 O<|J.c hK4<|J.G 1 3 9 ?_
    refine J.d0 ?_
    refine J.g λK8 hK8=>J.b O<|J.c hK8<|J.u 2 ?_
    exact J.D<|J.b1<|J.a4<|J.M hw0 O () (congrArg I (qIs (show x.out by unfold Hd.out;omega)).symm) trivial [0] O (by decide)
  refine J.Z (qAB (j:=3) O O qGx O z3_ O) O<|J.Z (qAE 1 O O O b3_ O) O<|J.Z (qAz O O O) O<|J.p 2 O<|J.c hK4<|J.G 1 3 9 ?_
  refine J.a2 O (λh9=>?_) (λh9=>?_)
  ·
    refine J.g λK9 hK9=>J.b O<|J.c hK9<|J.u 2 ?_
    exact J.D<|J.b1<|J.a4<|J.M hw0 O () (congrArg I (qIs (show x.out by unfold Hd.out;omega)).symm) trivial [0] O (by decide)
  refine J.g λK10 hK10=>J.a3 4 qGx qBf O O O O O<|J.c7 1 qBo O O O O O<|J.f (qAP qAe O O) O<|J.b O<|J.f (qAb O O O) O<|J.b O<|J.c hK10<|J.E 1 33 ?_
  refine J.a2 O (λh33=>?_) (λh33=>?_)
  ·
    refine J.g λK11 hK11=>J.b O<|J.c hK11<|J.u 2 ?_
    exact J.D<|J.b1<|J.a4<|J.M hw0 O () (congrArg I (qUZ (by unfold Hd.out;omega) (by omega)).symm) trivial [0] O (by decide)
  refine J.b7<|J.a6<|J.A (J.H hK3 ?_)
  refine J.u 1 ?_
  refine J.j λK12 hK12=>J.j λK13 hK13=>?_
  have hno: ¬x.out:=by unfold Hd.out;omega
  have hcn: ¬x.nodes.length≠cnt x.dep:=by omega
  refine J.L<|J.a3 4 qGx qBf O O O O O<|J.c7 1 qBo O O O O O<|J.f (qAP qAe O O) O<|J.b O<|J.c hK13<|J.G 40 41 42 ?_
  refine J.V<|J.b6 (X:=Nat) (λk=> [(40,.slice A x.nodes.length c),(41,I x.nodes.length),(42,I k)]) (λ_=> [F,blk g1 [N64 x.ep,Str x.par,I x.dep,I x.aud,.slice A x.nodes.length c] 52]) (λk=>k≤x.nodes.length∧ ∀s∈x.nodes.take k,qDZ s) (λk=>x.nodes.length-k) 0 (⟨Nat.zero_le _,λs hs=>by simp at hs⟩) ⟨rfl,rfl,rfl,trivial⟩ (λ_ h=>h) ?_
  intro k ⟨hk,hall⟩ I0 hI0
  refine J.g λK14 hK14=>J.f (qAT O O O) O<|J.c hK14<|J.O 40 41 42 43 ?_
  refine J.j λK15 hK15=>J.a2 O (λh43=>?_) (λh43=>?_)
  ·
    refine J.W hK15<|J.G 40 41 42 ?_
    refine J.j λK16 hK16=>J.V<|J.g λK17 hK17=>J.f (qAH (i:=k) O O O qAe z9_ hsl (by omega)) O<|J.f (qAJ O O b9_ (m:=F) (by simp) (hsl.elem (qAQ (qAc [] (show k<x.nodes.length by omega))))) rfl<|J.b rfl<|J.c hK17<|J.O 5 40 41 42 ?_
    refine J.g λK18 hK18=>J.b O<|J.k (qAA O O ent119 (Ct.use0 (λF' hF=>qQc F' (x.nodes.getD k [])))) O λg47 _=>J.f (qFR O O) O<|J.c hK18<|J.O 40 41 42 48 ?_
    refine J.a2 O (λh48=>?_) (λh48=>?_)
    ·
      refine J.g λK19 hK19=>J.b O<|J.c hK19<|J.u 2 ?_
      exact J.D<|J.b1<|J.a4<|J.a4<|J.b1<|J.a4<|J.M hw0 O () (congrArg I (err_4 hno hcn (qOJ (show k<x.nodes.length by omega)) h48).symm) trivial [0] O (by decide)
    refine J.b7<|J.a6<|J.A (J.H hK16 ?_)
    refine J.G 40 41 42 ?_
    exact J.L<|J.f ((qAO O O O (by omega)).nat (k+1) (by omega)) O<|J.b O<|J.a7<|J.A<|J.a8 (k+1) (λx2 (hx:_∧x.nodes.length-x2<x.nodes.length-k)=>hI0 x2 hx.1 hx.2) ⟨⟨by omega,qTk (by omega) hall (Decidable.not_not.1 h48)⟩,by omega⟩ ⟨O,O,O,trivial⟩ (λ_ h=>h)
  refine J.b4<|J.a1<|J.a1<|J.b5 ?_
  refine J.A (J.H hK12 ?_)
  refine J.c3 [] trivial<|J.j λK20 hK20=>?_
  rw [List.take_of_length_le (by omega)] at hall
  refine J.L<|J.b O<|J.c hK20<|J.u 2 ?_
  exact J.D<|J.M hw0 O () (congrArg I (err_0 hno hcn hall).symm) trivial [0] O (by decide)
def Hd.base(x:Hd):List UInt8:=Sha.numB (UInt64.ofNat x.ep) 4++x.par++ [UInt8.ofNat x.dep.toNat]++ [UInt8.ofNat x.aud.toNat]
theorem qRS: ∀k,k<65→Sha.numB (UInt64.ofNat k) 1= [UInt8.ofNat k]:=by decide+kernel
theorem qQB: ∀k,k<65→okN (UInt64.ofNat k) 1=true:=by decide+kernel
theorem qNV{x:Hd}(h: ¬x.out):x.ep≤4294967295∧x.par.length=16∧(0≤x.dep∧x.dep≤4)∧0≤x.aud∧x.aud≤64:=by
 have h1: ¬cnt x.dep=0:=λe=>h (.inr (.inr (.inl e)))
 rw [qE1] at h1
 unfold Hd.out at h
 omega
theorem qSv{l:List (List UInt8)}{k:Nat}(h:k<l.length):((l.take (k+1)).map ndB).flatten=((l.take k).map ndB).flatten++ndB (l.getD k []):=by
 rw [List.take_succ_eq_append_getElem h,List.map_append,List.flatten_append,List.map_cons,List.map_nil,List.flatten_cons,List.flatten_nil,List.append_nil,List.getD_eq_getElem?_getD,List.getElem?_eq_getElem h];rfl
theorem nd_small{l:List (List UInt8)}(h: ∀s∈l,qDZ s):(l.map ndB).flatten.length≤19*l.length:=by
 induction l with
 |nil=>exact Nat.zero_le _
 |cons a l ih=>
  have h1:=ih (λs hs=>h s (.tail _ hs))
  have h2:=qKv (h a (.head _))
  rw [List.map_cons,List.flatten_cons,List.length_append,List.length_cons]
  unfold ndB at h1⊢
  rw [List.length_append,Sha.numB_length];omega
theorem qLP{x:Hd}(h: ¬x.out):x.base.length=22:=by
 have:=qNV h
 unfold Hd.base
 simp only [List.length_append,Sha.numB_length,List.length_singleton];omega
theorem qL7(F:Hp)(x:Hd)(A:Option Addr)(c:Nat)(hg:x.good)(hsl:Sl F 1 A x.nodes.length c (qAG x.nodes)):
    Ct prog 120 [.agg #[N64 x.ep,Str x.par,I x.dep,I x.aud,.slice A x.nodes.length c]] [F] (λ_:Unit=> .tuple #[Str x.enc,I x.err]) (λ_=>True) (λ_=> [F]):=by
  refine Ct.walk func120 rfl ntmps120 rfl (λw0 hw0=>?_)
  change J _ [(0,_)] _ _ _
  refine J.g λK1 hK1=>J.k (qAi O O (l:= [N64 x.ep,Str x.par,I x.dep,I x.aud,.slice A x.nodes.length c]) O) O λg1 _=>?_
  change J _ _ _ [F,blk g1 [N64 x.ep,Str x.par,I x.dep,I x.aud,.slice A x.nodes.length c] 52] _
  refine J.p 2 O<|J.c hK1<|J.u 1 ?_
  refine J.j λK2 hK2=>J.g λK3 hK3=>J.c9 1 isAgg52 qHw O O O O O<|J.k (qAA O O ent58 (Ct.use0 (λF' hF=>qOD F' x A c hg (hsl.mono (hF F (by simp)))))) rfl λg9 _=>J.b rfl<|J.c hK3<|J.E 1 4 ?_
  refine J.g λK4 hK4=>J.b O<|J.f (qAb O O O) O<|J.c hK4<|J.G 1 4 11 ?_
  refine J.a2 O (λh11=>?_) (λh11=>?_)
  ·
    refine J.g λK5 hK5=>J.p 3 O<|J.c hK5<|J.E 2 3 ?_
    exact J.D<|J.a4<|J.b2 hw0 (λ_ _ h=>h) (qB2 O O O) (qAn () (by unfold Hd.enc;rw [if_neg (by omega)]) trivial [0] rfl (by decide))
  refine J.W hK2<|J.u 1 ?_
  refine J.j λK6 hK6=>?_
  have e0:x.err=0:=by omega
  obtain ⟨e1,e2,e3⟩:=qOO e0
  obtain ⟨e4,e5,e6,e7,e8⟩:=qNV e1
  have hbl:=qLP e1
  have hc16:=qRf x.dep
  refine J.L<|J.k (qAN O qJ8 O) O λg5 _=>?_
  change J _ _ _ [F,blk g1 [N64 x.ep,Str x.par,I x.dep,I x.aud,.slice A x.nodes.length c] 52,blk g5 _ 133] _
  refine J.c hK6<|J.E 1 5 ?_
  refine J.j λK7 hK7=>J.c1 [blk g1 [N64 x.ep,Str x.par,I x.dep,I x.aud,.slice A x.nodes.length c] 52] [] (.y 0 (.y 1 (.y 3 (.y 4 (.y 6 (.y 7 (.y 8 (.y 10 (.y 11 (.y 12 (.e 2 (.e 5 (.e 9 (.e 13 .nil)))))))))))))) Tryz.wide (by decide+kernel) (by simp) ?_
  refine J.q O (qAB (j:=0) O O qGx O qF9 O) O O<|J.q O (qAE 0 O O O qHt O) O O<|J.q O (qAB (j:=1) O O qGx O z9_ O) O O<|J.q O (qAE 0 O O O b9_ O) O O<|J.q O (qAB (j:=2) O O qGx O z3_ O) O O<|J.q O (qAE 0 O O O b3_ O) O O<|J.q O ((qBi O O u3_ qEi).as (v':=W64 (UInt64.ofNat x.dep.toNat)) (by rw [show(x.dep%18446744073709551616).toNat=x.dep.toNat by omega])) rfl rfl<|J.q rfl (qAB (j:=3) rfl rfl qGx rfl z3_ rfl) rfl rfl<|J.q rfl (qAE 0 rfl rfl rfl b3_ rfl) rfl rfl<|J.q rfl ((qBi rfl rfl u3_ qEi).as (v':=W64 (UInt64.ofNat x.aud.toNat)) (by rw [show(x.aud%18446744073709551616).toNat=x.aud.toNat by omega])) rfl rfl<|J.a9 rfl (qAA rfl rfl ent108 (Ct.use1 2 (m':=λx:Hp=>x) (new:=λ_=> []) rfl (λF' _=>qNf F' (blk g5 [.pointer none,.slice none 0 0,I 0] 133) g5 [] 0 (qGq g5) (by decide) x.ep (by omega) 4 (by omega) (by omega)))) rfl (by simp) ?_
  rintro m15 hw15
  change J _ _ _ [_,_,m15] _
  rw [qQA (size:=4) (by omega) (by omega),qB8,qCx (qQA (size:=4) (by omega) (by omega)),List.nil_append] at hw15
  refine J.a9 O (qAA O O ent53 (Ct.use1 2 (m':=λx:Hp=>x) (new:=λ_=> []) O (λF' _=>qCk F' m15 g5 (Sha.numB (UInt64.ofNat x.ep) 4) 0 hw15 (by rw [Sha.numB_length];omega) x.par (by omega) 16))) rfl (by simp) ?_
  rintro m18 hw18
  change J _ _ _ [_,_,m18] _
  rw [qFA e5,qJo e5,qB8] at hw18
  refine J.a9 O (qAA O O ent108 (Ct.use1 2 (m':=λx:Hp=>x) (new:=λ_=> []) O (λF' _=>qDu F' m18 g5 ((Sha.numB (UInt64.ofNat x.ep) 4)++x.par) 0 hw18 (by simp only [List.length_append,Sha.numB_length];omega) (UInt64.ofNat x.dep.toNat) 1 (by omega) (by omega)))) rfl (by simp) ?_
  rintro m22 hw22
  change J _ _ _ [_,_,m22] _
  rw [qQB _ (by omega),qB8,qCx (qQB _ (by omega)),qRS _ (by omega)] at hw22
  refine J.a9 O (qAA O O ent108 (Ct.use1 2 (m':=λx:Hp=>x) (new:=λ_=> []) O (λF' _=>qDu F' m22 g5 (((Sha.numB (UInt64.ofNat x.ep) 4)++x.par)++ [UInt8.ofNat x.dep.toNat]) 0 hw22 (by simp only [List.length_append,Sha.numB_length,List.length_singleton];omega) (UInt64.ofNat x.aud.toNat) 1 (by omega) (by omega)))) rfl (by simp) ?_
  rintro m26 hw26
  change J _ _ _ [_,_,m26] _
  rw [qQB _ (by omega),qB8,qCx (qQB _ (by omega)),qRS _ (by omega)] at hw26
  refine J.b9<|J.A (J.H hK7 ?_)
  refine J.E 1 5 ?_
  refine J.j λK8 hK8=>J.g λK9 hK9=>J.a3 4 qGx qBf O O O O O<|J.c7 1 qBo O O O O O<|J.f (qAP qAe O O) O<|J.b O<|J.c hK9<|J.O 5 28 29 30 ?_
  refine J.V<|J.b6 (X:=Nat×Hp) (λx2=> [(5,Ptr g5),(28,.slice A x.nodes.length c),(29,I x.nodes.length),(30,I x2.1)]) (λx2=> [F,blk g1 [N64 x.ep,Str x.par,I x.dep,I x.aud,.slice A x.nodes.length c] 52,x2.2]) (λx2=>x2.1≤x.nodes.length∧Wtr x2.2 g5 (x.base++((x.nodes.take x2.1).map ndB).flatten) 0) (λx2=>x.nodes.length-x2.1) (0,m26) (⟨Nat.zero_le _,by rw [List.take_zero,List.map_nil,List.flatten_nil,List.append_nil];exact hw26⟩) ⟨rfl,rfl,rfl,rfl,trivial⟩ (λ_ h=>h) ?_
  rintro⟨k,m⟩ ⟨hk,hw⟩ I0 hI0
  dsimp only at hk hw⊢
  refine J.g λK10 hK10=>J.f (qAT O O O) O<|J.c hK10<|J.a0 5 28 29 30 31 ?_
  refine J.j λK11 hK11=>J.a2 O (λh31=>?_) (λh31=>?_)
  ·
    refine J.W hK11<|J.O 5 28 29 30 ?_
    refine J.j λK12 hK12=>J.V<|J.g λK13 hK13=>J.f (qAH (i:=k) O O O qAe z9_ hsl (by omega)) O<|J.f (qAJ O O b9_ (m:=F) (by simp) (hsl.elem (qAQ (qAc [] (show k<x.nodes.length by omega))))) rfl<|J.b rfl<|J.c hK13<|J.a0 5 7 28 29 30 ?_
    have hnl:=qKv (e3 _ (qOJ (show k<x.nodes.length by omega)))
    refine J.L<|J.b O<|J.k (qAA O O ent52 (Ct.use1 2 (m':=λx:Hp=>x) (new:=λ_=> []) O (λF' _=>qMl F' m g5 (x.base++((x.nodes.take k).map ndB).flatten) 0 hw (by have:=nd_small (λs hs=>e3 s (List.mem_of_mem_take hs): ∀s∈x.nodes.take k,qDZ s);rw [List.length_take] at this;rw [List.length_append,hbl];omega) (x.nodes.getD k []) (by omega)))) rfl ?_
    rintro m35 hw35
    change J _ _ _ [F,blk g1 [N64 x.ep,Str x.par,I x.dep,I x.aud,.slice A x.nodes.length c] 52,m35] _
    rw [(qKM (by omega)).1,(qKM (s:=x.nodes.getD k []) (bs:= []) (by omega)).2,List.append_assoc,List.append_assoc] at hw35
    change Wtr m35 g5 (x.base++(((x.nodes.take k).map ndB).flatten++ndB (x.nodes.getD k []))) 0 at hw35
    rw [←qSv (by omega)] at hw35
    refine J.a7<|J.a6<|J.A (J.H hK12 ?_)
    refine J.O 5 28 29 30 ?_
    exact J.L<|J.f ((qAO O O O (by omega)).nat (k+1) (by omega)) O<|J.b O<|J.a7<|J.A<|J.a8 (k+1,m35) (λx2 (hx:_∧x.nodes.length-x2.1<x.nodes.length-k)=>hI0 x2 hx.1 hx.2) ⟨⟨by dsimp only;omega,hw35⟩,by dsimp only;omega⟩ ⟨O,O,O,O,trivial⟩ (λ_ h=>h)
  refine J.b4<|J.a1<|J.a1<|J.b5 ?_
  refine J.A (J.H hK8 ?_)
  refine J.u 5 ?_
  refine J.j λK14 hK14=>?_
  rw [List.take_of_length_le (by omega)] at hw
  change Wtr m g5 x.bytes 0 at hw
  refine J.L<|J.k (qAA O O ent54 (Ct.use1 2 (m':=λx:Hp=>x) (new:=λ_=> []) O (λF' _=>qDK F' m g5 x.bytes 0 hw (by have:=nd_small e3;unfold Hd.bytes;unfold Hd.base at hbl;rw [List.length_append,hbl];omega)))) rfl ?_
  rintro m37 _
  change J _ _ _ [F,blk g1 [N64 x.ep,Str x.par,I x.dep,I x.aud,.slice A x.nodes.length c] 52,m37] _
  refine J.p 4 O<|J.c hK14<|J.E 2 3 ?_
  exact J.D<|J.b2 hw0 (λ_ _ h=>h) (qB2 O O O) (qAn () (by unfold Hd.enc;rw [if_pos e0,e0]<;>rfl) trivial [0] rfl (by decide))
theorem qOc{x:Hd}(h:x.err=0):x.bytes.length≤326:=by
 obtain ⟨e1,e2,e3⟩:=qOO h
 have h1:=qLP e1
 have h2:=nd_small e3
 have h3:=qRf x.dep
 unfold Hd.bytes
 unfold Hd.base at h1
 rw [List.length_append,h1];omega
theorem enc_0{x:Hd}(h:x.err=0):x.enc=x.bytes:=if_pos h
theorem qIx(x:Hd):x.dig.length≤16:=by
 unfold Hd.dig
 split
 · rw [Sha.tagged_length];exact Nat.le_refl _
 · exact Nat.zero_le _
theorem qL8(F:Hp)(hK:KF F)(x:Hd)(A:Option Addr)(c:Nat)(hg:x.good)(hsl:Sl F 1 A x.nodes.length c (qAG x.nodes)):
    Ct prog 59 [.agg #[N64 x.ep,Str x.par,I x.dep,I x.aud,.slice A x.nodes.length c]] [F] (λ_:Unit=>Str x.dig) (λ_=>True) (λ_=> [F]):=by
  refine Ct.walk func59 rfl ntmps59 rfl (λw0 hw0=>?_)
  change J _ [(0,_)] _ _ _
  refine J.g λK1 hK1=>J.k (qAi O O (l:= [N64 x.ep,Str x.par,I x.dep,I x.aud,.slice A x.nodes.length c]) O) O λg1 _=>?_
  change J _ _ _ [F,blk g1 [N64 x.ep,Str x.par,I x.dep,I x.aud,.slice A x.nodes.length c] 52] _
  refine J.b O<|J.c hK1<|J.u 1 ?_
  refine J.g λK2 hK2=>J.c9 1 isAgg52 qHw O O O O O<|J.k (qAA O O ent120 (Ct.use0 (λF' hF=>qL7 F' x A c hg (hsl.mono (hF F (by simp)))))) rfl λg7 _=>J.p 5 rfl<|J.c hK2<|J.E 3 4 ?_
  refine J.j λK3 hK3=>J.g λK4 hK4=>J.b O<|J.f (qAb O O O) O<|J.c hK4<|J.E 3 11 ?_
  refine J.a2 O (λh11=>?_) (λh11=>?_)
  ·
    refine J.g λK5 hK5=>J.b O<|J.c hK5<|J.u 2 ?_
    exact J.D<|J.a4<|J.M hw0 O () (by unfold Hd.dig;rw [if_neg (by omega)]) trivial [0] rfl (by decide)
  refine J.W hK3<|J.u 3 ?_
  refine J.j λK6 hK6=>?_
  have e0:x.err=0:=by omega
  refine J.L<|J.f ((qAx O O).as (v':=Str x.bytes) (congrArg Str (enc_0 e0))) O<|J.k (qAF (l:= [.tmp 12]) (xs:= [[Str (x.bytes)]]) O O O O qAe el9 O (by decide) (by decide) (by simp)) rfl λg13 _=>?_
  change J _ _ _ [F,blk g1 [N64 x.ep,Str x.par,I x.dep,I x.aud,.slice A x.nodes.length c] 52,blk g13 [Str (x.bytes)] 9] _
  refine J.k (qAA O O ent75 (Ct.use0 (λF' hF=>qAv F' (hK.mono (hF _ (by simp))) 14 (some ⟨g13,0,none⟩) 1 1 [x.bytes] ((slS [x.bytes] rfl).mono (hF (blk g13 (([x.bytes]:List (List UInt8)).map λs=>Str s) 9) (by simp))) (by have:=qOc e0;simp;omega) (by decide)))) rfl λg14 _=>J.b rfl<|J.c hK6<|J.u 2 ?_
  exact J.D<|J.M hw0 O () (by unfold Hd.dig;rw [if_pos e0]) trivial [0] rfl (by decide)
def Hd.same(x y:Hd):Prop:=x.err=0∧y.err=0∧x.enc=y.enc
instance (x y:Hd):Decidable (x.same y):=by unfold Hd.same;infer_instance
theorem qQb(F:Hp)(hK:KF F)(x:Hd)(A:Option Addr)(c:Nat)(hg:x.good)(hsl:Sl F 1 A x.nodes.length c (qAG x.nodes))(hsm: ∀s∈x.nodes,s.length≤1048576):
    Ct prog 14 [.agg #[N64 x.ep,Str x.par,I x.dep,I x.aud,.slice A x.nodes.length c]] [F] (λ_:Unit=>Str (qI6 x.nodes x.dep)) (λ_=>True) (λ_=> [F]):=by
  refine Ct.walk func14 rfl ntmps14 rfl (λw0 hw0=>?_)
  change J _ [(0,_)] _ _ _
  refine J.g λK1 hK1=>J.k (qAi O O (l:= [N64 x.ep,Str x.par,I x.dep,I x.aud,.slice A x.nodes.length c]) O) O λg1 _=>?_
  change J _ _ _ [F,blk g1 [N64 x.ep,Str x.par,I x.dep,I x.aud,.slice A x.nodes.length c] 52] _
  refine J.b O<|J.c hK1<|J.u 1 ?_
  refine J.g λK2 hK2=>J.a3 4 qGx qBf O O O O O<|J.c7 1 qBo O O O O O<|J.a3 2 qGx z3_ O O O O O<|J.c7 1 b3_ O O O O O<|J.k (qAA O O ent49 (Ct.use0 (λF' hF=>qQw F' (hK.mo hF) x.dep x.nodes A c (hsl.mono (hF F (by simp))) hsm))) rfl λg10 _=>J.p 5 rfl<|J.c hK2<|J.u 3 ?_
  refine J.g λK3 hK3=>J.p 2 O<|J.c hK3<|J.u 2 ?_
  exact J.D<|J.M hw0 O () O trivial [0] O (by decide)
end Go.Proofs.YtllnfioplpipiaaGreatDoor
