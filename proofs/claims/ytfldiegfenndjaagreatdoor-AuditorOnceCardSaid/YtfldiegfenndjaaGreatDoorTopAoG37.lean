/- A part of the proof. -/
import Derived.Test.YtfldiegfenndjaaGreatDoorTopAoG34
import Derived.Test.YtfldiegfenndjaaGreatDoorTopAoG36
import Derived.Test.YtfldiegfenndjaaGreatDoorTopAoG8
import Derived.Test.YtfldiegfenndjaaGreatDoorTopAoG28
set_option linter.unusedSimpArgs false
set_option linter.unusedVariables false
namespace Go.Proofs.YtfldiegfenndjaaGreatDoor
open Go Go.Fw Go.Proofs.Tryz
set_option maxRecDepth 100000
set_option maxHeartbeats 1000000
attribute [local irreducible] Sha.tagged Wo.pub Wo.publicOf Wo.signs Wo.ends Wo.digs Wo.walk Wo.opn Mk.root Mk.path Mk.climb Xm.root sgC sgP qBL prt hH qAt XM mkB
structure ATR where
 e:Int
 ep:Nat
 b:Nat
 h:List UInt8
 nm:Nat
 idx:Nat
 P:Option Addr
 n1:Nat
 p:Nat
 Q:Option Addr
 n2:Nat
 q:Nat
 x:qJT
 z:qGf
def Oth(ms:Mks)(b i:Nat):Prop:=(qBQ (msV ms) (1,((b:Nat):Int))).isSome=true∧(qBQ (msV ms) (1,((b:Nat):Int))).getD []≠(hH (UInt8.ofNat i)).dig
structure Liv (K:List UInt8) (gm v:Nat) (ms:Mks) (x:qJT) (z:qGf):Prop where
 nx:z.nx=v
 zX:z.X=XG 2 v
 zb:z.bad=false
 xX:x.X=XM ms
 xb:x.bad=false
 on:z.D.off=false
 ad:AD K z.D v ms
 rq:Sl x.N 1 x.A (XM ms).R.length x.c (qAH (XM ms).R)
 rb:Sl z.N 1 z.A (XG 2 v).R.length z.c (qAH (XG 2 v).R)
 mp:qCF plK x.mm gm (mkV (msV ms))
structure ATP (seed:List UInt8) (kh v gd gm:Nat) (K:List UInt8) (ms:Mks) (D:Dk) (C:Option Addr) (f:Nat) (b i:Nat) (r:ATR):Prop where
 dsk:Dsk r.z.md gd r.z.D C f
 keep:r.z.D.keep=D.keep
 four:(((r.e=19∧Oth ms b i)∨(r.e=11∧ ¬Oth ms b i∧2^kh≤v))∧Liv K gm v ms r.x r.z)∨
  (r.e=0∧ ¬Oth ms b i∧v<2^kh∧Liv K gm (v+1) r.x.ms r.x r.z∧(r.x.ms=ms∧(b,i)∈ms∨r.x.ms=ms++ [(b,i)]∧b∉ms.map (·.1))∧r.ep=1∧r.b=b∧r.h=(hH (UInt8.ofNat i)).dig∧r.nm=1∧r.idx=v∧Row r.z.u 9 1 r.P r.n1 r.p (qAH (sgC seed v (atM 1 b 1 (hH (UInt8.ofNat i)).dig)))∧Row r.z.w 9 1 r.Q r.n2 r.q (qAH (sgP seed kh v)))∨
  (r.e=8∧ ¬Oth ms b i∧v<2^kh∧r.z.D.off=true∧ ∃v' ms',(v'=v∨v'=v+1)∧(ms'=ms∨ms'=ms++ [(b,i)]∧b∉ms.map (·.1))∧AD K r.z.D v' ms')
structure PNw (K:List UInt8) (gd gm v:Nat) (D:Dk) (C:Option Addr) (f:Nat) (ms:Mks) (b i:Nat) (x:qJT):Prop where
 dsk:Dsk x.md gd x.D C f
 keep:x.D.keep=D.keep
 xX:x.X=XM x.ms
 xb:x.bad=false
 on:x.D.off=false
 ad:AD K x.D v x.ms
 rq:Sl x.N 1 x.A (XM x.ms).R.length x.c (qAH (XM x.ms).R)
 mp:qCF plK x.mm gm (mkV (msV x.ms))
 grow:x.ms=ms∧(b,i)∈ms∨x.ms=ms++ [(b,i)]∧b∉ms.map (·.1)
theorem qUA{i j:Nat}(hi:i<3)(hj:j<3)(h:(hH (UInt8.ofNat i)).dig=(hH (UInt8.ofNat j)).dig):i=j:=by
 have h2:=congrArg (List.map UInt8.toNat) h
 match i,hi,j,hj with
 |0,_,0,_=>rfl
 |0,_,1,_=>exact absurd ((show _=_ from qI8).symm.trans (h2.trans (show _=_ from qI7))) (by decide)
 |0,_,2,_=>exact absurd ((show _=_ from qI8).symm.trans (h2.trans (show _=_ from qI6))) (by decide)
 |1,_,0,_=>exact absurd ((show _=_ from qI7).symm.trans (h2.trans (show _=_ from qI8))) (by decide)
 |1,_,1,_=>rfl
 |1,_,2,_=>exact absurd ((show _=_ from qI7).symm.trans (h2.trans (show _=_ from qI6))) (by decide)
 |2,_,0,_=>exact absurd ((show _=_ from qI6).symm.trans (h2.trans (show _=_ from qI8))) (by decide)
 |2,_,1,_=>exact absurd ((show _=_ from qI6).symm.trans (h2.trans (show _=_ from qI7))) (by decide)
 |2,_,2,_=>rfl
theorem qJy: ∀{l:Mks} {b:Nat},b∈l.map (·.1)→ ∃j,(b,j)∈l∧qBQ (msV l) (1,((b:Nat):Int))=some (hH (UInt8.ofNat j)).dig
  |p::r,b,h=>by
    by_cases e:p.1=b
    · subst e
      exact⟨p.2,.head _,if_pos rfl⟩
    · rw [jR,zH] at h
      obtain ⟨j,h1,h2⟩:=qJy (l:=r) (h.resolve_left λx=>e x.symm)
      refine⟨j,.tail _ h1,?_⟩
      show(if((1:Nat),((p.1:Nat):Int))=(1,((b:Nat):Int)) then _ else qBQ (msV r) (1,((b:Nat):Int)))=_
      rw [if_neg (λe2=>e (by have:=congrArg Prod.snd e2;dsimp only at this;omega)),h2]
theorem AD.good{K:List UInt8}{d:Dk}{v:Nat}{ms:Mks}(h:AD K d v ms): ∀p∈ms,p.1<2∧p.2<3:=by
 obtain ⟨O,_,h2⟩:=h.dg
 exact h2.good
theorem AD.two{K:List UInt8}{d:Dk}{v:Nat}{ms:Mks}(h:AD K d v ms):ms.length≤2:=by
 obtain ⟨O,_,h2⟩:=h.dg
 exact h2.two
theorem AD.room{K:List UInt8}{d:Dk}{v:Nat}{ms:Mks}(h:AD K d v ms){b:Nat}(hb:b<2)(hn:b∉ms.map (·.1)):ms.length<2:=by
 have h1:=h.good
 have h2:=h.two
 have h3:=h.once
 match ms,h2 with
 | [],_=>exact(by decide:0<2)
 | [p],_=>exact(by decide:1<2)
 | [p,q],_=>
  have a1:=(h1 p (.head _)).1
  have a2:=(h1 q (.tail _ (.head _))).1
  simp only [jR,zT,List.nodup_cons,zH,j7,or_false,not_or] at h3 hn
  omega
theorem AD.mem{K:List UInt8}{d:Dk}{v:Nat}{ms:Mks}(h:AD K d v ms){b i:Nat}(hi:i<3)(hs:(qBQ (msV ms) (1,((b:Nat):Int))).isSome=true)(hno: ¬Oth ms b i):(b,i)∈ms:=by
  by_cases hm:b∈ms.map (·.1)
  · obtain ⟨j,h1,h2⟩:=qJy hm
    have e:(qBQ (msV ms) (1,((b:Nat):Int))).getD []=(hH (UInt8.ofNat j)).dig:=by rw [h2];rfl
    have:=qUA (h.good _ h1).2 hi (e.symm.trans (Decidable.not_not.1 λx=>hno ⟨hs,x⟩))
    rw [←this];exact h1
  · rw [qC6 hm] at hs;exact absurd hs (by decide)
theorem qSe{ms:Mks}{b:Nat}(hs: ¬(qBQ (msV ms) (1,((b:Nat):Int))).isSome=true):b∉ms.map (·.1):=λhm=>by
 obtain ⟨j,_,h2⟩:=qJy hm
 rw [h2] at hs;exact hs rfl
end Go.Proofs.YtfldiegfenndjaaGreatDoor
namespace Go.Proofs.YtfldiegfenndjaaGreatDoor
open Go Go.Fw Go.Proofs.Tryz
set_option maxRecDepth 100000
set_option maxHeartbeats 1000000
attribute [local irreducible] Sha.tagged Wo.pub Wo.publicOf Wo.signs Wo.ends Wo.digs Wo.walk Wo.opn Mk.root Mk.path Mk.climb Xm.root sgC sgP qBL prt hH qAt XM mkB
structure MkD where
 ep:Nat
 b:Int
 d:List UInt8
 deriving DecidableEq
def MkD.cells(x:MkD):List Value:= [N64 (x.ep),I (x.b),Str (x.d)]
def qF5:MkD:=⟨0,0,[]⟩
def qCp(l:List MkD):List (List Value):=l.map MkD.cells
theorem qF7{l:List MkD}{k:Nat}(h:k<l.length):(qCp l)[k]?=some (l.getD k qF5).cells:=by
 unfold qCp
 rw [jN,qAd qF5 h];rfl
theorem qNu(l:List MkD):(qCp l).length=l.length:=by simp [qCp]
theorem qEu(a:List MkD)(x:MkD):qCp (a++ [x])=qCp a++ [x.cells]:=by simp [qCp]
structure AtD where
 ep:Nat
 b:Int
 h:List UInt8
 nm:Int
 ix:Int
 chA:Option Addr
 chc:Nat
 ch:List (List UInt8)
 ptA:Option Addr
 ptc:Nat
 pt:List (List UInt8)
def AtD.cells(x:AtD):List Value:= [N64 (x.ep),I (x.b),Str (x.h),I (x.nm),I (x.ix),.slice x.chA x.ch.length x.chc,.slice x.ptA x.pt.length x.ptc]
def qBA:AtD:=⟨0,0,[],0,0,none,0,[],none,0,[]⟩
def qGO(l:List AtD):List (List Value):=l.map AtD.cells
theorem qEe{l:List AtD}{k:Nat}(h:k<l.length):(qGO l)[k]?=some (l.getD k qBA).cells:=by
 unfold qGO
 rw [jN,qAd qBA h];rfl
theorem qMU(a:List AtD)(x:AtD):qGO (a++ [x])=qGO a++ [x.cells]:=by simp [qGO]
def qI1(l:List MkD)(ep:Nat)(b:Int):Option (List UInt8):=l.foldl (λo m=>if m.ep=ep∧m.b=b then some m.d else o) none
theorem qEU(l:List MkD)(m:MkD)(ep:Nat)(b:Int):qI1 (l++ [m]) ep b=if m.ep=ep∧m.b=b then some m.d else qI1 l ep b:=by
 unfold qI1
 rw [List.foldl_append];rfl
theorem qIP{l:List MkD}{j:Nat}(h:j<l.length):l.take (j+1)=l.take j++ [l.getD j qF5]:=by
 rw [jO h,jB,jC h];rfl
theorem qSv{l:List MkD}{ep:Nat}{b:Int}{j k:Nat}(h:qI1 l ep b=qI1 (l.take k) ep b)(hk:k=j+1)(hj:j<l.length)(h1:(l.getD j qF5).ep=ep)(h2:(l.getD j qF5).b=b):qI1 l ep b=some (l.getD j qF5).d:=by
 rw [h,hk,qIP hj,qEU,if_pos ⟨h1,h2⟩]
theorem qLH{l:List MkD}{ep:Nat}{b:Int}{j k:Nat}(h:qI1 l ep b=qI1 (l.take k) ep b)(hk:k=j+1)(hj:j<l.length)(h1: ¬((l.getD j qF5).ep=ep∧(l.getD j qF5).b=b)):qI1 l ep b=qI1 (l.take j) ep b:=by
 rw [h,hk,qIP hj,qEU,if_neg h1]
theorem qEV(F:Hp)(A:Option Addr)(n c:Nat)(l:List MkD)(hs:Sl F 3 A n c (qCp l))(hn:n≤1000000)(ep:Nat)(b:Int):Ct prog 24 [.slice A n c,N64 (ep),I (b)] [F] (λ_:Unit=> .tuple #[Str ((qI1 l ep b).getD []),.bool ((qI1 l ep b).isSome)]) (λ_=>True) (λ_=> [F]):=by
 have hkn:l.length=n:=by have:=hs.1;rw [qNu] at this;exact this
 refine Ct.walk func24 rfl ntmps24 rfl (λw0 hw0=>?_)
 change J _ [(0,_),(1,_),(2,_)] _ _ _
 refine J.g λK1 hK1=>J.j 2 V<|J.c hK1<|J.G 0 1 2 ?_
 refine J.k λK2 hK2=>J.g λK3 hK3=>J.b V<|J.f (qAY qLd V V) V<|J.f (qAn V V V (by omega)) V<|J.b V<|J.c hK3<|J.O 0 1 2 8 ?_
 refine J.a1<|J.c1 (X:=Nat) (λζ=> [(0,.slice A n c),(1,N64 (ep)),(2,I (b)),(8,I (((ζ:Nat):Int)-((1:Nat):Int)))]) (λζ=> [F]) (λζ=>ζ≤n∧qI1 l ep b=qI1 (l.take ζ) ep b) (λζ=>ζ) n (⟨jJ _,by rw [←hkn,jo]⟩) ⟨rfl,rfl,rfl,rfl,trivial⟩ (λ_ h=>h) ?_
 rintro k ⟨hk,hf⟩ I0 hI0
 refine J.k λK4 hK4=>J.g λK5 hK5=>J.b V<|J.f (qA9 V V V) V<|J.c hK5<|J.a0 0 1 2 8 13 ?_
 refine J.a4 V (λh13=>?_) (λh13=>?_)
 ·
  refine J.W hK4<|J.O 0 1 2 8 ?_
  refine J.k λK6 hK6=>J.a1<|J.k λK7 hK7=>?_
  obtain ⟨j,hkj⟩: ∃j,k=j+1:=⟨k-1,by omega⟩
  rw [show((k:Nat):Int)-((1:Nat):Int)=((j:Nat):Int) by omega]
  refine J.H<|J.j 2 V<|J.f (qAF (i:=j) V V V qLd sizeOf97 hs (by omega)) V<|J.f (qAz (off:=0) V V qTH V qCG hs (by omega) V) V<|J.f (qAL (v:=N64 ((l.getD j qF5).ep)) V V qCZ (m:=F) (by simp) (hs.part (qF7 (by omega)) 0 1)) rfl<|J.b rfl<|J.f (qAS rfl rfl rfl) rfl<|J.b rfl<|J.c6 (d:=23) rfl (λh23=>?_) (λh23=>?_)
  ·
   refine J.j 2 V<|J.T (qAF (i:=j) V V V qLd sizeOf97 hs (by omega)) V<|J.T (qAz (off:=1) V V qTH V z3_ hs (by omega) V) V<|J.T (qAL (v:=I ((l.getD j qF5).b)) V V b3_ (m:=F) (by simp) (hs.part (qF7 (by omega)) 1 1)) rfl<|J.b rfl<|J.T (qAS rfl rfl rfl) rfl<|J.b rfl<|J.c hK7<|J.a0 0 1 2 8 31 ?_
   refine J.a4 V (λh31=>?_) (λh31=>?_)
   ·
    refine J.g λK8 hK8=>J.j 2 V<|J.f (qAF (i:=j) V V V qLd sizeOf97 hs (by omega)) V<|J.f (qAz (off:=2) V V qTH V z9_ hs (by omega) V) V<|J.f (qAL (v:=Str ((l.getD j qF5).d)) V V b9_ (m:=F) (by simp) (hs.part (qF7 (by omega)) 2 1)) rfl<|J.j 2 rfl<|J.c hK8<|J.E 6 7 ?_
    exact J.D<|J.b6<|J.a7<|J.a7<|J.b6<|J.a7<|J.b4 hw0 (λ_ _ h=>h) (qDe V V V) (qAj () (by rw [qSv hf hkj (by omega) (by omega) h31];rfl) trivial [0] rfl (by decide))
   refine J.c0<|J.b0<|J.u (J.M hK6 ?_)
   refine J.O 0 1 2 8 ?_
   exact J.H<|J.b V<|J.f (qAn V V V (by omega)) V<|J.b V<|J.a8<|J.u<|J.a9 (j) (λη (hη:_∧η<k)=>hI0 η hη.1 hη.2) ⟨⟨by omega,qLH hf hkj (by omega) (λh=>h31 h.2)⟩,by omega⟩ ⟨V,V,V,V,trivial⟩ (λ_ h=>h)
  refine J.j 8 V<|J.c hK7<|J.a0 0 1 2 8 31 ?_
  refine J.a5 ?_
  refine J.c0<|J.b0<|J.u (J.M hK6 ?_)
  refine J.O 0 1 2 8 ?_
  exact J.H<|J.b V<|J.f (qAn V V V (by omega)) V<|J.b V<|J.a8<|J.u<|J.a9 (j) (λη (hη:_∧η<k)=>hI0 η hη.1 hη.2) ⟨⟨by omega,qLH hf hkj (by omega) (λh=>h23 (by have:=h.1;omega))⟩,by omega⟩ ⟨V,V,V,V,trivial⟩ (λ_ h=>h)
 refine J.b8<|J.a6<|J.a6<|J.b9 ?_
 refine J.u (J.M hK2 ?_)
 refine J.d0 [] trivial<|J.g λK9 hK9=>J.j 2 V<|J.c hK9<|J.E 6 7 ?_
 exact J.D<|J.b4 hw0 (λ_ _ h=>h) (qDe V V V) (qAj () (by rw [hf,show k=0 by omega];rfl) trivial [0] rfl (by decide))
theorem qQI(F:Hp)(x y:AtD)(h1:x.ep=y.ep)(h2:x.nm=y.nm)(hno:x.b=y.b→x.h=y.h):Ct prog 30 [.agg #[N64 (x.ep),I (x.b),Str (x.h),I (x.nm),I (x.ix),.slice x.chA x.ch.length x.chc,.slice x.ptA x.pt.length x.ptc],.agg #[N64 (y.ep),I (y.b),Str (y.h),I (y.nm),I (y.ix),.slice y.chA y.ch.length y.chc,.slice y.ptA y.pt.length y.ptc]] [F] (λ_:Unit=> .bool false) (λ_=>True) (λ_=> [F]):=by
 refine Ct.walk func30 rfl ntmps30 rfl (λw0 hw0=>?_)
 change J _ [(0,_),(1,_)] _ _ _
 refine J.g λK1 hK1=>J.q (qAi (l:= [N64 (x.ep),I (x.b),Str (x.h),I (x.nm),I (x.ix),.slice x.chA x.ch.length x.chc,.slice x.ptA x.pt.length x.ptc]) V V V) V λg2 _=>?_
 change J _ _ _ [F,blk g2 [N64 (x.ep),I (x.b),Str (x.h),I (x.nm),I (x.ix),.slice x.chA x.ch.length x.chc,.slice x.ptA x.pt.length x.ptc] 52] _
 refine J.q (qAi (l:= [N64 (y.ep),I (y.b),Str (y.h),I (y.nm),I (y.ix),.slice y.chA y.ch.length y.chc,.slice y.ptA y.pt.length y.ptc]) V V V) V λg3 _=>?_
 change J _ _ _ [_,_,blk g3 [N64 (y.ep),I (y.b),Str (y.h),I (y.nm),I (y.ix),.slice y.chA y.ch.length y.chc,.slice y.ptA y.pt.length y.ptc] 52] _
 refine J.b V<|J.c hK1<|J.E 2 3 ?_
 refine J.g λK2 hK2=>J.a2 0 qCa qCG V V V V V<|J.f (qAD 1 (v:=N64 (x.ep)) V V V qCZ V) V<|J.a2 0 qCa qCG V V V V V<|J.f (qAD 2 (v:=N64 (y.ep)) V V V qCZ V) V<|J.f ((qAS V V V).yes (by rw [h1])) rfl<|J.b rfl<|J.T (qAA (j:=1) rfl rfl qCa rfl z3_ rfl) rfl<|J.T (qAD 1 (v:=I (x.b)) rfl rfl rfl b3_ rfl) rfl<|J.T (qAA (j:=1) rfl rfl qCa rfl z3_ rfl) rfl<|J.T (qAD 2 (v:=I (y.b)) rfl rfl rfl b3_ rfl) rfl<|J.T (qAS rfl rfl rfl) rfl<|J.j 2 rfl<|J.c6 (d:=17) rfl (λh17=>?_) (λh17=>?_)
 ·
  refine J.T (qAA (j:=3) V V qCa V z3_ V) V<|J.T (qAD 1 (v:=I (x.nm)) V V V b3_ V) V<|J.T (qAA (j:=3) V V qCa V z3_ V) V<|J.T (qAD 2 (v:=I (y.nm)) V V V b3_ V) V<|J.T ((qAS V V V).yes (h2)) V<|J.j 2 V<|J.T (qAA (j:=2) V V qCa V z9_ V) V<|J.T (qAD 1 (v:=Str (x.h)) V V V b9_ V) V<|J.T (qAA (j:=2) V V qCa V z9_ V) V<|J.T (qAD 2 (v:=Str (y.h)) V V V b9_ V) V<|J.T ((qBv V V V).no (λh=>h (hno h17))) V<|J.j 2 V<|J.c hK2<|J.A 4 ?_
  exact J.D<|J.Z hw0 V () V trivial [0] V (by decide)
 refine J.j 14 V<|J.c hK2<|J.A 4 ?_
 exact J.D<|J.Z hw0 V () V trivial [0] V (by decide)
def qH9(M:List MkD)(ms:Mks):Prop:= ∀k:Nat,k<2→qI1 M 1 ((k:Nat):Int)=qBQ (msV ms) (1,((k:Nat):Int))
theorem qGE: ∀(l:Mrk) (p:(Nat×Int)×List UInt8) (k:Nat×Int),qBQ (l++ [p]) k=match qBQ l k with
    |some d=>some d
    |none=>if p.1=k then some p.2 else none
  | [],p,k=>rfl
  |q::r,p,k=>by
    show(if q.1=k then some q.2 else qBQ (r++ [p]) k)=match (if q.1=k then some q.2 else qBQ r k) with
      |some d=>some d
      |none=>if p.1=k then some p.2 else none
    by_cases h:q.1=k
    · rw [if_pos h,if_pos h]
    · rw [if_neg h,if_neg h];exact qGE r p k
theorem qH9.add{M:List MkD}{ms:Mks}(h:qH9 M ms){b i:Nat}(hn:b∉ms.map (·.1)):qH9 (M++ [⟨1,((b:Nat):Int),(hH (UInt8.ofNat i)).dig⟩]) (ms++ [(b,i)]):=λk hk=>by
  rw [qEU,←qFU,qGE]
  by_cases e:b=k
  · subst e
    rw [if_pos ⟨rfl,rfl⟩,qC6 hn];exact(if_pos rfl).symm
  · rw [if_neg (λx=>e (by have:=x.2;dsimp only at this;omega)),h k hk]
    cases qBQ (msV ms) (1,((k:Nat):Int)) with
    |some d=>rfl
    |none=>exact(if_neg (λx=>e (by have:=congrArg Prod.snd x;dsimp only at this;omega))).symm
theorem qH9.same{M:List MkD}{ms:Mks}(h:qH9 M ms){b i:Nat}(hd:(ms.map (·.1)).Nodup)(hm:(b,i)∈ms):qH9 (M++ [⟨1,((b:Nat):Int),(hH (UInt8.ofNat i)).dig⟩]) ms:=λk hk=>by
  rw [qEU]
  by_cases e:b=k
  · subst e
    rw [if_pos ⟨rfl,rfl⟩,qK1 hd hm]
  · rw [if_neg (λx=>e (by have:=x.2;dsimp only at this;omega)),h k hk]
theorem qH9.grow{M:List MkD}{ms ms':Mks}(h:qH9 M ms){b i:Nat}(hd:(ms.map (·.1)).Nodup)(hg:ms'=ms∧(b,i)∈ms∨ms'=ms++ [(b,i)]∧b∉ms.map (·.1)):qH9 (M++ [⟨1,((b:Nat):Int),(hH (UInt8.ofNat i)).dig⟩]) ms':=by
 rcases hg with ⟨rfl,hm⟩|⟨rfl,hn⟩
 · exact h.same hd hm
 · exact h.add hn
structure Tld (v:Nat) (ms:Mks) (T:List AtD):Prop where
 each: ∀x∈T,x.ep=1∧x.nm=1∧(∃b i,(b,i)∈ms∧x.b=((b:Nat):Int)∧x.h=(hH (UInt8.ofNat i)).dig)∧ ∃n:Nat,n<v∧x.ix=((n:Nat):Int)
 rise: ∀i k,k<i→i<T.length→(T.getD k qBA).ix<(T.getD i qBA).ix
theorem Tld.nil(v:Nat)(ms:Mks):Tld v ms []:=⟨λ_ h=>absurd h j7,λi _ _ h=>absurd h (jz i)⟩
theorem Tld.le{v w:Nat}{ms ms':Mks}{T:List AtD}(h:Tld v ms T)(hv:v≤w)(hm: ∀p∈ms,p∈ms'):Tld w ms' T:=
 ⟨λx hx=>by obtain ⟨h1,h2,⟨b,i,h3,h4⟩,n,h5,h6⟩:=h.each x hx;exact⟨h1,h2,⟨b,i,hm _ h3,h4⟩,n,by omega,h6⟩,h.rise⟩
theorem qJ5{T:List AtD}{i:Nat}(h:i<T.length):T.getD i qBA∈T:=by
 rw [jB,jC h];exact jc h
theorem Tld.snoc{v:Nat}{ms:Mks}{T:List AtD}(h:Tld v ms T){x:AtD}{b i:Nat}(hm:(b,i)∈ms)(e1:x.ep=1)(e2:x.nm=1)(e3:x.b=((b:Nat):Int))(e4:x.h=(hH (UInt8.ofNat i)).dig)(e5:x.ix=((v:Nat):Int)):Tld (v+1) ms (T++ [x]):=by
  refine⟨λy hy=>?_,λj k hk hj=>?_⟩
  · rcases List.mem_append.1 hy with hy|hy
    · obtain ⟨h1,h2,h3,n,h5,h6⟩:=h.each y hy
      exact⟨h1,h2,h3,n,by omega,h6⟩
    · rw [List.mem_singleton.1 hy];exact⟨e1,e2,⟨b,i,hm,e3,e4⟩,v,Nat.lt_succ_self _,e5⟩
  · rw [jA,jP] at hj
    have hg: ∀j,j<T.length→(T++ [x]).getD j qBA=T.getD j qBA:=λj hj=>by
      rw [jB,jB,jY hj]
    by_cases e:j<T.length
    · rw [hg j e,hg k (by omega)];exact h.rise j k hk e
    · obtain rfl:j=T.length:=by omega
      have e2:(T++ [x]).getD T.length qBA=x:=by rw [jB,jb (jJ _),zh];rfl
      obtain ⟨_,_,_,n,h5,h6⟩:=h.each _ (qJ5 hk)
      rw [e2,hg k hk,e5,h6]
      omega
theorem qIn: ∀{l:Mks} {b i j:Nat},(l.map (·.1)).Nodup→(b,i)∈l→(b,j)∈l→i=j
 |p::r,b,i,j,hn,h1,h2=>by
  rw [jR,List.nodup_cons] at hn
  have no: ∀k,(b,k)∈r→p.1≠b:=λk hk e=>hn.1 (List.mem_map.2 ⟨(b,k),hk,e.symm⟩)
  rcases List.mem_cons.1 h1 with e1|e1<;>rcases List.mem_cons.1 h2 with e2|e2
  · have:=e1.trans e2.symm;exact congrArg Prod.snd this
  · exact absurd (by rw [←e1]) (no j e2)
  · exact absurd (by rw [←e2]) (no i e1)
  · exact qIn hn.2 e1 e2
theorem Tld.fin{v:Nat}{ms:Mks}{T:List AtD}(h:Tld v ms T)(hd:(ms.map (·.1)).Nodup){i k:Nat}(hk:k<i)(hi:i<T.length):(T.getD i qBA).ep=(T.getD k qBA).ep∧(T.getD i qBA).nm=(T.getD k qBA).nm∧((T.getD i qBA).b=(T.getD k qBA).b→(T.getD i qBA).h=(T.getD k qBA).h)∧ ¬(T.getD i qBA).ix=(T.getD k qBA).ix:=by
  obtain ⟨a1,a2,⟨b,j,a3,a4,a5⟩,_⟩:=h.each _ (qJ5 hi)
  obtain ⟨c1,c2,⟨b',j',c3,c4,c5⟩,_⟩:=h.each _ (qJ5 (Nat.lt_trans hk hi))
  refine⟨a1.trans c1.symm,a2.trans c2.symm,λe=>?_,λe=>?_⟩
  · rw [a4,c4] at e
    obtain rfl:b=b':=by omega
    rw [a5,c5,qIn hd a3 c3]
  · have:=h.rise i k hk hi;omega
end Go.Proofs.YtfldiegfenndjaaGreatDoor
namespace Go.Proofs.YtfldiegfenndjaaGreatDoor
open Go Go.Fw Go.Proofs.Tryz
set_option maxRecDepth 100000
set_option maxHeartbeats 1000000
structure qGg where
 r:UInt8
 b:UInt8
 f:UInt8
 a:UInt8
 deriving DecidableEq
def qGg.cells(x:qGg):List Value:= [B8 (x.r),B8 (x.b),B8 (x.f),B8 (x.a)]
def qCg:qGg:=⟨0,0,0,0⟩
def qE4(l:List qGg):List (List Value):=l.map qGg.cells
theorem qCQ{l:List qGg}{k:Nat}(h:k<l.length):(qE4 l)[k]?=some (l.getD k qCg).cells:=by
 unfold qE4
 rw [jN,qAd qCg h];rfl
theorem qKK(l:List qGg):(qE4 l).length=l.length:=by simp [qE4]
attribute [local irreducible] hH
def Wnt(w v:Nat)(ms:Mks)(b i:Nat):Prop:=(w=19∧Oth ms b i)∨(w=11∧ ¬Oth ms b i∧2^3≤v)∨(w=0∧ ¬Oth ms b i∧v<2^3)
structure Gd (K:List UInt8) (gm v:Nat) (ms:Mks) (b i:Nat) (r:ATR):Prop where
 vv:v<2^3
 liv:Liv K gm (v+1) r.x.ms r.x r.z
 grow:r.x.ms=ms∧(b,i)∈ms∨r.x.ms=ms++ [(b,i)]∧b∉ms.map (·.1)
 ep:r.ep=1
 eb:r.b=b
 eh:r.h=(hH (UInt8.ofNat i)).dig
 nm:r.nm=1
 idx:r.idx=v
 n1:r.n1=(sgC [115,101,101,100] v (atM 1 b 1 (hH (UInt8.ofNat i)).dig)).length
 n2:r.n2=(sgP [115,101,101,100] 3 v).length
 u:Sl r.z.u 1 r.P (sgC [115,101,101,100] v (atM 1 b 1 (hH (UInt8.ofNat i)).dig)).length r.p (qAH (sgC [115,101,101,100] v (atM 1 b 1 (hH (UInt8.ofNat i)).dig)))
 w:Sl r.z.w 1 r.Q (sgP [115,101,101,100] 3 v).length r.q (qAH (sgP [115,101,101,100] 3 v))
section
variable{v gd gm:Nat}{K:List UInt8}{ms:Mks}{D:Dk}{C:Option Addr}{f b i w:Nat}{r:ATR}
theorem ATP.ok(h:ATP [115,101,101,100] 3 v gd gm K ms D C f b i r)(he:r.e=0):Gd K gm v ms b i r:=by
  rcases h.four with ⟨h1|h1,_⟩|⟨_,_,h1,h2,h3,h4,h5,h6,h7,h8,h9,h10⟩|h1
  · rw [h1.1] at he;exact absurd he (by decide)
  · rw [h1.1] at he;exact absurd he (by decide)
  · have e1:r.n1=(sgC [115,101,101,100] v (atM 1 b 1 (hH (UInt8.ofNat i)).dig)).length:=by have:=h9.sl.1;rw [qAH,jK] at this;exact this.symm
    have e2:r.n2=(sgP [115,101,101,100] 3 v).length:=by have:=h10.sl.1;rw [qAH,jK] at this;exact this.symm
    exact⟨h1,h2,h3,h4,h5,h6,h7,h8,e1,e2,by rw [←e1];exact h9.sl,by rw [←e2];exact h10.sl⟩
  · rw [h1.1] at he;exact absurd he (by decide)
theorem ATP.w0(h:ATP [115,101,101,100] 3 v gd gm K ms D C f b i r)(hw:Wnt w v ms b i)(he:r.e=0):w=0:=by
 have hg:=h.ok he
 have hno: ¬Oth ms b i:=by
  rcases h.four with ⟨h1|h1,_⟩|h1|h1
  · rw [h1.1] at he;exact absurd he (by decide)
  · rw [h1.1] at he;exact absurd he (by decide)
  · exact h1.2.1
  · exact h1.2.1
 rcases hw with h1|h1|h1
 · exact absurd h1.2 hno
 · have:=hg.vv;have:=h1.2.2;omega
 · exact h1.1
theorem ATP.bad(h:ATP [115,101,101,100] 3 v gd gm K ms D C f b i r)(hw:Wnt w v ms b i)(he: ¬r.e=0)(hne:r.e≠((w:Nat):Int)):v<2^3∧w=0∧r.z.D.off=true∧ ∃v' ms',(v'=v∨v'=v+1)∧(ms'=ms∨ms'=ms++ [(b,i)]∧b∉ms.map (·.1))∧AD K r.z.D v' ms':=by
  rcases h.four with ⟨h1|h1,_⟩|h1|⟨_,h2,h3,h4,h5⟩
  · rcases hw with q|q|q
    · rw [h1.1,q.1] at hne;exact absurd rfl hne
    · exact absurd h1.2 q.2.1
    · exact absurd h1.2 q.2.1
  · rcases hw with q|q|q
    · exact absurd q.2 h1.2.1
    · rw [h1.1,q.1] at hne;exact absurd rfl hne
    · have:=h1.2.2;have:=q.2.2;omega
  · exact absurd h1.1 he
  · rcases hw with q|q|q
    · exact absurd q.2 h2
    · have:=q.2.2;omega
    · exact⟨h3,q.1,h4,h5⟩
theorem ATP.same(h:ATP [115,101,101,100] 3 v gd gm K ms D C f b i r)(hw:Wnt w v ms b i)(he: ¬r.e=0)(hne: ¬r.e≠((w:Nat):Int)):Liv K gm v ms r.x r.z:=by
  rcases h.four with h1|h1|h1
  · exact h1.2
  · exact absurd h1.1 he
  · have e:=(Decidable.not_not.1 hne).symm.trans h1.1
    rcases hw with q|q|q
    · rw [q.1] at e;exact absurd e (by decide)
    · rw [q.1] at e;exact absurd e (by decide)
    · rw [q.1] at e;exact absurd e (by decide)
end
theorem Gd.mem{K:List UInt8}{gm v:Nat}{ms:Mks}{b i:Nat}{r:ATR}(h:Gd K gm v ms b i r):(b,i)∈r.x.ms∧ ∀p∈ms,p∈r.x.ms:=by
 rcases h.grow with ⟨e,hm⟩|⟨e,_⟩
 · rw [e];exact⟨hm,λ_ h=>h⟩
 · rw [e];exact⟨jX _ (.head _),λp h=>jf _ h⟩
def Pnd(M:List MkD)(ms:Mks)(b i w:Nat)(off:Bool):Prop:=qH9 M ms∨(w=0∧off=true∧ ∃ms0,qH9 M ms0∧ms=ms0++ [(b,i)]∧b∉ms0.map (·.1))
theorem qIx{ms:Mks}{b i:Nat}(h:b∉ms.map (·.1)):qBQ (msV (ms++ [(b,i)])) (1,((b:Nat):Int))=some (hH (UInt8.ofNat i)).dig:=by
 rw [←qFU,qGE,qC6 h];exact if_pos rfl
theorem Pnd.none{M:List MkD}{ms:Mks}{b i w:Nat}{o:Bool}(h:Pnd M ms b i w o)(hn:(qBQ (msV ms) (1,((b:Nat):Int))).isSome=false):qH9 M ms:=by
  rcases h with h|⟨_,_,ms0,_,rfl,h3⟩
  · exact h
  · rw [qIx h3] at hn
    exact absurd hn (by simp)
theorem Pnd.w{M:List MkD}{ms:Mks}{b i w:Nat}{o:Bool}(h:Pnd M ms b i w o)(hw: ¬w=0):qH9 M ms:=h.resolve_right λx=>hw x.1
theorem Pnd.there{M:List MkD}{ms:Mks}{b i w:Nat}{o:Bool}(h:Pnd M ms b i w o)(hb:b<2)(ht:(qI1 M 1 ((b:Nat):Int)).isSome=true):qH9 M ms:=by
 rcases h with h|⟨_,_,ms0,h1,rfl,h3⟩
 · exact h
 · rw [h1 b hb,qC6 h3] at ht;exact absurd ht (by decide)
theorem Pnd.new{M:List MkD}{ms:Mks}{b i w:Nat}{o:Bool}(h:Pnd M ms b i w o)(hb:b<2)(hs:(qBQ (msV ms) (1,((b:Nat):Int))).isSome=true)(ht:(qI1 M 1 ((b:Nat):Int)).isSome=false):(qBQ (msV ms) (1,((b:Nat):Int))).getD []=(hH (UInt8.ofNat i)).dig∧qH9 (M++ [⟨1,((b:Nat):Int),(hH (UInt8.ofNat i)).dig⟩]) ms:=by
  rcases h with h|⟨_,_,ms0,h1,rfl,h3⟩
  · rw [h b hb,hs] at ht;exact absurd ht (by decide)
  · refine⟨?_,h1.add h3⟩
    rw [qIx h3];rfl
theorem qDr{P:Program}{env:Env}{rs:List Hp}{o:Oper}{s x f i fs A n' c xs m sz q k off}(ho:o.op= .fieldAddr s x i)(hx:ev env x=some (.pointer (some ((qDX A q sz).add off))))(hu:P.underlying s=some (.struct fs))(hf:fs[i]?=some f)(hz: ∀w,(sizeOf f.type).run P w= .ok (k+1) w)(hs:Sl m sz A n' c xs)(hq:q<n')(hj:f.offset=0):YOp P env rs o (.pointer (some ((qDX A q sz).add off))):=by
 obtain ⟨g,o',rfl⟩:=hs.at (by omega)
 rw [qEX,Addr.add_lit] at hx⊢
 exact qAA ho hx hu hf hz (by rw [hj];rfl)
theorem XM_R(ms:Mks):(XM ms).R=ms.map λp=>mkL p.1 p.2:=rfl
theorem qR8{M:List MkD}{ms ms':Mks}{b i w:Nat}{o:Bool}(hw:w=0)(ho:o=true)(h:qH9 M ms)(hm:ms'=ms∨ms'=ms++ [(b,i)]∧b∉ms.map (·.1)):Pnd M ms' b i w o:=by
 rcases hm with rfl|⟨rfl,hn⟩
 · exact .inl h
 · exact .inr ⟨hw,ho,ms,h,rfl,hn⟩
theorem Pnd.on{M:List MkD}{ms:Mks}{b i w:Nat}{o:Bool}(h:Pnd M ms b i w o)(ho:o=false):qH9 M ms:=h.resolve_right λx=>by rw [ho] at x;exact absurd x.2.1 (by decide)
end Go.Proofs.YtfldiegfenndjaaGreatDoor
namespace Go.Proofs.YtfldiegfenndjaaGreatDoor
open Go Go.Fw Go.Proofs.Tryz
set_option maxRecDepth 100000
set_option maxHeartbeats 1000000
theorem ent119:qAE prog 119:=qAE.of func119 rfl (by kernel_rfl)
theorem el229:qCv prog 229 [Str [],Str [],.slice none 0 0,.bool false,Str [],Str []] 96:=qCv.of (by kernel_rfl) rfl
theorem qO6(F:Hp)(hK:KF F)(g:Nat)(l:List Sm.PR)(hT:qDm F g l)(hf:qC9 l)(hln:l.length≤90000)(b d:Nat)(hd:d≤4)(hb:b<2^d)(A0:Option Addr)(n0 c0:Nat)(cl:List Chg)(hs:Sl F 2 A0 n0 c0 (qOV cl))(hch:qKN b d cl):
    Ct prog 58 [Ptr g,I ((b:Nat):Int),I ((d:Nat):Int),.slice A0 n0 c0] [F] (λr:MkR=> .tuple #[.agg #[I ((b:Nat):Int),I ((d:Nat):Int),Str (Sm.ndB l (kF b d) d),Str (Sm.ndB (kvC l cl) (kF b d) d),.slice r.A r.L.length r.c],Ptr r.g,I 0]) (MkP l d cl) (λr=> [F,r.mt,r.ms,r.M]):=by
  have hcn:cl.length=n0:=by have:=hs.1;simpa [qOV] using this
  have hc256:=hch.len
  have hmay:=hch.may hd hb
  have hmd:min (((d:Nat):Int)).toNat 128=d:=by rw [jZ];omega
  have hkb:=qDs b d
  refine Ct.walk func58 rfl ntmps58 rfl (λw0 hw0=>?_)
  change J _ [(0,_),(1,_),(2,_),(3,_)] _ _ _
  refine J.g λK1 hK1=>J.q (qAO (l:= [I 0,I 0,Str [],Str [],.slice none 0 0]) V zeroValue79 V) V λg8 _=>?_
  change J _ _ _ [F,blk g8 [I 0,I 0,Str [],Str [],.slice none 0 0] 79] _
  refine J.j 2 V<|J.c hK1<|J.a0 0 1 2 3 8 ?_
  refine J.g λK2 hK2=>J.b V<|J.c hK2<|J.b5 0 1 2 3 8 11 ?_
  refine J.k λK3 hK3=>J.g λK4 hK4=>J.b V<|J.f (qAY qMo V V) V<|J.b V<|J.c hK4<|J.e4 0 1 2 3 8 11 22 23 24 ?_
  refine J.a1<|J.c1 (X:=Nat×Option Addr×Nat×Hp) (λζ=> [(0,Ptr g),(1,I ((b:Nat):Int)),(2,I ((d:Nat):Int)),(3,.slice A0 n0 c0),(8,Ptr g8),(11,.slice ζ.2.1 ((qGB cl ζ.1).length) ζ.2.2.1),(22,.slice A0 n0 c0),(23,I ((n0:Nat):Int)),(24,I ((ζ.1:Nat):Int))]) (λζ=> [F,blk g8 [I 0,I 0,Str [],Str [],.slice none 0 0] 79,ζ.2.2.2]) (λζ=>ζ.1≤n0∧Row ζ.2.2.2 9 1 ζ.2.1 (qGB cl ζ.1).length ζ.2.2.1 (qAH (qGB cl ζ.1))) (λζ=>n0-ζ.1) (0,none,0,(λ_=>none)) (⟨jF _,qBc.nil⟩) ⟨V,V,V,V,V,V,V,V,V,trivial⟩ (λ_ h=>h.empty.pick [0,1,2] (by decide)) ?_
  rintro⟨i,A1,c1,m1⟩ ⟨hi,hr1⟩ I0 hI0
  dsimp only at hi hr1⊢
  have hkl:=qN7 (cl:=cl) (i:=i) (by omega)
  refine J.g λK5 hK5=>J.f (qAT V V V) V<|J.c hK5<|J.f1 0 1 2 3 8 11 22 23 24 25 ?_
  refine J.k λK6 hK6=>J.a4 V (λh25=>?_) (λh25=>?_)
  ·
    refine J.W hK6<|J.e4 0 1 2 3 8 11 22 23 24 ?_
    refine J.k λK7 hK7=>J.a1<|J.g λK8 hK8=>J.f (qAF (i:=i) V V V qMo qFF hs (by omega)) V<|J.f (qAl (vs:= [Str ((cl.getD i qAe).k),Str ((cl.getD i qAe).v)]) V V isAgg155 qFF (m:=F) (by simp) (hs.elem (qJD (by omega))) rfl) rfl<|J.q (qAO (l:= [Str [],Str []]) rfl zeroValue155 rfl) rfl λg13 _=>?_
    change J _ _ _ [F,blk g8 [I 0,I 0,Str [],Str [],.slice none 0 0] 79,m1,blk g13 [Str [],Str []] 155] _
    refine J.b1 (qAG (i:=3) (l:= [Str [],Str []]) (vs:= [Str ((cl.getD i qAe).k),Str ((cl.getD i qAe).v)]) V V V V V qFF V V) V V λ_ _=>?_
    change J _ _ _ [_,_,_,blk g13 [Str ((cl.getD i qAe).k),Str ((cl.getD i qAe).v)] 155] _
    refine J.c hK8<|J.f1 0 1 2 3 8 11 13 22 23 24 ?_
    refine J.H<|J.b V<|J.a2 0 qGZ z9_ V V V V V<|J.f (qAD 3 (v:=Str ((cl.getD i qAe).k)) V V V b9_ V) V<|J.q (qAJ (l:= [.tmp 30]) (xs:= [[Str ((cl.getD i qAe).k)]]) V V V V qAh el9 V (by decide) (by decide) (by simp)) rfl λg31 _=>?_
    change J _ _ _ [_,_,_,_,blk g31 [Str ((cl.getD i qAe).k)] 9] _
    refine J.q (qAa (i:=2) (xs:=qAH (qGB cl i)) (m2:=blk g31 [Str ((cl.getD i qAe).k)] 9) (ys:= [[Str ((cl.getD i qAe).k)]]) V V V qAh qAh el9 V hr1 (by simp) ((qCK (q:=True) (qAH [(cl.getD i qAe).k]) rfl (by simp [qAH]) rfl).sl) rfl (by omega) (by omega)) rfl ?_
    rintro⟨A32,c32,m32⟩ h32
    try dsimp only at h32
    change J _ ((32,.slice A32 (((qGB cl i).length)+1) c32)::_) _ [_,_,m32,_,_] _
    rw [←qBx] at h32
    refine J.b V<|J.a8<|J.b0<|J.u (J.M hK7 ?_)
    refine J.e4 0 1 2 3 8 11 22 23 24 ?_
    exact J.H<|J.f ((qAQ V V V (by omega)).nat (i+1) (by omega)) V<|J.b V<|J.a8<|J.u<|J.a9 (i+1,A32,c32,m32) (λη (hη:_∧n0-η.1<n0-i)=>hI0 η hη.1 hη.2) ⟨⟨by dsimp only;omega,by dsimp only;rw [qG5 (by omega),jA];exact h32⟩,by first|omega|(dsimp only;omega)⟩ ⟨rfl,rfl,rfl,rfl,rfl,by dsimp only;rw [qG5 (by omega),jA];rfl,rfl,rfl,rfl,trivial⟩ (λ_ h=>h.pick [0,1,2] (by decide))
  refine J.b8<|J.a6<|J.a6<|J.b9 ?_
  refine J.u (J.M hK3 ?_)
  refine J.b5 0 1 2 3 8 11 ?_
  refine J.k λK9 hK9=>J.k λK10 hK10=>?_
  obtain rfl:i=cl.length:=by omega
  rw [qN8] at hr1 hkl⊢
  have hsk:=hch.smallK
  refine J.H<|J.j 3 V<|J.q (qAB V V ent118 (Ct.use0 (λF' hF=>qMx F' ((b:Nat):Int) ((d:Nat):Int) A1 ((cl.map Chg.k).length) c1 (cl.map Chg.k) (hr1.sl.mono (hF m1 (by simp))) (by omega) (by assumption)))) rfl λg37 _=>J.b rfl<|J.c hK10<|J.b5 0 1 2 3 8 14 ?_
  refine J.g λK11 hK11=>J.b V<|J.f ((qAU V V V).no (by rw [hmay];decide)) rfl<|J.j 2 rfl<|J.T ((qA1 qTK rfl rfl rfl).as (v':= .bool false) rfl) rfl<|J.b rfl<|J.c hK11<|J.c5 0 1 2 3 8 14 43 ?_
  refine J.a5 ?_
  refine J.W hK9<|J.a0 0 1 2 3 8 ?_
  refine J.g λK12 hK12=>J.j 2 V<|J.q (qAB V V ent76 (Ct.use0 (λF' hF=>qI2 F' b d (by omega) (by assumption)))) V λg50 _=>J.b V<|J.c hK12<|J.b5 0 1 2 3 8 15 ?_
  refine J.g λK13 hK13=>J.b V<|J.q (qAB V V ent119 (Ct.use (new:=λx:Nat×Hp=> [x.2]) (λF' hF=>Ct.swap2 (qO8 F' g l (hT.mono (hF F (by simp))))))) rfl ?_
  rintro⟨g52,m52⟩ h52
  try dsimp only at h52
  change J _ ((52,Ptr g52)::_) _ [F,blk g8 [I 0,I 0,Str [],Str [],.slice none 0 0] 79,m1,m52] _
  refine J.b V<|J.c hK13<|J.c5 0 1 2 3 8 15 16 ?_
  refine J.g λK14 hK14=>J.j 5 V<|J.q (qAB V V ent75 (Ct.use0 (λF' hF=>qFP F' (hK.mo hF) g l (hT.mono (hF F (by simp))) (by assumption) (kF b d) (by first|omega|decide) ((d:Nat):Int) (by first|assumption|exact qHJ (by assumption)|exact qKT (by assumption) (by assumption))))) rfl λg58 _=>?_
  rw [hmd]
  refine J.f (qAK (l:= [(0,.tmp 53),(1,.tmp 54),(2,.tmp 58)]) (vs:= [I ((b:Nat):Int),I ((d:Nat):Int),Str (Sm.ndB l (kF b d) d)]) (places:= [(0,1),(1,1),(2,1),(3,1),(4,1)]) (r:= [I ((b:Nat):Int),I ((d:Nat):Int),Str (Sm.ndB l (kF b d) d),Str [],.slice none 0 0]) V V V qGS zeroValue79 (λ_=>by kernel_rfl) V) V<|J.q (qAO (l:= [I 0,I 0,Str [],Str [],.slice none 0 0]) V zeroValue79 V) V λg17 _=>?_
  change J _ _ _ [_,_,_,_,blk g17 [I 0,I 0,Str [],Str [],.slice none 0 0] 79] _
  refine J.b1 (qAG (i:=4) (l:= [I 0,I 0,Str [],Str [],.slice none 0 0]) (vs:= [I ((b:Nat):Int),I ((d:Nat):Int),Str (Sm.ndB l (kF b d) d),Str [],.slice none 0 0]) V V V V V qLZ V V) V V λ_ _=>?_
  change J _ _ _ [_,_,_,_,blk g17 [I ((b:Nat):Int),I ((d:Nat):Int),Str (Sm.ndB l (kF b d) d),Str [],.slice none 0 0] 79] _
  refine J.c hK14<|J.b5 2 3 8 15 16 17 ?_
  refine J.k λK15 hK15=>J.g λK16 hK16=>J.b V<|J.f (qAY qMo V V) V<|J.b V<|J.c hK16<|J.d6 2 8 15 16 17 60 61 62 ?_
  refine J.a1<|J.c1 (X:=Nat×List qAq×Option Addr×Nat×Hp×Hp×Hp) (λζ=> [(2,I ((d:Nat):Int)),(8,Ptr g8),(15,Str (kF b d)),(16,Ptr g52),(17,Ptr g17),(60,.slice A0 n0 c0),(61,I ((n0:Nat):Int)),(62,I ((ζ.1:Nat):Int))]) (λζ=> [ζ.2.2.2.2.2.2,F,blk g8 [I 0,I 0,Str [],Str [],.slice none 0 0] 79,blk g17 [I ((b:Nat):Int),I ((d:Nat):Int),Str (Sm.ndB l (kF b d) d),Str ([]),.slice ζ.2.2.1 ζ.2.1.length ζ.2.2.2.1] 79,ζ.2.2.2.2.2.1,ζ.2.2.2.2.1]) (λζ=>ζ.1≤cl.length∧ζ.2.1.map qAq.chg=cl.take ζ.1∧qB8 l d ζ.2.1∧Row ζ.2.2.2.2.1 229 6 ζ.2.2.1 ζ.2.1.length ζ.2.2.2.1 (qEk ζ.2.1)∧qJO ζ.2.2.2.2.2.1 g52 ((kvC l (cl.take ζ.1)))∧qMQ ζ.2.2.2.2.2.2 ζ.2.1) (λζ=>cl.length-ζ.1) (0,[],none,0,(λ_=>none),m52,(λ_=>none)) (⟨jF _,V,qB8.nil _ _,qBc.nil,h52,qMQ.nil _⟩) ⟨V,V,V,V,V,V,V,V,trivial⟩ (λ_ h=>h.empty.empty.pick [5,0,1,4,3,6] (by decide)) ?_
  rintro⟨i,L,As,cs,ms,mt,M⟩ ⟨hi,hL,hok,hst,ht,hbs⟩ I2 hI2
  dsimp only at hi hL hok hst ht hbs⊢
  refine J.g λK17 hK17=>J.f (qAT V V V) V<|J.c hK17<|J.e4 2 8 15 16 17 60 61 62 63 ?_
  refine J.k λK18 hK18=>J.a4 V (λh63=>?_) (λh63=>?_)
  ·
    refine J.W hK18<|J.d6 2 8 15 16 17 60 61 62 ?_
    refine J.k λK19 hK19=>J.a1<|J.k λK20 hK20=>?_
    obtain ⟨hk16,hkb2,hkv⟩:=hch.at (i:=i) (by omega)
    have hfi:=hch.fine hf hln i
    have hLl:=congrArg List.length hL
    rw [jK,jE] at hLl
    refine J.H<|J.f (qAF (i:=i) V V V qMo qFF hs (by omega)) V<|J.f (qAl (vs:= [Str ((cl.getD i qAe).k),Str ((cl.getD i qAe).v)]) V V isAgg155 qFF (m:=F) (by simp) (hs.elem (qJD (by omega))) rfl) rfl<|J.q (qAO (l:= [Str [],Str []]) rfl zeroValue155 rfl) rfl λg19 _=>?_
    change J _ _ _ [M,F,blk g8 [I 0,I 0,Str [],Str [],.slice none 0 0] 79,blk g17 [I ((b:Nat):Int),I ((d:Nat):Int),Str (Sm.ndB l (kF b d) d),Str ([]),.slice As L.length cs] 79,mt,ms,blk g19 [Str [],Str []] 155] _
    refine J.b1 (qAG (i:=6) (l:= [Str [],Str []]) (vs:= [Str ((cl.getD i qAe).k),Str ((cl.getD i qAe).v)]) V V V V V qFF V V) V V λ_ _=>?_
    change J _ _ _ [_,_,_,_,_,_,blk g19 [Str ((cl.getD i qAe).k),Str ((cl.getD i qAe).v)] 155] _
    refine J.c hK20<|J.e4 2 8 15 16 17 19 60 61 62 ?_
    refine J.g λK21 hK21=>J.b V<|J.a2 0 qGZ z9_ V V V V V<|J.f (qAD 6 (v:=Str ((cl.getD i qAe).k)) V V V b9_ V) V<|J.b V<|J.q (qAB V V ent47 (Ct.use (new:=λx:Nat×Option Addr×Nat×Hp=> [x.2.2.2]) (λF' hF=>qPW F' (hK.mo hF) g52 (kvC l (cl.take i)) (ht.at.mono (hF mt (by simp))) hfi (cl.getD i qAe).k hk16 d (by omega)))) rfl ?_
    rintro⟨s71,A71,c71,m71⟩ ⟨hst71,hr71⟩
    change J _ ((71,.tuple #[.agg #[.slice A71 (bsd (kvC l (cl.take i)) (cl.getD i qAe).k d (s71-d)).length c71,.bool (qBN (kvC l (cl.take i)) (cl.getD i qAe).k s71),Str (qEN (kvC l (cl.take i)) (cl.getD i qAe).k s71),Str (qEf (kvC l (cl.take i)) (cl.getD i qAe).k s71)],I 0])::_) _ [_,_,_,_,_,_,_,m71] _
    refine J.j 3 V<|J.q (qAO (l:= [.slice none 0 0,.bool false,Str [],Str []]) V zeroValue58 V) V λg20 _=>?_
    change J _ _ _ [_,_,_,_,_,_,_,_,blk g20 [.slice none 0 0,.bool false,Str [],Str []] 58] _
    refine J.b1 (qAG (i:=8) (l:= [.slice none 0 0,.bool false,Str [],Str []]) (vs:= [.slice A71 ((bsd (kvC l (cl.take i)) (cl.getD i qAe).k d (s71-d)).length) c71,.bool (qBN (kvC l (cl.take i)) (cl.getD i qAe).k s71),Str (qEN (kvC l (cl.take i)) (cl.getD i qAe).k s71),Str (qEf (kvC l (cl.take i)) (cl.getD i qAe).k s71)]) V V V V V qGV V V) V V λ_ _=>?_
    change J _ _ _ [_,_,_,_,_,_,_,_,blk g20 [.slice A71 ((bsd (kvC l (cl.take i)) (cl.getD i qAe).k d (s71-d)).length) c71,.bool (qBN (kvC l (cl.take i)) (cl.getD i qAe).k s71),Str (qEN (kvC l (cl.take i)) (cl.getD i qAe).k s71),Str (qEf (kvC l (cl.take i)) (cl.getD i qAe).k s71)] 58] _
    refine J.b V<|J.c hK21<|J.e8 2 8 15 16 17 19 20 21 60 61 62 ?_
    refine J.k λK22 hK22=>J.g λK23 hK23=>J.b V<|J.f ((qAU V V V).no (by decide)) V<|J.c hK23<|J.f0 2 8 15 16 17 19 20 21 60 61 62 75 ?_
    refine J.a5 ?_
    refine J.W hK22<|J.f1 2 8 15 16 17 19 20 60 61 62 ?_
    refine J.k λK24 hK24=>?_
    obtain ⟨x,hx⟩: ∃x:qAq,x=(⟨(cl.getD i qAe).k,(cl.getD i qAe).v,A71,c71,bsd ((kvC l (cl.take i))) (cl.getD i qAe).k d (s71-d),qBN ((kvC l (cl.take i))) (cl.getD i qAe).k s71,qEN ((kvC l (cl.take i))) (cl.getD i qAe).k s71,qEf ((kvC l (cl.take i))) (cl.getD i qAe).k s71⟩:qAq):=⟨_,rfl⟩
    refine J.H<|J.a2 4 qGS sizeOf77 V V V V V<|J.f (qAD 3 (v:= .slice As L.length cs) V V V isAgg77 V) V<|J.c8 6 isAgg155 qFF V V V V V<|J.c8 8 qKI qGV V V V V V<|J.f (qAK (l:= [(0,.tmp 80),(1,.tmp 81)]) (vs:= [.agg #[Str ((cl.getD i qAe).k),Str ((cl.getD i qAe).v)],.agg #[.slice A71 ((bsd (kvC l (cl.take i)) (cl.getD i qAe).k d (s71-d)).length) c71,.bool (qBN (kvC l (cl.take i)) (cl.getD i qAe).k s71),Str (qEN (kvC l (cl.take i)) (cl.getD i qAe).k s71),Str (qEf (kvC l (cl.take i)) (cl.getD i qAe).k s71)]]) (places:= [(0,2),(2,4)]) (r:= [Str ((cl.getD i qAe).k),Str ((cl.getD i qAe).v),.slice A71 ((bsd (kvC l (cl.take i)) (cl.getD i qAe).k d (s71-d)).length) c71,.bool (qBN (kvC l (cl.take i)) (cl.getD i qAe).k s71),Str (qEN (kvC l (cl.take i)) (cl.getD i qAe).k s71),Str (qEf (kvC l (cl.take i)) (cl.getD i qAe).k s71)]) V V V qHK zeroValue229 (λ_=>by kernel_rfl) V) V<|J.q (qAJ (l:= [.tmp 82]) (xs:= [[Str ((cl.getD i qAe).k),Str ((cl.getD i qAe).v),.slice A71 ((bsd (kvC l (cl.take i)) (cl.getD i qAe).k d (s71-d)).length) c71,.bool (qBN (kvC l (cl.take i)) (cl.getD i qAe).k s71),Str (qEN (kvC l (cl.take i)) (cl.getD i qAe).k s71),Str (qEf (kvC l (cl.take i)) (cl.getD i qAe).k s71)]]) V V V V qRT el229 V (by decide) (by decide) (by simp)) rfl λg83 _=>?_
    change J _ _ _ [_,_,_,_,_,_,_,_,_,blk g83 [Str ((cl.getD i qAe).k),Str ((cl.getD i qAe).v),.slice A71 ((bsd (kvC l (cl.take i)) (cl.getD i qAe).k d (s71-d)).length) c71,.bool (qBN (kvC l (cl.take i)) (cl.getD i qAe).k s71),Str (qEN (kvC l (cl.take i)) (cl.getD i qAe).k s71),Str (qEf (kvC l (cl.take i)) (cl.getD i qAe).k s71)] 229] _
    refine J.q (qAa (i:=5) (xs:=qEk L) (m2:=blk g83 [Str ((cl.getD i qAe).k),Str ((cl.getD i qAe).v),.slice A71 ((bsd (kvC l (cl.take i)) (cl.getD i qAe).k d (s71-d)).length) c71,.bool (qBN (kvC l (cl.take i)) (cl.getD i qAe).k s71),Str (qEN (kvC l (cl.take i)) (cl.getD i qAe).k s71),Str (qEf (kvC l (cl.take i)) (cl.getD i qAe).k s71)] 229) (ys:= [[Str ((cl.getD i qAe).k),Str ((cl.getD i qAe).v),.slice A71 ((bsd (kvC l (cl.take i)) (cl.getD i qAe).k d (s71-d)).length) c71,.bool (qBN (kvC l (cl.take i)) (cl.getD i qAe).k s71),Str (qEN (kvC l (cl.take i)) (cl.getD i qAe).k s71),Str (qEf (kvC l (cl.take i)) (cl.getD i qAe).k s71)]]) V V V qRT qRT el229 V hst (by simp) ((qAs (q:=True) (xs:=qEk [(⟨(cl.getD i qAe).k,(cl.getD i qAe).v,A71,c71,(bsd (kvC l (cl.take i)) (cl.getD i qAe).k d (s71-d)),qBN (kvC l (cl.take i)) (cl.getD i qAe).k s71,qEN (kvC l (cl.take i)) (cl.getD i qAe).k s71,qEf (kvC l (cl.take i)) (cl.getD i qAe).k s71⟩:qAq)]) rfl (by intro x hx;rw [List.mem_singleton.1 hx];rfl)).sl) rfl (by omega) (by omega)) rfl ?_
    rintro⟨A84,c84,m84⟩ h84
    try dsimp only at h84
    change J _ ((84,.slice A84 (L.length+1) c84)::_) _ [_,_,_,_,_,m84,_,_,_,_] _
    replace h84:Row m84 229 6 A84 (L.length+1) c84 (qEk (L++ [x])):=by rw [qLp,hx];exact h84
    rw [show L.length+1=(L++ [x]).length by rw [jA];rfl] at h84⊢
    refine J.a2 4 qGS sizeOf77 V V V V V<|J.b1 (qAV (i:=3) (l:= [I ((b:Nat):Int),I ((d:Nat):Int),Str (Sm.ndB l (kF b d) d),Str ([]),.slice As L.length cs]) (vs:= [.slice A84 ((L++ [x]).length) c84]) V V V V V sizeOf77 V (by simp)) rfl rfl λ_ _=>?_
    change J _ _ _ [_,_,_,blk g17 [I ((b:Nat):Int),I ((d:Nat):Int),Str (Sm.ndB l (kF b d) d),Str ([]),.slice A84 ((L++ [x]).length) c84] 79,_,_,_,_,_,_] _
    refine J.c hK24<|J.e4 2 8 15 16 17 19 60 61 62 ?_
    refine J.H<|J.b V<|J.a2 0 qGZ z9_ V V V V V<|J.f (qAD 6 (v:=Str ((cl.getD i qAe).k)) V V V b9_ V) V<|J.a2 1 qGZ z9_ V V V V V<|J.f (qAD 6 (v:=Str ((cl.getD i qAe).v)) V V V b9_ V) V<|J.q (qAB V V ent57 (Ct.use1 4 (m':=λx:Hp=>x) (new:=λ_=> []) V (λF' hF=>qMv F' mt g52 (kvC l (cl.take i)) ht ((cl.getD i qAe).k) ((cl.getD i qAe).v) (by first|omega|rfl|assumption)))) V ?_
    rintro m91 h91
    change J _ ((91,I ((0:Nat):Int))::_) _ [_,_,_,_,m91,_,_,_,_,_] _
    refine J.c9 [0,7,1,2,3,4,5] [M,m71,F,blk g8 [I 0,I 0,Str [],Str [],.slice none 0 0] 79,blk g17 [I ((b:Nat):Int),I ((d:Nat):Int),Str (Sm.ndB l (kF b d) d),Str ([]),.slice A84 ((L++ [x]).length) c84] 79,m91,m84] V (by decide)<|J.f5 (λhj=>?_)
    refine J.a8<|J.b0<|J.u (J.M hK19 ?_)
    refine J.d6 2 8 15 16 17 60 61 62 ?_
    exact J.H<|J.f ((qAQ V V V (by omega)).nat (i+1) (by omega)) V<|J.b V<|J.a8<|J.u<|J.a9 (i+1,L++ [x],A84,c84,m84,m91,U [M,m71]) (λη (hη:_∧cl.length-η.1<cl.length-i)=>hI2 η hη.1 hη.2) ⟨⟨by dsimp only;omega,qQJ (by omega) hL (by rw [hx]) (by rw [hx]),hok.snoc (by rw [hL,hx];exact qJQ.of hfi (by have:=qSm l (cl.take i);rw [jE] at this;omega) hk16 hkv hst71 A71 c71),h84,by dsimp only;rw [qK9 (by omega)];exact h91,(hbs.mono (qG3 hj)).snoc (by rw [hx];exact hr71.sl.mono (qQ1 hj))⟩,by first|omega|(dsimp only;omega)⟩ ⟨rfl,rfl,rfl,rfl,rfl,rfl,rfl,rfl,trivial⟩ (λ_ h=>h)
  refine J.b8<|J.a6<|J.a6<|J.b9 ?_
  refine J.u (J.M hK15 ?_)
  refine J.a0 2 8 15 16 17 ?_
  refine J.k λK25 hK25=>?_
  have hfi:=hch.fine hf hln i
  refine J.H<|J.j 3 V<|J.q (qAB V V ent75 (Ct.use0 (λF' hF=>qFP F' (hK.mo hF) g52 (kvC l (cl.take i)) (ht.at.mono (hF mt (by simp))) (by assumption) (kF b d) (by first|omega|decide) ((d:Nat):Int) (by first|assumption|exact qHJ (by assumption)|exact qKT (by assumption) (by assumption))))) rfl λg96 _=>?_
  rw [hmd]
  refine J.a2 3 qGS z9_ V V V V V<|J.b1 (qAV (i:=3) (l:= [I ((b:Nat):Int),I ((d:Nat):Int),Str (Sm.ndB l (kF b d) d),Str ([]),.slice As L.length cs]) (vs:= [Str (Sm.ndB (kvC l (cl.take i)) (kF b d) d)]) V V V V V z9_ V (by simp)) rfl rfl λ_ _=>?_
  change J _ _ _ [M,F,blk g8 [I 0,I 0,Str [],Str [],.slice none 0 0] 79,blk g17 [I ((b:Nat):Int),I ((d:Nat):Int),Str (Sm.ndB l (kF b d) d),Str (Sm.ndB (kvC l (cl.take i)) (kF b d) d),.slice As L.length cs] 79,mt,ms] _
  refine J.c hK25<|J.G 8 16 17 ?_
  refine J.g λK26 hK26=>J.c8 3 isAgg79 qLZ V V V V V<|J.b V<|J.b1 (qAG (i:=2) (l:= [I 0,I 0,Str [],Str [],.slice none 0 0]) (vs:= [I ((b:Nat):Int),I ((d:Nat):Int),Str (Sm.ndB l (kF b d) d),Str (Sm.ndB (kvC l (cl.take i)) (kF b d) d),.slice As L.length cs]) V V V V V qLZ V V) V V λ_ _=>?_
  change J _ _ _ [_,_,blk g8 [I ((b:Nat):Int),I ((d:Nat):Int),Str (Sm.ndB l (kF b d) d),Str (Sm.ndB (kvC l (cl.take i)) (kF b d) d),.slice As L.length cs] 79,_,_,_] _
  refine J.j 2 V<|J.c hK26<|J.G 8 9 10 ?_
  exact J.D<|J.b4 hw0 (λ_ _ h=>h) (rv3 V (RV.blkA 2 V V isAgg79 qLZ) V V) (qAj (⟨As,cs,ms,g52,mt,M,L⟩:MkR) (by rw [show i=cl.length by omega,jo]) ⟨by rw [hL,show i=cl.length by omega,jo],hok,hst,by rw [show i=cl.length by omega,jo] at ht;exact ht,hbs⟩ [1,4,5,0] rfl (by decide))
theorem ent58:qAE prog 58:=qAE.of func58 rfl (by kernel_rfl)
theorem el39:qCv prog 39 [.int .u64 0,Str [],.int .i64 0,.int .i64 0,.slice none 0 0] 64:=qCv.of (by kernel_rfl) rfl
theorem el79:qCv prog 79 [.int .i64 0,.int .i64 0,Str [],Str [],.slice none 0 0] 72:=qCv.of (by kernel_rfl) rfl
theorem el80:qCv prog 80 [.slice none 0 0] 24:=qCv.of (by kernel_rfl) rfl
theorem el155:qCv prog 155 [Str [],Str []] 32:=qCv.of (by kernel_rfl) rfl
theorem qHX:pH.good:=⟨by decide,by decide,by show(qAN rv0 1).length≤_;rw [qCJ];decide⟩
theorem rvX_0(i:UInt8):rvX i 0=rv0:=rfl
theorem rvX_2(i:UInt8):rvX i 2=qBV i:=rfl
theorem rk_0: [128]++([0,0,0,0,0,0,0,0,0,0,0,0,0,0,0,0]:List UInt8).drop 1=qEl 128 0:=rfl
theorem rk_b(b i:UInt8): [b,i]++([0,0,0,0,0,0,0,0,0,0,0,0,0,0,0,0]:List UInt8).drop 2=qEl b i:=rfl
theorem qRt:Sm.putP [] (qEl 128 0) [111,108,100]=rv0:=rfl
attribute [local irreducible] rv0 qOt qBV rvX qCW qEl
theorem qIZ(F:Hp)(hK:KF F)(n:Nat)(hn:n≤200):Ct prog 18 [I ((n:Nat):Int)] [F] (λr:RvR=> .tuple #[.agg #[N64 0,Str qAc,I 1,I 0,.slice r.An (qAN rv0 1).length r.cn],.slice r.Ah n r.ch,.slice r.Aa n r.ca]) (RvP n) (λr=> [F,r.mh,r.ma,r.G]):=by
 refine Ct.walk func18 rfl ntmps18 rfl (λw0 hw0=>?_)
 change J _ [(0,_)] _ _ _
 refine J.g λK1 hK1=>J.q (qAO (l:= [.int .u64 0,Str [],I 0,I 0,.slice none 0 0]) V qTL V) V λg2 _=>?_
 change J _ _ _ [F,blk g2 [.int .u64 0,Str [],I 0,I 0,.slice none 0 0] 39] _
 refine J.j 2 V<|J.c hK1<|J.E 0 2 ?_
 refine J.g λK2 hK2=>J.q (qAB V V ent31 (Ct.use (new:=λx:Nat×Hp=> [x.2]) (λF' hF=>Ct.swap2 (qRY F')))) V ?_
 rintro⟨g21,m21⟩ h21
 try dsimp only at h21
 change J _ ((21,Ptr g21)::_) _ [_,_,m21] _
 refine J.b V<|J.c hK2<|J.G 0 2 5 ?_
 refine J.k λK3 hK3=>?_
 have hk0:=qC1 128 0
 refine J.H<|J.b V<|J.f ((qA3 (a:= [0,0,0,0,0,0,0,0,0,0,0,0,0,0,0,0]) (l:=1) (h:=([0,0,0,0,0,0,0,0,0,0,0,0,0,0,0,0]).length) u9_ V V V V ⟨by first|omega|(simp only [jA,jD,jH,jE,jL] at*;omega),by first|omega|(simp only [jA,jD,jH,jE,jL] at*;omega)⟩).as (v':=Str (([0,0,0,0,0,0,0,0,0,0,0,0,0,0,0,0]).drop 1)) (by rw [jo])) rfl<|J.f ((qBT (a:= [128]) (b:= [0,0,0,0,0,0,0,0,0,0,0,0,0,0,0,0].drop 1) rfl rfl rfl (by decide)).as (v':=Str (qEl 128 0)) (congrArg Str rk_0)) rfl<|J.q (qAB rfl rfl ent57 (Ct.use1 2 (m':=λx:Hp=>x) (new:=λ_=> []) rfl (λF' hF=>qMv F' m21 g21 ([]) h21 (qEl 128 0) ([111,108,100]) (by first|omega|rfl|assumption)))) rfl ?_
 rintro m25 h25
 change J _ ((25,I ((0:Nat):Int))::_) _ [_,_,m25] _
 refine J.c hK3<|J.G 0 2 5 ?_
 refine J.k λK4 hK4=>?_
 rw [qRt] at h25
 have hf0:=qDd
 refine J.H<|J.b V<|J.q (qAB V V ent37 (Ct.use (new:=λx:Option Addr×Nat×Hp=> [x.2.2]) (λF' hF=>qJH F' (hK.mo hF) g21 rv0 (h25.at.mono (hF m25 (by simp))) (by assumption) 1 (by omega)))) rfl ?_
 rintro⟨A28,c28,m28⟩ h28
 try dsimp only at h28
 change J _ ((28,.tuple #[.slice A28 (qAN rv0 1).length c28,I ((0:Nat):Int)])::_) _ [_,_,_,m28] _
 refine J.j 5 V<|J.c hK4<|J.O 0 2 5 6 ?_
 refine J.g λK5 hK5=>J.b V<|J.f (qAK (l:= [(1,.const ((Value.string (ByteArray.mk #[0,0,0,0,0,0,0,0,0,0,0,0,0,0,0,0])))),(2,.const ((Value.int IntKind.i64 1))),(4,.tmp 31)]) (vs:= [Str ([0,0,0,0,0,0,0,0,0,0,0,0,0,0,0,0]),I ((1:Nat):Int),.slice A28 ((qAN rv0 1).length) c28]) (places:= [(0,1),(1,1),(2,1),(3,1),(4,1)]) (r:= [.int .u64 0,Str ([0,0,0,0,0,0,0,0,0,0,0,0,0,0,0,0]),I ((1:Nat):Int),I 0,.slice A28 ((qAN rv0 1).length) c28]) V V V qEC qTL (λ_=>by kernel_rfl) V) V<|J.q (qAO (l:= [.int .u64 0,Str [],I 0,I 0,.slice none 0 0]) V qTL V) V λg8 _=>?_
 change J _ _ _ [_,_,_,_,blk g8 [.int .u64 0,Str [],I 0,I 0,.slice none 0 0] 39] _
 refine J.b1 (qAG (i:=4) (l:= [.int .u64 0,Str [],I 0,I 0,.slice none 0 0]) (vs:= [.int .u64 0,Str ([0,0,0,0,0,0,0,0,0,0,0,0,0,0,0,0]),I ((1:Nat):Int),I 0,.slice A28 ((qAN rv0 1).length) c28]) V V V V V qCj V V) V V λ_ _=>?_
 change J _ _ _ [_,_,_,_,blk g8 [.int .u64 0,Str ([0,0,0,0,0,0,0,0,0,0,0,0,0,0,0,0]),I ((1:Nat):Int),I 0,.slice A28 ((qAN rv0 1).length) c28] 39] _
 refine J.c hK5<|J.O 0 2 5 8 ?_
 refine J.g λK6 hK6=>J.b V<|J.c hK6<|J.a0 0 2 5 8 9 ?_
 refine J.g λK7 hK7=>J.b V<|J.c hK7<|J.b5 0 2 5 8 9 10 ?_
 refine J.k λK8 hK8=>J.g λK9 hK9=>J.b V<|J.c9 [2,3,0,1,4] [m25,m28,F,blk g2 [.int .u64 0,Str [],I 0,I 0,.slice none 0 0] 39,blk g8 [.int .u64 0,Str ([0,0,0,0,0,0,0,0,0,0,0,0,0,0,0,0]),I ((1:Nat):Int),I 0,.slice A28 ((qAN rv0 1).length) c28] 39] V (by decide)<|J.f5 (λhj0=>?_)
 refine J.c hK9<|J.c5 0 2 5 8 9 10 11 ?_
 refine J.a1<|J.c1 (X:=Nat×List RhD×Option Addr×Nat×Hp×List TsD×Option Addr×Nat×Hp×Hp) (λζ=> [(0,I ((n:Nat):Int)),(2,Ptr g2),(5,Ptr g21),(8,Ptr g8),(9,.slice ζ.2.2.1 ζ.2.1.length ζ.2.2.2.1),(10,.slice ζ.2.2.2.2.2.2.1 ζ.2.2.2.2.2.1.length ζ.2.2.2.2.2.2.2.1),(11,I ((ζ.1:Nat):Int))]) (λζ=> [ζ.2.2.2.2.2.2.2.2.2,F,blk g2 [.int .u64 0,Str [],I 0,I 0,.slice none 0 0] 39,blk g8 [.int .u64 0,Str ([0,0,0,0,0,0,0,0,0,0,0,0,0,0,0,0]),I ((1:Nat):Int),I 0,.slice A28 (qAN rv0 1).length c28] 39,ζ.2.2.2.2.1,ζ.2.2.2.2.2.2.2.2.1]) (λζ=>ζ.1≤n∧ζ.2.1.length=ζ.1∧Row ζ.2.2.2.2.1 39 5 ζ.2.2.1 ζ.2.1.length ζ.2.2.2.1 (qOu ζ.2.1)∧Row ζ.2.2.2.2.2.2.2.2.1 80 1 ζ.2.2.2.2.2.2.1 ζ.2.2.2.2.2.1.length ζ.2.2.2.2.2.2.2.1 (qGb ζ.2.2.2.2.2.1)∧qDm ζ.2.2.2.2.2.2.2.2.2 g21 rv0∧Sl ζ.2.2.2.2.2.2.2.2.2 1 A28 (qAN rv0 1).length c28 (qAH (qAN rv0 1))∧qGQ ζ.2.2.2.2.2.2.2.2.2 ζ.2.1 ζ.2.2.2.2.2.1) (λζ=>n-ζ.1) (0,[],none,0,(λ_=>none),[],none,0,(λ_=>none),U [m25,m28]) (⟨jF _,V,qBc.nil,qBc.nil,h25.at.mono (qG3 hj0),h28.sl.mono (qQ1 hj0),qGQ.nil _⟩) ⟨rfl,rfl,rfl,rfl,rfl,rfl,rfl,trivial⟩ (λ_ h=>h.empty.empty.pick [0,1,2,3,4,5] (by decide)) ?_
 rintro⟨i,hs,Ah,ch,mh,ts,Aa,ca,ma,G⟩ ⟨hi,hhl,hrh,hra,hT,hnod,hok⟩ I0 hI0
 dsimp only at hi hhl hrh hra hT hnod hok⊢
 have htl2:ts.length=i:=by rw [←hok.1];exact hhl
 refine J.k λK10 hK10=>J.g λK11 hK11=>J.j 2 V<|J.f (qAT V V V) V<|J.c hK11<|J.d6 0 2 5 8 9 10 11 35 ?_
 refine J.a4 V (λh35=>?_) (λh35=>?_)
 ·
  refine J.W hK10<|J.c5 0 2 5 8 9 10 11 ?_
  refine J.k λK12 hK12=>J.a1<|J.g λK13 hK13=>J.j 2 V<|J.c hK13<|J.d6 0 2 5 8 9 10 11 12 ?_
  refine J.g λK14 hK14=>J.b V<|J.c hK14<|J.e4 0 2 5 8 9 10 11 12 13 ?_
  refine J.k λK15 hK15=>J.g λK16 hK16=>J.b V<|J.c hK16<|J.f1 0 2 5 8 9 10 11 12 13 14 ?_
  refine J.a1<|J.c1 (X:=Nat×Nat×List TrD×Option Addr×Nat×Hp×Hp) (λζ=> [(0,I ((n:Nat):Int)),(2,Ptr g2),(5,Ptr g21),(8,Ptr g8),(9,.slice Ah hs.length ch),(10,.slice Aa ts.length ca),(11,I ((i:Nat):Int)),(12,Ptr ζ.2.1),(13,.slice ζ.2.2.2.1 ζ.2.2.1.length ζ.2.2.2.2.1),(14,I ((ζ.1:Nat):Int))]) (λζ=> [ζ.2.2.2.2.2.2,F,blk g2 [.int .u64 0,Str [],I 0,I 0,.slice none 0 0] 39,blk g8 [.int .u64 0,Str ([0,0,0,0,0,0,0,0,0,0,0,0,0,0,0,0]),I ((1:Nat):Int),I 0,.slice A28 (qAN rv0 1).length c28] 39,G,mh,ma,ζ.2.2.2.2.2.1]) (λζ=>ζ.1≤2∧ζ.2.2.1.length=ζ.1∧Row ζ.2.2.2.2.2.1 79 5 ζ.2.2.2.1 ζ.2.2.1.length ζ.2.2.2.2.1 (qGc ζ.2.2.1)∧(∀F',Le G F'→Le ζ.2.2.2.2.2.2 F'→qDm F' ζ.2.1 (rvX (UInt8.ofNat i) ζ.1))∧qJN ζ.2.2.2.2.2.2 (UInt8.ofNat i) ζ.2.2.1) (λζ=>2-ζ.1) (0,g21,[],none,0,(λ_=>none),(λ_=>none)) (⟨jF 2,V,qBc.nil,λF' h1 _=>by dsimp only;rw [rvX_0];exact hT.mono h1,λj h=>absurd h (jz j)⟩) ⟨rfl,rfl,rfl,rfl,rfl,rfl,rfl,rfl,rfl,rfl,trivial⟩ (λ_ h=>h.empty.empty.pick [6,1,2,3,0,4,5,7] (by decide)) ?_
  rintro⟨b,gu,tl,At,ct,mt,H⟩ ⟨hb,htl,hrt,hu,htr⟩ I2 hI2
  dsimp only at hb htl hrt hu htr⊢
  refine J.k λK17 hK17=>J.g λK18 hK18=>J.b V<|J.f (qAT V V V) V<|J.c hK18<|J.e8 0 2 5 8 9 10 11 12 13 14 40 ?_
  refine J.a4 V (λh40=>?_) (λh40=>?_)
  ·
   refine J.W hK17<|J.f1 0 2 5 8 9 10 11 12 13 14 ?_
   refine J.k λK19 hK19=>J.a1<|J.k λK20 hK20=>?_
   obtain ⟨kb,hkb⟩: ∃kb,kb=UInt8.ofNat (128*b):=⟨_,rfl⟩
   obtain ⟨ki,hki⟩: ∃ki,ki=UInt8.ofNat i:=⟨_,rfl⟩
   refine J.b7 [F] [] (.y 0 (.y 1 (.y 2 (.y 3 (.y 4 (.y 7 (.e 5 (.y 6 (.y 8 (.y 9 .nil)))))))))) Tryz.wide (by decide+kernel) (by simp) ?_
   refine J.L ?_
   refine J.p V ((qB6 V V V (by omega)).nat (128*b) (by omega)) V V<|J.p V ((qAr (m:=128*b) V V u3_ u5_).as (v':=B8 kb) (by rw [hkb])) rfl rfl<|J.L ?_
   refine J.p V ((qAr (m:=i) V V u3_ u5_).as (v':=B8 ki) (by rw [hki])) rfl rfl<|J.p rfl ((qA3 (a:= [0,0,0,0,0,0,0,0,0,0,0,0,0,0,0,0]) (l:=2) (h:=([0,0,0,0,0,0,0,0,0,0,0,0,0,0,0,0]).length) u9_ rfl rfl rfl rfl ⟨by first|omega|(simp only [jA,jD,jH,jE,jL] at*;omega),by first|omega|(simp only [jA,jD,jH,jE,jL] at*;omega)⟩).as (v':=Str (([0,0,0,0,0,0,0,0,0,0,0,0,0,0,0,0]).drop 2)) (by rw [jo])) rfl rfl<|J.i5 (λg=>_++ [blk g [B8 kb,B8 ki] 5]) rfl (qAJ (l:= [.tmp 45,.tmp 47]) (xs:= [[B8 (kb)],[B8 (ki)]]) rfl rfl rfl rfl qBm el5 rfl (by decide) (by decide) (by simp)) rfl rfl rfl (λ_ _ h=>jf _ h) (by simp) ?_
   intro g48 _
   change J _ _ _ [H,F,blk g2 [.int .u64 0,Str [],I 0,I 0,.slice none 0 0] 39,blk g8 [.int .u64 0,Str ([0,0,0,0,0,0,0,0,0,0,0,0,0,0,0,0]),I ((1:Nat):Int),I 0,.slice A28 (qAN rv0 1).length c28] 39,G,mh,ma,mt,blk g48 [B8 (kb),B8 (ki)] 5] _
   refine J.p V (qCU (l:= [kb,ki]) V V qBm u5_ u9_ (m:=blk g48 [B8 (kb),B8 (ki)] 5) (by simp) ((qCK (q:=True) (qAR [kb,ki]) rfl (by simp [qAR]) rfl).sl)) rfl rfl<|J.p rfl ((qBT (a:= [kb,ki]) (b:= [0,0,0,0,0,0,0,0,0,0,0,0,0,0,0,0].drop 2) rfl rfl rfl (by simp)).as (v':=Str (qEl kb ki)) (congrArg Str (rk_b _ _))) rfl rfl<|J.c3 ?_
   refine J.c9 [0,1,2,3,4,5,6,7] [H,F,blk g2 [.int .u64 0,Str [],I 0,I 0,.slice none 0 0] 39,blk g8 [.int .u64 0,Str ([0,0,0,0,0,0,0,0,0,0,0,0,0,0,0,0]),I ((1:Nat):Int),I 0,.slice A28 (qAN rv0 1).length c28] 39,G,mh,ma,mt] V (by decide)<|J.b3<|J.u (J.M hK20 ?_)
   refine J.e8 0 2 5 8 9 10 11 12 13 14 15 ?_
   refine J.k λK21 hK21=>?_
   subst hkb
   subst hki
   refine J.H<|J.j 3 V<|J.f (qAK (l:= [(0,.tmp 55),(1,.const ((Value.string (ByteArray.mk #[110,101,119]))))]) (vs:= [Str (qEl (UInt8.ofNat (128*b)) (UInt8.ofNat i)),Str ([110,101,119])]) (places:= [(0,1),(1,1)]) (r:= [Str (qEl (UInt8.ofNat (128*b)) (UInt8.ofNat i)),Str ([110,101,119])]) V V V qGZ zeroValue155 (λ_=>by kernel_rfl) V) V<|J.q (qAJ (l:= [.tmp 56]) (xs:= [[Str (qEl (UInt8.ofNat (128*b)) (UInt8.ofNat i)),Str ([110,101,119])]]) V V V V qMo el155 V (by decide) (by decide) (by simp)) rfl λg57 _=>?_
   change J _ _ _ [H,F,blk g2 [.int .u64 0,Str [],I 0,I 0,.slice none 0 0] 39,blk g8 [.int .u64 0,Str ([0,0,0,0,0,0,0,0,0,0,0,0,0,0,0,0]),I ((1:Nat):Int),I 0,.slice A28 (qAN rv0 1).length c28] 39,G,mh,ma,mt,blk g57 [Str (qEl (UInt8.ofNat (128*b)) (UInt8.ofNat i)),Str ([110,101,119])] 155] _
   refine J.q (qAB V V ent58 (Ct.use (new:=λr:MkR=> [r.mt,r.ms,r.M]) (λF' hF=>qO6 F' (hK.mo hF) gu (rvX (UInt8.ofNat i) b) (hu F' (hF G (by simp)) (hF H (by simp))) (qKd _ _) (qNI _ _) b 1 (by decide) (by omega) _ 1 1 [rvC (UInt8.ofNat i) b] ((qAs (q:=True) (xs:=qOV [rvC (UInt8.ofNat i) b]) rfl (by intro x hx;rw [List.mem_singleton.1 hx];rfl)).sl.mono (hF (blk g57 [Str (qEl (UInt8.ofNat (128*b)) (UInt8.ofNat i)),Str ([110,101,119])] 155) (by simp))) (qQk _ (by omega))))) rfl ?_
   rintro r58 hp58
   change J _ ((58,.tuple #[.agg #[I ((b:Nat):Int),I ((1:Nat):Int),Str (Sm.ndB (rvX (UInt8.ofNat i) b) (kF b 1) 1),Str (Sm.ndB (kvC (rvX (UInt8.ofNat i) b) [rvC (UInt8.ofNat i) b]) (kF b 1) 1),.slice r58.A r58.L.length r58.c],Ptr r58.g,I 0])::_) _ [_,_,_,_,_,_,_,_,_,r58.mt,r58.ms,r58.M] _
   have ht58:=hp58.tree
   rw [qRr (UInt8.ofNat i) (show b<2 by omega)] at ht58
   rw [qRr (UInt8.ofNat i) (show b<2 by omega),qTc (UInt8.ofNat i) (show b<2 by omega),qTe (UInt8.ofNat i) (show b<2 by omega)]
   refine J.j 4 V<|J.q (qAO (l:= [I 0,I 0,Str [],Str [],.slice none 0 0]) V zeroValue79 V) V λg16 _=>?_
   change J _ _ _ [_,_,_,_,_,_,_,_,_,_,_,_,blk g16 [I 0,I 0,Str [],Str [],.slice none 0 0] 79] _
   refine J.b1 (qAG (i:=12) (l:= [I 0,I 0,Str [],Str [],.slice none 0 0]) (vs:= [I ((b:Nat):Int),I ((1:Nat):Int),Str (rvO (UInt8.ofNat i) b),Str (rvN (UInt8.ofNat i) b),.slice r58.A r58.L.length r58.c]) V V V V V qLZ V V) V V λ_ _=>?_
   change J _ _ _ [_,_,_,_,_,_,_,_,_,_,_,_,blk g16 [I ((b:Nat):Int),I ((1:Nat):Int),Str (rvO (UInt8.ofNat i) b),Str (rvN (UInt8.ofNat i) b),.slice r58.A r58.L.length r58.c] 79] _
   refine J.j 2 V<|J.c hK21<|J.f0 0 2 5 8 9 10 11 13 14 16 17 18 ?_
   refine J.k λK22 hK22=>J.g λK23 hK23=>J.b V<|J.f ((qAU V V V).no (by decide)) V<|J.c hK23<|J.f0 0 2 5 8 9 10 11 13 14 16 17 63 ?_
   refine J.a5 ?_
   refine J.W hK22<|J.e8 0 2 5 8 9 10 11 13 14 16 17 ?_
   obtain ⟨x,hx⟩: ∃x:TrD,x=⟨b,1,rvO (UInt8.ofNat i) b,rvN (UInt8.ofNat i) b,r58.A,r58.c,r58.L⟩:=⟨_,rfl⟩
   refine J.H<|J.b V<|J.c8 12 isAgg79 qLZ V V V V V<|J.q (qAJ (l:= [.tmp 66]) (xs:= [[I ((b:Nat):Int),I ((1:Nat):Int),Str (rvO (UInt8.ofNat i) b),Str (rvN (UInt8.ofNat i) b),.slice r58.A r58.L.length r58.c]]) V V V V qTQ el79 V (by decide) (by decide) (by simp)) rfl λg67 _=>?_
   change J _ _ _ [_,_,_,_,_,_,_,_,_,_,_,_,_,blk g67 [I ((b:Nat):Int),I ((1:Nat):Int),Str (rvO (UInt8.ofNat i) b),Str (rvN (UInt8.ofNat i) b),.slice r58.A r58.L.length r58.c] 79] _
   refine J.q (qAa (i:=7) (xs:=qGc tl) (m2:=blk g67 [I ((b:Nat):Int),I ((1:Nat):Int),Str (rvO (UInt8.ofNat i) b),Str (rvN (UInt8.ofNat i) b),.slice r58.A r58.L.length r58.c] 79) (ys:= [[I ((b:Nat):Int),I ((1:Nat):Int),Str (rvO (UInt8.ofNat i) b),Str (rvN (UInt8.ofNat i) b),.slice r58.A r58.L.length r58.c]]) V V V qTQ qTQ el79 V hrt (by simp) ((qAs (q:=True) (xs:=qGc [(⟨b,1,rvO (UInt8.ofNat i) b,rvN (UInt8.ofNat i) b,r58.A,r58.c,r58.L⟩:TrD)]) rfl (by intro x hx;rw [List.mem_singleton.1 hx];rfl)).sl) rfl (by omega) (by omega)) rfl ?_
   rintro⟨A68,c68,m68⟩ h68
   try dsimp only at h68
   change J _ ((68,.slice A68 (tl.length+1) c68)::_) _ [_,_,_,_,_,_,_,m68,_,_,_,_,_,_] _
   replace h68:Row m68 79 5 A68 (tl.length+1) c68 (qGc (tl++ [x])):=by rw [qLj,hx];exact h68
   rw [show tl.length+1=(tl++ [x]).length by rw [jA];rfl] at h68⊢
   refine J.j 3 V<|J.c9 [0,9,10,11,1,2,3,4,5,6,7] [H,r58.mt,r58.ms,r58.M,F,blk g2 [.int .u64 0,Str [],I 0,I 0,.slice none 0 0] 39,blk g8 [.int .u64 0,Str ([0,0,0,0,0,0,0,0,0,0,0,0,0,0,0,0]),I ((1:Nat):Int),I 0,.slice A28 (qAN rv0 1).length c28] 39,G,mh,ma,m68] V (by decide)<|J.f5 (λhj1=>?_)
   refine J.f5 (λhj2=>?_)
   refine J.f5 (λhj3=>?_)
   refine J.a8<|J.b0<|J.u (J.M hK19 ?_)
   refine J.f1 0 2 5 8 9 10 11 12 13 14 ?_
   exact J.H<|J.b V<|J.f ((qAQ V V V (by omega)).nat (b+1) (by omega)) V<|J.b V<|J.a8<|J.u<|J.a9 (b+1,r58.g,tl++ [x],A68,c68,m68,U [U [U [H,r58.mt],r58.ms],r58.M]) (λη (hη:_∧2-η.1<2-b)=>hI2 η hη.1 hη.2) ⟨⟨by dsimp only;omega,by dsimp only;rw [jA,htl];rfl,h68,λF' _ h2=>ht58.at.mono ((qQ1 hj1).trans ((qG3 hj2).trans ((qG3 hj3).trans h2))),(htr.mono ((qG3 hj1).trans ((qG3 hj2).trans (qG3 hj3)))).snoc (by rw [htl,hx];exact⟨rfl,rfl,rfl,rfl,hp58.chg,hp58.ok,hp58.row.sl.mono ((qQ1 hj2).trans (qG3 hj3)),hp58.bs.mono (qQ1 hj3)⟩)⟩,by first|omega|(dsimp only;omega)⟩ ⟨rfl,rfl,rfl,rfl,rfl,rfl,rfl,rfl,rfl,rfl,trivial⟩ (λ_ h=>h)
  refine J.b8<|J.a6<|J.a6<|J.b9 ?_
  refine J.u (J.M hK15 ?_)
  refine J.e4 0 2 5 8 9 10 11 12 13 ?_
  refine J.k λK24 hK24=>?_
  obtain rfl:b=2:=by omega
  have hu2: ∀F',Le G F'→Le H F'→qDm F' gu (qBV (UInt8.ofNat i)):=λF1 h1 h2=>by have:=hu F1 h1 h2;rw [rvX_2] at this;exact this
  refine J.H<|J.b V<|J.q (qAB V V ent37 (Ct.use (new:=λx:Option Addr×Nat×Hp=> [x.2.2]) (λF' hF=>qJH F' (hK.mo hF) gu (qBV (UInt8.ofNat i)) (hu2 F' (hF G (by simp)) (hF H (by simp))) (qDc _) 1 (by decide)))) rfl ?_
  rintro⟨A72,c72,m72⟩ h72
  try dsimp only at h72
  change J _ ((72,.tuple #[.slice A72 (qAN (qBV (UInt8.ofNat i)) 1).length c72,I ((0:Nat):Int)])::_) _ [H,F,blk g2 [.int .u64 0,Str [],I 0,I 0,.slice none 0 0] 39,blk g8 [.int .u64 0,Str ([0,0,0,0,0,0,0,0,0,0,0,0,0,0,0,0]),I ((1:Nat):Int),I 0,.slice A28 (qAN rv0 1).length c28] 39,G,mh,ma,mt,m72] _
  refine J.j 5 V<|J.c hK24<|J.e4 0 2 5 8 9 10 11 13 19 ?_
  obtain ⟨hx,hhx⟩: ∃x:RhD,x=⟨1,pH.dig,1,0,A72,c72,qAN (qBV (UInt8.ofNat i)) 1⟩:=⟨_,rfl⟩
  obtain ⟨tx,htx⟩: ∃x:TsD,x=⟨At,ct,tl⟩:=⟨_,rfl⟩
  refine J.H<|J.b V<|J.c8 3 qE0 qCj V V V V V<|J.q (qAB V V ent11 (Ct.use0 (λF' hF=>qA2 F' (hK.mo hF) pH A28 c28 qHX (hnod.mono (hF G (by simp)))))) rfl λg77 _=>J.b rfl<|J.f (qAK (l:= [(0,.const ((Value.int IntKind.u64 1))),(1,.tmp 77),(2,.const ((Value.int IntKind.i64 1))),(4,.tmp 78)]) (vs:= [N64 (1),Str (pH.dig),I ((1:Nat):Int),.slice A72 ((qAN (qBV (UInt8.ofNat i)) 1).length) c72]) (places:= [(0,1),(1,1),(2,1),(3,1),(4,1)]) (r:= [N64 (1),Str (pH.dig),I ((1:Nat):Int),I 0,.slice A72 ((qAN (qBV (UInt8.ofNat i)) 1).length) c72]) rfl rfl rfl qEC qTL (λ_=>by kernel_rfl) rfl) rfl<|J.q (qAJ (l:= [.tmp 79]) (xs:= [[N64 (1),Str (pH.dig),I ((1:Nat):Int),I 0,.slice A72 ((qAN (qBV (UInt8.ofNat i)) 1).length) c72]]) rfl rfl rfl rfl qKV el39 rfl (by decide) (by decide) (by simp)) rfl λg80 _=>?_
  change J _ _ _ [_,_,_,_,_,_,_,_,_,blk g80 [N64 (1),Str (pH.dig),I ((1:Nat):Int),I 0,.slice A72 ((qAN (qBV (UInt8.ofNat i)) 1).length) c72] 39] _
  refine J.q (qAa (i:=5) (xs:=qOu hs) (m2:=blk g80 [N64 (1),Str (pH.dig),I ((1:Nat):Int),I 0,.slice A72 ((qAN (qBV (UInt8.ofNat i)) 1).length) c72] 39) (ys:= [[N64 (1),Str (pH.dig),I ((1:Nat):Int),I 0,.slice A72 ((qAN (qBV (UInt8.ofNat i)) 1).length) c72]]) V V V qKV qKV el39 V hrh (by simp) ((qAs (q:=True) (xs:=qOu [(⟨1,pH.dig,1,0,A72,c72,(qAN (qBV (UInt8.ofNat i)) 1)⟩:RhD)]) rfl (by intro x hx;rw [List.mem_singleton.1 hx];rfl)).sl) rfl (by omega) (by omega)) rfl ?_
  rintro⟨A81,c81,m81⟩ h81
  try dsimp only at h81
  change J _ ((81,.slice A81 (hs.length+1) c81)::_) _ [_,_,_,_,_,m81,_,_,_,_] _
  replace h81:Row m81 39 5 A81 (hs.length+1) c81 (qOu (hs++ [hx])):=by rw [qNL,hhx];exact h81
  rw [show hs.length+1=(hs++ [hx]).length by rw [jA];rfl] at h81⊢
  refine J.j 2 V<|J.q (qAJ (l:= [.tmp 83]) (xs:= [[.slice At tl.length ct]]) V V V V qTR el80 V (by decide) (by decide) (by simp)) rfl λg84 _=>?_
  change J _ _ _ [_,_,_,_,_,_,_,_,_,_,blk g84 [.slice At tl.length ct] 80] _
  refine J.q (qAa (i:=6) (xs:=qGb ts) (m2:=blk g84 [.slice At tl.length ct] 80) (ys:= [[.slice At tl.length ct]]) V V V qTR qTR el80 V hra (by simp) ((qAs (q:=True) (xs:=qGb [(⟨At,ct,tl⟩:TsD)]) rfl (by intro x hx;rw [List.mem_singleton.1 hx];rfl)).sl) rfl (by omega) (by omega)) rfl ?_
  rintro⟨A85,c85,m85⟩ h85
  try dsimp only at h85
  change J _ ((85,.slice A85 (ts.length+1) c85)::_) _ [_,_,_,_,_,_,m85,_,_,_,_] _
  replace h85:Row m85 80 1 A85 (ts.length+1) c85 (qGb (ts++ [tx])):=by rw [qLi,htx];exact h85
  rw [show ts.length+1=(ts++ [tx]).length by rw [jA];rfl] at h85⊢
  refine J.j 2 V<|J.c9 [4,0,7,8,1,2,3,5,6] [G,H,mt,m72,F,blk g2 [.int .u64 0,Str [],I 0,I 0,.slice none 0 0] 39,blk g8 [.int .u64 0,Str ([0,0,0,0,0,0,0,0,0,0,0,0,0,0,0,0]),I ((1:Nat):Int),I 0,.slice A28 (qAN rv0 1).length c28] 39,m81,m85] V (by decide)<|J.f5 (λhj4=>?_)
  refine J.f5 (λhj5=>?_)
  refine J.f5 (λhj6=>?_)
  refine J.a8<|J.b0<|J.u (J.M hK12 ?_)
  refine J.c5 0 2 5 8 9 10 11 ?_
  exact J.H<|J.b V<|J.f ((qAQ V V V (by omega)).nat (i+1) (by omega)) V<|J.b V<|J.a8<|J.u<|J.a9 (i+1,hs++ [hx],A81,c81,m81,ts++ [tx],A85,c85,m85,U [U [U [G,H],mt],m72]) (λη (hη:_∧n-η.1<n-i)=>hI0 η hη.1 hη.2) ⟨⟨by dsimp only;omega,by dsimp only;rw [jA,hhl];rfl,h81,h85,hT.mono ((qG3 hj4).trans ((qG3 hj5).trans (qG3 hj6))),hnod.mono ((qG3 hj4).trans ((qG3 hj5).trans (qG3 hj6))),(hok.mono ((qG3 hj4).trans ((qG3 hj5).trans (qG3 hj6)))).snoc (by rw [hhl,hhx,htx];exact⟨rfl,rfl,rfl,rfl,rfl,h72.sl.mono (qQ1 hj6),htl,(htr.mono (qQ1 hj4)).mono ((qG3 hj5).trans (qG3 hj6)),hrt.sl.mono ((qQ1 hj5).trans (qG3 hj6))⟩)⟩,by first|omega|(dsimp only;omega)⟩ ⟨rfl,rfl,rfl,rfl,rfl,rfl,rfl,trivial⟩ (λ_ h=>h)
 refine J.b8<|J.a6<|J.a6<|J.b9 ?_
 refine J.u (J.M hK8 ?_)
 refine J.O 2 8 9 10 ?_
 refine J.g λK25 hK25=>J.c8 3 qE0 qCj V V V V V<|J.j 2 V<|J.b1 (qAG (i:=2) (l:= [.int .u64 0,Str [],I 0,I 0,.slice none 0 0]) (vs:= [.int .u64 0,Str ([0,0,0,0,0,0,0,0,0,0,0,0,0,0,0,0]),I ((1:Nat):Int),I 0,.slice A28 (qAN rv0 1).length c28]) V V V V V qCj V V) V V λ_ _=>?_
 change J _ _ _ [G,F,blk g2 [.int .u64 0,Str ([0,0,0,0,0,0,0,0,0,0,0,0,0,0,0,0]),I ((1:Nat):Int),I 0,.slice A28 (qAN rv0 1).length c28] 39,blk g8 [.int .u64 0,Str ([0,0,0,0,0,0,0,0,0,0,0,0,0,0,0,0]),I ((1:Nat):Int),I 0,.slice A28 (qAN rv0 1).length c28] 39,mh,ma] _
 refine J.j 2 V<|J.c hK25<|J.G 2 3 4 ?_
 exact J.D<|J.b4 hw0 (λ_ _ h=>h) (rv3 V (RV.blkA 2 V V qE0 qCj) V V) (qAj (⟨hs,ts,A28,c28,Ah,ch,mh,Aa,ca,ma,G⟩:RvR) (by rw [show n=hs.length by omega,hok.1,show ts.length=hs.length from hok.1.symm];rfl) ⟨by dsimp only;omega,hnod,by rw [show n=hs.length by omega];exact hrh,by rw [show n=ts.length by omega];exact hra,hok⟩ [1,4,5,0] rfl (by decide))
end Go.Proofs.YtfldiegfenndjaaGreatDoor
