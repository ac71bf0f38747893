/- A part of the proof. -/
import Derived.Test.YtfldiegfenndjaaGreatDoorTopAoG8
import Derived.Test.YtfldiegfenndjaaGreatDoorTopAoG19
import Derived.Test.YtfldiegfenndjaaGreatDoorTopAoG17
set_option linter.unusedSimpArgs false
set_option linter.unusedVariables false
namespace Go.Proofs.YtfldiegfenndjaaGreatDoor
open Go Go.Fw Go.Proofs.Tryz
set_option maxRecDepth 100000
set_option maxHeartbeats 1000000
theorem ent196:qAE prog 196:=qAE.of func196 rfl (by kernel_rfl)
theorem ent224:qAE prog 224:=qAE.of func224 rfl (by kernel_rfl)
theorem ent243:qAE prog 243:=qAE.of func243 rfl (by kernel_rfl)
theorem ent252:qAE prog 252:=qAE.of func252 rfl (by kernel_rfl)
def qSl:List UInt8:= [0,1,2,2,3,3,3,3,4,4,4,4,4,4,4,4,5,5,5,5,5,5,5,5,5,5,5,5,5,5,5,5,6,6,6,6,6,6,6,6,6,6,6,6,6,6,6,6,6,6,6,6,6,6,6,6,6,6,6,6,6,6,6,6,7,7,7,7,7,7,7,7,7,7,7,7,7,7,7,7,7,7,7,7,7,7,7,7,7,7,7,7,7,7,7,7,7,7,7,7,7,7,7,7,7,7,7,7,7,7,7,7,7,7,7,7,7,7,7,7,7,7,7,7,7,7,7,7,8,8,8,8,8,8,8,8,8,8,8,8,8,8,8,8,8,8,8,8,8,8,8,8,8,8,8,8,8,8,8,8,8,8,8,8,8,8,8,8,8,8,8,8,8,8,8,8,8,8,8,8,8,8,8,8,8,8,8,8,8,8,8,8,8,8,8,8,8,8,8,8,8,8,8,8,8,8,8,8,8,8,8,8,8,8,8,8,8,8,8,8,8,8,8,8,8,8,8,8,8,8,8,8,8,8,8,8,8,8,8,8,8,8,8,8,8,8,8,8,8,8,8,8,8,8,8,8]
theorem qPt: ∀x:Fin 256,qSl[x.val]?=some (UInt8.ofNat (qIA x.val)):=by decide+kernel
theorem qSk(x:UInt8):qSl[x.toNat]?=some (UInt8.ofNat (qIA x.toNat)):=qPt ⟨x.toNat,x.toNat_lt⟩
theorem qNy: ∀x:Fin 256,qIA x.val≤8:=by decide+kernel
theorem qT4(x:UInt8):(UInt8.ofNat (qIA x.toNat)).toNat=qIA x.toNat:=by
 have:=qNy ⟨x.toNat,x.toNat_lt⟩
 dsimp only at this
 rw [zR];omega
theorem qT5(x:UInt8):qIA x.toNat≤8:=qNy ⟨x.toNat,x.toNat_lt⟩
theorem qTa{k q:List UInt8}(hk:k.length=16)(hq:q.length=16)(h: ∀j,j<16→k.getD j 0=q.getD j 0):q=k:=by
 refine List.ext_getElem (by omega) λj h1 h2=>?_
 have:=h j (by omega)
 rw [jB,jB,jC h1,jC h2] at this
 exact this.symm
def qJK(bs:List (List UInt8))(th:Bool)(pk pv k v:List UInt8)(d:Nat):List UInt8:=if th=true∧pk≠k then Sm.ndB [(k,v),(pk,pv)] k (d+bs.length) else Sb.leafN k v
def qFD(bs:List (List UInt8))(th:Bool)(pk pv k v:List UInt8)(d:Nat):List UInt8:=clm k d bs (qJK bs th pk pv k v d) bs.length
theorem qJo{kv:List Sm.PR}(hf:qC9 kv){k v:List UInt8}(hk:k.length=16)(hv:v.length≤1000000)(hl:kv.length≤100000){d s:Nat}(h:qMb kv k d s):
    qFD (bsd kv k d (s-d)) (qBN kv k s) (qEN kv k s) (qEf kv k s) k v d=Sm.ndB (Sm.putP kv k v) k d:=by
  have h1:=h.le
  have h2:=h.ge
  have hone:=h.one
  have hf':=hf.put hk hv hl
  have h3:=qH1 hf' hk (d:=d) (n:=s-d) (by omega) (s-d) (jJ _)
  rw [show d+(s-d)=s by omega,show s-(s-d)=d by omega,qS4 hf hk hv hl (by omega)] at h3
  unfold qFD
  rw [qCO,←h3]
  congr 1
  unfold qJK
  rw [qCO,show d+(s-d)=s by omega]
  split
  · rename_i hc
    have hc1:(kd kv k s).length=1:=of_decide_eq_true hc.1
    exact(qPT hf hk hv hl h1 (qHy hf.once hc1) hc.2).symm
  · rename_i hc
    refine(qR6 hf hk hv hl h1 λp hp=>?_).symm
    have hc1:(kd kv k s).length=1:=by
      rw [qG6 hf.once]
      have:=List.length_pos_of_mem hp
      omega
    have ht:qBN kv k s=true:=decide_eq_true hc1
    rw [qHy hf.once hc1,jU] at hp
    rw [hp]
    exact Decidable.by_contra λq=>hc ⟨ht,q⟩
theorem qCk{x y:UInt8}(h:(x^^^y).toNat=0):x=y:=by
 have:x^^^y=0:=UInt8.toNat_inj.1 h
 exact UInt8.xor_eq_zero_iff.1 this
theorem qSj(F:Hp)(x:UInt8):Ct prog 252 [B8 (x)] [F] (λ_:Unit=>I ((qIA x.toNat:Nat):Int)) (λ_=>True) (λ_=> [F]):=by
 refine Ct.walk func252 rfl ntmps252 rfl (λw0 hw0=>?_)
 change J _ [(0,_)] _ _ _
 refine J.g λK1 hK1=>J.b V<|J.c hK1<|J.A 0 ?_
 refine J.g λK2 hK2=>J.b V<|J.f (qBK (a:=qSl) u9_ V V V (qSk x)) V<|J.f (qBO V V u5_ u3_) V<|J.b V<|J.c hK2<|J.A 2 ?_
 exact J.D<|J.Z hw0 V () (by rw [qT4]) trivial [0] rfl (by decide)
theorem qPu(F:Hp)(x:UInt8):Ct prog 243 [B8 (x)] [F] (λ_:Unit=>I ((8-qIA x.toNat:Nat):Int)) (λ_=>True) (λ_=> [F]):=by
 have h8:=qT5 x
 refine Ct.walk func243 rfl ntmps243 rfl (λw0 hw0=>?_)
 change J _ [(0,_)] _ _ _
 refine J.g λK1 hK1=>J.b V<|J.c hK1<|J.A 0 ?_
 refine J.g λK2 hK2=>J.b V<|J.q (qAB V V ent252 (Ct.use0 (λF' hF=>qSj F' x))) V λg4 _=>J.f (qAn V V V (by omega)) V<|J.b V<|J.c hK2<|J.A 2 ?_
 exact J.D<|J.Z hw0 V () (congrArg I (by omega)) trivial [0] V (by decide)
theorem qOT(F:Hp)(k q:List UInt8)(hk:k.length=16)(hq:q.length=16)(hne:q≠k):Ct prog 224 [Str k,Str q] [F] (λx:Nat=>I ((x:Nat):Int)) (λx=>Two k q x) (λ_=> [F]):=by
 refine Ct.walk func224 rfl ntmps224 rfl (λw0 hw0=>?_)
 change J _ [(0,_),(1,_)] _ _ _
 refine J.g λK1 hK1=>J.b V<|J.c hK1<|J.E 0 1 ?_
 refine J.g λK2 hK2=>J.b V<|J.f (qAg u9_ V V) V<|J.b V<|J.f (qAg u9_ V V) V<|J.f ((qDq V V V).nat (min k.length q.length) (by omega)) V<|J.b V<|J.c hK2<|J.G 0 1 5 ?_
 refine J.k λK3 hK3=>J.g λK4 hK4=>J.j 2 V<|J.c hK4<|J.a0 0 1 5 13 14 ?_
 refine J.a1<|J.c1 (X:=Nat) (λζ=> [(0,Str (k)),(1,Str (q)),(5,I ((min k.length q.length:Nat):Int)),(13,I ((min k.length q.length:Nat):Int)),(14,I ((ζ:Nat):Int))]) (λζ=> [F]) (λζ=>ζ≤16∧ ∀j,j<ζ→k.getD j 0=q.getD j 0) (λζ=>16-ζ) 0 (⟨jF _,λj h=>absurd h (jz j)⟩) ⟨V,V,V,V,V,trivial⟩ (λ_ h=>h) ?_
 rintro i ⟨hi,hs⟩ I0 hI0
 refine J.g λK5 hK5=>J.f (qAT V V V) V<|J.c hK5<|J.b5 0 1 5 13 14 15 ?_
 refine J.k λK6 hK6=>J.a4 V (λh15=>?_) (λh15=>?_)
 ·
  refine J.W hK6<|J.a0 0 1 5 13 14 ?_
  refine J.k λK7 hK7=>J.a1<|J.g λK8 hK8=>J.j 2 V<|J.c hK8<|J.b5 0 1 5 6 13 14 ?_
  refine J.k λK9 hK9=>J.b7 [F] [] (.y 0 (.y 1 (.y 2 (.y 3 (.y 4 (.y 5 (.y 6 (.y 7 .nil)))))))) Tryz.wide (by decide+kernel) (by simp) ?_
  refine J.L ?_
  refine J.L ?_
  refine J.p V (qBK (c:=k.getD i 0) u9_ V V V (qAd 0 (by omega))) V V<|J.L ?_
  refine J.L ?_
  refine J.p V (qBK (c:=q.getD i 0) u9_ V V V (qAd 0 (by omega))) V V<|J.p V (qNe V V V) V V<|J.c3 ?_
  refine J.b3<|J.u (J.M hK9 ?_)
  refine J.c5 0 1 5 6 7 13 14 ?_
  refine J.g λK10 hK10=>J.b V<|J.f (qAU V V V) V<|J.c hK10<|J.d6 0 1 5 6 7 13 14 25 ?_
  refine J.a4 V (λh25=>?_) (λh25=>?_)
  ·
   refine J.g λK11 hK11=>J.b V<|J.f ((qB6 V V V (by omega)).nat (8*i) (by omega)) V<|J.b V<|J.q (qAB V V ent243 (Ct.use0 (λF' hF=>qPu F' ((k.getD i 0)^^^(q.getD i 0))))) V λg29 _=>J.f ((qAQ V V V (by omega)).as (v':=I ((8*i+(8-qIA ((k.getD i 0)^^^(q.getD i 0)).toNat):Nat):Int)) (congrArg I (by omega))) V<|J.b V<|J.c hK11<|J.A 4 ?_
   exact J.D<|J.b6<|J.a7<|J.a7<|J.b6<|J.a7<|J.Z hw0 V (8*i+(8-qIA (k.getD i 0^^^q.getD i 0).toNat)) V (qTT hk hq (by omega) hs (by omega)) [0] V (by decide)
  refine J.c0<|J.b0<|J.u (J.M hK7 ?_)
  refine J.a0 0 1 5 13 14 ?_
  exact J.H<|J.f ((qAQ V V V (by omega)).nat (i+1) (by omega)) V<|J.b V<|J.a8<|J.u<|J.a9 (i+1) (λη (hη:_∧16-η<16-i)=>hI0 η hη.1 hη.2) ⟨⟨by omega,λj hj=>by rcases Nat.lt_succ_iff_lt_or_eq.1 hj with h|rfl;exact hs j h;exact qCk (by omega)⟩,by first|omega|(dsimp only;omega)⟩ ⟨rfl,rfl,rfl,rfl,rfl,trivial⟩ (λ_ h=>h)
 refine J.b8<|J.a6<|J.a6<|J.b9 ?_
 refine J.u (J.M hK3 ?_)
 refine J.A 5 ?_
 refine J.k λK12 hK12=>?_
 have hfalse:False:=hne (qTa hk hq λj hj=>hs j (by omega))
 refine J.H<|J.b V<|J.f ((qB6 V V V (by omega)).nat (8*(min k.length q.length)) (by omega)) V<|J.b V<|J.c hK12<|J.A 4 ?_
 exact J.D<|J.b4 hw0 (λ_ _ h=>h) (qJW V V) hfalse.elim
theorem qPX(F:Hp)(hK:KF F)(k q:List UInt8)(hk:k.length=16)(hq:q.length=16)(hne:q≠k)(v w:List UInt8)(hv:v.length≤1000000)(hw:w.length≤1000000)(d:Nat)(hb:Sm.belowB q k d=true):Ct prog 196 [Str k,Str q,Str (Sb.leafN k v),Str (Sb.leafN q w),I ((d:Nat):Int)] [F] (λ_:Unit=>Str (Sm.ndB [(k,v),(q,w)] k d)) (λ_=>True) (λ_=> [F]):=by
 have hl1:=qCY k v
 have hl2:=qCY q w
 refine Ct.walk func196 rfl ntmps196 rfl (λw0 hw0=>?_)
 change J _ [(0,_),(1,_),(2,_),(3,_),(4,_)] _ _ _
 refine J.g λK1 hK1=>J.b V<|J.c hK1<|J.a0 0 1 2 3 4 ?_
 refine J.g λK2 hK2=>J.j 2 V<|J.q (qAB V V ent224 (Ct.use (new:=λ_:Nat=> []) (λF' _=>qOT F' k q hk hq hne))) V ?_
 rintro a15 h15
 change J _ ((15,I ((a15:Nat):Int))::_) _ [F] _
 refine J.b V<|J.c hK2<|J.a0 0 2 3 4 11 ?_
 refine J.k λK3 hK3=>J.k λK4 hK4=>?_
 have hlt:=h15.lt
 have hda:=h15.le hb
 have htop:=h15.top hv hw
 unfold up at htop
 refine J.H<|J.j 2 V<|J.q (qAB V V ent147 (Ct.use0 (λF' hF=>qFC F' k (by first|omega|exact hsm _) a15 (by omega)))) V λg18 _=>J.f (qAS V V V) V<|J.c hK4<|J.b5 0 2 3 4 11 19 ?_
 refine J.a4 V (λh19=>?_) (λh19=>?_)
 ·
  refine J.H<|J.j 4 V<|J.c hK3<|J.a0 0 2 3 4 11 ?_
  refine J.g λK5 hK5=>J.j 2 V<|J.q (qAB V V ent177 (Ct.use0 (λF' hF=>qCD F' (hK.mo hF) (Sb.leafN q w) (Sb.leafN k v) (by omega) (by omega)))) V λg24 _=>J.b V<|J.c hK5<|J.O 0 4 11 12 ?_
  refine J.k λK6 hK6=>J.k λK7 hK7=>?_
  first|rw [if_neg (by omega)] at htop|rw [if_pos (by have:=Sm.bit_le k a15;omega)] at htop
  rw [←htop]
  refine J.H<|J.b V<|J.f (qAn V V V (by omega)) V<|J.b V<|J.c hK7<|J.O 0 4 11 12 ?_
  refine J.a1<|J.c1 (X:=Nat) (λζ=> [(0,Str (k)),(4,I ((d:Nat):Int)),(11,I (((ζ:Nat):Int)-1)),(12,Str (Sm.ndB [(k,v),(q,w)] k ζ))]) (λζ=> [F]) (λζ=>d≤ζ∧ζ≤a15) (λζ=>ζ) a15 (⟨hda,jJ _⟩) ⟨V,V,V,V,trivial⟩ (λ_ h=>h) ?_
  rintro e ⟨he1,he2⟩ I0 hI0
  have hone:([0]:List UInt8).length=1:=rfl
  have hns:=qER [(k,v),(q,w)] k e
  refine J.k λK8 hK8=>J.g λK9 hK9=>J.j 2 V<|J.f (qA9 V V V) V<|J.c hK9<|J.a0 0 4 11 12 29 ?_
  refine J.a4 V (λh29=>?_) (λh29=>?_)
  ·
   refine J.W hK8<|J.O 0 4 11 12 ?_
   refine J.k λK10 hK10=>J.a1<|J.g λK11 hK11=>J.b V<|J.f ((qAb V V).nat (e-1) (by omega)) V<|J.q (qAB V V ent147 (Ct.use0 (λF' hF=>qFC F' k (by first|omega|exact hsm _) (e-1) (by omega)))) V λg34 _=>J.f (qAS V V V) V<|J.c hK11<|J.a0 0 4 11 12 35 ?_
   refine J.a4 V (λh35=>?_) (λh35=>?_)
   ·
    refine J.H<|J.b V<|J.q (qAB V V ent177 (Ct.use0 (λF' hF=>qCD F' (hK.mo hF) (Sm.ndB [(k,v),(q,w)] k e) ([0]) (by omega) (by omega)))) V λg37 _=>J.b V<|J.a8<|J.b0<|J.u (J.M hK10 ?_)
    refine J.O 0 4 11 12 ?_
    exact J.H<|J.b V<|J.f (qAn V V V (by omega)) V<|J.b V<|J.a8<|J.u<|J.a9 (e-1) (λη (hη:_∧η<e)=>hI0 η hη.1 hη.2) ⟨⟨by omega,by omega⟩,by first|omega|(dsimp only;omega)⟩ ⟨V,V,congrArg (λz=>some (I z)) (by omega),congrArg (λz=>some (Str z)) (by rw [h15.step hv hw (show e-1<a15 by omega),show e-1+1=e by omega];unfold up;first|rw [if_pos (by omega)]|rw [if_neg (by omega)]),trivial⟩ (λ_ h=>h)
   refine J.H<|J.b V<|J.q (qAB V V ent177 (Ct.use0 (λF' hF=>qCD F' (hK.mo hF) ([0]) (Sm.ndB [(k,v),(q,w)] k e) (by omega) (by omega)))) V λg39 _=>J.b V<|J.a8<|J.b0<|J.u (J.M hK10 ?_)
   refine J.O 0 4 11 12 ?_
   exact J.H<|J.b V<|J.f (qAn V V V (by omega)) V<|J.b V<|J.a8<|J.u<|J.a9 (e-1) (λη (hη:_∧η<e)=>hI0 η hη.1 hη.2) ⟨⟨by omega,by omega⟩,by first|omega|(dsimp only;omega)⟩ ⟨V,V,congrArg (λz=>some (I z)) (by omega),congrArg (λz=>some (Str z)) (by rw [h15.step hv hw (show e-1<a15 by omega),show e-1+1=e by omega];unfold up;first|rw [if_pos (by omega)]|rw [if_neg (by omega)]),trivial⟩ (λ_ h=>h)
  refine J.b8<|J.a6<|J.a6<|J.b9 ?_
  refine J.u (J.M hK6 ?_)
  refine J.A 12 ?_
  refine J.g λK12 hK12=>J.j 2 V<|J.c hK12<|J.A 10 ?_
  exact J.D<|J.Z hw0 V () (congrArg Str (by rw [show e=d by omega])) trivial [0] rfl (by decide)
 refine J.W hK3<|J.a0 0 2 3 4 11 ?_
 refine J.g λK13 hK13=>J.j 2 V<|J.q (qAB V V ent177 (Ct.use0 (λF' hF=>qCD F' (hK.mo hF) (Sb.leafN k v) (Sb.leafN q w) (by omega) (by omega)))) V λg24 _=>J.b V<|J.c hK13<|J.O 0 4 11 12 ?_
 refine J.k λK14 hK14=>J.k λK15 hK15=>?_
 first|rw [if_neg (by omega)] at htop|rw [if_pos (by have:=Sm.bit_le k a15;omega)] at htop
 rw [←htop]
 refine J.H<|J.b V<|J.f (qAn V V V (by omega)) V<|J.b V<|J.c hK15<|J.O 0 4 11 12 ?_
 refine J.a1<|J.c1 (X:=Nat) (λζ=> [(0,Str (k)),(4,I ((d:Nat):Int)),(11,I (((ζ:Nat):Int)-1)),(12,Str (Sm.ndB [(k,v),(q,w)] k ζ))]) (λζ=> [F]) (λζ=>d≤ζ∧ζ≤a15) (λζ=>ζ) a15 (⟨hda,jJ _⟩) ⟨V,V,V,V,trivial⟩ (λ_ h=>h) ?_
 rintro e ⟨he1,he2⟩ I0 hI0
 have hone:([0]:List UInt8).length=1:=rfl
 have hns:=qER [(k,v),(q,w)] k e
 refine J.k λK16 hK16=>J.g λK17 hK17=>J.j 2 V<|J.f (qA9 V V V) V<|J.c hK17<|J.a0 0 4 11 12 29 ?_
 refine J.a4 V (λh29=>?_) (λh29=>?_)
 ·
  refine J.W hK16<|J.O 0 4 11 12 ?_
  refine J.k λK18 hK18=>J.a1<|J.g λK19 hK19=>J.b V<|J.f ((qAb V V).nat (e-1) (by omega)) V<|J.q (qAB V V ent147 (Ct.use0 (λF' hF=>qFC F' k (by first|omega|exact hsm _) (e-1) (by omega)))) V λg34 _=>J.f (qAS V V V) V<|J.c hK19<|J.a0 0 4 11 12 35 ?_
  refine J.a4 V (λh35=>?_) (λh35=>?_)
  ·
   refine J.H<|J.b V<|J.q (qAB V V ent177 (Ct.use0 (λF' hF=>qCD F' (hK.mo hF) (Sm.ndB [(k,v),(q,w)] k e) ([0]) (by omega) (by omega)))) V λg37 _=>J.b V<|J.a8<|J.b0<|J.u (J.M hK18 ?_)
   refine J.O 0 4 11 12 ?_
   exact J.H<|J.b V<|J.f (qAn V V V (by omega)) V<|J.b V<|J.a8<|J.u<|J.a9 (e-1) (λη (hη:_∧η<e)=>hI0 η hη.1 hη.2) ⟨⟨by omega,by omega⟩,by first|omega|(dsimp only;omega)⟩ ⟨V,V,congrArg (λz=>some (I z)) (by omega),congrArg (λz=>some (Str z)) (by rw [h15.step hv hw (show e-1<a15 by omega),show e-1+1=e by omega];unfold up;first|rw [if_pos (by omega)]|rw [if_neg (by omega)]),trivial⟩ (λ_ h=>h)
  refine J.H<|J.b V<|J.q (qAB V V ent177 (Ct.use0 (λF' hF=>qCD F' (hK.mo hF) ([0]) (Sm.ndB [(k,v),(q,w)] k e) (by omega) (by omega)))) V λg39 _=>J.b V<|J.a8<|J.b0<|J.u (J.M hK18 ?_)
  refine J.O 0 4 11 12 ?_
  exact J.H<|J.b V<|J.f (qAn V V V (by omega)) V<|J.b V<|J.a8<|J.u<|J.a9 (e-1) (λη (hη:_∧η<e)=>hI0 η hη.1 hη.2) ⟨⟨by omega,by omega⟩,by first|omega|(dsimp only;omega)⟩ ⟨V,V,congrArg (λz=>some (I z)) (by omega),congrArg (λz=>some (Str z)) (by rw [h15.step hv hw (show e-1<a15 by omega),show e-1+1=e by omega];unfold up;first|rw [if_pos (by omega)]|rw [if_neg (by omega)]),trivial⟩ (λ_ h=>h)
 refine J.b8<|J.a6<|J.a6<|J.b9 ?_
 refine J.u (J.M hK14 ?_)
 refine J.A 12 ?_
 refine J.g λK20 hK20=>J.j 2 V<|J.c hK20<|J.A 10 ?_
 exact J.D<|J.Z hw0 V () (congrArg Str (by rw [show e=d by omega])) trivial [0] rfl (by decide)
theorem qMW(F:Hp)(hK:KF F)(A:Option Addr)(c:Nat)(bs:List (List UInt8))(hs:Sl F 1 A bs.length c (qAH bs))(th:Bool)(pk pv k:List UInt8)(d:Nat)(hg:qOq bs th pk pv k d)(v:List UInt8)(hv:v.length≤1000000)(hpv:pv.length≤1000000):Ct prog 163 [.agg #[.slice A bs.length c,.bool (th),Str (pk),Str (pv)],Str (k),Str (v),I ((d:Nat):Int)] [F] (λ_:Unit=> .tuple #[Str (qFD bs th pk pv k v d),I ((0:Nat):Int)]) (λ_=>True) (λ_=> [F]):=by
 have hle:=hg.le
 have hk16:=hg.k16
 have hsm:=hg.small
 have hl17:=qCY k v
 have hn17:=qER [(k,v),(pk,pv)] k (d+bs.length)
 refine Ct.walk func163 rfl ntmps163 rfl (λw0 hw0=>?_)
 change J _ [(0,_),(1,_),(2,_),(3,_)] _ _ _
 refine J.g λK1 hK1=>J.q (qAi (l:= [.slice A bs.length c,.bool (th),Str (pk),Str (pv)]) V V V) V λg4 _=>?_
 change J _ _ _ [F,blk g4 [.slice A bs.length c,.bool (th),Str (pk),Str (pv)] 58] _
 refine J.j 2 V<|J.c hK1<|J.O 1 2 3 4 ?_
 refine J.k λK2 hK2=>J.g λK3 hK3=>J.c8 1 qKI qGV V V V V V<|J.j 2 V<|J.q (qAB V V ent149 (Ct.use0 (λF' hF=>qJ3 F' A c bs (hs.mono (hF F (by simp))) th pk pv k d (by assumption)))) rfl λg14 _=>J.f ((qAw rfl rfl).as (v':= .bool false) rfl) rfl<|J.c hK3<|J.a0 1 2 3 4 15 ?_
 refine J.a5 ?_
 refine J.W hK2<|J.O 1 2 3 4 ?_
 refine J.g λK4 hK4=>J.j 2 V<|J.q (qAB V V ent176 (Ct.use0 (λF' hF=>qFQ F' (hK.mo hF) k v (by first|omega|exact jk V) (by first|omega|exact jk V)))) V λg18 _=>J.b V<|J.c hK4<|J.O 1 3 4 10 ?_
 refine J.k λK5 hK5=>J.g λK6 hK6=>J.a2 1 qDI z4_ V V V V V<|J.f (qAD 1 (v:= .bool (th)) V V V b4_ V) V<|J.b V<|J.f6 (d:=21) V (λh21=>?_) (λh21=>?_)
 ·
  refine J.T (qAA (j:=2) V V qDI V z9_ V) V<|J.T (qAD 1 (v:=Str (pk)) V V V b9_ V) V<|J.b V<|J.T (qBv V V V) V<|J.b V<|J.c hK6<|J.a0 1 3 4 10 26 ?_
  refine J.a4 V (λh26=>?_) (λh26=>?_)
  ·
   obtain ⟨hpt,hpn⟩:th=true∧pk≠k:=⟨h21,h26⟩
   obtain ⟨hpl,hpb⟩:=hg.yes hpt
   have haE:qJK bs th pk pv k v d=Sm.ndB [(k,v),(pk,pv)] k (d+bs.length):=if_pos ⟨hpt,hpn⟩
   refine J.b7 [F,blk g4 [.slice A bs.length c,.bool (th),Str (pk),Str (pv)] 58] [] (.y 0 (.y 1 (.y 2 (.y 3 (.y 4 (.y 5 (.y 6 (.y 7 (.y 9 (.y 10 (.y 11 (.y 12 (.y 13 (.e 8 (.e 14 (.y 15 .nil)))))))))))))))) Tryz.wide (by decide+kernel) (by simp) ?_
   refine J.L ?_
   refine J.p V (qAA (j:=2) V V qDI V z9_ V) V V<|J.p V (qAD 1 (v:=Str (pk)) V V V b9_ V) V V<|J.L ?_
   refine J.p V (qAA (j:=2) V V qDI V z9_ V) V V<|J.p V (qAD 1 (v:=Str (pk)) V V V b9_ V) V V<|J.p V (qAA (j:=3) V V qDI V z9_ V) V V<|J.p V (qAD 1 (v:=Str (pv)) V V V b9_ V) V V<|J.L ?_
   refine J.p V (qAA (j:=0) V V qDI V qCA V) V V<|J.p V (qAD 1 (v:= .slice A bs.length c) V V V qCR V) V V<|J.p V (qAY qAh V V) V V<|J.p V ((qAQ V V V (by omega)).nat (d+bs.length) (by omega)) V V<|J.b2 V (qAB V V ent176 (Ct.use0 (λF' hF=>qFQ F' (hK.mo hF) pk pv (by first|omega|exact jk V) (by first|omega|exact jk V)))) V (by simp) λg35 _=>J.b2 rfl (qAB rfl rfl ent196 (Ct.use0 (λF' hF=>qPX F' (hK.mo hF) k pk hk16 hpl hpn v pv hv hpv (d+bs.length) hpb))) rfl (by simp) λg41 _=>J.c3 ?_
   refine J.b3<|J.u (J.M hK5 ?_)
   refine J.O 1 3 4 10 ?_
   refine J.g λK7 hK7=>J.c8 1 qKI qGV V V V V V<|J.j 3 V<|J.q (qAB V V ent186 (Ct.use0 (λF' hF=>qDQ F' (hK.mo hF) A c bs (hs.mono (hF F (by simp))) th pk pv (Sm.ndB [(k,v),(pk,pv)] k (d+bs.length)) k d (by assumption) (by assumption) (by assumption) (by first|assumption|exact qCY _ _|exact jk rfl)))) rfl λg46 _=>J.j 2 rfl<|J.c hK7<|J.E 8 9 ?_
   exact J.D<|J.b4 hw0 (λ_ _ h=>h) (qDe V V V) (qAj () (by unfold qFD;rw [haE];rfl) trivial [0] rfl (by decide))
  have haE:qJK bs th pk pv k v d=Sb.leafN k v:=if_neg (λh=>h26 h.2)
  refine J.W hK5<|J.O 1 3 4 10 ?_
  refine J.g λK8 hK8=>J.c8 1 qKI qGV V V V V V<|J.j 3 V<|J.q (qAB V V ent186 (Ct.use0 (λF' hF=>qDQ F' (hK.mo hF) A c bs (hs.mono (hF F (by simp))) th pk pv (Sb.leafN k v) k d (by assumption) (by assumption) (by assumption) (by first|assumption|exact qCY _ _|exact jk rfl)))) rfl λg46 _=>J.j 2 rfl<|J.c hK8<|J.E 8 9 ?_
  exact J.D<|J.b4 hw0 (λ_ _ h=>h) (qDe V V V) (qAj () (by unfold qFD;rw [haE];rfl) trivial [0] rfl (by decide))
 have haE:qJK bs th pk pv k v d=Sb.leafN k v:=if_neg (λh=>by rw [h21] at h;exact absurd h.1 (by decide))
 refine J.j 5 V<|J.c hK6<|J.a0 1 3 4 10 26 ?_
 refine J.a5 ?_
 refine J.W hK5<|J.O 1 3 4 10 ?_
 refine J.g λK9 hK9=>J.c8 1 qKI qGV V V V V V<|J.j 3 V<|J.q (qAB V V ent186 (Ct.use0 (λF' hF=>qDQ F' (hK.mo hF) A c bs (hs.mono (hF F (by simp))) th pk pv (Sb.leafN k v) k d (by assumption) (by assumption) (by assumption) (by first|assumption|exact qCY _ _|exact jk rfl)))) rfl λg46 _=>J.j 2 rfl<|J.c hK9<|J.E 8 9 ?_
 exact J.D<|J.b4 hw0 (λ_ _ h=>h) (qDe V V V) (qAj () (by unfold qFD;rw [haE];rfl) trivial [0] rfl (by decide))
end Go.Proofs.YtfldiegfenndjaaGreatDoor
