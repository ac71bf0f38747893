/- A part of the proof. -/
import Derived.Test.YtllnfioplpipiaaGreatDoorTopOrG8
import Derived.Test.YtllnfioplpipiaaGreatDoorTopOrG17
import Derived.Test.YtllnfioplpipiaaGreatDoorTopOrG6
set_option linter.unusedSimpArgs false
set_option linter.unusedVariables false
namespace Go.Proofs.YtllnfioplpipiaaGreatDoor
open Go Go.Fw Go.Proofs.Tryz
set_option maxRecDepth 100000
set_option maxHeartbeats 1000000
theorem ent61:qAD prog 61:=qAD.of func61 rfl (by kernel_rfl)
theorem ent62:qAD prog 62:=qAD.of func62 rfl (by kernel_rfl)
theorem ent125:qAD prog 125:=qAD.of func125 rfl (by kernel_rfl)
theorem ent135:qAD prog 135:=qAD.of func135 rfl (by kernel_rfl)
theorem ent137:qAD prog 137:=qAD.of func137 rfl (by kernel_rfl)
theorem ent139:qAD prog 139:=qAD.of func139 rfl (by kernel_rfl)
theorem ent140:qAD prog 140:=qAD.of func140 rfl (by kernel_rfl)
def qFO(bs:List (List UInt8))(th:Bool)(pk pv k:List UInt8)(d:Nat):List UInt8:=clm k d bs (if th=true then Sb.leafN pk pv else [0]) bs.length
def qTI(bs:List (List UInt8))(th:Bool)(pk pv nd k v:List UInt8)(d:Nat):Bool:=th&&(decide (pk=k)&&(decide (pv=v)&&decide (qFO bs th pk pv k d=nd)))
theorem qK5(k v:List UInt8):(Sb.leafN k v).length≤17:=by unfold Sb.leafN;rw [List.length_cons,Sha.tagged_length];exact Nat.le_refl _
theorem qPz(F:Hp)(hK:KF F)(A:Option Addr)(c:Nat)(bs:List (List UInt8))(hs:Sl F 1 A bs.length c (qAG bs))(th:Bool)(pk pv k:List UInt8)(d:Nat)(hg:qOv bs th pk pv k d)(hpv:pv.length≤1000000):Ct prog 62 [.agg #[.slice A bs.length c,.bool (th),Str (pk),Str (pv)],Str (k),I ((d:Nat):Int)] [F] (λ_:Unit=>Str (qFO bs th pk pv k d)) (λ_=>True) (λ_=> [F]):=by
 have hle:=hg.le
 have hk16:=hg.k16
 have hsm:=hg.small
 refine Ct.walk func62 rfl ntmps62 rfl (λw0 hw0=>?_)
 change J _ [(0,_),(1,_),(2,_)] _ _ _
 refine J.g λK1 hK1=>J.k (qAi (l:= [.slice A bs.length c,.bool (th),Str (pk),Str (pv)]) O O O) O λg3 _=>?_
 change J _ _ _ [F,blk g3 [.slice A bs.length c,.bool (th),Str (pk),Str (pv)] 80] _
 refine J.b O<|J.c hK1<|J.G 1 2 3 ?_
 refine J.j λK2 hK2=>J.g λK3 hK3=>J.c9 1 qML qHv O O O O O<|J.p 2 O<|J.k (qAA O O ent61 (Ct.use0 (λF' hF=>qOF F' A c bs (hs.mono (hF F (by simp))) th pk pv k d (by assumption)))) rfl λg11 _=>J.f (qAt rfl rfl) rfl<|J.c hK3<|J.O 1 2 3 12 ?_
 refine J.a5 ?_
 refine J.W hK2<|J.G 1 2 3 ?_
 refine J.g λK4 hK4=>J.b O<|J.c hK4<|J.O 1 2 3 7 ?_
 refine J.j λK5 hK5=>J.g λK6 hK6=>J.a3 1 qDP z4_ O O O O O<|J.f (qAE 1 (v:= .bool (th)) O O O b4_ O) O<|J.c hK6<|J.a0 1 2 3 7 14 ?_
 refine J.d6 O (λh14=>?_) (λh14=>?_)
 ·
  have hpl:=(hg.yes h14).1
  refine J.L<|J.a3 2 qDP z9_ O O O O O<|J.f (qAE 1 (v:=Str (pk)) O O O b9_ O) O<|J.a3 3 qDP z9_ O O O O O<|J.f (qAE 1 (v:=Str (pv)) O O O b9_ O) O<|J.k (qAA O O ent124 (Ct.use0 (λF' hF=>qKd F' (hK.mo hF) pk pv (by first|omega|exact Nat.le_of_ble_eq_true O) (by first|omega|exact Nat.le_of_ble_eq_true O)))) O λg19 _=>J.b O<|J.c hK5<|J.O 1 2 3 7 ?_
  refine J.g λK7 hK7=>J.c9 1 qML qHv O O O O O<|J.p 3 O<|J.k (qAA O O ent125 (Ct.use0 (λF' hF=>qIQ F' (hK.mo hF) A c bs (hs.mono (hF F (by simp))) th pk pv (Sb.leafN pk pv) k d (by assumption) (by assumption) (by assumption) (by first|assumption|exact qK5 _ _|exact Nat.le_of_ble_eq_true rfl)))) rfl λg24 _=>J.b rfl<|J.c hK7<|J.u 6 ?_
  exact J.D<|J.M hw0 O () (by unfold qFO;first|rw [if_pos (by assumption)]|rw [if_neg (by simp [*])]) trivial [0] rfl (by decide)
 refine J.W hK5<|J.O 1 2 3 7 ?_
 refine J.g λK8 hK8=>J.c9 1 qML qHv O O O O O<|J.p 3 O<|J.k (qAA O O ent125 (Ct.use0 (λF' hF=>qIQ F' (hK.mo hF) A c bs (hs.mono (hF F (by simp))) th pk pv ([0]) k d (by assumption) (by assumption) (by assumption) (by first|assumption|exact qK5 _ _|exact Nat.le_of_ble_eq_true rfl)))) rfl λg24 _=>J.b rfl<|J.c hK8<|J.u 6 ?_
 exact J.D<|J.M hw0 O () (by unfold qFO;first|rw [if_pos (by assumption)]|rw [if_neg (by simp [*])]) trivial [0] rfl (by decide)
theorem qQd(F:Hp)(hK:KF F)(A:Option Addr)(c:Nat)(bs:List (List UInt8))(hs:Sl F 1 A bs.length c (qAG bs))(th:Bool)(pk pv k:List UInt8)(d:Nat)(hg:qOv bs th pk pv k d)(nd v:List UInt8)(hpv:pv.length≤1000000):Ct prog 23 [.agg #[.slice A bs.length c,.bool (th),Str (pk),Str (pv)],Str (nd),Str (k),Str (v),I ((d:Nat):Int)] [F] (λ_:Unit=> .bool (qTI bs th pk pv nd k v d)) (λ_=>True) (λ_=> [F]):=by
 have hle:=hg.le
 have hk16:=hg.k16
 have hsm:=hg.small
 refine Ct.walk func23 rfl ntmps23 rfl (λw0 hw0=>?_)
 change J _ [(0,_),(1,_),(2,_),(3,_),(4,_)] _ _ _
 refine J.g λK1 hK1=>J.k (qAi (l:= [.slice A bs.length c,.bool (th),Str (pk),Str (pv)]) O O O) O λg5 _=>?_
 change J _ _ _ [F,blk g5 [.slice A bs.length c,.bool (th),Str (pk),Str (pv)] 80] _
 refine J.b O<|J.c hK1<|J.a0 1 2 3 4 5 ?_
 refine J.g λK2 hK2=>J.c9 1 qML qHv O O O O O<|J.p 2 O<|J.k (qAA O O ent61 (Ct.use0 (λF' hF=>qOF F' A c bs (hs.mono (hF F (by simp))) th pk pv k d (by assumption)))) rfl λg14 _=>J.b rfl<|J.Z (qAB (j:=1) rfl rfl qDP rfl z4_ rfl) rfl<|J.Z (qAE 1 (v:= .bool (th)) rfl rfl rfl b4_ rfl) rfl<|J.p 2 rfl<|J.g7 (d:=19) rfl (λh19=>?_) (λh19=>?_)
 ·
  refine J.Z (qAB (j:=2) O O qDP O z9_ O) O<|J.Z (qAE 1 (v:=Str (pk)) O O O b9_ O) O<|J.b O<|J.Z (qBQ O O O) O<|J.p 2 O<|J.c4 (d:=25) O (λh25=>?_) (λh25=>?_)
  ·
   refine J.Z (qAB (j:=3) O O qDP O z9_ O) O<|J.Z (qAE 1 (v:=Str (pv)) O O O b9_ O) O<|J.b O<|J.Z (qBQ O O O) O<|J.p 2 O<|J.c4 (d:=31) O (λh31=>?_) (λh31=>?_)
   ·
    refine J.Z (qAy 1 O O O qML qHv O) O<|J.p 2 O<|J.d7 (qAA O O ent62 (Ct.use0 (λF' hF=>qPz F' (hK.mo hF) A c bs (hs.mono (hF F (by simp))) th pk pv k d (by assumption) (by assumption)))) rfl λg35 _=>J.b rfl<|J.Z (qBQ rfl rfl rfl) rfl<|J.p 2 rfl<|J.c hK2<|J.u 10 ?_
    exact J.D<|J.M hw0 O () (by unfold qTI;simp [*]) trivial [0] rfl (by decide)
   refine J.p 8 O<|J.c hK2<|J.u 10 ?_
   exact J.D<|J.M hw0 O () (by unfold qTI;simp [*]) trivial [0] rfl (by decide)
  refine J.p 14 O<|J.c hK2<|J.u 10 ?_
  exact J.D<|J.M hw0 O () (by unfold qTI;simp [*]) trivial [0] rfl (by decide)
 refine J.p 20 O<|J.c hK2<|J.u 10 ?_
 exact J.D<|J.M hw0 O () (by unfold qTI;simp [*]) trivial [0] rfl (by decide)
theorem qIZ(F:Hp)(k:List UInt8)(hk:k.length≤1000000)(pb pd:Nat)(b:List UInt8)(d:Int)(hpb:qAL F ⟨pb,0,none⟩ [Str b])(hpd:qAL F ⟨pd,0,none⟩ [I d])(hb:b.length≤1000000):Ct prog 137 [Str (k),Ptr pb,Ptr pd] [F] (λ_:Unit=> .bool (nbl b d k)) (λ_=>True) (λ_=> [F]):=by
 refine Ct.walk func137 rfl ntmps137 rfl (λw0 hw0=>?_)
 change J _ [(0,_),(1,_),(2,_)] _ _ _
 refine J.g λK1 hK1=>J.b O<|J.c hK1<|J.G 0 1 2 ?_
 refine J.g λK2 hK2=>J.b O<|J.f (qAJ (v:=Str (b)) O O b9_ (m:=F) (by simp) (hpb)) rfl<|J.f (qAJ (v:=I (d)) rfl rfl b3_ (m:=F) (by simp) (hpd)) rfl<|J.k (qAA rfl rfl ent123 (Ct.use0 (λF' hF=>qDz F' k (by omega) b (by omega) d))) rfl λg8 _=>J.f (qAt rfl rfl) rfl<|J.b rfl<|J.c hK2<|J.u 4 ?_
 exact J.D<|J.M hw0 O () (by unfold nbl;rfl) trivial [0] O (by decide)
theorem qPX(F:Hp)(A:Option Addr)(n c:Nat)(ks:List (List UInt8))(hs:Sl F 1 A n c (qAG ks))(hn:n≤1000000)(hsm: ∀k:Nat,(ks.getD k []).length≤1000000)(pb pd:Nat)(b:List UInt8)(d:Int)(hpb:qAL F ⟨pb,0,none⟩ [Str b])(hpd:qAL F ⟨pd,0,none⟩ [I d])(hb:b.length≤1000000):Ct prog 185 [.slice A n c,.func (.func 137) #[] #[Ptr pb,Ptr pd]] [F] (λ_:Unit=>I (ixS (nbl b d) ks)) (λ_=>True) (λ_=> [F]):=by
 have hkn:ks.length=n:=by have:=hs.1;simpa [qAG] using this
 refine Ct.walk func185 rfl ntmps185 rfl (λw0 hw0=>?_)
 change J _ [(0,_),(1,_)] _ _ _
 refine J.g λK1 hK1=>J.b O<|J.c hK1<|J.E 0 1 ?_
 refine J.j λK2 hK2=>J.g λK3 hK3=>J.b O<|J.f (qAP qAe O O) O<|J.b O<|J.c hK3<|J.O 0 1 7 8 ?_
 refine J.V<|J.b6 (X:=Nat) (λζ=> [(0,.slice A n c),(1,.func (.func 137) #[] #[Ptr pb,Ptr pd]),(7,I ((n:Nat):Int)),(8,I ((ζ:Nat):Int))]) (λζ=> [F]) (λζ=>ζ≤n∧ ∀j<ζ,nbl b d (ks.getD j [])=false) (λζ=>n-ζ) 0 (⟨Nat.zero_le _,λj h=>absurd h (Nat.not_lt_zero j)⟩) ⟨O,O,O,O,trivial⟩ (λ_ h=>h) ?_
 rintro k ⟨hk,hno⟩ I0 hI0
 refine J.g λK4 hK4=>J.f (qAT O O O) O<|J.c hK4<|J.a0 0 1 7 8 9 ?_
 refine J.j λK5 hK5=>J.a2 O (λh9=>?_) (λh9=>?_)
 ·
  refine J.W hK5<|J.O 0 1 7 8 ?_
  refine J.j λK6 hK6=>J.V<|J.g λK7 hK7=>J.p 2 O<|J.c hK7<|J.a0 0 1 5 7 8 ?_
  refine J.g λK8 hK8=>J.p 3 O<|J.f (qAH (i:=k) O O O qAe z9_ hs (by omega)) O<|J.f (qAJ O O b9_ (m:=F) (by simp) (hs.elem (qAQ (qAc [] (by omega))))) rfl<|J.k (qCh rfl rfl rfl ent137 (Ct.use0 (λF' hF=>qIZ F' (ks.getD k []) (by first|omega|(exact hsm _)) pb pd b d (hpb.mono (hF F (by simp))) (hpd.mono (hF F (by simp))) (by omega)))) rfl λg16 _=>J.c hK8<|J.b8 0 1 5 7 8 16 ?_
  refine J.d6 O (λh16=>?_) (λh16=>?_)
  ·
   refine J.g λK9 hK9=>J.p 2 O<|J.c hK9<|J.u 4 ?_
   exact J.D<|J.b1<|J.a4<|J.a4<|J.b1<|J.a4<|J.M hw0 O () (by rw [qRc (k:=k) (by omega) (by simpa using h16) hno]) trivial [0] rfl (by decide)
  refine J.b7<|J.a6<|J.A (J.H hK6 ?_)
  refine J.O 0 1 7 8 ?_
  exact J.L<|J.f ((qAO O O O (by omega)).nat (k+1) (by omega)) O<|J.b O<|J.a7<|J.A<|J.a8 (k+1) (λη (hη:_∧n-η<n-k)=>hI0 η hη.1 hη.2) ⟨⟨by omega,λj hj=>by rcases Nat.lt_succ_iff_lt_or_eq.1 hj with h|rfl;exact hno j h;simpa using h16⟩,by first|omega|(dsimp only;omega)⟩ ⟨rfl,rfl,rfl,rfl,trivial⟩ (λ_ h=>h)
 refine J.b4<|J.a1<|J.a1<|J.b5 ?_
 refine J.A (J.H hK2 ?_)
 refine J.c3 [] trivial<|J.g λK10 hK10=>J.b O<|J.c hK10<|J.u 4 ?_
 exact J.D<|J.M hw0 O () (by rw [qRa (λj hj=>hno j (by omega))]) trivial [0] rfl (by decide)
theorem qPb(F m:Hp)(A:Option Addr)(n c:Nat)(ks:List (List UInt8))(hr:Row m 9 1 A n c (qAG ks))(hn:n≤1000000)(hsm: ∀k:Nat,(ks.getD k []).length≤1000000)(pb pd:Nat)(b:List UInt8)(d:Int)(hpb:qAL F ⟨pb,0,none⟩ [Str b])(hpd:qAL F ⟨pd,0,none⟩ [I d])(hb:b.length≤1000000):
    Ct prog 136 [.slice A n c,.func (.func 137) #[] #[Ptr pb,Ptr pd]] [m,F] (λ_:Hp=> .slice A (ks.filter λk=>!nbl b d k).length c) (λm'=>Row m' 9 1 A (ks.filter λk=>!nbl b d k).length c (qAG (ks.filter λk=>!nbl b d k))) (λm'=> [m',F]):=by
  have hkn:ks.length=n:=by have:=hr.len;simpa [qAG] using this
  have hnc:=hr.2.2.1
  refine Ct.walk func136 rfl ntmps136 rfl (λw0 hw0=>?_)
  change J _ [(0,_),(1,_)] _ _ _
  refine J.g λK1 hK1=>J.b O<|J.c hK1<|J.E 0 1 ?_
  refine J.g λK2 hK2=>J.p 2 O<|J.k (qAA O O ent185 (Ct.use0 (λF' hF=>qPX F' A n c ks (hr.sl.mono (hF m (by simp))) (by omega) (hsm) pb pd b d (hpb.mono (hF F (by simp))) (hpd.mono (hF F (by simp))) (by omega)))) rfl λg10 _=>J.b rfl<|J.c hK2<|J.G 0 1 5 ?_
  refine J.j λK3 hK3=>J.g λK4 hK4=>J.b O<|J.f (qAY O O O) O<|J.c hK4<|J.O 0 1 5 12 ?_
  refine J.a2 O (λh12=>?_) (λh12=>?_)
  ·
    refine J.g λK5 hK5=>J.p 2 O<|J.c hK5<|J.u 4 ?_
    refine J.D<|J.a4 ?_
    have hf:(ks.filter λk=>!nbl b d k)=ks:=qLA h12
    exact J.M hw0 O m (by rw [hf,hkn]) (by rw [hf,hkn];exact hr) [0,1] rfl (by decide)
  refine J.W hK3<|J.G 0 1 5 ?_
  refine J.j λK6 hK6=>J.j λK7 hK7=>?_
  obtain ⟨i0,h5,hi0,hf0⟩:=qRb h12
  obtain ⟨ga,rfl⟩:=hr.at (by omega)
  rw [h5]
  refine J.L<|J.b O<|J.f ((qAO O O O (by omega)).nat (i0+1) (by omega)) O<|J.b O<|J.c hK7<|J.O 0 1 5 6 ?_
  refine J.V<|J.b6 (X:=Nat×Nat×List (List UInt8)×Hp) (λζ=> [(0,.slice (some ⟨ga,0,none⟩) n c),(1,.func (.func 137) #[] #[Ptr pb,Ptr pd]),(5,I ((ζ.1:Nat):Int)),(6,I ((ζ.2.1:Nat):Int))]) (λζ=> [ζ.2.2.2,F]) (λζ=>ζ.1<ζ.2.1∧ζ.2.1≤n∧ζ.2.2.1.length=n∧ζ.2.2.1.take ζ.1=(ks.take ζ.2.1).filter (λk=>!nbl b d k)∧ζ.2.2.1.drop ζ.2.1=ks.drop ζ.2.1∧Row ζ.2.2.2 9 1 (some ⟨ga,0,none⟩) n c (qAG ζ.2.2.1)) (λζ=>n-ζ.2.1) (i0,i0+1,ks,m) (⟨by dsimp only;omega,by dsimp only;omega,hkn,hf0,O,hr⟩) ⟨O,O,O,O,trivial⟩ (λ_ h=>h) ?_
  rintro⟨w,j,L,m⟩ ⟨hw,hj,hL,hA,hB,hr⟩ I0 hI0
  dsimp only at hw hj hL hA hB hr⊢
  refine J.j λK8 hK8=>J.g λK9 hK9=>J.p 2 O<|J.f (qAP qAe O O) O<|J.f (qAT O O O) O<|J.c hK9<|J.a0 0 1 5 6 19 ?_
  refine J.a2 O (λh19=>?_) (λh19=>?_)
  ·
    refine J.W hK8<|J.O 0 1 5 6 ?_
    refine J.j λK10 hK10=>J.V<|J.g λK11 hK11=>J.p 2 O<|J.f (qAm (i:=j) (j:=0+j*1) O O O qAe z9_ (by omega) (by omega)) O ?_
    have hnw:w<j:=hw
    refine J.f (qAJ O O b9_ (m:=m) (by simp) (hr.sl.cells (qAQ (qAc [] (by omega))))) rfl<|J.b rfl<|J.c hK11<|J.a0 0 1 5 6 7 ?_
    refine J.j λK12 hK12=>?_
    have hgj:(L.getD j []).length≤1000000:=by
      have e0:=congrArg (λz=>z.getD 0 []) hB
      have e1:L.getD j []=ks.getD j []:=by simpa [List.getD_eq_getElem?_getD,List.getElem?_drop] using e0
      rw [e1];exact hsm j
    refine J.L<|J.p 2 O<|J.k (qCh O O O ent137 (Ct.use0 (λF' hF=>qIZ F' (L.getD j []) (by first|omega|(exact hsm _)) pb pd b d (hpb.mono (hF F (by simp))) (hpd.mono (hF F (by simp))) (by omega)))) rfl λg28 _=>J.f (qAt rfl rfl) rfl<|J.c hK12<|J.b8 0 1 5 6 7 29 ?_
    refine J.d6 O (λh29=>?_) (λh29=>?_)
    ·
      refine J.g λK13 hK13=>J.p 3 O<|J.f (qAm (i:=w) (j:=0+w*1) O O O qAe z9_ (by omega) (by omega)) O<|J.b0 (qBI (i:=0) (k:=w) (off:=0) (b:= [Str (L.getD j [])]) O O O O hr (vs:= [Str (L.getD j [])]) O z9_ O (by omega) (qAQ (qAc [] (by omega))) O (Nat.le_refl _)) O O ?_
      rintro m9_1 hm9_1
      change J _ _ _ [m9_1,F] _
      rw [qC0] at hm9_1
      refine J.c hK13<|J.O 0 1 5 6 ?_
      refine J.L<|J.b O<|J.f ((qAO O O O (by omega)).nat (w+1) (by omega)) O<|J.b O<|J.a7<|J.a6<|J.A (J.H hK10 ?_)
      refine J.O 0 1 5 6 ?_
      exact J.L<|J.b O<|J.f ((qAO O O O (by omega)).nat (j+1) (by omega)) O<|J.b O<|J.a7<|J.A<|J.a8 (w+1,j+1,L.set w (L.getD j []),m9_1) (λη (hη:_∧n-η.2.1<n-j)=>hI0 η hη.1 hη.2) ⟨⟨by dsimp only;omega,by dsimp only;omega,by dsimp only;rw [List.length_set];exact hL,(qEy hw (by omega) (by omega) hA hB (by simpa using h29)).1,(qEy hw (by omega) (by omega) hA hB (by simpa using h29)).2,by assumption⟩,by first|omega|(dsimp only;omega)⟩ ⟨rfl,rfl,rfl,rfl,trivial⟩ (λ_ h=>h)
    refine J.b7<|J.a6<|J.A (J.H hK10 ?_)
    refine J.O 0 1 5 6 ?_
    exact J.L<|J.b O<|J.f ((qAO O O O (by omega)).nat (j+1) (by omega)) O<|J.b O<|J.a7<|J.A<|J.a8 (w,j+1,L,m) (λη (hη:_∧n-η.2.1<n-j)=>hI0 η hη.1 hη.2) ⟨⟨by dsimp only;omega,by dsimp only;omega,hL,(qEz (by omega) hA hB (by simpa using h29)).1,(qEz (by omega) hA hB (by simpa using h29)).2,hr⟩,by first|omega|(dsimp only;omega)⟩ ⟨O,O,O,O,trivial⟩ (λ_ h=>h)
  refine J.b4<|J.a1<|J.a1<|J.b5 ?_
  refine J.A (J.H hK6 ?_)
  refine J.E 0 5 ?_
  refine J.g λK14 hK14=>J.p 2 O<|J.f (qCg (l:=w) (h:=n) O O qAe z9_ O O (by omega)) O<|J.b0 (qDs (i:=0) (l:=w) (h:=n) O O (by split<;>simp [Addr.add_lit]) qAe el9 rfl rfl rfl (hr.shrink (by omega)) rfl (by omega) (by omega)) rfl rfl ?_
  rintro mc hmc
  change J _ _ _ [mc,F] _
  refine J.c hK14<|J.E 0 5 ?_
  refine J.g λK15 hK15=>J.p 2 O<|J.f (qDF (h:=w) O O qAe z9_ O (by omega)) O<|J.b O<|J.c hK15<|J.u 4 ?_
  refine J.D ?_
  have hfl:(ks.filter λk=>!nbl b d k)=L.take w:=by rw [hA,List.take_of_length_le (by omega)]
  have hfw:(ks.filter λk=>!nbl b d k).length=w:=by rw [hfl,List.length_take];omega
  rw [qDC,←hfl] at hmc
  exact J.M hw0 O mc (by rw [hfw]) (by rw [hfw];exact hmc) [0,1] rfl (by decide)
theorem qLK(F:Hp)(A:Option Addr)(n c:Nat)(ks:List (List UInt8))(hs:Sl F 1 A n c (qAG ks))(hn:n≤1000000):Ct prog 95 [.slice A n c] [F] (λx:Option Addr×Nat×Hp=> .slice x.1 (ks).length x.2.1) (λx=>Row x.2.2 9 1 x.1 (ks).length x.2.1 (qAG ks)) (λx=> [F,x.2.2]):=by
 have hkn:ks.length=n:=by have:=hs.1;simpa [qAG] using this
 refine Ct.walk func95 rfl ntmps95 rfl (λw0 hw0=>?_)
 change J _ [(0,_)] _ _ _
 refine J.g λK1 hK1=>J.b O<|J.c hK1<|J.u 0 ?_
 refine J.j λK2 hK2=>J.g λK3 hK3=>J.b O<|J.f ((qEl qAe O O O).as (v':= .bool (decide (A.isNone=true))) (congrArg Value.bool (by cases A<;>rfl))) rfl<|J.c hK3<|J.E 0 4 ?_
 refine J.a2 O (λh4=>?_) (λh4=>?_)
 ·
  refine J.g λK4 hK4=>J.b O<|J.c hK4<|J.u 2 ?_
  refine J.D<|J.a4 ?_
  have hk0:ks= []:=by
   refine List.eq_nil_of_length_eq_zero ?_
   rcases Nat.eq_zero_or_pos n with h|h
   · omega
   · obtain ⟨g,o,rfl⟩:=hs.at h;cases h4
  exact J.d5 [0,1] [F,(λ_=>none)] O (by decide)<|J.M hw0 O (none,0,(λ_=>none)) (by rw [hk0];rfl) (by rw [hk0];exact qBU.nil) [0,1] rfl (by decide)
 refine J.W hK2<|J.u 0 ?_
 refine J.g λK5 hK5=>J.k (qBj O qAe el9) O λg5 _=>?_
 change J _ _ _ [F,blk g5 [] 9] _
 refine J.b O<|J.k (qAW (i:=1) (xs:=qAG ([])) (m2:=F) (ys:=qAG ks) O O O qAe qAe el9 O (qAk (q:=True) (xs:=qAG ([])) O (by intro x hx;first|exact absurd hx (List.not_mem_nil)|(rw [List.mem_singleton.1 hx];rfl))) (by simp) (hs) (qCL _) (by omega) (by omega)) rfl ?_
 rintro⟨A7,c7,m7⟩ h7
 try dsimp only at h7
 change J _ ((7,.slice A7 (0+n) c7)::_) _ [_,m7] _
 replace h7:Row m7 9 1 A7 (0+n) c7 (qAG (ks)):=h7
 refine J.b O<|J.c hK5<|J.u 2 ?_
 refine J.D ?_
 rw [show 0+n=ks.length by omega] at h7
 exact J.M hw0 O (A7,c7,m7) (by rw [←hkn,Nat.zero_add]) h7 [0,1] rfl (by decide)
theorem qIL(F:Hp)(d:Int)(p9 p4:Nat)(A:Option Addr)(n c:Nat)(ks:List (List UInt8))(hs:Sl F 1 A n c (qAG ks))(h9:qAL F ⟨p9,0,none⟩ [.slice A n c])(b:List UInt8)(h4:qAL F ⟨p4,0,none⟩ [Str b])(hn:n≤1000000)(hb:b.length≤1000000)(hsm: ∀k:Nat,(ks.getD k []).length≤1000000):Ct prog 135 [I (d),Ptr p9,Ptr p4] [F] (λx:Option Addr×Nat×Hp=> .slice x.1 (ks.filter (λq=>!nbl b d q)).length x.2.1) (λx=>Row x.2.2 9 1 x.1 (ks.filter (λq=>!nbl b d q)).length x.2.1 (qAG (ks.filter (λq=>!nbl b d q)))) (λx=> [F,x.2.2]):=by
 have hkn:ks.length=n:=by have:=hs.1;simpa [qAG] using this
 refine Ct.walk func135 rfl ntmps135 rfl (λw0 hw0=>?_)
 change J _ [(0,_),(1,_),(2,_)] _ _ _
 refine J.g λK1 hK1=>J.k (qAi (l:= [I (d)]) O O O) O λg3 _=>?_
 change J _ _ _ [F,blk g3 [I (d)] 3] _
 refine J.b O<|J.c hK1<|J.G 1 2 3 ?_
 refine J.g λK2 hK2=>J.f (qAJ (v:= .slice A n c) O O qBo (m:=F) (by simp) (h9)) rfl<|J.k (qAA rfl rfl ent95 (Ct.use (new:=λx:Option Addr×Nat×Hp=> [x.2.2]) (λF' hF=>qLK F' A n c ks (hs.mono (hF F (by simp))) (by omega)))) rfl ?_
 rintro⟨A6,c6,m6⟩ h6
 try dsimp only at h6
 change J _ ((6,.slice A6 (ks).length c6)::_) _ [_,_,m6] _
 refine J.f (qBR O O) O<|J.k (qAA O O ent136 (Ct.use1 2 (m':=λx:Hp=>x) (new:=λ_=> []) O (λF' hF=>qPb F' m6 A6 ks.length c6 ks h6 (by omega) hsm p4 g3 b d (h4.mono (hF F (by simp))) (qAL.blk0.mono (hF (blk g3 [I (d)] 3) (by simp))) hb))) rfl ?_
 rintro m8 h8
 change J _ ((8,.slice A6 (ks.filter λq=>!nbl b d q).length c6)::_) _ [_,_,m8] _
 refine J.b O<|J.c hK2<|J.u 4 ?_
 exact J.D<|J.M hw0 O (A6,c6,m8) O h8 [0,2] O (by decide)
theorem qUV(l:List Sm.PR)(k:List UInt8){d:Nat}(hd:d≤128):(Sm.keysS l).filter (λq=>!nbl k ((d:Nat):Int) q)=kd l k d:=by
 unfold kd nbl
 refine List.filter_congr λq _=>?_
 rw [Bool.not_not,Int.toNat_natCast,Nat.min_eq_left hd]
theorem qTN(l:List Sm.PR)(k:List UInt8){d:Nat}(hd:d+1≤128):(kd l k d).filter (λq=>!nbl k ((d+1:Nat):Int) q)=kd l k (d+1):=by
 rw [←qTE]
 refine List.filter_congr λq _=>?_
 unfold nbl
 rw [Bool.not_not,Int.toNat_natCast,Nat.min_eq_left hd]
theorem qQX{l:List Sm.PR}(hf:qCI l)(k:List UInt8)(d j:Nat):((kd l k d).getD j []).length≤1000000:=by
  by_cases hj:j<(kd l k d).length
  · rw [List.getD_eq_getElem?_getD,List.getElem?_eq_getElem hj]
    obtain ⟨⟨v,hv⟩,_⟩:=qRZ (List.getElem_mem hj)
    show((kd l k d)[j]).length≤1000000
    rw [show(kd l k d)[j].length=16 from hf.k16 _ hv];decide
  · rw [List.getD_eq_getElem?_getD,List.getElem?_eq_none (by omega)];decide
theorem qUP(l:List Sm.PR)(k:List UInt8)(d:Nat):(kd l k d).length≤l.length:=by
 have:=List.length_filter_le (λq=>Sm.belowB q k d) (Sm.keysS l)
 rw [Sm.keysS_len] at this;exact this
theorem qKl(F:Hp)(hK:KF F)(g:Nat)(l:List Sm.PR)(hT:qCF F g l)(hf:qCI l)(k:List UInt8)(hk:k.length=16)(d:Nat)(hd:d≤128):
    Ct prog 72 [Ptr g,Str k,I ((d:Nat):Int)] [F] (λx:Nat×Option Addr×Nat×Hp=> .tuple #[.agg #[.slice x.2.1 (bsd l k d (x.1-d)).length x.2.2.1,.bool (qAr l k x.1),Str (qBy l k x.1),Str (qCG l k x.1)],I 0]) (λx=>qLT l k d x.1∧Row x.2.2.2 9 1 x.2.1 (bsd l k d (x.1-d)).length x.2.2.1 (qAG (bsd l k d (x.1-d)))) (λx=> [F,x.2.2.2]):=by
  have hln:=hf.few
  have hkl:=Sm.keysS_len l
  have hsm:=qFe hf.k16
  have hk0:=qUV l k hd
  have hkd0:=qUP l k d
  refine Ct.walk func72 rfl ntmps72 rfl (λw0 hw0=>?_)
  change J _ [(0,_),(1,_),(2,_)] _ _ _
  refine J.g λK1 hK1=>J.k (qAi (l:= [Str (k)]) O O O) O λg4 _=>?_
  change J _ _ _ [F,blk g4 [Str (k)] 9] _
  refine J.k (qAN (l:= [.slice none 0 0,.bool false,Str [],Str []]) O zeroValue80 O) O λg6 _=>?_
  change J _ _ _ [_,_,blk g6 [.slice none 0 0,.bool false,Str [],Str []] 80] _
  refine J.b O<|J.c hK1<|J.O 0 2 4 6 ?_
  refine J.j λK2 hK2=>J.g λK3 hK3=>J.f (qAE 1 (v:=Str (k)) O O O b9_ O) O<|J.b O<|J.k (qAA O O ent121 (Ct.use0 (λF' hF=>qIM F' k ((d:Nat):Int)))) O λg14 _=>J.f ((qAt O O).as (v':= .bool false) (by rw [decide_eq_true (show k.length=16∧(0:Int)≤((d:Nat):Int)∧((d:Nat):Int)≤128 from⟨hk,by omega,by omega⟩)];rfl)) rfl<|J.c hK3<|J.a0 0 2 4 6 15 ?_
  refine J.a5 ?_
  refine J.W hK2<|J.O 0 2 4 6 ?_
  refine J.g λK4 hK4=>J.k (qAN (l:= [.slice none 0 0,.bool false,Str [],Str []]) O zeroValue80 O) O λg8 _=>?_
  change J _ _ _ [_,_,_,blk g8 [.slice none 0 0,.bool false,Str [],Str []] 80] _
  refine J.c hK4<|J.a0 0 2 4 6 8 ?_
  refine J.g λK5 hK5=>J.b O<|J.k (qAA O O ent134 (Ct.use (new:=λx:Option Addr×Nat×Hp=> [x.2.2]) (λF' hF=>qKW F' g l (hT.mono (hF F (by simp))) (by omega)))) rfl ?_
  rintro⟨A18,c18,m18⟩ h18
  try dsimp only at h18
  change J _ ((18,.slice A18 (Sm.keysS l).length c18)::_) _ [_,_,_,_,m18] _
  refine J.k (qAN (l:= [.slice none 0 0]) O zeroValue44 O) O λg9 _=>?_
  change J _ _ _ [_,_,_,_,_,blk g9 [.slice none 0 0] 44] _
  refine J.b0 (qAI (i:=5) (l:= [.slice none 0 0]) (vs:= [.slice A18 ((Sm.keysS l).length) c18]) O O O O O qBf O O) O O λ_ _=>?_
  change J _ _ _ [_,_,_,_,_,blk g9 [.slice A18 ((Sm.keysS l).length) c18] 44] _
  refine J.c hK5<|J.b8 0 2 4 6 8 9 ?_
  refine J.g λK6 hK6=>J.f (qBR O O) O<|J.b O<|J.c hK6<|J.c2 0 2 4 6 8 9 10 ?_
  refine J.g λK7 hK7=>J.p 2 O<|J.k (qCh O O O ent135 (Ct.use (new:=λx:Option Addr×Nat×Hp=> [x.2.2]) (λF' hF=>qIL F' ((d:Nat):Int) g9 g4 A18 ((Sm.keysS l).length) c18 (Sm.keysS l) (h18.sl.mono (hF m18 (by simp))) (qAL.blk0.mono (hF (blk g9 [.slice A18 ((Sm.keysS l).length) c18] 44) (by simp))) k (qAL.blk0.mono (hF (blk g4 [Str (k)] 9) (by simp))) (by omega) (by omega) (by assumption)))) rfl ?_
  rintro⟨A22,c22,m22⟩ h22
  try dsimp only at h22
  change J _ ((22,.slice A22 ((Sm.keysS l).filter (λq=>!nbl k ((d:Nat):Int) q)).length c22)::_) _ [_,_,_,_,_,_,m22] _
  rw [hk0] at h22⊢
  refine J.b0 (qAI (i:=5) (l:= [.slice A18 ((Sm.keysS l).length) c18]) (vs:= [.slice A22 ((kd l k (d)).length) c22]) O O O O O qBf O O) O O λ_ _=>?_
  change J _ _ _ [_,_,_,_,_,blk g9 [.slice A22 ((kd l k (d)).length) c22] 44,_] _
  refine J.c hK7<|J.c2 0 2 4 6 8 9 10 ?_
  refine J.j λK8 hK8=>J.g λK9 hK9=>J.p 2 O<|J.c hK9<|J.c2 0 4 6 8 9 10 11 ?_
  refine J.V<|J.b6 (X:=Nat×Option Addr×Nat×Hp×Option Addr×Nat×Hp) (λζ=> [(0,Ptr g),(4,Ptr g4),(6,Ptr g6),(8,Ptr g8),(9,Ptr g9),(10,.func (.func 135) #[] #[Ptr g9,Ptr g4]),(11,I ((d+ζ.1:Nat):Int))]) (λζ=> [F,blk g4 [Str (k)] 9,blk g6 [.slice none 0 0,.bool false,Str [],Str []] 80,blk g8 [.slice ζ.2.2.2.2.1 (bsd l k d (ζ.1)).length ζ.2.2.2.2.2.1,.bool false,Str [],Str []] 80,blk g9 [.slice ζ.2.1 (kd l k (d+ζ.1)).length ζ.2.2.1] 44,ζ.2.2.2.1,ζ.2.2.2.2.2.2]) (λζ=>d+ζ.1≤128∧(∀x,d≤x→x<d+ζ.1→2≤(cur l k x).length)∧Row ζ.2.2.2.1 9 1 ζ.2.1 (kd l k (d+ζ.1)).length ζ.2.2.1 (qAG (kd l k (d+ζ.1)))∧Row ζ.2.2.2.2.2.2 9 1 ζ.2.2.2.2.1 (bsd l k d (ζ.1)).length ζ.2.2.2.2.2.1 (qAG (bsd l k d (ζ.1)))) (λζ=>128-(d+ζ.1)) (0,A22,c22,m22,none,0,(λ_=>none)) (⟨hd,λx h1 h2=>absurd h2 (by omega),h22,qBU.nil⟩) ⟨O,O,O,O,O,O,O,trivial⟩ (λ_ h=>h.empty.pick [0,1,2,3,5,6,7] (by decide)) ?_
  rintro⟨n,A9,c9,m9,Ab,cb,mb⟩ ⟨he,htw,hr9,hrb⟩ I0 hI0
  dsimp only at he htw hr9 hrb⊢
  have hbl:=qCB l k d n
  refine J.j λK10 hK10=>J.g λK11 hK11=>J.f (qAE 4 (v:= .slice A9 (kd l k (d+n)).length c9) O O O qBo O) O<|J.f (qAP qAe O O) O<|J.f (qAz O O O) O<|J.c hK11<|J.d1 0 4 6 8 9 10 11 26 ?_
  refine J.a2 O (λh26=>?_) (λh26=>?_)
  ·
    have hcl:=qGY hf.once k (d+n)
    have hlt:d+n<128:=by
      rcases Nat.lt_or_ge (d+n) 128 with h|h
      · exact h
      · have hct:=qTW hf hk
        rw [show d+n=128 by omega] at h26 hcl
        omega
    have htl:(turn k (d+n)).length=16:=(qBh k _).trans hk
    have hmn:min (((d+n+1:Nat):Int)).toNat 128=d+n+1:=by rw [Int.toNat_natCast];omega
    have hsmk:=qQX hf k (d+n)
    have hkdl:=qUP l k (d+n)
    refine J.W hK10<|J.c2 0 4 6 8 9 10 11 ?_
    refine J.j λK12 hK12=>J.V<|J.j λK13 hK13=>J.c1 [blk g8 [.slice Ab (bsd l k d (n)).length cb,.bool false,Str [],Str []] 80,blk g4 [Str (k)] 9] [12] (.y 0 (.y 1 (.y 2 (.y 3 (.y 4 (.y 6 (.y 7 (.e 5 (.e 8 (.e 9 (.e 10 (.y 11 (.e 12 .nil))))))))))))) Tryz.wide (by decide+kernel) (by simp) ?_
    refine J.q O (qAB (j:=0) O O qDP O qBf O) O O<|J.q O (qAE 0 (v:= .slice Ab (bsd l k d (n)).length cb) O O O qBo O) O O<|J.T ?_
    refine J.q O (qAE 1 (v:=Str (k)) O O O b9_ O) O O<|J.T ?_
    refine J.T ?_
    refine J.q O ((qAO O O O (by omega)).nat (d+n+1) (by omega)) O O<|J.a9 O (qAA O O ent139 (Ct.use0 (λF' hF=>qMi F' k (by assumption) (d+n) (by omega)))) O (by simp) λg34 _=>J.a9 rfl (qAA rfl rfl ent138 (Ct.use0 (λF' hF=>qEj F' (hK.mo hF) g l (hT.mono (hF F (by simp))) (by assumption) (turn k (d+n)) (by first|omega|decide) ((d+n+1:Nat):Int) (by first|assumption|exact qGt (by assumption)|exact qKO (by assumption) (by assumption))))) rfl (by simp) λg37 _=>J.a9 rfl (qAF (l:= [.tmp 37]) (xs:= [[Str (Sm.ndB l (turn k (d+n)) (min ((d+n+1:Nat):Int).toNat 128))]]) rfl rfl rfl rfl qAe el9 rfl (by decide) (by decide) (by simp)) rfl (by simp) λg38 _=>?_
    change J _ _ _ [F,blk g4 [Str (k)] 9,blk g6 [.slice none 0 0,.bool false,Str [],Str []] 80,blk g8 [.slice Ab (bsd l k d (n)).length cb,.bool false,Str [],Str []] 80,blk g9 [.slice A9 (kd l k (d+n)).length c9] 44,m9,mb,blk g38 [Str (Sm.ndB l (turn k (d+n)) (min ((d+n+1:Nat):Int).toNat 128))] 9] _
    refine J.a9 O (qAW (i:=6) (xs:=qAG (bsd l k d (n))) (m2:=blk g38 [Str (Sm.ndB l (turn k (d+n)) (min ((d+n+1:Nat):Int).toNat 128))] 9) (ys:= [[Str (Sm.ndB l (turn k (d+n)) (min ((d+n+1:Nat):Int).toNat 128))]]) O O O qAe qAe el9 O hrb (by simp) ((qA4 (q:=True) (qAG [Sm.ndB l (turn k (d+n)) (min ((d+n+1:Nat):Int).toNat 128)]) rfl (by simp [qAG]) rfl).sl) rfl (by omega) (by omega)) rfl (by simp) ?_
    rintro⟨A39,c39,m39⟩ h39
    try dsimp only at h39
    change J _ ((39,.slice A39 (((bsd l k d (n)).length)+1) c39)::_) _ [_,_,_,_,_,_,m39,_] _
    rw [←qBg,hmn,←qQv] at h39
    rw [show(bsd l k d (n)).length+1=(bsd l k d (n+1)).length by rw [qCB,qCB]] at h39⊢
    refine J.q O (qAB (j:=0) O O qDP O qBf O) O O<|J.d3 O (qAZ (i:=3) (l:= [.slice Ab (bsd l k d (n)).length cb,.bool false,Str [],Str []]) (vs:= [.slice A39 ((bsd l k d (n+1)).length) c39]) O O O O O qBf O (by simp)) rfl rfl rfl λ_ _=>?_
    change J _ _ _ [_,_,_,blk g8 [.slice A39 ((bsd l k d (n+1)).length) c39,.bool false,Str [],Str []] 80,_,_,_,_] _
    refine J.b9<|J.A (J.H hK13 ?_)
    refine J.c2 0 4 6 8 9 10 11 ?_
    refine J.L<|J.p 2 O<|J.f ((qAO O O O (by omega)).nat (d+n+1) (by omega)) O<|J.k (qCh O O O ent135 (Ct.use (new:=λx:Option Addr×Nat×Hp=> [x.2.2]) (λF' hF=>qIL F' ((d+n+1:Nat):Int) g9 g4 A9 ((kd l k (d+n)).length) c9 (kd l k (d+n)) (hr9.sl.mono (hF m9 (by simp))) (qAL.blk0.mono (hF (blk g9 [.slice A9 (kd l k (d+n)).length c9] 44) (by simp))) k (qAL.blk0.mono (hF (blk g4 [Str (k)] 9) (by simp))) (by omega) (by omega) (by assumption)))) rfl ?_
    rintro⟨A44,c44,m44⟩ h44
    try dsimp only at h44
    change J _ ((44,.slice A44 ((kd l k (d+n)).filter (λq=>!nbl k ((d+n+1:Nat):Int) q)).length c44)::_) _ [_,_,_,_,_,_,_,_,m44] _
    rw [qTN l k (by omega)] at h44⊢
    refine J.b0 (qAI (i:=4) (l:= [.slice A9 (kd l k (d+n)).length c9]) (vs:= [.slice A44 ((kd l k (d+n+1)).length) c44]) O O O O O qBf O O) O O λ_ _=>?_
    change J _ _ _ [_,_,_,_,blk g9 [.slice A44 ((kd l k (d+n+1)).length) c44] 44,_,_,_,_] _
    refine J.a7<|J.a6<|J.A (J.H hK12 ?_)
    refine J.c2 0 4 6 8 9 10 11 ?_
    exact J.L<|J.b O<|J.f ((qAO O O O (by omega)).nat (d+n+1) (by omega)) O<|J.b O<|J.a7<|J.A<|J.a8 (n+1,A44,c44,m44,A39,c39,m39) (λη (hη:_∧128-(d+η.1)<128-(d+n))=>hI0 η hη.1 hη.2) ⟨⟨by dsimp only;omega,λx h1 h2=>by rcases Nat.lt_or_ge x (d+n) with h|h;exact htw x h1 h;rw [show x=d+n by dsimp only at h2;omega,←hcl];omega,h44,h39⟩,by dsimp only;omega⟩ ⟨rfl,rfl,rfl,rfl,rfl,rfl,rfl,trivial⟩ (λ_ h=>h.pick [0,1,2,3,4,8,6] (by decide))
  have hst:qLT l k d (d+n):=⟨by omega,he,by rw [←qGY hf.once];omega,λx h1 h2=>htw x h1 h2⟩
  have hdn:d+n-d=n:=by omega
  refine J.b4<|J.a1<|J.a1<|J.b5 ?_
  refine J.A (J.H hK8 ?_)
  refine J.O 0 6 8 9 ?_
  refine J.j λK14 hK14=>J.g λK15 hK15=>J.f (qAE 4 (v:= .slice A9 (kd l k (d+n)).length c9) O O O qBo O) O<|J.f (qAP qAe O O) O<|J.f (qAY O O O) O<|J.c hK15<|J.a0 0 6 8 9 47 ?_
  refine J.a2 O (λh47=>?_) (λh47=>?_)
  ·
    refine J.j λK16 hK16=>J.c1 [blk g9 [.slice A9 (kd l k (d+n)).length c9] 44,m9] [] (.y 0 (.y 1 (.y 2 (.y 3 (.e 4 (.y 5 (.e 6 .nil))))))) Tryz.wide (by decide+kernel) (by simp) ?_
    refine J.q O (qAE 0 (v:= .slice A9 (kd l k (d+n)).length c9) O O O qBo O) O O<|J.q O (qAH (i:=0) O O O qAe z9_ hr9.sl (by omega)) O O<|J.q O (qAJ O O b9_ (m:=m9) (by simp) (hr9.sl.elem (qAQ (qAc [] (by omega))))) rfl rfl<|J.q rfl (qAB (j:=1) rfl rfl qDP rfl z4_ rfl) rfl rfl<|J.h5 rfl (qAZ (i:=3) (l:= [.slice Ab (bsd l k d (n)).length cb,.bool false,Str [],Str []]) (vs:= [.bool true]) rfl rfl rfl rfl rfl z4_ rfl (by simp)) rfl rfl (by simp) λ_ _=>?_
    change J _ _ _ [F,blk g4 [Str (k)] 9,blk g6 [.slice none 0 0,.bool false,Str [],Str []] 80,blk g8 [.slice Ab (bsd l k d (n)).length cb,.bool true,Str [],Str []] 80,blk g9 [.slice A9 (kd l k (d+n)).length c9] 44,m9,mb] _
    refine J.q O (qAB (j:=2) O O qDP O z9_ O) O O<|J.h5 O (qAZ (i:=3) (l:= [.slice Ab (bsd l k d (n)).length cb,.bool true,Str [],Str []]) (vs:= [Str ((kd l k (d+n)).getD 0 [])]) O O O O O z9_ O (by simp)) rfl rfl (by simp) λ_ _=>?_
    change J _ _ _ [_,_,_,blk g8 [.slice Ab (bsd l k d (n)).length cb,.bool true,Str ((kd l k (d+n)).getD 0 []),Str []] 80,_,_,_] _
    refine J.b9<|J.A (J.H hK16 ?_)
    refine J.G 0 6 8 ?_
    refine J.L<|J.b O<|J.a3 2 qDP z9_ O O O O O<|J.f (qAE 3 (v:=Str ((kd l k (d+n)).getD 0 [])) O O O b9_ O) O<|J.k (qAA O O ent140 (Ct.use0 (λF' hF=>qRx F' g l (hT.mono (hF F (by simp))) ((kd l k (d+n)).getD 0 [])))) rfl λg57 _=>J.p 3 rfl<|J.a3 3 qDP z9_ rfl rfl rfl rfl rfl<|J.b0 (qAZ (i:=3) (l:= [.slice Ab (bsd l k d (n)).length cb,.bool true,Str ((kd l k (d+n)).getD 0 []),Str []]) (vs:= [Str ((Sm.getP l ((kd l k (d+n)).getD 0 [])).getD [])]) rfl rfl rfl rfl rfl z9_ rfl (by simp)) rfl rfl λ_ _=>?_
    change J _ _ _ [_,_,_,blk g8 [.slice Ab (bsd l k d (n)).length cb,.bool true,Str ((kd l k (d+n)).getD 0 []),Str ((Sm.getP l ((kd l k (d+n)).getD 0 [])).getD [])] 80,_,_,_] _
    refine J.c hK14<|J.E 6 8 ?_
    refine J.g λK17 hK17=>J.c9 3 qML qHv O O O O O<|J.b0 (qAI (i:=2) (l:= [.slice none 0 0,.bool false,Str [],Str []]) (vs:= [.slice Ab (bsd l k d (n)).length cb,.bool true,Str ((kd l k (d+n)).getD 0 []),Str ((Sm.getP l ((kd l k (d+n)).getD 0 [])).getD [])]) O O O O O qHv O O) O O λ_ _=>?_
    change J _ _ _ [_,_,blk g6 [.slice Ab (bsd l k d (n)).length cb,.bool true,Str ((kd l k (d+n)).getD 0 []),Str ((Sm.getP l ((kd l k (d+n)).getD 0 [])).getD [])] 80,_,_,_,_] _
    refine J.b O<|J.c hK17<|J.E 6 7 ?_
    exact J.D<|J.b2 hw0 (λ_ _ h=>h) (rv2 O (RV.blkA 2 O O qML qHv) O) (qAn (d+n,Ab,cb,mb) (by dsimp only;rw [hdn];unfold qAr qBy qCG;rw [if_pos (by omega),if_pos (by omega),decide_eq_true (by omega)]) ⟨hst,by dsimp only;rw [hdn];exact hrb⟩ [0,6] rfl (by decide))
  refine J.W hK14<|J.E 6 8 ?_
  refine J.g λK18 hK18=>J.c9 3 qML qHv O O O O O<|J.b0 (qAI (i:=2) (l:= [.slice none 0 0,.bool false,Str [],Str []]) (vs:= [.slice Ab (bsd l k d (n)).length cb,.bool false,Str [],Str []]) O O O O O qHv O O) O O λ_ _=>?_
  change J _ _ _ [F,blk g4 [Str (k)] 9,blk g6 [.slice Ab (bsd l k d (n)).length cb,.bool false,Str [],Str []] 80,blk g8 [.slice Ab (bsd l k d (n)).length cb,.bool false,Str [],Str []] 80,blk g9 [.slice A9 (kd l k (d+n)).length c9] 44,m9,mb] _
  refine J.b O<|J.c hK18<|J.E 6 7 ?_
  exact J.D<|J.b2 hw0 (λ_ _ h=>h) (rv2 O (RV.blkA 2 O O qML qHv) O) (qAn (d+n,Ab,cb,mb) (by dsimp only;rw [hdn];unfold qAr qBy qCG;rw [if_neg (by omega),if_neg (by omega),decide_eq_false (by omega)]) ⟨hst,by dsimp only;rw [hdn];exact hrb⟩ [0,6] rfl (by decide))
structure Pz where
 a:UInt8
 b:UInt8
 v:List UInt8
 deriving DecidableEq
def Pz.cells(x:Pz):List Value:= [B8 (x.a),B8 (x.b),Str (x.v)]
theorem qGL{kv:List Sm.PR}(hf:qCI kv){k:List UInt8}(hk:k.length=16){d s:Nat}(h:qLT kv k d s):qFO (bsd kv k d (s-d)) (qAr kv k s) (qBy kv k s) (qCG kv k s) k d=Sm.ndB kv k d:=by
 have h1:=h.le
 have h2:=h.ge
 have h3:=qHj hf hk (d:=d) (n:=s-d) (by omega) (s-d) (Nat.le_refl _)
 rw [show d+(s-d)=s by omega,show s-(s-d)=d by omega] at h3
 unfold qFO
 rw [qQn hf h,qCB]
 exact h3
theorem qNM{kv:List Sm.PR}(hf:qCI kv){k:List UInt8}(hk:k.length=16){d s:Nat}(h:qLT kv k d s):
    qTI (bsd kv k d (s-d)) (qAr kv k s) (qBy kv k s) (qCG kv k s) (Sm.ndB kv k d) k ((Sm.getP kv k).getD []) d=(Sm.getP kv k).isSome:=by
  obtain ⟨t1,t2⟩:=tells hf h
  unfold qTI
  rw [qGL hf hk h,decide_eq_true rfl,Bool.and_true,t1]
  cases ht:qAr kv k s with
  |false=>rfl
  |true=>
    by_cases hkk:qBy kv k s=k
    · rw [t2 ht hkk,decide_eq_true hkk];simp
    · rw [decide_eq_false hkk];rfl
theorem qGO{kv:List Sm.PR}(hf:qCI kv)(k:List UInt8)(s:Nat):(qCG kv k s).length≤1000000:=by
 unfold qCG
 split
 · exact qGb hf.small _
 · exact Nat.zero_le _
def qRj(bs:List (List UInt8))(th:Bool)(pk pv k v:List UInt8)(d:Nat):List UInt8:=if th=true∧pk≠k then Sm.ndB [(k,v),(pk,pv)] k (d+bs.length) else Sb.leafN k v
def qOq(bs:List (List UInt8))(th:Bool)(pk pv k v:List UInt8)(d:Nat):List UInt8:=clm k d bs (qRj bs th pk pv k v d) bs.length
theorem qJf{kv:List Sm.PR}(hf:qCI kv){k v:List UInt8}(hk:k.length=16)(hv:v.length≤1000000)(hl:kv.length≤100000){d s:Nat}(h:qLT kv k d s):
    qOq (bsd kv k d (s-d)) (qAr kv k s) (qBy kv k s) (qCG kv k s) k v d=Sm.ndB (Sm.putP kv k v) k d:=by
  have h1:=h.le
  have h2:=h.ge
  have hone:=h.one
  have hf':=hf.put hk hv hl
  have h3:=qHj hf' hk (d:=d) (n:=s-d) (by omega) (s-d) (Nat.le_refl _)
  rw [show d+(s-d)=s by omega,show s-(s-d)=d by omega,qTd hf hk hv hl (by omega)] at h3
  unfold qOq
  rw [qCB,←h3]
  congr 1
  unfold qRj
  rw [qCB,show d+(s-d)=s by omega]
  split
  · rename_i hc
    have hc1:(kd kv k s).length=1:=of_decide_eq_true hc.1
    exact(qPt hf hk hv hl h1 (qHh hf.once hc1) hc.2).symm
  · rename_i hc
    refine(qSU hf hk hv hl h1 λp hp=>?_).symm
    have hc1:(kd kv k s).length=1:=by
      rw [qGY hf.once]
      have:=List.length_pos_of_mem hp
      omega
    have ht:qAr kv k s=true:=decide_eq_true hc1
    rw [qHh hf.once hc1,List.mem_singleton] at hp
    rw [hp]
    exact Decidable.by_contra λq=>hc ⟨ht,q⟩
theorem qCp{x y:UInt8}(h:(x^^^y).toNat=0):x=y:=by
 have:x^^^y=0:=UInt8.toNat_inj.1 h
 exact UInt8.xor_eq_zero_iff.1 this
attribute [local irreducible] Sha.tagged Sb.join Sb.lvl Sb.lvls Sb.root
theorem qQq(F:Hp)(A:Option Addr)(n c:Nat):Ct prog 115 [.slice A n c,I 2] [F] (λx:Nat×Nat=> .func (.func 172) #[] #[Ptr x.1,Ptr x.2]) (λ_=>True) (λx=> [F,blk x.1 [.slice A n c] 44,blk x.2 [I 2] 3]):=by
 refine Ct.walk func115 rfl ntmps115 rfl (λw0 hw0=>?_)
 change J _ [(0,_),(1,_)] _ _ _
 refine J.g λK1 hK1=>J.k (qAi O O (l:= [.slice A n c]) O) O λg2 _=>?_
 change J _ _ _ [F,blk g2 [.slice A n c] 44] _
 refine J.k (qAi O O (l:= [I 2]) O) O λg3 _=>?_
 change J _ _ _ [_,_,blk g3 [I 2] 3] _
 refine J.b O<|J.c hK1<|J.E 2 3 ?_
 refine J.j λK2 hK2=>J.g λK3 hK3=>J.c7 2 b3_ O O O O O<|J.f ((qAT O O O).no (by omega)) O<|J.c hK3<|J.G 2 3 6 ?_
 refine J.a5 ?_
 refine J.W hK2<|J.E 2 3 ?_
 refine J.g λK4 hK4=>J.f (qBR O O) O<|J.b O<|J.c hK4<|J.u 4 ?_
 exact J.D<|J.M hw0 O (g2,g3) O trivial [0,1,2] O (by decide)
theorem qOW(Fr:Hp)(gA gB:Nat)(A:Option Addr)(N n c:Nat)(hn:n=2*N)(hnc:n≤c)(hn2:n≤1073741824)(ha:qAL Fr ⟨gA,0,none⟩ [.slice A n c])(hb:qAL Fr ⟨gB,0,none⟩ [I 2]):
    qHp prog 172 [Ptr gA,Ptr gB] Fr (λi=> [.slice (A.map (·.add (2*i*1))) 2 2]) N:=by
  refine qHp.walk func172 rfl ntmps172 rfl (λ{X} M IY S l x0 w0 hw0 h0 hY=>?_)
  change J _ [(0,_),(1,_),(2,_)] _ _ _
  refine J.g λK1 hK1=>J.b O<|J.c hK1<|J.O 0 1 2 4 ?_
  refine J.V<|J.b6 (X:=Nat×X) (λy=> [(0,.func (.yield l) #[] #[]),(1,Ptr gA),(2,Ptr gB),(4,I ((2*y.1:Nat):Int))]) (λy=> [Fr,M y.2]) (λy=>y.1≤N∧IY y.1 y.2) (λy=>N-y.1) (0,x0) (⟨Nat.zero_le _,h0⟩) ⟨O,O,O,O,trivial⟩ (λ_ h=>h) ?_
  rintro⟨i,x⟩ ⟨hi,hI⟩ I0 hI0
  dsimp only at hi hI⊢
  refine J.j λK2 hK2=>J.g λK3 hK3=>J.b O<|J.f (qAJ O O qBo (m:=Fr) (by simp) (ha)) rfl<|J.f (qAP qAe rfl rfl) rfl<|J.f (qAT rfl rfl rfl) rfl<|J.c hK3<|J.a0 0 1 2 4 9 ?_
  refine J.a2 O (λh9=>?_) (λh9=>?_)
  ·
    refine J.W hK2<|J.O 0 1 2 4 ?_
    refine J.j λK4 hK4=>J.V<|J.j λK5 hK5=>J.c1 [Fr,M x] [] (.y 0 (.y 1 (.y 2 (.y 3 (.y 4 (.y 5 (.y 6 .nil))))))) Tryz.wide (by decide+kernel) (by simp) ?_
    refine J.q O (qAJ O O b3_ (m:=Fr) (by simp) (hb)) rfl rfl<|J.q rfl (qAJ rfl rfl qBo (m:=Fr) (by simp) (ha)) rfl rfl<|J.T ?_
    refine J.q O (qCg (l:=2*i) (h:=n) O O qAe z9_ O O (by omega)) O O<|J.q O (qAP qAe O O) O O<|J.q O ((qEU O O O).nat (2) (by omega)) O O<|J.c6 ?_
    refine J.b9<|J.A (J.H hK5 ?_)
    refine J.a0 0 1 2 4 5 ?_
    refine J.j λK6 hK6=>J.g5 ?_
    refine J.d2 (qAx O O) O O O ?_
    refine J.d2 (qAJ O O qBo (m:=Fr) (by simp) (ha)) rfl rfl rfl ?_
    refine J.d2 (qAx O O) O O O ?_
    refine J.d2 (qAx O O) O O O ?_
    refine J.d2 (qAx O O) O O O ?_
    refine J.d2 ((qAO O O O (by omega)).nat (2*i+2) (by omega)) O O O ?_
    refine J.d2 (qAx O O) O O O ?_
    refine J.d2 (qAx O O) O O O ?_
    refine J.d2 ((qAO O O O (by omega)).nat (2*i+2) (by omega)) O O O ?_
    refine J.d2 ((qLv (l:=2*i) (h:=2*i+2) (m:=2*i+2) O O qAe z9_ O O O (by omega)).as (v':= .slice (A.map (·.add (2*i*1))) 2 2) (by rw [if_neg (by omega),show 2*i+2-2*i=2 by omega])) rfl rfl rfl ?_
    refine J.g6 (ex:= []) O O O O O O (hY i x (by omega) hI) ?_
    rintro x' b hb1 hb2
    cases b
    ·
      have hyb:=hb2 rfl
      change J _ _ _ [Fr,M x'] _
      refine J.d2 (qAt O O) O O O ?_
      refine J.e7 ?_
      refine J.A (J.H hK6 ?_)
      refine J.a0 0 1 2 4 30 ?_
      refine J.d0 ?_
      exact J.D<|J.b1<|J.a4<|J.a4<|J.b1<|J.b2 hw0 (λ_ _ h=>h) (qHr O) (λw hs=>⟨x',⟨_,O⟩,.inr hyb,hs⟩)
    have hyb:=hb1 rfl
    change J _ _ _ [Fr,M x'] _
    refine J.d2 (qAt O O) O O O ?_
    refine J.e7 ?_
    refine J.A (J.H hK6 ?_)
    refine J.a0 0 1 2 4 30 ?_
    refine J.a5 ?_
    refine J.b7<|J.a6<|J.A (J.H hK4 ?_)
    refine J.O 0 1 2 4 ?_
    exact J.L<|J.b O<|J.f (qAJ O O b3_ (m:=Fr) (by simp) (hb)) rfl<|J.f ((qAO rfl rfl rfl (by omega)).nat (2*(i+1)) (by omega)) rfl<|J.b rfl<|J.a7<|J.A<|J.a8 (i+1,x') (λy (hy:_∧N-y.1<N-i)=>hI0 y hy.1 hy.2) ⟨⟨by dsimp only;omega,hyb⟩,by dsimp only;omega⟩ ⟨rfl,rfl,rfl,rfl,trivial⟩ (λ_ h=>h)
  refine J.b4<|J.a1<|J.a1<|J.b5 ?_
  exact J.e0 hw0 (λ_ _ h=>h) (qHr O) (λw hs=>⟨x,⟨_,O⟩,.inl (by rw [show N=i by omega];exact hI),hs⟩)
theorem qCC(F:Hp)(d:Int):Ct prog 27 [I d] [F] (λ_:Unit=>I (cnt d)) (λ_=>True) (λ_=> [F]):=by
 refine Ct.walk func27 rfl ntmps27 rfl (λw0 hw0=>?_)
 change J _ [(0,_)] _ _ _
 refine J.g λK1 hK1=>J.b O<|J.c hK1<|J.u 0 ?_
 refine J.j λK2 hK2=>J.g λK3 hK3=>J.b O<|J.f (qAT O O O) O<|J.b O<|J.c4 (d:=5) O (λh5=>?_) (λh5=>?_)
 ·
  refine J.p 3 O<|J.c hK3<|J.E 0 8 ?_
  refine J.d0 ?_
  refine J.g λK4 hK4=>J.b O<|J.c hK4<|J.u 2 ?_
  exact J.D<|J.a4<|J.M hw0 O () (by rw [qE1.2 (by omega)];rfl) trivial [0] rfl (by decide)
 refine J.b O<|J.Z (qAz O O O) O<|J.b O<|J.c hK3<|J.E 0 8 ?_
 refine J.a2 O (λh8=>?_) (λh8=>?_)
 ·
  refine J.g λK5 hK5=>J.b O<|J.c hK5<|J.u 2 ?_
  exact J.D<|J.a4<|J.M hw0 O () (by rw [qE1.2 (by omega)];rfl) trivial [0] rfl (by decide)
 refine J.W hK2<|J.u 0 ?_
 refine J.g λK6 hK6=>J.b O<|J.f ((qHJ (a:=1) (m:=d.toNat) O O (by show some (I d)=_;rw [show((d.toNat:Nat):Int)=d by omega]) ⟨by omega,by have:=Int.pow_pos (n:=2) (m:=d.toNat) (by decide);omega,by rw [Int.one_mul];have h1:=Nat.pow_le_pow_right (n:=2) (by decide) (show d.toNat≤4 by omega);have h2:((2^d.toNat:Nat):Int)≤((2^4:Nat):Int):=Int.ofNat_le.2 h1;simp only [Int.natCast_pow] at h2;exact Int.le_trans h2 (by decide)⟩).as (v':=I (cnt d)) (congrArg I (by unfold cnt;rw [if_neg (by omega)];simp))) rfl<|J.b rfl<|J.c hK6<|J.u 2 ?_
 exact J.D<|J.M hw0 O () O trivial [0] O (by decide)
theorem qQw(F:Hp)(hK:KF F)(d:Int)(l:List (List UInt8))(A:Option Addr)(c:Nat)(hsl:Sl F 1 A l.length c (qAG l))(hsm: ∀s∈l,s.length≤1048576):
    Ct prog 49 [.slice A l.length c,I d] [F] (λ_:Unit=> .tuple #[Str (qI6 l d),I (qI7 l d)]) (λ_=>True) (λ_=> [F]):=by
  refine Ct.walk func49 rfl ntmps49 rfl (λw0 hw0=>?_)
  change J _ [(0,_),(1,_)] _ _ _
  refine J.g λK1 hK1=>J.p 2 O<|J.c hK1<|J.E 0 1 ?_
  refine J.j λK2 hK2=>J.g λK3 hK3=>J.b O<|J.k (qAA O O ent27 (Ct.use0 (λF' hF=>qCC F' d))) O λg10 _=>J.b O<|J.c hK3<|J.E 0 6 ?_
  refine J.V<|J.g λK4 hK4=>J.b O<|J.f (qAY O O O) O<|J.b O<|J.c hK4<|J.G 0 6 11 ?_
  refine J.a2 O (λh11=>?_) (λh11=>?_)
  ·
    refine J.g λK5 hK5=>J.p 2 O<|J.c hK5<|J.E 4 5 ?_
    exact J.D<|J.b1<|J.a4<|J.b2 hw0 (λ_ _ h=>h) (qB2 O O O) (qAn () (by unfold qI6 qI7;rw [if_pos (show cnt d=0 by omega)];rfl) trivial [0] rfl (by decide))
  refine J.g λK6 hK6=>J.p 2 O<|J.f (qAP qAe O O) O<|J.f (qAb O O O) O<|J.b O<|J.d5 [0,1] [F,(λ_=>none)] O (by decide)<|J.c hK6<|J.E 0 14 ?_
  refine J.a2 O (λh14=>?_) (λh14=>?_)
  ·
    refine J.g λK7 hK7=>J.p 2 O<|J.c hK7<|J.E 4 5 ?_
    exact J.D<|J.b1<|J.a4<|J.b2 hw0 (λ_ _ h=>h) (qB2 O O O) (qAn () (by unfold qI6 qI7;rw [if_neg (show¬cnt d=0 by omega),if_pos (show l.length≠cnt d by omega)];rfl) trivial [0] rfl (by decide))
  refine J.b7<|J.a6<|J.A (J.H hK2 ?_)
  refine J.u 0 ?_
  refine J.j λK8 hK8=>J.V ?_
  have hd0:cnt d≠0:=by omega
  have hld:l.length=2^d.toNat:=by rw [←qTa hd0];omega
  have hd4: ¬(d<0∨4<d):=λe=>hd0 (qE1.2 e)
  refine J.i6 (X:=Nat×Option Addr×Nat×Hp) (λx=> [(0,.slice x.2.1 (Sb.lvls l x.1).length x.2.2.1)]) (λx=> [F,x.2.2.2]) (λx=>x.1≤d.toNat∧ ∃m,(m=F∨m=x.2.2.2)∧Sl m 1 x.2.1 (Sb.lvls l x.1).length x.2.2.1 (qAG (Sb.lvls l x.1))) (λx=>d.toNat-x.1) (0,A,c,λ_=>none) (⟨Nat.zero_le _,F,.inl O,by rw [Sb.lvls_zero];exact hsl⟩) ⟨by rw [Sb.lvls_zero];rfl,trivial⟩ (λ_ h=>h) ?_
  rintro⟨k,A',c',mm⟩ wL ⟨hk,m,hm,hsl'⟩ hxL I0 hI0
  dsimp only at hk hm hsl'⊢
  obtain ⟨L,hL⟩: ∃L,L=Sb.lvls l k:=⟨_,rfl⟩
  have hlen:=Sb.lvls_length hld k hk
  have hLs:=Sb.lvls_small hsm k
  have hp16:2^(d.toNat-k)≤16:=Nat.le_trans (Nat.pow_le_pow_right (by decide) (show d.toNat-k≤4 by omega)) (by decide)
  have hp1:=Nat.two_pow_pos (d.toNat-k)
  refine J.j λK9 hK9=>J.g λK10 hK10=>J.b O<|J.f (qAP qAe O O) O<|J.f (qAz O O O) O<|J.c hK10<|J.E 0 21 ?_
  refine J.a2 O (λh21=>?_) (λh21=>?_)
  ·
    refine J.W hK9<|J.u 0 ?_
    refine J.V<|J.g λK11 hK11=>J.k (qAN O zeroValue44 O) O λg7 _=>?_
    change J _ _ _ [F,mm,blk g7 _ 44] _
    refine J.c hK11<|J.E 0 7 ?_
    refine J.j λK12 hK12=>J.j λK13 hK13=>?_
    rw [←hL]
    refine J.L<|J.b O<|J.k (qAA O O ent115 (Ct.use (new:=λx:Nat×Nat=> [blk x.1 [.slice A' L.length c'] 44,blk x.2 [I 2] 3]) (λF' _=>qQq F' A' L.length c'))) O ?_
    rintro⟨gA,gB⟩ _
    change J _ _ _ [_,_,_,blk gA [.slice A' L.length c'] 44,blk gB [I 2] 3] _
    refine J.c hK13<|J.E 7 23 ?_
    refine J.V<|J.d5 [2,5,0,1,3,4] [blk g7 [.slice none 0 0] 44,(λ_=>none),F,mm,blk gA [.slice A' L.length c'] 44,blk gB [I 2] 3] O (by decide) ?_
    rw [←hL] at hlen hsl' hLs h21
    obtain ⟨q,hq⟩: ∃q,d.toNat-k=q+1:=Nat.exists_eq_succ_of_ne_zero (λe=>by rw [e,Nat.pow_zero] at hlen;omega)
    have hev:L.length=2*(L.length/2):=by rw [hlen,hq,Nat.pow_succ];omega
    have hLn:L.length≤1073741824:=by omega
    have hlc:=hsl'.2.1
    refine J.g9 (λx:Option Addr×Nat×Nat×Hp=> [blk g7 [.slice x.1 x.2.1 x.2.2.1] 44,x.2.2.2]) [F,mm,blk gA [.slice A' L.length c'] 44,blk gB [I 2] 3] (λi x=>x.2.1=i∧Row x.2.2.2 9 1 x.1 i x.2.2.1 (qAG ((Sb.lvl L).take i))) (λ_ _=>False) (none,0,0,λ_=>none) O ent172 (λFr hF=>qOW Fr gA gB A' (L.length/2) L.length c' hev hlc hLn (qAL.blk0.mono (hF (blk gA [.slice A' L.length c'] 44) (by simp))) (qAL.blk0.mono (hF (blk gB [I 2] 3) (by simp)))) (λ_ _=>rfl) rfl (⟨rfl,by rw [List.take_zero];exact qBU.nil⟩) ?_ ?_ ?_
    ·
      intro i x l wa wb hi hI K14 Post14 hK14 hN14 hR14 hE14
      obtain ⟨Ax,nx,cx,mx⟩:=x
      obtain ⟨hnx,hr⟩:=hI
      dsimp only at hnx hr
      subst hnx
      have hc:=hsl'.cut (lo:=2*nx) (hi:=2*nx+2) (mx:=2*nx+2) (by omega) (by omega) (by omega)
      rw [if_neg (by omega),show 2*nx+2-2*nx=2 by omega,qDC,qGG] at hc
      have hcl:((L.take (2*nx+2)).drop (2*nx)).length=2:=by rw [List.length_drop,List.length_take];omega
      have hc0:((L.take (2*nx+2)).drop (2*nx)).getD 0 []=L.getD (2*nx) []:=by simp [List.getD_eq_getElem?_getD,List.getElem?_drop,List.getElem?_take]
      have hc1:((L.take (2*nx+2)).drop (2*nx)).getD 1 []=L.getD (2*nx+1) []:=by simp [List.getD_eq_getElem?_getD,List.getElem?_drop,List.getElem?_take]
      change J _ ((24,_)::_) _ [blk g7 [.slice Ax nx cx] 44,mx,F,mm,blk gA [.slice A' L.length c'] 44,blk gB [I 2] 3] _
      refine J.e2 ?_
      refine J.b O<|J.e3 ?_
      refine J.A (hK14 _ _ ?_)
      refine J.E 7 8 ?_
      refine J.g4 ?_
      refine J.i1 [blk g7 [.slice Ax nx cx] 44,F,mm,blk gA [.slice A' L.length c'] 44,blk gB [I 2] 3] [10] (.y 0 (.y 1 (.y 2 (.y 3 (.y 4 (.y 5 (.y 6 (.e 7 (.e 8 (.e 9 (.e 10 .nil))))))))))) Tryz.wide (by decide+kernel) (by simp) ?_
      refine J.q O (qAE 0 O O O qBo O) O O<|J.T ?_
      refine J.q O (qAH (i:=0) O O O qAe z9_ hc (by omega)) O O<|J.q O (qAJ O O b9_ (m:=m) (by rcases hm with rfl|rfl<;>simp) (v:=Str (L.getD (2*nx) [])) (hc.elem (qAQ (qAc [] (show 0<((L.take (2*nx+2)).drop (2*nx)).length by rw [hcl];omega))|>.trans (by rw [hc0])))) rfl rfl<|J.T ?_
      refine J.q O (qAH (i:=1) O O O qAe z9_ hc (by omega)) O O<|J.q O (qAJ O O b9_ (m:=m) (by rcases hm with rfl|rfl<;>simp) (v:=Str (L.getD (2*nx+1) [])) (hc.elem (qAQ (qAc [] (show 1<((L.take (2*nx+2)).drop (2*nx)).length by rw [hcl];omega))|>.trans (by rw [hc1])))) rfl rfl<|J.a9 rfl (qAA rfl rfl ent116 (Ct.use0 (λF' hF=>qEk F' (hK.mo hF) (L.getD (2*nx) []) (L.getD (2*nx+1) []) (Sb.getD_small hLs _) (Sb.getD_small hLs _)))) rfl (by simp) λg32 _=>J.a9 rfl (qAF (l:= [.tmp 32]) (xs:= [[Str (Sb.join (L.getD (2*nx) []) (L.getD (2*nx+1) []))]]) rfl rfl rfl rfl qAe el9 rfl (by decide) (by decide) (by simp)) rfl (by simp) λg33 _=>?_
      change J _ _ _ [_,_,_,_,_,_,blk g33 [Str (Sb.join (L.getD (2*nx) []) (L.getD (2*nx+1) []))] 9] _
      refine J.a9 O (qAW (i:=1) (m2:=blk g33 [Str (Sb.join (L.getD (2*nx) []) (L.getD (2*nx+1) []))] 9) (ys:=qAG [Sb.join (L.getD (2*nx) []) (L.getD (2*nx+1) [])]) O O O qAe qAe el9 O hr (by simp) (slS [Sb.join (L.getD (2*nx) []) (L.getD (2*nx+1) [])] rfl) (qCL _) (by omega) (by omega)) rfl (by simp) ?_
      rintro⟨A34,c34,m34⟩ h34
      try dsimp only at h34
      change J _ ((34,.slice A34 (nx+1) c34)::_) _ [_,m34,_,_,_,_,_] _
      refine J.d3 O (qAZ (i:=0) (vs:= [.slice A34 (nx+1) c34]) O O O O O qBf O (by simp)) rfl rfl rfl λ_ _=>?_
      change J _ _ _ [blk g7 [.slice A34 (nx+1) c34] 44,_,_,_,_,_,_] _
      refine J.c8 [0,1,2,3,4,5] [blk g7 [.slice A34 (nx+1) c34] 44,m34,F,mm,blk gA [.slice A' L.length c'] 44,blk gB [I 2] 3] O (by decide)<|J.i2 ?_
      refine J.a6 ?_
      exact hN14 _ (A34,nx+1,c34,m34) ⟨rfl,by rw [Sb.lvl_take (by omega)];rw [show∀a b,qAG (a++b)=qAG a++qAG b from λa b=>by simp [qAG]];exact h34⟩
    ·
      intro w14 x hx14 hI
      obtain ⟨Ax,nx,cx,mx⟩:=x
      obtain ⟨hnx,hr⟩:=hI
      dsimp only at hnx hr
      subst hnx
      have hlen1:(Sb.lvls l (k+1)).length=L.length/2:=by rw [Sb.lvls_succ,Sb.lvl_length,hL]
      have hfin:Sl mx 1 Ax (Sb.lvls l (k+1)).length cx (qAG (Sb.lvls l (k+1))):=by
        rw [hlen1,Sb.lvls_succ,←hL]
        rw [List.take_of_length_le (by rw [Sb.lvl_length];exact Nat.le_refl _)] at hr
        exact hr.sl
      change J _ _ _ [blk g7 [.slice Ax (L.length/2) cx] 44,mx,F,mm,blk gA [.slice A' L.length c'] 44,blk gB [I 2] 3] _
      refine J.a6<|J.A (J.H hK12 ?_)
      refine J.u 7 ?_
      refine J.L<|J.c7 0 qBo O O O O O<|J.c8 [2,1] [F,mx] O (by decide)<|J.b O<|J.a7<|J.a6<|J.A ?_
      rw [show Ax=Ax from rfl]
      exact J.a8 (k+1,Ax,cx,mx) (λx (hx:_∧d.toNat-x.1<d.toNat-k)=>hI0 x _ hx.1 hx.2 hx14) ⟨⟨by dsimp only;omega,mx,.inr O,hfin⟩,by dsimp only;omega⟩ ⟨by dsimp only;rw [hlen1];rfl,trivial⟩ (λ_ h=>h)
    intro w14 x c hx14 hS
    exact hS.elim
  refine J.b4<|J.a1<|J.a1<|J.b5 ?_
  refine J.A (J.H hK8 ?_)
  refine J.u 0 ?_
  refine J.j λK15 hK15=>?_
  have hkd:k=d.toNat:=by
    by_cases e:k=d.toNat
    · exact e
    · have:=Nat.pow_le_pow_right (n:=2) (by decide) (show 1≤d.toNat-k by omega)
      omega
  refine J.L<|J.b O<|J.f (qAH (i:=0) O O O qAe z9_ hsl' (by omega)) O<|J.f (qAJ O O b9_ (m:=m) (by rcases hm with rfl|rfl<;>simp) (v:=Str ((Sb.lvls l k).getD 0 [])) (hsl'.elem (qAQ (qAc [] (by omega))))) rfl<|J.p 2 rfl<|J.c hK15<|J.E 4 5 ?_
  exact J.D<|J.f6 hw0 hxL (λ_ _ h=>h) (qB2 O O O) (qAn () (by unfold qI6 qI7;rw [if_neg hd0,if_neg (show¬l.length≠cnt d by omega),if_pos rfl,Sb.root,←hkd]) trivial [0] rfl (by decide))
end Go.Proofs.YtllnfioplpipiaaGreatDoor
namespace Go.Proofs.YtllnfioplpipiaaGreatDoor
open Go Go.Fw Go.Proofs.Tryz
set_option maxRecDepth 100000
set_option maxHeartbeats 1000000
theorem ent150:qAD prog 150:=qAD.of func150 rfl (by kernel_rfl)
theorem ent170:qAD prog 170:=qAD.of func170 rfl (by kernel_rfl)
structure Tw where
 a:UInt8
 b:UInt8
 deriving DecidableEq
def Tw.cells(x:Tw):List Value:= [B8 (x.a),B8 (x.b)]
def qCM(l:List Sm.PR)(d i:Nat):List (List UInt8):=(List.range i).map λj=>Sm.ndB l (kF j d) d
abbrev qAg(l:List Sm.PR)(d:Nat):List (List UInt8):=qCM l d (2^d)
theorem qFY(l:List Sm.PR)(d i:Nat):qCM l d (i+1)=qCM l d i++ [Sm.ndB l (kF i d) d]:=by unfold qCM;rw [List.range_succ,List.map_append];rfl
theorem qBz(l:List Sm.PR)(d i:Nat):(qCM l d i).length=i:=by unfold qCM;rw [List.length_map,List.length_range]
theorem qEJ(l:List Sm.PR)(d:Nat){i j:Nat}(h:j<i):(qCM l d i).getD j []=Sm.ndB l (kF j d) d:=by
 unfold qCM
 rw [List.getD_eq_getElem?_getD,List.getElem?_map,List.getElem?_range h];rfl
theorem qDd{d:Nat}(hd:d≤4):cnt ((d:Nat):Int)=2^d:=by
 unfold cnt
 rw [if_neg (by omega)];rfl
theorem pow4{d:Nat}(hd:d≤4):0<2^d∧2^d≤16:=⟨Nat.two_pow_pos _,Nat.le_trans (Nat.pow_le_pow_right (by decide) hd) (by decide)⟩
theorem qNj{l:List Sm.PR}(hf:qCI l){e:Nat}(he:e≤15):Sb.lvl (qAg l (e+1))=qAg l e:=by
 have e2:2^(e+1)/2=2^e:=by rw [Nat.pow_succ,Nat.mul_div_cancel _ (by decide)]
 have h2:2^(e+1)=2^e*2:=Nat.pow_succ 2 e
 unfold Sb.lvl
 rw [qBz,e2]
 show _=(List.range (2^e)).map _
 refine List.map_congr_left λj hj=>?_
 have hj2:=List.mem_range.1 hj
 rw [qEJ _ _ (by omega),qEJ _ _ (by omega)]
 exact qL3 hf (qIh j e) he (qN9 (by omega) hj2).symm
theorem qGT{l:List Sm.PR}(hf:qCI l){d:Nat}(hd:d≤16): ∀j,j≤d→Sb.lvls (qAg l d) j=qAg l (d-j)
 |0,_=>rfl
 |j+1,hj=>by
  rw [Sb.lvls_succ,qGT hf hd j (by omega),show d-j=(d-(j+1))+1 by omega,qNj hf (by omega)]
theorem qL1{l:List Sm.PR}(hf:qCI l){d:Nat}(hd:d≤16):Sb.root (qAg l d) d=Sm.nd 128 l:=by
 have e:Sb.root (qAg l d) d=(Sb.lvls (qAg l d) d).getD 0 []:=by unfold Sb.root;rfl
 rw [e,qGT hf hd d (Nat.le_refl _),Nat.sub_self,qEJ _ _ (by decide),Sm.ndB_zero]
theorem qQF{l:List Sm.PR}(hf:qCI l){d:Nat}(hd:d≤4):qI7 (qAg l d) ((d:Nat):Int)=0∧qI6 (qAg l d) ((d:Nat):Int)=Sm.nd 128 l:=by
 have h1:qI7 (qAg l d) ((d:Nat):Int)=0:=by
  unfold qI7
  rw [qDd hd,if_neg (by have:=pow4 hd;omega),qBz,if_neg (λh=>h rfl)]
 refine⟨h1,?_⟩
 unfold qI6
 rw [if_pos h1]
 exact qL1 hf (by omega)
def ofV(k:List UInt8)(d:Nat):Nat:=if k.length=16 then qEg k d else 0
def ofE(k:List UInt8):Nat:=if k.length=16 then 0 else 10
theorem qOi(F:Hp)(hK:KF F)(g:Nat)(l:List Sm.PR)(hT:qCF F g l)(hf:qCI l)(d:Nat)(hd:d≤4):Ct prog 87 [Ptr g,I ((d:Nat):Int)] [F] (λx:Option Addr×Nat×Hp=> .tuple #[.slice x.1 (qAg l d).length x.2.1,I ((0:Nat):Int)]) (λx=>Row x.2.2 9 1 x.1 (qAg l d).length x.2.1 (qAG (qAg l d))) (λx=> [F,x.2.2]):=by
 have hpw:=pow4 hd
 have hcn:=qDd hd
 refine Ct.walk func87 rfl ntmps87 rfl (λw0 hw0=>?_)
 change J _ [(0,_),(1,_)] _ _ _
 refine J.g λK1 hK1=>J.p 2 O<|J.c hK1<|J.E 0 1 ?_
 refine J.g λK2 hK2=>J.b O<|J.k (qAA O O ent27 (Ct.use0 (λF' hF=>qCC F' ((d:Nat):Int)))) O λg10 _=>J.b O<|J.c hK2<|J.G 0 1 6 ?_
 refine J.j λK3 hK3=>J.j λK4 hK4=>?_
 rw [hcn]
 refine J.L<|J.b O<|J.f ((qAY O O O).no (by omega)) O<|J.c hK4<|J.O 0 1 6 12 ?_
 refine J.a5 ?_
 refine J.W hK3<|J.G 0 1 6 ?_
 refine J.g λK5 hK5=>J.b O<|J.c hK5<|J.O 0 1 6 7 ?_
 refine J.j λK6 hK6=>J.g λK7 hK7=>J.p 2 O<|J.c hK7<|J.a0 0 1 7 13 14 ?_
 refine J.V<|J.b6 (X:=Nat×Option Addr×Nat×Hp) (λζ=> [(0,Ptr g),(1,I ((d:Nat):Int)),(7,.slice ζ.2.1 ((qCM l d ζ.1).length) ζ.2.2.1),(13,I ((2^d:Nat):Int)),(14,I ((ζ.1:Nat):Int))]) (λζ=> [F,ζ.2.2.2]) (λζ=>ζ.1≤2^d∧Row ζ.2.2.2 9 1 ζ.2.1 (qCM l d ζ.1).length ζ.2.2.1 (qAG (qCM l d ζ.1))) (λζ=>2^d-ζ.1) (0,none,0,(λ_=>none)) (⟨Nat.zero_le _,qBU.nil⟩) ⟨O,O,O,O,O,trivial⟩ (λ_ h=>h.empty.pick [0,1] (by decide)) ?_
 rintro⟨i,A,c,m⟩ ⟨hi,hr⟩ I0 hI0
 dsimp only at hi hr⊢
 have hnl:=qBz l d i
 refine J.g λK8 hK8=>J.f (qAT O O O) O<|J.c hK8<|J.b8 0 1 7 13 14 15 ?_
 refine J.j λK9 hK9=>J.a2 O (λh15=>?_) (λh15=>?_)
 ·
  have hi2:i<2^d:=by omega
  have hkf:=qIh i d
  have hmd:min (((d:Nat):Int)).toNat 128=d:=by rw [Int.toNat_natCast];omega
  refine J.W hK9<|J.a0 0 1 7 13 14 ?_
  refine J.j λK10 hK10=>J.V<|J.g λK11 hK11=>J.p 2 O<|J.c hK11<|J.b8 0 1 7 8 13 14 ?_
  refine J.L<|J.p 4 O<|J.k (qAA O O ent150 (Ct.use0 (λF' hF=>qIr F' i d (by omega) (by assumption)))) O λg21 _=>J.b O<|J.k (qAA O O ent138 (Ct.use0 (λF' hF=>qEj F' (hK.mo hF) g l (hT.mono (hF F (by simp))) (by assumption) (kF i d) (by first|omega|decide) ((d:Nat):Int) (by first|assumption|exact qGt (by assumption)|exact qKO (by assumption) (by assumption))))) rfl λg23 _=>J.k (qAF (l:= [.tmp 23]) (xs:= [[Str (Sm.ndB l (kF i d) (min ((d:Nat):Int).toNat 128))]]) rfl rfl rfl rfl qAe el9 rfl (by decide) (by decide) (by simp)) rfl λg24 _=>?_
  change J _ _ _ [F,m,blk g24 [Str (Sm.ndB l (kF i d) (min ((d:Nat):Int).toNat 128))] 9] _
  refine J.k (qAW (i:=1) (xs:=qAG (qCM l d i)) (m2:=blk g24 [Str (Sm.ndB l (kF i d) (min ((d:Nat):Int).toNat 128))] 9) (ys:= [[Str (Sm.ndB l (kF i d) (min ((d:Nat):Int).toNat 128))]]) O O O qAe qAe el9 O hr (by simp) ((qA4 (q:=True) (qAG [Sm.ndB l (kF i d) (min ((d:Nat):Int).toNat 128)]) rfl (by simp [qAG]) rfl).sl) rfl (by omega) (by omega)) rfl ?_
  rintro⟨A25,c25,m25⟩ h25
  try dsimp only at h25
  change J _ ((25,.slice A25 (((qCM l d i).length)+1) c25)::_) _ [_,m25,_] _
  rw [←qBg] at h25
  refine J.b O<|J.a7<|J.a6<|J.A (J.H hK10 ?_)
  refine J.a0 0 1 7 13 14 ?_
  exact J.L<|J.f ((qAO O O O (by omega)).nat (i+1) (by omega)) O<|J.b O<|J.a7<|J.A<|J.a8 (i+1,A25,c25,m25) (λη (hη:_∧2^d-η.1<2^d-i)=>hI0 η hη.1 hη.2) ⟨⟨by dsimp only;omega,by dsimp only;rw [qFY,List.length_append];rw [hmd] at h25;exact h25⟩,by first|omega|(dsimp only;omega)⟩ ⟨rfl,rfl,by dsimp only;rw [qFY,List.length_append];rfl,rfl,rfl,trivial⟩ (λ_ h=>h.pick [0,1] (by decide))
 refine J.b4<|J.a1<|J.a1<|J.b5 ?_
 refine J.A (J.H hK6 ?_)
 refine J.u 7 ?_
 refine J.g λK12 hK12=>J.p 3 O<|J.c hK12<|J.E 4 5 ?_
 refine J.D ?_
 obtain rfl:i=2^d:=by omega
 exact J.b2 hw0 (λ_ _ h=>h) (qB2 O O O) (qAn (A,c,m) O hr [0,1] O (by decide))
theorem qRh(F:Hp)(k:List UInt8)(hk:k.length≤1000000)(d:Nat)(hd:d≤4):Ct prog 112 [Str (k),I ((d:Nat):Int)] [F] (λ_:Unit=> .tuple #[I ((ofV k d:Nat):Int),I ((ofE k:Nat):Int)]) (λ_=>True) (λ_=> [F]):=by
 have hpw:=pow4 hd
 have hcn:=qDd hd
 refine Ct.walk func112 rfl ntmps112 rfl (λw0 hw0=>?_)
 change J _ [(0,_),(1,_)] _ _ _
 refine J.g λK1 hK1=>J.p 2 O<|J.c hK1<|J.E 0 1 ?_
 refine J.j λK2 hK2=>J.V<|J.g λK3 hK3=>J.b O<|J.k (qAA O O ent27 (Ct.use0 (λF' hF=>qCC F' ((d:Nat):Int)))) O λg8 _=>J.f ((qAY O O O).no (by omega)) O<|J.b O<|J.c hK3<|J.G 0 1 6 ?_
 refine J.a5 ?_
 refine J.g λK4 hK4=>J.b O<|J.f (qAl u9_ O O) O<|J.f (qAb O O O) O<|J.b O<|J.c hK4<|J.G 0 1 10 ?_
 refine J.a2 O (λh10=>?_) (λh10=>?_)
 ·
  refine J.g λK5 hK5=>J.p 2 O<|J.c hK5<|J.E 4 5 ?_
  exact J.D<|J.b1<|J.a4<|J.b2 hw0 (λ_ _ h=>h) (qB2 O O O) (qAn () (by unfold ofV ofE;rw [if_neg (by omega),if_neg (by omega)];rfl) trivial [0] rfl (by decide))
 refine J.b7<|J.a6<|J.A (J.H hK2 ?_)
 refine J.E 0 1 ?_
 refine J.g λK6 hK6=>J.p 2 O<|J.k (qAA O O ent170 (Ct.use0 (λF' hF=>qTf F' k (by first|omega|exact hsm _) d (by omega)))) O λg16 _=>J.p 2 O<|J.c hK6<|J.E 4 5 ?_
 exact J.D<|J.b2 hw0 (λ_ _ h=>h) (qB2 O O O) (qAn () (by unfold ofV ofE;rw [if_pos (by omega),if_pos (by omega)];rfl) trivial [0] rfl (by decide))
end Go.Proofs.YtllnfioplpipiaaGreatDoor
