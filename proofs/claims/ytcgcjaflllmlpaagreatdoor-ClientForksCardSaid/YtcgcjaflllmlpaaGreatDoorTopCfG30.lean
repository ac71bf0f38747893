/- A part of the proof. -/
import Derived.Test.YtcgcjaflllmlpaaGreatDoorTopCfG8
import Derived.Test.YtcgcjaflllmlpaaGreatDoorTopCfG29
set_option linter.unusedSimpArgs false
set_option linter.unusedVariables false
namespace Go.Proofs.YtcgcjaflllmlpaaGreatDoor
open Go Go.Fw Go.Proofs.Tryz
set_option maxRecDepth 100000
set_option maxHeartbeats 1000000
theorem ent89:qAD prog 89:=qAD.of func89 rfl (by kernel_rfl)
theorem ent91:qAD prog 91:=qAD.of func91 rfl (by kernel_rfl)
theorem ent94:qAD prog 94:=qAD.of func94 rfl (by kernel_rfl)
theorem ent95:qAD prog 95:=qAD.of func95 rfl (by kernel_rfl)
theorem ent97:qAD prog 97:=qAD.of func97 rfl (by kernel_rfl)
theorem ent98:qAD prog 98:=qAD.of func98 rfl (by kernel_rfl)
theorem ent158:qAD prog 158:=qAD.of func158 rfl (by kernel_rfl)
def qFS(bs:List (List UInt8))(th:Bool)(pk pv k:List UInt8)(d:Nat):List UInt8:=clm k d bs (if th=true then Sb.leafN pk pv else [0]) bs.length
def qOj(bs:List (List UInt8))(th:Bool)(pk pv nd k v:List UInt8)(d:Nat):Bool:=th&&(decide (pk=k)&&(decide (pv=v)&&decide (qFS bs th pk pv k d=nd)))
def qGn(bs:List (List UInt8))(th:Bool)(pk pv nd k:List UInt8)(d:Nat):Bool:=(!th||decide (pk≠k))&&decide (qFS bs th pk pv k d=nd)
theorem qNK(k v:List UInt8):(Sb.leafN k v).length≤17:=by unfold Sb.leafN;rw [jD,Sha.tagged_length];exact jK _
theorem qIg(F:Hp)(hK:KF F)(A:Option Addr)(c:Nat)(bs:List (List UInt8))(hs:Sl F 1 A bs.length c (qAI bs))(th:Bool)(pk pv k:List UInt8)(d:Nat)(hg:qK0 bs th pk pv k d)(hpv:pv.length≤1000000):Cz prog 98 [.agg #[.slice A bs.length c,.bool (th),Str (pk),Str (pv)],Str (k),I ((d:Nat):Int)] F (Str (qFS bs th pk pv k d)):=by
 have hle:=hg.le
 have hk16:=hg.k16
 have hsm:=hg.small
 refine Ct.walk func98 rfl ntmps98 rfl (λw0 hw0=>?_)
 refine J.f λ_ j1=>J.p (qAd O O O) O λg3 _=>J.b O<|J.c j1 ?_
 refine J.k λ_ j2=>J.f λ_ j3=>J.b7 1 qF1 qCl O O O O O<|J.q 2 O<|J.p (qAB O O ent97 (Ct.use0 (λF' hF=>qLx F' A c bs (hs.mono (Fa hF)) th pk pv k d (by assumption)))) O λg11 _=>J.g (qAy O O) O<|J.c j3 ?_
 refine J.a1 ?_
 refine J.M j2 ?_
 refine J.f λ_ j4=>J.b O<|J.c j4 ?_
 refine J.k λ_ j5=>J.f λ_ j6=>J.T 1 qDs z4_ O O O O O<|J.a5 1 b4_ O O O O O<|J.c j6 ?_
 refine J.c6 O (λh14=>?_) (λh14=>?_)
 ·
  have hpl:=(hg.yes h14).1
  refine J.H<|J.T 2 qDs z9_ O O O O O<|J.a5 1 b9_ O O O O O<|J.T 3 qDs z9_ O O O O O<|J.a5 1 b9_ O O O O O<|J.p (qAB O O ent157 (Ct.use0 (λF' hF=>qMf F' (hK.mo hF) pk pv (by first|omega|exact jk O) (by first|omega|exact jk O)))) O λg19 _=>J.b O<|J.c j5 ?_
  refine J.f λ_ j7=>J.b7 1 qF1 qCl O O O O O<|J.q 3 O<|J.p (qAB O O ent158 (Ct.use0 (λF' hF=>qJ3 F' (hK.mo hF) A c bs (hs.mono (Fa hF)) th pk pv (Sb.leafN pk pv) k d (by assumption) (by assumption) (by assumption) (by first|assumption|exact qNK _ _|exact jk O)))) O λg24 _=>J.b O<|J.c j7 ?_
  exact J.A<|J.E hw0 O () (by unfold qFS;first|rw [if_pos (by assumption)]|rw [if_neg (by simp [*])]) trivial [0] rfl (by decide)
 refine J.M j5 ?_
 refine J.f λ_ j8=>J.b7 1 qF1 qCl O O O O O<|J.q 3 O<|J.p (qAB O O ent158 (Ct.use0 (λF' hF=>qJ3 F' (hK.mo hF) A c bs (hs.mono (Fa hF)) th pk pv ([0]) k d (by assumption) (by assumption) (by assumption) (by first|assumption|exact qNK _ _|exact jk O)))) O λg24 _=>J.b O<|J.c j8 ?_
 exact J.A<|J.E hw0 O () (by unfold qFS;first|rw [if_pos (by assumption)]|rw [if_neg (by simp [*])]) trivial [0] rfl (by decide)
theorem qNS(F:Hp)(hK:KF F)(A:Option Addr)(c:Nat)(bs:List (List UInt8))(hs:Sl F 1 A bs.length c (qAI bs))(th:Bool)(pk pv k:List UInt8)(d:Nat)(hg:qK0 bs th pk pv k d)(nd v:List UInt8)(hpv:pv.length≤1000000):Cz prog 44 [.agg #[.slice A bs.length c,.bool (th),Str (pk),Str (pv)],Str (nd),Str (k),Str (v),I ((d:Nat):Int)] F (.bool (qOj bs th pk pv nd k v d)):=by
 have hle:=hg.le
 have hk16:=hg.k16
 have hsm:=hg.small
 refine Ct.walk func44 rfl ntmps44 rfl (λw0 hw0=>?_)
 refine J.f λ_ j1=>J.p (qAd O O O) O λg5 _=>J.b O<|J.c j1 ?_
 refine J.f λ_ j2=>J.b7 1 qF1 qCl O O O O O<|J.q 2 O<|J.p (qAB O O ent97 (Ct.use0 (λF' hF=>qLx F' A c bs (hs.mono (Fa hF)) th pk pv k d (by assumption)))) O λg14 _=>J.b O<|J.G (qAA O O qDs O z4_ O) O<|J.G (qAE 1 O O O b4_ O) O<|J.q 2 O<|J.e8 (d:=19) O (λh19=>?_) (λh19=>?_)
 ·
  refine J.G (qAA O O qDs O z9_ O) O<|J.G (qAE 1 O O O b9_ O) O<|J.b O<|J.G (qBS O O O) O<|J.q 2 O<|J.b9 (d:=25) O (λh25=>?_) (λh25=>?_)
  ·
   refine J.G (qAA O O qDs O z9_ O) O<|J.G (qAE 1 O O O b9_ O) O<|J.b O<|J.G (qBS O O O) O<|J.q 2 O<|J.b9 (d:=31) O (λh31=>?_) (λh31=>?_)
   ·
    refine J.G (qAY 1 O O O qF1 qCl O) O<|J.q 2 O<|J.c9 (qAB O O ent98 (Ct.use0 (λF' hF=>qIg F' (hK.mo hF) A c bs (hs.mono (Fa hF)) th pk pv k d (by assumption) (by assumption)))) O λg35 _=>J.b O<|J.G (qBS O O O) O<|J.q 2 O<|J.c j2 ?_
    exact J.A<|J.E hw0 O () (by unfold qOj;simp [*]) trivial [0] rfl (by decide)
   refine J.q 8 O<|J.c j2 ?_
   exact J.A<|J.E hw0 O () (by unfold qOj;simp [*]) trivial [0] rfl (by decide)
  refine J.q 14 O<|J.c j2 ?_
  exact J.A<|J.E hw0 O () (by unfold qOj;simp [*]) trivial [0] rfl (by decide)
 refine J.q 20 O<|J.c j2 ?_
 exact J.A<|J.E hw0 O () (by unfold qOj;simp [*]) trivial [0] rfl (by decide)
theorem qOc(F:Hp)(hK:KF F)(A:Option Addr)(c:Nat)(bs:List (List UInt8))(hs:Sl F 1 A bs.length c (qAI bs))(th:Bool)(pk pv k:List UInt8)(d:Nat)(hg:qK0 bs th pk pv k d)(nd:List UInt8)(hpv:pv.length≤1000000):Cz prog 42 [.agg #[.slice A bs.length c,.bool (th),Str (pk),Str (pv)],Str (nd),Str (k),I ((d:Nat):Int)] F (.bool (qGn bs th pk pv nd k d)):=by
 have hle:=hg.le
 have hk16:=hg.k16
 have hsm:=hg.small
 refine Ct.walk func42 rfl ntmps42 rfl (λw0 hw0=>?_)
 refine J.f λ_ j1=>J.p (qAd O O O) O λg4 _=>J.b O<|J.c j1 ?_
 refine J.f λ_ j2=>J.b7 1 qF1 qCl O O O O O<|J.q 2 O<|J.p (qAB O O ent97 (Ct.use0 (λF' hF=>qLx F' A c bs (hs.mono (Fa hF)) th pk pv k d (by assumption)))) O λg12 _=>J.b O<|J.G (qAA O O qDs O z4_ O) O<|J.G (qAE 1 O O O b4_ O) O<|J.G (qAy O O) O<|J.b O<|J.e8 (d:=17) O (λh17=>?_) (λh17=>?_)
 ·
  refine J.q 7 O<|J.G (qAY 1 O O O qF1 qCl O) O<|J.q 2 O<|J.c9 (qAB O O ent98 (Ct.use0 (λF' hF=>qIg F' (hK.mo hF) A c bs (hs.mono (Fa hF)) th pk pv k d (by assumption) (by assumption)))) O λg28 _=>J.b O<|J.G (qBS O O O) O<|J.q 2 O<|J.c j2 ?_
  exact J.A<|J.E hw0 O () (by unfold qGn;simp [*]) trivial [0] rfl (by decide)
 refine J.G (qAA O O qDs O z9_ O) O<|J.G (qAE 1 O O O b9_ O) O<|J.b O<|J.G (qEC O O O) O<|J.q 3 O<|J.b9 (d:=24) O (λh24=>?_) (λh24=>?_)
 ·
  refine J.G (qAY 1 O O O qF1 qCl O) O<|J.q 2 O<|J.c9 (qAB O O ent98 (Ct.use0 (λF' hF=>qIg F' (hK.mo hF) A c bs (hs.mono (Fa hF)) th pk pv k d (by assumption) (by assumption)))) O λg28 _=>J.b O<|J.G (qBS O O O) O<|J.q 2 O<|J.c j2 ?_
  exact J.A<|J.E hw0 O () (by unfold qGn;simp [*]) trivial [0] rfl (by decide)
 refine J.q 8 O<|J.c j2 ?_
 exact J.A<|J.E hw0 O () (by unfold qGn;simp [*]) trivial [0] rfl (by decide)
theorem qKD(F:Hp)(k:List UInt8)(hk:k.length≤1000000)(pb pd:Nat)(b:List UInt8)(d:Int)(hpb:qAR F ⟨pb,0,none⟩ [Str b])(hpd:qAR F ⟨pd,0,none⟩ [I d])(hb:b.length≤1000000):Cz prog 91 [Str (k),Ptr pb,Ptr pd] F (.bool (nbl b d k)):=by
 refine Ct.walk func91 rfl ntmps91 rfl (λw0 hw0=>?_)
 refine J.f λ_ j1=>J.b O<|J.c j1 ?_
 refine J.f λ_ j2=>J.b O<|J.g (qAJ O O b9_ (m:=F) (by simp) (hpb)) rfl<|J.g (qAJ rfl rfl b3_ (m:=F) (by simp) (hpd)) rfl<|J.p (qAB rfl rfl ent92 (Ct.use0 (λF' hF=>qEw F' k (by omega) b (by omega) d))) rfl λg8 _=>J.g (qAy rfl rfl) rfl<|J.b rfl<|J.c j2 ?_
 exact J.A<|J.E hw0 O () (by unfold nbl;rfl) trivial [0] O (by decide)
theorem qSz(F:Hp)(A:Option Addr)(n c:Nat)(ks:List (List UInt8))(hs:Sl F 1 A n c (qAI ks))(hn:n≤1000000)(hsm: ∀k:Nat,(ks.getD k []).length≤1000000)(pb pd:Nat)(b:List UInt8)(d:Int)(hpb:qAR F ⟨pb,0,none⟩ [Str b])(hpd:qAR F ⟨pd,0,none⟩ [I d])(hb:b.length≤1000000):Cz prog 150 [.slice A n c,.func (.func 91) #[] #[Ptr pb,Ptr pd]] F (I (ixS (nbl b d) ks)):=by
 have hkn:ks.length=n:=by have:=hs.1;simpa [qAI] using this
 refine Ct.walk func150 rfl ntmps150 rfl (λw0 hw0=>?_)
 refine J.f λ_ j1=>J.b O<|J.c j1 ?_
 refine J.k λ_ j2=>J.f λ_ j3=>J.b O<|J.g (qAU qAk O O) O<|J.b O<|J.c j3 ?_
 refine J.O<|J.b4 (X:=Nat) (λζ=> [(0,.slice A n c),(1,.func (.func 91) #[] #[Ptr pb,Ptr pd]),(7,I ((n:Nat):Int)),(8,I ((ζ:Nat):Int))]) (λζ=> [F]) (λζ=>ζ≤n∧ ∀j<ζ,nbl b d (ks.getD j [])=false) (λζ=>n-ζ) 0 (⟨jG _,λj h=>absurd h (zA j)⟩) ⟨O,O,O,O,trivial⟩ (λ_ h=>h) ?_
 rintro k ⟨hk,hno⟩ I0 hI0
 refine J.f λ_ j4=>J.g (qAT O O O) O<|J.c j4 ?_
 refine J.k λ_ j5=>J.W O (λh9=>?_) (λh9=>?_)
 ·
  refine J.M j5 ?_
  refine J.k λ_ j6=>J.O<|J.f λ_ j7=>J.q 2 O<|J.c j7 ?_
  refine J.f λ_ j8=>J.q 3 O<|J.g (qAH O O O qAk z9_ hs (by omega)) O<|J.g (qAJ O O b9_ (m:=F) (by simp) (hs.elem (qAa (qAj [] (by omega))))) rfl<|J.p (qDF rfl rfl rfl ent91 (Ct.use0 (λF' hF=>qKD F' (ks.getD k []) (by first|omega|(exact hsm _)) pb pd b d (hpb.mono (Fa hF)) (hpd.mono (Fa hF)) (by omega)))) rfl λg16 _=>J.c j8 ?_
  refine J.c6 O (λh16=>?_) (λh16=>?_)
  ·
   refine J.f λ_ j9=>J.q 2 O<|J.c j9 ?_
   exact J.A<|J.a7<|J.V<|J.V<|J.a7<|J.V<|J.E hw0 O () (by rw [qVN (k:=k) (by omega) (by simpa using h16) hno]) trivial [0] rfl (by decide)
  refine J.b5<|J.a2<|J.u (J.D j6 ?_)
  exact J.H<|J.g ((qAS O O O (by omega)).nat (k+1) (by omega)) O<|J.b O<|J.a3<|J.u<|J.a4 (k+1) (λη (hη:_∧n-η<n-k)=>hI0 η hη.1 hη.2) ⟨⟨by omega,λj hj=>by rcases Nat.lt_succ_iff_lt_or_eq.1 hj with h|rfl;exact hno j h;simpa using h16⟩,by first|omega|(dsimp only;omega)⟩ ⟨rfl,rfl,rfl,rfl,trivial⟩ (λ_ h=>h)
 refine J.b2<|J.a0<|J.a0<|J.b3 ?_
 refine J.u (J.D j2 ?_)
 refine J.f λ_ j10=>J.b O<|J.c j10 ?_
 exact J.A<|J.E hw0 O () (by rw [qVL (λj hj=>hno j (by omega))]) trivial [0] rfl (by decide)
theorem qS3(F m:Hp)(A:Option Addr)(n c:Nat)(ks:List (List UInt8))(hr:Row m 9 1 A n c (qAI ks))(hn:n≤1000000)(hsm: ∀k:Nat,(ks.getD k []).length≤1000000)(pb pd:Nat)(b:List UInt8)(d:Int)(hpb:qAR F ⟨pb,0,none⟩ [Str b])(hpd:qAR F ⟨pd,0,none⟩ [I d])(hb:b.length≤1000000):
    Ct prog 90 [.slice A n c,.func (.func 91) #[] #[Ptr pb,Ptr pd]] [m,F] (λ_:Hp=> .slice A (ks.filter λk=>!nbl b d k).length c) (λm'=>Row m' 9 1 A (ks.filter λk=>!nbl b d k).length c (qAI (ks.filter λk=>!nbl b d k))) (λm'=> [m',F]):=by
  have hkn:ks.length=n:=by have:=hr.len;simpa [qAI] using this
  have hnc:=hr.2.2.1
  refine Ct.walk func90 rfl ntmps90 rfl (λw0 hw0=>?_)
  change J _ [(0,_),(1,_)] _ _ _
  refine J.f λ_ j1=>J.b O<|J.c j1 ?_
  refine J.f λ_ j2=>J.q 2 O<|J.p (qAB O O ent150 (Ct.use0 (λF' hF=>qSz F' A n c ks (hr.sl.mono (Fa hF)) (by omega) (hsm) pb pd b d (hpb.mono (Fa hF)) (hpd.mono (Fa hF)) (by omega)))) O λg10 _=>J.b O<|J.c j2 ?_
  refine J.k λ_ j3=>J.f λ_ j4=>J.b O<|J.g (qAg O O O) O<|J.c j4 ?_
  refine J.W O (λh12=>?_) (λh12=>?_)
  ·
    refine J.f λ_ j5=>J.q 2 O<|J.c j5 ?_
    refine J.A<|J.V ?_
    have hf:(ks.filter λk=>!nbl b d k)=ks:=qNQ h12
    exact J.E hw0 O m (by rw [hf,hkn]) (by rw [hf,hkn];exact hr) [0,1] rfl (by decide)
  refine J.M j3 ?_
  refine J.k λ_ j6=>J.k λ_ j7=>?_
  obtain ⟨i0,h5,hi0,hf0⟩:=qVM h12
  obtain ⟨ga,rfl⟩:=hr.at (by omega)
  rw [h5]
  refine J.H<|J.b O<|J.g ((qAS O O O (by omega)).nat (i0+1) (by omega)) O<|J.b O<|J.c j7 ?_
  refine J.O<|J.b4 (X:=Nat×Nat×List (List UInt8)×Hp) (λζ=> [(0,.slice (some ⟨ga,0,none⟩) n c),(1,.func (.func 91) #[] #[Ptr pb,Ptr pd]),(5,I ((ζ.1:Nat):Int)),(6,I ((ζ.2.1:Nat):Int))]) (λζ=> [ζ.2.2.2,F]) (λζ=>ζ.1<ζ.2.1∧ζ.2.1≤n∧ζ.2.2.1.length=n∧ζ.2.2.1.take ζ.1=(ks.take ζ.2.1).filter (λk=>!nbl b d k)∧ζ.2.2.1.drop ζ.2.1=ks.drop ζ.2.1∧Row ζ.2.2.2 9 1 (some ⟨ga,0,none⟩) n c (qAI ζ.2.2.1)) (λζ=>n-ζ.2.1) (i0,i0+1,ks,m) (⟨by dsimp only;omega,by dsimp only;omega,hkn,hf0,O,hr⟩) ⟨O,O,O,O,trivial⟩ (λ_ h=>h) ?_
  rintro⟨w,j,L,m⟩ ⟨hw,hj,hL,hA,hB,hr⟩ I0 hI0
  dsimp only at hw hj hL hA hB hr⊢
  refine J.k λ_ j8=>J.f λ_ j9=>J.q 2 O<|J.g (qAU qAk O O) O<|J.g (qAT O O O) O<|J.c j9 ?_
  refine J.W O (λh19=>?_) (λh19=>?_)
  ·
    refine J.M j8 ?_
    refine J.k λ_ j10=>J.O<|J.f λ_ j11=>J.q 2 O<|J.g (qAi (i:=j) (j:=0+j*1) O O O qAk z9_ (by omega) (by omega)) O ?_
    have hnw:w<j:=hw
    refine J.g (qAJ O O b9_ (m:=m) (by simp) (hr.sl.cells (qAa (qAj [] (by omega))))) rfl<|J.b rfl<|J.c j11 ?_
    refine J.k λ_ j12=>?_
    have hgj:(L.getD j []).length≤1000000:=by
      have e0:=congrArg (λz=>z.getD 0 []) hB
      have e1:L.getD j []=ks.getD j []:=by simpa [jB,jt] using e0
      rw [e1];exact hsm j
    refine J.H<|J.q 2 O<|J.p (qDF O O O ent91 (Ct.use0 (λF' hF=>qKD F' (L.getD j []) (by first|omega|(exact hsm _)) pb pd b d (hpb.mono (Fa hF)) (hpd.mono (Fa hF)) (by omega)))) O λg28 _=>J.g (qAy O O) O<|J.c j12 ?_
    refine J.c6 O (λh29=>?_) (λh29=>?_)
    ·
      refine J.f λ_ j13=>J.q 3 O<|J.g (qAi (i:=w) (j:=0+w*1) O O O qAk z9_ (by omega) (by omega)) O<|J.a6 (qBR (i:=0) (k:=w) (off:=0) (b:= [Str (L.getD j [])]) O O O O hr (vs:= [Str (L.getD j [])]) O z9_ O (by omega) (qAa (qAj [] (by omega))) O (jK _)) O O ?_
      rintro m9_1 hm9_1
      rw [qDb] at hm9_1
      refine J.c j13 ?_
      refine J.H<|J.b O<|J.g ((qAS O O O (by omega)).nat (w+1) (by omega)) O<|J.b O<|J.a3<|J.a2<|J.u (J.D j10 ?_)
      exact J.H<|J.b O<|J.g ((qAS O O O (by omega)).nat (j+1) (by omega)) O<|J.b O<|J.a3<|J.u<|J.a4 (w+1,j+1,L.set w (L.getD j []),m9_1) (λη (hη:_∧n-η.2.1<n-j)=>hI0 η hη.1 hη.2) ⟨⟨by dsimp only;omega,by dsimp only;omega,by dsimp only;rw [jm];exact hL,(qFv hw (by omega) (by omega) hA hB (by simpa using h29)).1,(qFv hw (by omega) (by omega) hA hB (by simpa using h29)).2,by assumption⟩,by first|omega|(dsimp only;omega)⟩ ⟨rfl,rfl,rfl,rfl,trivial⟩ (λ_ h=>h)
    refine J.b5<|J.a2<|J.u (J.D j10 ?_)
    exact J.H<|J.b O<|J.g ((qAS O O O (by omega)).nat (j+1) (by omega)) O<|J.b O<|J.a3<|J.u<|J.a4 (w,j+1,L,m) (λη (hη:_∧n-η.2.1<n-j)=>hI0 η hη.1 hη.2) ⟨⟨by dsimp only;omega,by dsimp only;omega,hL,(qFw (by omega) hA hB (by simpa using h29)).1,(qFw (by omega) hA hB (by simpa using h29)).2,hr⟩,by first|omega|(dsimp only;omega)⟩ ⟨O,O,O,O,trivial⟩ (λ_ h=>h)
  refine J.b2<|J.a0<|J.a0<|J.b3 ?_
  refine J.u (J.D j6 ?_)
  refine J.f λ_ j14=>J.q 2 O<|J.g (qDE O O qAk z9_ O O (by omega)) O<|J.a6 (qEn (i:=0) (l:=w) (h:=n) O O (by split<;>simp [Addr.add_lit]) qAk el9 rfl rfl rfl (hr.shrink (by omega)) rfl (by omega) (by omega)) rfl rfl ?_
  rintro mc hmc
  refine J.c j14 ?_
  refine J.f λ_ j15=>J.q 2 O<|J.g (qDz O O qAk z9_ O (by omega)) O<|J.b O<|J.c j15 ?_
  refine J.A ?_
  have hfl:(ks.filter λk=>!nbl b d k)=L.take w:=by rw [hA,jc (by omega)]
  have hfw:(ks.filter λk=>!nbl b d k).length=w:=by rw [hfl,jF];omega
  rw [qDu,←hfl] at hmc
  exact J.E hw0 O mc (by rw [hfw]) (by rw [hfw];exact hmc) [0,1] rfl (by decide)
theorem qJG(F:Hp)(A:Option Addr)(n c:Nat)(ks:List (List UInt8))(hs:Sl F 1 A n c (qAI ks))(hn:n≤1000000):Ct prog 31 [.slice A n c] [F] (λx:Option Addr×Nat×Hp=> .slice x.1 (ks).length x.2.1) (λx=>Row x.2.2 9 1 x.1 (ks).length x.2.1 (qAI ks)) (λx=> [F,x.2.2]):=by
 have hkn:ks.length=n:=by have:=hs.1;simpa [qAI] using this
 refine Ct.walk func31 rfl ntmps31 rfl (λw0 hw0=>?_)
 refine J.f λ_ j1=>J.b O<|J.c j1 ?_
 refine J.k λ_ j2=>J.f λ_ j3=>J.b O<|J.g ((qEh qAk O O O).as (v':= .bool (decide (A.isNone=true))) (congrArg Value.bool (by cases A<;>rfl))) rfl<|J.c j3 ?_
 refine J.W O (λh4=>?_) (λh4=>?_)
 ·
  refine J.f λ_ j4=>J.b O<|J.c j4 ?_
  refine J.A<|J.V ?_
  have hk0:ks= []:=by
   refine jU ?_
   rcases yO n with h|h
   · omega
   · obtain ⟨g,o,rfl⟩:=hs.at h;cases h4
  exact J.c7 [0,1] [F,(λ_=>none)] O (by decide)<|J.E hw0 O (none,0,(λ_=>none)) (by rw [hk0];rfl) (by rw [hk0];exact qBb.nil) [0,1] rfl (by decide)
 refine J.M j2 ?_
 refine J.f λ_ j5=>J.p (qBZ O qAk el9) O λg5 _=>J.b O<|J.p (qAV (i:=1) (m2:=F) O O O qAk qAk el9 O (qAl (q:=True) (xs:=qAI ([])) O (by intro x hx;first|exact absurd hx (zC)|(rw [List.mem_singleton.1 hx];rfl))) (by simp) (hs) (qCR _) (by omega) (by omega)) rfl ?_
 rintro⟨A7,c7,m7⟩ h7
 try dsimp only at h7
 replace h7:Row m7 9 1 A7 (0+n) c7 (qAI (ks)):=h7
 refine J.b O<|J.c j5 ?_
 refine J.A ?_
 rw [show 0+n=ks.length by omega] at h7
 exact J.E hw0 O (A7,c7,m7) (by rw [←hkn,jj]) h7 [0,1] rfl (by decide)
theorem qJx(F:Hp)(d:Int)(p9 p4:Nat)(A:Option Addr)(n c:Nat)(ks:List (List UInt8))(hs:Sl F 1 A n c (qAI ks))(h9:qAR F ⟨p9,0,none⟩ [.slice A n c])(b:List UInt8)(h4:qAR F ⟨p4,0,none⟩ [Str b])(hn:n≤1000000)(hb:b.length≤1000000)(hsm: ∀k:Nat,(ks.getD k []).length≤1000000):Ct prog 89 [I (d),Ptr p9,Ptr p4] [F] (λx:Option Addr×Nat×Hp=> .slice x.1 (ks.filter (λq=>!nbl b d q)).length x.2.1) (λx=>Row x.2.2 9 1 x.1 (ks.filter (λq=>!nbl b d q)).length x.2.1 (qAI (ks.filter (λq=>!nbl b d q)))) (λx=> [F,x.2.2]):=by
 have hkn:ks.length=n:=by have:=hs.1;simpa [qAI] using this
 refine Ct.walk func89 rfl ntmps89 rfl (λw0 hw0=>?_)
 refine J.f λ_ j1=>J.p (qAd O O O) O λg3 _=>J.b O<|J.c j1 ?_
 refine J.f λ_ j2=>J.g (qAJ O O qB8 (m:=F) (by simp) (h9)) rfl<|J.p (qAB rfl rfl ent31 (Ct.use (λF' hF=>qJG F' A n c ks (hs.mono (Fa hF)) (by omega)))) rfl ?_
 rintro⟨A6,c6,m6⟩ h6
 try dsimp only at h6
 refine J.g (qBg O O) O<|J.p (qAB O O ent90 (Ct.use1 2 O (λF' hF=>qS3 F' m6 A6 ks.length c6 ks h6 (by omega) hsm p4 g3 b d (h4.mono (Fa hF)) (qAR.blk0.mono (hF (blk g3 [I (d)] 3) (by simp))) hb))) rfl ?_
 rintro m8 h8
 refine J.b O<|J.c j2 ?_
 exact J.A<|J.E hw0 O (A6,c6,m8) O h8 [0,2] O (by decide)
theorem qYk(l:List Sm.PR)(k:List UInt8){d:Nat}(hd:d≤128):(Sm.keysS l).filter (λq=>!nbl k ((d:Nat):Int) q)=kd l k d:=by
 unfold kd nbl
 refine zr λq _=>?_
 rw [Bool.not_not,jT,jn hd]
theorem qXJ(l:List Sm.PR)(k:List UInt8){d:Nat}(hd:d+1≤128):(kd l k d).filter (λq=>!nbl k ((d+1:Nat):Int) q)=kd l k (d+1):=by
 rw [←qXA]
 refine zr λq _=>?_
 unfold nbl
 rw [Bool.not_not,jT,jn hd]
theorem qT1{l:List Sm.PR}(hf:qCJ l)(k:List UInt8)(d j:Nat):((kd l k d).getD j []).length≤1000000:=by
  by_cases hj:j<(kd l k d).length
  · rw [jB,jC hj]
    obtain ⟨⟨v,hv⟩,_⟩:=qVK (jX hj)
    show((kd l k d)[j]).length≤1000000
    rw [show(kd l k d)[j].length=16 from hf.k16 _ hv];decide
  · rw [jB,jg (by omega)];decide
theorem qYd(l:List Sm.PR)(k:List UInt8)(d:Nat):(kd l k d).length≤l.length:=by
 have:=z8 (λq=>Sm.belowB q k d) (Sm.keysS l)
 rw [Sm.keysS_len] at this;exact this
theorem qEd(F:Hp)(hK:KF F)(g:Nat)(l:List Sm.PR)(hT:qCU F g l)(hf:qCJ l)(k:List UInt8)(hk:k.length=16)(d:Nat)(hd:d≤128):
    Ct prog 37 [Ptr g,Str k,I ((d:Nat):Int)] [F] (λx:Nat×Option Addr×Nat×Hp=> .tuple #[.agg #[.slice x.2.1 (bsd l k d (x.1-d)).length x.2.2.1,.bool (qAo l k x.1),Str (qBo l k x.1),Str (qBr l k x.1)],I 0]) (λx=>qKv l k d x.1∧Row x.2.2.2 9 1 x.2.1 (bsd l k d (x.1-d)).length x.2.2.1 (qAI (bsd l k d (x.1-d)))) (λx=> [F,x.2.2.2]):=by
  have hln:=hf.few
  have hkl:=Sm.keysS_len l
  have hsm:=qGo hf.k16
  have hk0:=qYk l k hd
  have hkd0:=qYd l k d
  refine Ct.walk func37 rfl ntmps37 rfl (λw0 hw0=>?_)
  refine J.f λ_ j1=>J.p (qAd O O O) O λg4 _=>J.p (qAL O qOo O) O λg6 _=>J.b O<|J.c j1 ?_
  refine J.k λ_ j2=>J.f λ_ j3=>J.a5 1 b9_ O O O O O<|J.b O<|J.p (qAB O O ent87 (Ct.use0 (λF' hF=>qJy F' k ((d:Nat):Int)))) O λg14 _=>J.g ((qAy O O).as (v':= .bool false) (by rw [decide_eq_true (show k.length=16∧(0:Int)≤((d:Nat):Int)∧((d:Nat):Int)≤128 from⟨hk,by omega,by omega⟩)];rfl)) rfl<|J.c j3 ?_
  refine J.a1 ?_
  refine J.M j2 ?_
  refine J.f λ_ j4=>J.p (qAL O qOo O) O λg8 _=>J.c j4 ?_
  refine J.f λ_ j5=>J.b O<|J.p (qAB O O ent88 (Ct.use (λF' hF=>qMS F' g l (hT.mono (Fa hF)) (by omega)))) O ?_
  rintro⟨A18,c18,m18⟩ h18
  try dsimp only at h18
  refine J.p (qAL O zeroValue32 O) O λg9 _=>J.a6 (qAF (i:=5) (l:= [.slice none 0 0]) (vs:= [.slice A18 ((Sm.keysS l).length) c18]) O O O O O qBs O O) O O λ_ _=>J.c j5 ?_
  refine J.f λ_ j6=>J.g (qBg O O) O<|J.b O<|J.c j6 ?_
  refine J.f λ_ j7=>J.q 2 O<|J.p (qDF O O O ent89 (Ct.use (λF' hF=>qJx F' ((d:Nat):Int) g9 g4 A18 ((Sm.keysS l).length) c18 (Sm.keysS l) (h18.sl.mono (Fa hF)) (qAR.blk0.mono (hF (blk g9 [.slice A18 ((Sm.keysS l).length) c18] 32) (by simp))) k (qAR.blk0.mono (hF (blk g4 [Str (k)] 9) (by simp))) (by omega) (by omega) (by assumption)))) rfl ?_
  rintro⟨A22,c22,m22⟩ h22
  try dsimp only at h22
  rw [hk0] at h22⊢
  refine J.a6 (qAF (i:=5) (l:= [.slice A18 ((Sm.keysS l).length) c18]) (vs:= [.slice A22 ((kd l k (d)).length) c22]) O O O O O qBs O O) O O λ_ _=>J.c j7 ?_
  refine J.k λ_ j8=>J.f λ_ j9=>J.q 2 O<|J.c j9 ?_
  refine J.O<|J.b4 (X:=Nat×Option Addr×Nat×Hp×Option Addr×Nat×Hp) (λζ=> [(0,Ptr g),(4,Ptr g4),(6,Ptr g6),(8,Ptr g8),(9,Ptr g9),(10,.func (.func 89) #[] #[Ptr g9,Ptr g4]),(11,I ((d+ζ.1:Nat):Int))]) (λζ=> [F,blk g4 [Str (k)] 9,blk g6 [.slice none 0 0,.bool false,Str [],Str []] 53,blk g8 [.slice ζ.2.2.2.2.1 (bsd l k d (ζ.1)).length ζ.2.2.2.2.2.1,.bool false,Str [],Str []] 53,blk g9 [.slice ζ.2.1 (kd l k (d+ζ.1)).length ζ.2.2.1] 32,ζ.2.2.2.1,ζ.2.2.2.2.2.2]) (λζ=>d+ζ.1≤128∧(∀x,d≤x→x<d+ζ.1→2≤(cur l k x).length)∧Row ζ.2.2.2.1 9 1 ζ.2.1 (kd l k (d+ζ.1)).length ζ.2.2.1 (qAI (kd l k (d+ζ.1)))∧Row ζ.2.2.2.2.2.2 9 1 ζ.2.2.2.2.1 (bsd l k d (ζ.1)).length ζ.2.2.2.2.2.1 (qAI (bsd l k d (ζ.1)))) (λζ=>128-(d+ζ.1)) (0,A22,c22,m22,none,0,(λ_=>none)) (⟨hd,λx h1 h2=>absurd h2 (by omega),h22,qBb.nil⟩) ⟨O,O,O,O,O,O,O,trivial⟩ (λ_ h=>h.empty.pick [0,1,2,3,5,6,7] (by decide)) ?_
  rintro⟨n,A9,c9,m9,Ab,cb,mb⟩ ⟨he,htw,hr9,hrb⟩ I0 hI0
  dsimp only at he htw hr9 hrb⊢
  have hbl:=qCc l k d n
  refine J.k λ_ j10=>J.f λ_ j11=>J.a5 4 qB8 O O O O O<|J.g (qAU qAk O O) O<|J.g (qA5 O O O) O<|J.c j11 ?_
  refine J.W O (λh26=>?_) (λh26=>?_)
  ·
    have hcl:=qHq hf.once k (d+n)
    have hlt:d+n<128:=by
      rcases zy (d+n) 128 with h|h
      · exact h
      · have hct:=qXQ hf hk
        rw [show d+n=128 by omega] at h26 hcl
        omega
    have htl:(turn k (d+n)).length=16:=(qB6 k _).trans hk
    have hmn:min (((d+n+1:Nat):Int)).toNat 128=d+n+1:=by rw [jT];omega
    have hsmk:=qT1 hf k (d+n)
    have hkdl:=qYd l k (d+n)
    refine J.M j10 ?_
    refine J.k λ_ j12=>J.O<|J.k λ_ j13=>J.b0 [blk g8 [.slice Ab (bsd l k d (n)).length cb,.bool false,Str [],Str []] 53,blk g4 [Str (k)] 9] [12] (.y 0 (.y 1 (.y 2 (.y 3 (.y 4 (.y 6 (.y 7 (.e 5 (.e 8 (.e 9 (.e 10 (.y 11 (.e 12 .nil))))))))))))) Tryz.wide (by decide+kernel) (by simp) ?_
    refine J.j O (qAA O O qDs O qBs O) O O<|J.j O (qAE 0 O O O qB8 O) O O<|J.L ?_
    refine J.j O (qAE 1 O O O b9_ O) O O<|J.L ?_
    refine J.L ?_
    refine J.j O ((qAS O O O (by omega)).nat (d+n+1) (by omega)) O O<|J.Z O (qAB O O ent94 (Ct.use0 (λF' hF=>qPT F' k (by assumption) (d+n) (by omega)))) O (by simp) λg34 _=>J.Z rfl (qAB rfl rfl ent93 (Ct.use0 (λF' hF=>qFk F' (hK.mo hF) g l (hT.mono (Fa hF)) (by assumption) (turn k (d+n)) (by first|omega|decide) ((d+n+1:Nat):Int) (by first|assumption|exact qIE (by assumption)|exact qMN (by assumption) (by assumption))))) rfl (by simp) λg37 _=>J.Z rfl (qAG (l:= [.tmp 37]) (xs:= [[Str (Sm.ndB l (turn k (d+n)) (min ((d+n+1:Nat):Int).toNat 128))]]) rfl rfl rfl rfl qAk el9 rfl (by decide) (by decide) (by simp)) rfl (by simp) λg38 _=>?_
    change J _ _ _ [F,blk g4 [Str (k)] 9,blk g6 [.slice none 0 0,.bool false,Str [],Str []] 53,blk g8 [.slice Ab (bsd l k d (n)).length cb,.bool false,Str [],Str []] 53,blk g9 [.slice A9 (kd l k (d+n)).length c9] 32,m9,mb,blk g38 [Str (Sm.ndB l (turn k (d+n)) (min ((d+n+1:Nat):Int).toNat 128))] 9] _
    refine J.Z O (qAV (i:=6) (xs:=qAI (bsd l k d (n))) (m2:=blk g38 [Str (Sm.ndB l (turn k (d+n)) (min ((d+n+1:Nat):Int).toNat 128))] 9) (ys:= [[Str (Sm.ndB l (turn k (d+n)) (min ((d+n+1:Nat):Int).toNat 128))]]) O O O qAk qAk el9 O hrb (by simp) ((qBD (q:=True) (qAI [Sm.ndB l (turn k (d+n)) (min ((d+n+1:Nat):Int).toNat 128)]) rfl (by simp [qAI]) rfl).sl) rfl (by omega) (by omega)) rfl (by simp) ?_
    rintro⟨A39,c39,m39⟩ h39
    try dsimp only at h39
    change J _ ((39,.slice A39 (((bsd l k d (n)).length)+1) c39)::_) _ [_,_,_,_,_,_,m39,_] _
    rw [←qB4,hmn,←qUS] at h39
    rw [show(bsd l k d (n)).length+1=(bsd l k d (n+1)).length by rw [qCc,qCc]] at h39⊢
    refine J.j O (qAA O O qDs O qBs O) O O<|J.c2 O (qAW (i:=3) O O O O O qBs O (by simp)) rfl rfl rfl λ_ _=>J.a8<|J.u (J.D j13 ?_)
    refine J.H<|J.q 2 O<|J.g ((qAS O O O (by omega)).nat (d+n+1) (by omega)) O<|J.p (qDF O O O ent89 (Ct.use (λF' hF=>qJx F' ((d+n+1:Nat):Int) g9 g4 A9 ((kd l k (d+n)).length) c9 (kd l k (d+n)) (hr9.sl.mono (Fa hF)) (qAR.blk0.mono (hF (blk g9 [.slice A9 (kd l k (d+n)).length c9] 32) (by simp))) k (qAR.blk0.mono (hF (blk g4 [Str (k)] 9) (by simp))) (by omega) (by omega) (by assumption)))) rfl ?_
    rintro⟨A44,c44,m44⟩ h44
    try dsimp only at h44
    rw [qXJ l k (by omega)] at h44⊢
    refine J.a6 (qAF (i:=4) (l:= [.slice A9 (kd l k (d+n)).length c9]) (vs:= [.slice A44 ((kd l k (d+n+1)).length) c44]) O O O O O qBs O O) O O λ_ _=>J.a3<|J.a2<|J.u (J.D j12 ?_)
    exact J.H<|J.b O<|J.g ((qAS O O O (by omega)).nat (d+n+1) (by omega)) O<|J.b O<|J.a3<|J.u<|J.a4 (n+1,A44,c44,m44,A39,c39,m39) (λη (hη:_∧128-(d+η.1)<128-(d+n))=>hI0 η hη.1 hη.2) ⟨⟨by dsimp only;omega,λx h1 h2=>by rcases zy x (d+n) with h|h;exact htw x h1 h;rw [show x=d+n by dsimp only at h2;omega,←hcl];omega,h44,h39⟩,by dsimp only;omega⟩ ⟨rfl,rfl,rfl,rfl,rfl,rfl,rfl,trivial⟩ (λ_ h=>h.pick [0,1,2,3,4,8,6] (by decide))
  have hst:qKv l k d (d+n):=⟨by omega,he,by rw [←qHq hf.once];omega,λx h1 h2=>htw x h1 h2⟩
  have hdn:d+n-d=n:=by omega
  refine J.b2<|J.a0<|J.a0<|J.b3 ?_
  refine J.u (J.D j8 ?_)
  refine J.k λ_ j14=>J.f λ_ j15=>J.a5 4 qB8 O O O O O<|J.g (qAU qAk O O) O<|J.g (qAg O O O) O<|J.c j15 ?_
  refine J.W O (λh47=>?_) (λh47=>?_)
  ·
    refine J.k λ_ j16=>J.b0 [blk g9 [.slice A9 (kd l k (d+n)).length c9] 32,m9] [] (.y 0 (.y 1 (.y 2 (.y 3 (.e 4 (.y 5 (.e 6 .nil))))))) Tryz.wide (by decide+kernel) (by simp) ?_
    refine J.j O (qAE 0 (v:= .slice A9 (kd l k (d+n)).length c9) O O O qB8 O) O O<|J.j O (qAH (i:=0) O O O qAk z9_ hr9.sl (by omega)) O O<|J.j O (qAJ O O b9_ (m:=m9) (by simp) (hr9.sl.elem (qAa (qAj [] (by omega))))) rfl rfl<|J.j rfl (qAA rfl rfl qDs rfl z4_ rfl) rfl rfl<|J.d0 rfl (qAW (i:=3) rfl rfl rfl rfl rfl z4_ rfl (by simp)) rfl rfl (by simp) λ_ _=>J.j rfl (qAA rfl rfl qDs rfl z9_ rfl) rfl rfl<|J.d0 rfl (qAW (i:=3) (l:= [.slice Ab (bsd l k d (n)).length cb,.bool true,Str [],Str []]) (vs:= [Str ((kd l k (d+n)).getD 0 [])]) rfl rfl rfl rfl rfl z9_ rfl (by simp)) rfl rfl (by simp) λ_ _=>J.a8<|J.u (J.D j16 ?_)
    refine J.H<|J.b O<|J.T 2 qDs z9_ O O O O O<|J.a5 3 b9_ O O O O O<|J.p (qAB O O ent95 (Ct.use0 (λF' hF=>qVk F' g l (hT.mono (Fa hF)) ((kd l k (d+n)).getD 0 [])))) O λg57 _=>J.q 3 O<|J.T 3 qDs z9_ O O O O O<|J.a6 (qAW (i:=3) (l:= [.slice Ab (bsd l k d (n)).length cb,.bool true,Str ((kd l k (d+n)).getD 0 []),Str []]) (vs:= [Str ((Sm.getP l ((kd l k (d+n)).getD 0 [])).getD [])]) O O O O O z9_ O (by simp)) rfl rfl λ_ _=>J.c j14 ?_
    refine J.f λ_ j17=>J.b7 3 qF1 qCl O O O O O<|J.a6 (qAF (i:=2) (l:= [.slice none 0 0,.bool false,Str [],Str []]) (vs:= [.slice Ab (bsd l k d (n)).length cb,.bool true,Str ((kd l k (d+n)).getD 0 []),Str ((Sm.getP l ((kd l k (d+n)).getD 0 [])).getD [])]) O O O O O qCl O O) O O λ_ _=>J.b O<|J.c j17 ?_
    exact J.A<|J.a9 hw0 (λ_ _ h=>h) (rv2 O (RV.blkA 2 O O qF1 qCl) O) (qAq (d+n,Ab,cb,mb) (by dsimp only;rw [hdn];unfold qAo qBo qBr;rw [if_pos (by omega),if_pos (by omega),decide_eq_true (by omega)]) ⟨hst,by dsimp only;rw [hdn];exact hrb⟩ [0,6] rfl (by decide))
  refine J.M j14 ?_
  refine J.f λ_ j18=>J.b7 3 qF1 qCl O O O O O<|J.a6 (qAF (i:=2) (l:= [.slice none 0 0,.bool false,Str [],Str []]) (vs:= [.slice Ab (bsd l k d (n)).length cb,.bool false,Str [],Str []]) O O O O O qCl O O) O O λ_ _=>J.b O<|J.c j18 ?_
  exact J.A<|J.a9 hw0 (λ_ _ h=>h) (rv2 O (RV.blkA 2 O O qF1 qCl) O) (qAq (d+n,Ab,cb,mb) (by dsimp only;rw [hdn];unfold qAo qBo qBr;rw [if_neg (by omega),if_neg (by omega),decide_eq_false (by omega)]) ⟨hst,by dsimp only;rw [hdn];exact hrb⟩ [0,6] rfl (by decide))
structure Pz where
 a:UInt8
 b:UInt8
 v:List UInt8
 deriving DecidableEq
def Pz.cells(x:Pz):List Value:= [B8 (x.a),B8 (x.b),Str (x.v)]
theorem qHc{kv:List Sm.PR}(hf:qCJ kv){k:List UInt8}(hk:k.length=16){d s:Nat}(h:qKv kv k d s):qFS (bsd kv k d (s-d)) (qAo kv k s) (qBo kv k s) (qBr kv k s) k d=Sm.ndB kv k d:=by
 have h1:=h.le
 have h2:=h.ge
 have h3:=qJH hf hk (d:=d) (n:=s-d) (by omega) (s-d) (jK _)
 rw [show d+(s-d)=s by omega,show s-(s-d)=d by omega] at h3
 unfold qFS
 rw [qUG hf h,qCc]
 exact h3
theorem qJw{kv:List Sm.PR}(hf:qCJ kv){k:List UInt8}(hk:k.length=16){d s:Nat}(h:qKv kv k d s):
    qOj (bsd kv k d (s-d)) (qAo kv k s) (qBo kv k s) (qBr kv k s) (Sm.ndB kv k d) k ((Sm.getP kv k).getD []) d=(Sm.getP kv k).isSome:=by
  obtain ⟨t1,t2⟩:=tells hf h
  unfold qOj
  rw [qHc hf hk h,decide_eq_true rfl,Bool.and_true,t1]
  cases ht:qAo kv k s with
  |false=>rfl
  |true=>
    by_cases hkk:qBo kv k s=k
    · rw [t2 ht hkk,decide_eq_true hkk];simp
    · rw [decide_eq_false hkk];rfl
theorem qE9{kv:List Sm.PR}(hf:qCJ kv)(k:List UInt8)(s:Nat):(qBr kv k s).length≤1000000:=by
 unfold qBr
 split
 · exact qHu hf.small _
 · exact jG _
def qVU(bs:List (List UInt8))(th:Bool)(pk pv k v:List UInt8)(d:Nat):List UInt8:=if th=true∧pk≠k then Sm.ndB [(k,v),(pk,pv)] k (d+bs.length) else Sb.leafN k v
def qR8(bs:List (List UInt8))(th:Bool)(pk pv k v:List UInt8)(d:Nat):List UInt8:=clm k d bs (qVU bs th pk pv k v d) bs.length
theorem qLU{kv:List Sm.PR}(hf:qCJ kv){k v:List UInt8}(hk:k.length=16)(hv:v.length≤1000000)(hl:kv.length≤100000){d s:Nat}(h:qKv kv k d s):
    qR8 (bsd kv k d (s-d)) (qAo kv k s) (qBo kv k s) (qBr kv k s) k v d=Sm.ndB (Sm.putP kv k v) k d:=by
  have h1:=h.le
  have h2:=h.ge
  have hone:=h.one
  have hf':=hf.put hk hv hl
  have h3:=qJH hf' hk (d:=d) (n:=s-d) (by omega) (s-d) (jK _)
  rw [show d+(s-d)=s by omega,show s-(s-d)=d by omega,qXf hf hk hv hl (by omega)] at h3
  unfold qR8
  rw [qCc,←h3]
  congr 1
  unfold qVU
  rw [qCc,show d+(s-d)=s by omega]
  split
  · rename_i hc
    have hc1:(kd kv k s).length=1:=of_decide_eq_true hc.1
    exact(qTN hf hk hv hl h1 (qJD hf.once hc1) hc.2).symm
  · rename_i hc
    refine(qWQ hf hk hv hl h1 λp hp=>?_).symm
    have hc1:(kd kv k s).length=1:=by
      rw [qHq hf.once]
      have:=List.length_pos_of_mem hp
      omega
    have ht:qAo kv k s=true:=decide_eq_true hc1
    rw [qJD hf.once hc1,jR] at hp
    rw [hp]
    exact Decidable.by_contra λq=>hc ⟨ht,q⟩
theorem xor_eq{x y:UInt8}(h:(x^^^y).toNat=0):x=y:=by
 have:x^^^y=0:=UInt8.toNat_inj.1 h
 exact UInt8.xor_eq_zero_iff.1 this
end Go.Proofs.YtcgcjaflllmlpaaGreatDoor
