/- A part of the proof. -/
import Derived.Test.YtcgcjaflllmlpaaGreatDoorTopCfG8
import Derived.Test.YtcgcjaflllmlpaaGreatDoorTopCfG43
import Derived.Test.YtcgcjaflllmlpaaGreatDoorTopCfG30
import Derived.Test.YtcgcjaflllmlpaaGreatDoorTopCfG25
set_option linter.unusedSimpArgs false
set_option linter.unusedVariables false
namespace Go.Proofs.YtcgcjaflllmlpaaGreatDoor
open Go Go.Fw Go.Proofs.Tryz
set_option maxRecDepth 100000
set_option maxHeartbeats 1000000
theorem ent42:qAD prog 42:=qAD.of func42 rfl (by kernel_rfl)
def zEn:En:=⟨0,[],[],0,[]⟩
def qJQ(root nm:List UInt8)(l:List En)(bs:List (List UInt8))(th:Bool)(pk pv:List UInt8):En×Bool×Int:=
 if l.length=0 then(if qGn bs th pk pv root nm 0=true then(zEn,false,0) else(zEn,false,18))
 else if En.hist l≠0 then(zEn,false,En.hist l)
 else if qOj bs th pk pv root nm (l.getD (l.length-1) qBt).val 0=true then(l.getD (l.length-1) qBt,true,0) else(zEn,false,18)
section
variable{root nm:List UInt8}{l:List En}{bs:List (List UInt8)}{th:Bool}{pk pv:List UInt8}
theorem chk_1(h:l.length=0)(h2:qGn bs th pk pv root nm 0=true):qJQ root nm l bs th pk pv=(zEn,false,0):=by unfold qJQ;rw [if_pos h,if_pos h2]
theorem chk_2(h:l.length=0)(h2:qGn bs th pk pv root nm 0=false):qJQ root nm l bs th pk pv=(zEn,false,18):=by unfold qJQ;rw [if_pos h,h2];rfl
theorem chk_3(h: ¬l.length=0)(h2:En.hist l≠0):qJQ root nm l bs th pk pv=(zEn,false,En.hist l):=by unfold qJQ;rw [if_neg h,if_pos h2]
theorem chk_4(h: ¬l.length=0)(h2: ¬En.hist l≠0)(h3:qOj bs th pk pv root nm (l.getD (l.length-1) qBt).val 0=false):qJQ root nm l bs th pk pv=(zEn,false,18):=by unfold qJQ;rw [if_neg h,if_neg h2,h3];rfl
theorem qYy(h: ¬l.length=0)(h2: ¬En.hist l≠0)(h3:qOj bs th pk pv root nm (l.getD (l.length-1) qBt).val 0=true):qJQ root nm l bs th pk pv=(l.getD (l.length-1) qBt,true,0):=by unfold qJQ;rw [if_neg h,if_neg h2,if_pos h3]
end
theorem qXc(F:Hp)(hK:KF F)(gc sl nd:Nat)(A:Option Addr)(n c:Nat)(l:List RhD)(hs:Sl F 5 A n c (qCu l))(h0:0<n)(hn:n≤1000000)(hC:qAR F ⟨gc,0,none⟩ [I ((sl:Nat):Int),I ((nd:Nat):Int),.slice A n c])(hg:(qA1 (l.getD (n-1) qAc)).good)(hxs:nsl F (l.getD (n-1) qAc))(hsm: ∀s∈(l.getD (n-1) qAc).ns,s.length≤1048576)(s:List UInt8)(hsl:s.length≤1000000)(Ae:Option Addr)(ne ce:Nat)(le:List En)(hse:Sl F 5 Ae ne ce (qHy le))(hel: ∀x∈le,x.good)(hne:ne≤1000000)(Ab:Option Addr)(cb:Nat)(bs:List (List UInt8))(hsb:Sl F 1 Ab bs.length cb (qAI bs))(th:Bool)(pk pv:List UInt8)(hgp:qK0 bs th pk pv (Sha.tagged 11 [s]) 0)(hpv:pv.length≤1000000):Cz prog 14 [Ptr gc,.agg #[Str (s),.slice Ae ne ce,.slice Ab bs.length cb,.bool (th),Str (pk),Str (pv)]] F (.tuple #[.agg #[N64 ((qJQ (qCI (l.getD (n-1) qAc).ns (((l.getD (n-1) qAc).dep:Nat):Int)) (Sha.tagged 11 [s]) le bs th pk pv).1.v),Str ((qJQ (qCI (l.getD (n-1) qAc).ns (((l.getD (n-1) qAc).dep:Nat):Int)) (Sha.tagged 11 [s]) le bs th pk pv).1.o),Str ((qJQ (qCI (l.getD (n-1) qAc).ns (((l.getD (n-1) qAc).dep:Nat):Int)) (Sha.tagged 11 [s]) le bs th pk pv).1.r),I ((qJQ (qCI (l.getD (n-1) qAc).ns (((l.getD (n-1) qAc).dep:Nat):Int)) (Sha.tagged 11 [s]) le bs th pk pv).1.h),Str ((qJQ (qCI (l.getD (n-1) qAc).ns (((l.getD (n-1) qAc).dep:Nat):Int)) (Sha.tagged 11 [s]) le bs th pk pv).1.p)],.bool ((qJQ (qCI (l.getD (n-1) qAc).ns (((l.getD (n-1) qAc).dep:Nat):Int)) (Sha.tagged 11 [s]) le bs th pk pv).2.1),I ((qJQ (qCI (l.getD (n-1) qAc).ns (((l.getD (n-1) qAc).dep:Nat):Int)) (Sha.tagged 11 [s]) le bs th pk pv).2.2)]):=by
 have hln:l.length=n:=by have:=hs.1;simpa [qCu] using this
 have hle:le.length=ne:=by have:=hse.1;simpa [qHy] using this
 refine Ct.walk func14 rfl ntmps14 rfl (λw0 hw0=>?_)
 refine J.f λ_ j1=>J.p (qAd O O O) O λg3 _=>J.p (qAL O qOn O) O λg4 _=>J.q 2 O<|J.c j1 ?_
 refine J.k λ_ j2=>J.f λ_ j3=>J.b O<|J.g ((qA6 underlying27 O O O).as (v':= .bool false) O) O<|J.c j3 ?_
 refine J.a1 ?_
 refine J.M j2 ?_
 refine J.d4 (X:=Unit) (λζ=> [(3,Ptr g3),(4,Ptr g4),(7,Str ((qCI (l.getD (n-1) qAc).ns (((l.getD (n-1) qAc).dep:Nat):Int)))),(8,Str ((Sha.tagged 11 [s])))]) (λζ=> [F,blk g3 [Str (s),.slice Ae ne ce,.slice Ab bs.length cb,.bool (th),Str (pk),Str (pv)] 55,blk g4 [.int .u64 0,Str [],Str [],I 0,Str []] 61]) (λζ=>True) (λ_ j4=>?_) ?_
 ·
  refine J.b0 [F,blk g3 [Str (s),.slice Ae ne ce,.slice Ab bs.length cb,.bool (th),Str (pk),Str (pv)] 55] [] (.y 0 (.y 3 (.y 4 (.e 1 (.e 2 (.e 5 (.y 6 (.y 7 .nil)))))))) Tryz.wide (by decide+kernel) (by simp) ?_
  refine J.L ?_
  refine J.j O (qAA O O qSd O z9_ O) O O<|J.j O (qAE 1 O O O b9_ O) O O<|J.Z O (qAB O O ent30 (Ct.use0 (λF' hF=>qNa F' gc sl nd A n c l (hs.mono (Fa hF)) h0 hn (hC.mono (Fa hF))))) O (by simp) λg15 _=>J.Z rfl (qAB rfl rfl ent41 (Ct.use0 (λF' hF=>qI2 F' (hK.mo hF) (qA1 (l.getD (n-1) qAc)) (l.getD (n-1) qAc).nsA (l.getD (n-1) qAc).nsc hg (hxs.mono (Fa hF)) hsm))) rfl (by simp) λg16 _=>J.Z rfl (qAB rfl rfl ent39 (Ct.use0 (λF' hF=>qFt F' (hK.mo hF) s (by omega)))) rfl (by simp) λg19 _=>J.b6 ?_
  refine J.b6 ?_
  exact J.a8<|J.u<|J.a4 () j4 (trivial) ⟨O,O,O,O,trivial⟩ (λ_ h=>h)
 rintro _ _
 refine J.k λ_ j5=>J.f λ_ j6=>J.T 1 qSd sizeOf51 O O O O O<|J.a5 1 isAgg51 O O O O O<|J.g (qAU qFj O O) O<|J.g (qAg O O O) O<|J.c j6 ?_
 refine J.W O (λh23=>?_) (λh23=>?_)
 ·
  refine J.k λ_ j7=>J.f λ_ j8=>J.T 2 qSd qCl O O O O O<|J.g (qAX O O qF1 qCl (m:=blk g3 [Str (s),.slice Ae ne ce,.slice Ab bs.length cb,.bool (th),Str (pk),Str (pv)] 55) (by simp) (qAR.blk0.sub 2 4) rfl) rfl<|J.q 2 rfl<|J.p (qAB rfl rfl ent42 (Ct.use0 (λF' hF=>qOc F' (hK.mo hF) Ab cb bs (hsb.mono (Fa hF)) th pk pv (Sha.tagged 11 [s]) 0 hgp (qCI (l.getD (n-1) qAc).ns (((l.getD (n-1) qAc).dep:Nat):Int)) hpv))) rfl λg28 _=>J.g (qAy rfl rfl) rfl<|J.c j8 ?_
  refine J.c6 O (λh29=>?_) (λh29=>?_)
  ·
   refine J.f λ_ j9=>J.g (qAK (places:= [(0,1),(1,3),(4,1)]) (r:= [.int .u64 0,Str [],Str [],I 0,Str []]) O O O qJN qOn (λ_=>by kernel_rfl) O) O<|J.a6 (qAF (i:=2) O O O O O qBy O O) O O λ_ _=>J.q 2 O<|J.c j9 ?_
   exact J.A<|J.V<|J.V<|J.a9 hw0 (λ_ _ h=>h) (rv3 O (RV.blkA 2 O O qEV qBy) O O) (qAq () (by rw [chk_2 (by omega) (by simpa using h29)];rfl) trivial [0] rfl (by decide))
  refine J.M j7 ?_
  refine J.f λ_ j10=>J.g (qAK (places:= [(0,1),(1,3),(4,1)]) (r:= [.int .u64 0,Str [],Str [],I 0,Str []]) O O O qJN qOn (λ_=>by kernel_rfl) O) O<|J.a6 (qAF (i:=2) O O O O O qBy O O) O O λ_ _=>J.q 2 O<|J.c j10 ?_
  exact J.A<|J.V<|J.a9 hw0 (λ_ _ h=>h) (rv3 O (RV.blkA 2 O O qEV qBy) O O) (qAq () (by rw [chk_1 (by omega) (by simpa using h29)];rfl) trivial [0] rfl (by decide))
 refine J.M j5 ?_
 refine J.k λ_ j11=>J.f λ_ j12=>J.T 1 qSd sizeOf51 O O O O O<|J.a5 1 isAgg51 O O O O O<|J.p (qAB O O ent43 (Ct.use0 (λF' hF=>qL4 F' (hK.mo hF) le hel Ae ne ce (hse.mono (Fa hF)) (by omega)))) O λg34 _=>J.b O<|J.c j12 ?_
 refine J.f λ_ j13=>J.b O<|J.g (qAe O O O) O<|J.c j13 ?_
 refine J.W O (λh36=>?_) (λh36=>?_)
 ·
  refine J.f λ_ j14=>J.g (qAK (places:= [(0,1),(1,3),(4,1)]) (r:= [.int .u64 0,Str [],Str [],I 0,Str []]) O O O qJN qOn (λ_=>by kernel_rfl) O) O<|J.b O<|J.a6 (qAF (i:=2) O O O O O qBy O O) O O λ_ _=>J.q 2 O<|J.c j14 ?_
  exact J.A<|J.V<|J.a9 hw0 (λ_ _ h=>h) (rv3 O (RV.blkA 2 O O qEV qBy) O O) (qAq () (by rw [chk_3 (by omega) h36];rfl) trivial [0] rfl (by decide))
 refine J.M j11 ?_
 refine J.k λ_ j15=>?_
 have hE:(le.getD (ne-1) qBt).good:=hel _ (by rw [jB,jC (show ne-1<le.length by omega)];exact jX _)
 refine J.H<|J.T 1 qSd sizeOf51 O O O O O<|J.a5 1 isAgg51 O O O O O<|J.T 1 qSd sizeOf51 O O O O O<|J.a5 1 isAgg51 O O O O O<|J.g (qAU qFj O O) O<|J.g ((qA4 O O O (by omega)).nat (ne-1) (by omega)) O<|J.g (qAH O O O qFj qBy hse (by omega)) O<|J.g (qAX O O qEV qBy (m:=F) (by simp) (hse.elem (qUE (by omega))) rfl) rfl<|J.p (qAL rfl qOn rfl) rfl λg10 _=>J.a6 (qAF (i:=3) (l:= [.int .u64 0,Str [],Str [],I 0,Str []]) (vs:= [N64 ((le.getD (ne-1) qBt).v),Str ((le.getD (ne-1) qBt).o),Str ((le.getD (ne-1) qBt).r),I ((le.getD (ne-1) qBt).h),Str ((le.getD (ne-1) qBt).p)]) rfl rfl rfl rfl rfl qBy rfl rfl) rfl rfl λ_ _=>J.c j15 ?_
 refine J.k λ_ j16=>J.k λ_ j17=>J.b0 [F,blk g3 [Str (s),.slice Ae ne ce,.slice Ab bs.length cb,.bool (th),Str (pk),Str (pv)] 55,blk g10 [N64 ((le.getD (ne-1) qBt).v),Str ((le.getD (ne-1) qBt).o),Str ((le.getD (ne-1) qBt).r),I ((le.getD (ne-1) qBt).h),Str ((le.getD (ne-1) qBt).p)] 61] [] (.y 0 (.y 1 (.y 2 (.y 3 (.y 4 (.e 5 (.e 6 (.y 7 .nil)))))))) Tryz.wide (by decide+kernel) (by simp) ?_
 refine J.j O (qAA O O qSd O qCl O) O O<|J.j O (qAX O O qF1 qCl (m:=blk g3 [Str (s),.slice Ae ne ce,.slice Ab bs.length cb,.bool (th),Str (pk),Str (pv)] 55) (by simp) (qAR.blk0.sub 2 4) rfl) rfl rfl<|J.L ?_
 refine J.L ?_
 refine J.j O (qAY 2 O O O qEV qBy O) O O<|J.Z O (qAB O O ent15 (Ct.use0 (λF' hF=>qEs F' (hK.mo hF) (le.getD (ne-1) qBt).v (le.getD (ne-1) qBt).o (le.getD (ne-1) qBt).r (le.getD (ne-1) qBt).h (le.getD (ne-1) qBt).p hE.1 hE.2.1 hE.2.2.1 hE.2.2.2))) O (by simp) λg52 _=>J.Z rfl (qAB rfl rfl ent44 (Ct.use0 (λF' hF=>qNS F' (hK.mo hF) Ab cb bs (hsb.mono (Fa hF)) th pk pv (Sha.tagged 11 [s]) 0 hgp (qCI (l.getD (n-1) qAc).ns (((l.getD (n-1) qAc).dep:Nat):Int)) (qCs (le.getD (ne-1) qBt).v (le.getD (ne-1) qBt).o (le.getD (ne-1) qBt).r (le.getD (ne-1) qBt).h (le.getD (ne-1) qBt).p) hpv))) rfl (by simp) λg53 _=>J.j rfl (qAy rfl rfl) rfl rfl<|J.a8<|J.u (J.D j17 ?_)
 refine J.c6 O (λh54=>?_) (λh54=>?_)
 ·
  refine J.f λ_ j18=>J.g (qAK (places:= [(0,1),(1,3),(4,1)]) (r:= [.int .u64 0,Str [],Str [],I 0,Str []]) O O O qJN qOn (λ_=>by kernel_rfl) O) O<|J.a6 (qAF (i:=2) O O O O O qBy O O) O O λ_ _=>J.q 2 O<|J.c j18 ?_
  exact J.A<|J.V<|J.a9 hw0 (λ_ _ h=>h) (rv3 O (RV.blkA 2 O O qEV qBy) O O) (qAq () (by rw [chk_4 (by omega) h36 (by rw [hle];exact(by simpa using h54:qOj bs th pk pv (qCI (l.getD (n-1) qAc).ns (((l.getD (n-1) qAc).dep:Nat):Int)) (Sha.tagged 11 [s]) (qCs (le.getD (ne-1) qBt).v (le.getD (ne-1) qBt).o (le.getD (ne-1) qBt).r (le.getD (ne-1) qBt).h (le.getD (ne-1) qBt).p) 0=false))];rfl) trivial [0] rfl (by decide))
 refine J.M j16 ?_
 refine J.f λ_ j19=>J.b7 3 qEV qBy O O O O O<|J.a6 (qAF (i:=2) (l:= [.int .u64 0,Str [],Str [],I 0,Str []]) (vs:= [N64 ((le.getD (ne-1) qBt).v),Str ((le.getD (ne-1) qBt).o),Str ((le.getD (ne-1) qBt).r),I ((le.getD (ne-1) qBt).h),Str ((le.getD (ne-1) qBt).p)]) O O O O O qBy O O) O O λ_ _=>J.q 2 O<|J.c j19 ?_
 exact J.A<|J.a9 hw0 (λ_ _ h=>h) (rv3 O (RV.blkA 2 O O qEV qBy) O O) (qAq () (by rw [qYy (by omega) h36 (by rw [hle];exact(by simpa using h54:qOj bs th pk pv (qCI (l.getD (n-1) qAc).ns (((l.getD (n-1) qAc).dep:Nat):Int)) (Sha.tagged 11 [s]) (qCs (le.getD (ne-1) qBt).v (le.getD (ne-1) qBt).o (le.getD (ne-1) qBt).r (le.getD (ne-1) qBt).h (le.getD (ne-1) qBt).p) 0=true)),hle]) trivial [0] rfl (by decide))
end Go.Proofs.YtcgcjaflllmlpaaGreatDoor
namespace Go.Proofs.YtcgcjaflllmlpaaGreatDoor
open Go Go.Fw Go.Proofs.Tryz
set_option maxRecDepth 100000
set_option maxHeartbeats 1000000
attribute [local irreducible] Sha.tagged Wo.pub Wo.publicOf Wo.signs Wo.ends Wo.digs Wo.walk Wo.opn Mk.root Mk.path Mk.climb Xm.root sgC sgP qBG qBd sgB qAM qBW qAO
theorem qWS{m G G2:Hp}{x:SvR}{r:StR×WrR}(h:PbP m G G2 x r)(hI:SvI x)(k:List UInt8):qED (lbE (x.pub r).now) k=qED (lbE x.nxt) k:=(qRG hI.un h.pm.symm k).symm
theorem qKQ: ∀(l:List Sm.PR) (k v:List UInt8),Sm.getP (Sm.putP l k v) k=some v
  | [],k,v=>if_pos rfl
  |p::r,k,v=>by
    show Sm.getP (if p.1=k then(k,v)::r else p::Sm.putP r k v) k=_
    by_cases h:p.1=k
    · rw [if_pos h];exact if_pos rfl
    · rw [if_neg h]
      show(if p.1=k then some p.2 else Sm.getP (Sm.putP r k v) k)=_
      rw [if_neg h];exact qKQ r k v
abbrev enW(sd:List UInt8):En:=⟨1,Wo.opn sd,Xm.root sd 0,((0:Nat):Int),qAm⟩
theorem ofV_0(k:List UInt8):ofV k 0=0:=by
  unfold ofV
  split
  · have h:qFN k 0<1:=qJK k 0
    omega
  · rfl
theorem qSF.get{a:Nat}{x:SvR}(h:qSF a 0 x){s sd:List UInt8}(y:SbR)(hI:SvI (x.put s sd y))(r:StR×WrR):Sm.getP ((x.put s sd y).pub r).kvL (Sha.tagged 11 [s])=some (enW sd).val:=by
 rw [SvR.pub_kvL _ r hI.tk]
 have hc:(x.put s sd y).cl= [⟨Sha.tagged 11 [s],(enW sd).val⟩]:=by show x.cl++ [_]=_;rw [h.cl];rfl
 have hb:qDK [(⟨Sha.tagged 11 [s],(enW sd).val⟩:Chg)] 0 0= [⟨Sha.tagged 11 [s],(enW sd).val⟩]:=by
  unfold qDK
  rw [List.filter_cons_of_pos (by rw [ofV_0];rfl)];rfl
 rw [hc,show(x.put s sd y).dp=0 from h.dp]
 show Sm.getP (kvC _ (qDK _ 0 0)) _=_
 rw [hb]
 exact qKQ _ _ _
theorem qSF.now_{a:Nat}{x:SvR}(h:qSF a 0 x){s sd:List UInt8}(y:SbR)(hI:SvI (x.put s sd y)){m G G2:Hp}{r:StR×WrR}(hp:PbP m G G2 (x.put s sd y) r):qED (lbE ((x.put s sd y).pub r).now) s= [enW sd]:=by
 refine(qWS hp hI _).trans ?_
 show qED (lbE (x.nxt++ [_])) s=_
 rw [h.nxt]
 exact if_pos rfl
theorem qUN{kv:List Sm.PR}(hf:qCJ kv){k:List UInt8}(hk:k.length=16){s0:Nat}(hst:qKv kv k 0 s0){yl:RhD}{a:Nat}(hy:qA1 yl=hdN a 0 kv){sd:List UInt8}(hg:Sm.getP kv k=some (enW sd).val):qJQ (qCI yl.ns ((yl.dep:Nat):Int)) k [enW sd] (bsd kv k 0 (s0-0)) (qAo kv k s0) (qBo kv k s0) (qBr kv k s0)=(enW sd,true,0):=by
 have e1:yl.ns=qAp kv 0:=congrArg Hd.nodes hy
 have e2:yl.dep=0:=yK (congrArg Hd.dep hy)
 refine qYy (by show¬1=0;decide) (by rw [En.hist1 (enW sd) rfl rfl];decide) ?_
 have e:=qJw hf hk hst
 rw [hg,Sm.ndB_zero] at e
 rw [e1,e2,(qIt hf (d:=0) (by decide)).2]
 exact e
theorem rep0(a j:Nat):(List.replicate a 0).getD j 0≤0:=by
 rw [jB,yJ]
 split<;>exact jK _
theorem qPt(gh:Nat)(p:RhD):Row (blk gh p.cells 34) 34 5 (some ⟨gh,0,none⟩) 1 1 (qCu [p]):=qAl (q:=True) (xs:=qCu [p]) rfl (by intro x hx;rw [List.mem_singleton.1 hx];rfl)
theorem qEK(kv:List Sm.PR): ∀s∈qAp kv 0,s.length≤1048576:=λs hs=>by
 unfold qAp qCN at hs
 obtain ⟨j,_,rfl⟩:=List.mem_map.1 hs
 exact jb (Sm.nd_small _ _) (by decide)
theorem qGh(kv:List Sm.PR):(qAp kv 0).length=1:=by unfold qAp;rw [qBa]
end Go.Proofs.YtcgcjaflllmlpaaGreatDoor
namespace Go.Proofs.YtcgcjaflllmlpaaGreatDoor
open Go Go.Fw Go.Proofs.Tryz
set_option maxRecDepth 100000
set_option maxHeartbeats 1000000
theorem ent85:qAD prog 85:=qAD.of func85 rfl (by kernel_rfl)
theorem rv3c{P:Program}{env:Env}{ms:List Hp}{fn:Func}{n:Nat}{w0:Wd}{x t x' t' u v v' v''}(h:fn.results= #[.cell x t,.cell x' t',.tmp u])(h1:RV P env ms (.cell x t) v)(h2:RV P env ms (.cell x' t') v')(h3:RV P env ms (.tmp u) v''): ∀a w,Kn n env a→St w0 ms w→(results fn a.tmps).run P w= .ok (.tuple #[v,v',v'']) w:=λa w hk hs=>by
  have e:=RV.run hk hs h1
  have e':=RV.run hk hs h2
  have e'':=RV.run hk hs h3
  have hA: ∀(f:Value→World→Result Value) (x:Tmp) (t:TypeId) (u:Value),(do loadVar t (←asAddr (a.tmps.getD x undef)):Sem Value).run P w= .ok u w→
      ((Sem.run P (asAddr (a.tmps[x]?.getD undef)) w).andThen λb w'=>(Sem.run P (loadVar t b) w').andThen f)=f u w:=λf x t u hu=>by
    have h3:((Sem.run P (asAddr (a.tmps[x]?.getD undef)) w).andThen λb w'=>(Sem.run P (loadVar t b) w'))= .ok u w:=by simpa using hu
    cases hq:Sem.run P (asAddr (a.tmps[x]?.getD undef)) w with
    |ok b w'=>rw [hq] at h3;simp only [Result.andThen_ok] at h3⊢;rw [h3];rfl
    |halt x w'=>rw [hq] at h3;cases h3
  simp at e''
  unfold results
  rw [h]
  simp
  rw [hA _ _ _ _ e]
  rw [hA _ _ _ _ e']
  simp [e'']
theorem qWO(F:Hp)(g:Nat)(RA:Option Addr)(rn rc:Nat)(l:List Aud)(hrc:qAR F ⟨g,0,none⟩ [.slice RA rn rc])(hrs:Sl F 4 RA rn rc (qBX l))(k:Nat)(hk:k<l.length):Cz prog 85 [Ptr g,I ((k:Nat):Int)] F (.tuple #[.agg #[Str ((l.getD k qAs).nm),Str ((l.getD k qAs).op),Str ((l.getD k qAs).rt),I ((l.getD k qAs).ht)],I ((0:Nat):Int)]):=by
 have hrl:l.length=rn:=by have:=hrs.1;rw [qDp] at this;exact this
 refine Ct.walk func85 rfl ntmps85 rfl (λw0 hw0=>?_)
 refine J.f λ_ j1=>J.p (qAL O qOy O) O λg4 _=>J.b O<|J.c j1<|J.k λ_ j2=>J.f λ_ j3=>J.b O<|J.g ((qAT O O O).no (by omega)) O<|J.q 3 O<|J.c9 (qAB O O ent122 (Ct.use0 (λF' hF=>qMh F' g RA rn rc (hrc.mono (Fa hF))))) O λg11 _=>J.G ((qBA O O O).no (by omega)) O<|J.b O<|J.c j3<|J.a1 ?_
 exact J.M j2<|J.f λ_ j4=>J.b O<|J.g (qAC O O) O<|J.T 0 qGG qSH O O O O O<|J.g (qAJ O O isAgg76 (m:=F) (by simp) (hrc)) rfl<|J.b rfl<|J.g (qAH rfl rfl rfl qGF qDV hrs (by omega)) rfl<|J.g (qAX rfl rfl qKq qDV (m:=F) (by simp) (hrs.elem (qEx (by omega))) rfl) rfl<|J.a6 (qAF (i:=1) (l:= [Str [],Str [],Str [],I 0]) (vs:= [Str ((l.getD k qAs).nm),Str ((l.getD k qAs).op),Str ((l.getD k qAs).rt),I ((l.getD k qAs).ht)]) rfl rfl rfl rfl rfl qDV rfl rfl) rfl rfl λ_ _=>J.b rfl<|J.c j4<|J.A<|J.a9 hw0 (λ_ _ h=>h) (rv2 rfl (RV.blkA 1 rfl rfl qKq qDV) rfl) (qAq () rfl trivial [0] rfl (by decide))
structure MbR where
 s:Nat
 A:Option Addr
 c:Nat
 m:Hp
structure MbP (x:SvR) (e k:Nat) (r:MbR):Prop where
 st:qKv (x.kv.getD e []) (qAM k) 0 r.s
 rb:Row r.m 9 1 r.A (bsd (x.kv.getD e []) (qAM k) 0 (r.s-0)).length r.c (qAI (bsd (x.kv.getD e []) (qAM k) 0 (r.s-0)))
theorem qGM(F:Hp)(hK:KF F)(x:SvR)(hc:qAR F ⟨x.gs,0,none⟩ [I ((x.dp:Nat):Int),Ptr x.gb,.bool false,.map (some x.nA),Ptr x.rA,.map (some x.nB),Ptr x.rB,.slice x.cA x.cl.length x.cc,.slice x.oA x.no.length x.oc,.slice x.tA x.tg.length x.tc,.slice x.hA x.hd.length x.hc])(hts:Sl F 1 x.tA x.tg.length x.tc (qBp x.tg))(hhs:Sl F 5 x.hA x.hd.length x.hc (qCu x.hd))(hnb:x.hd.length≤1000)(hra:qSE F x.rA x.aud)(e k:Nat)(he:e<x.hd.length)(het:e<x.tg.length)(hk:k<(x.hd.getD e qAc).aud)(hka:k<x.aud.length)(hal:x.aud.length≤64)(hT:qCU F (x.tg.getD e 0) (x.kv.getD e []))(hf:qCJ (x.kv.getD e [])):Ct prog 36 [Ptr x.gs,N64 e,I ((k:Nat):Int)] [F] (λr:MbR=> .tuple #[.agg #[Str ((x.aud.getD k qAs).nm),Str ((x.aud.getD k qAs).op),Str ((x.aud.getD k qAs).rt),I ((x.aud.getD k qAs).ht)],.agg #[.slice r.A (bsd (x.kv.getD e []) (qAM k) 0 (r.s-0)).length r.c,.bool (qAo (x.kv.getD e []) (qAM k) r.s),Str (qBo (x.kv.getD e []) (qAM k) r.s),Str (qBr (x.kv.getD e []) (qAM k) r.s)],I ((0:Nat):Int)]) (MbP x e k) (λr=> [F,r.m]):=by
 obtain ⟨RA,rn,rc,hrc,hrs⟩:=hra
 have hrl:x.aud.length=rn:=by have:=hrs.1;rw [qDp] at this;exact this
 refine Ct.walk func36 rfl ntmps36 rfl (λw0 hw0=>?_)
 refine J.f λ_ j1=>J.p (qAL O qOy O) O λg6 _=>J.p (qAL O qOo O) O λg7 _=>J.b O<|J.c j1<|J.k λ_ j2=>J.O<|J.f λ_ j3=>J.b O<|J.g ((qA6 qXt O O O).as (v':= .bool false) O) O<|J.q 3 O<|J.G (qAC O O) O<|J.G (qAA O O qCV O qJS O) O<|J.G (qAJ O O qOr (m:=F) (by simp) (hc.at (i:=10) rfl)) rfl<|J.G (qAU qFP rfl rfl) rfl<|J.G (qD2 rfl rfl u3_ qEU (by omega)) rfl<|J.G ((qBA rfl rfl rfl).no (by omega)) rfl<|J.q 2 rfl<|J.c j3<|J.a1 ?_
 refine J.f λ_ j4=>J.b O<|J.g ((qAT O O O).no (by omega)) O<|J.q 3 O<|J.G (qAC O O) O<|J.G (qAA O O qCV O qJS O) O<|J.G (qAJ O O qOr (m:=F) (by simp) (hc.at (i:=10) rfl)) rfl<|J.b rfl<|J.G (qAH rfl rfl rfl qFP qBz hhs (by omega)) rfl<|J.G (qEk rfl rfl qDW rfl z3_ hhs (by omega) rfl) rfl<|J.G (qAJ rfl rfl b3_ (m:=F) (by simp) (hhs.part (qDC (by omega)) 3 1)) rfl<|J.G ((qBA rfl rfl rfl).no (by omega)) rfl<|J.q 2 rfl<|J.c j4<|J.a1 ?_
 refine J.b5<|J.a2<|J.u (J.D j2 ?_)
 refine J.f λ_ j5=>J.b O<|J.g (qAC O O) O<|J.T 3 qCV qF2 O O O O O<|J.T 4 qLE sizeOf93 O O O O O<|J.g (qAJ O O isAgg93 (m:=F) (by simp) (hc.at (i:=4) rfl)) rfl<|J.b rfl<|J.p (qAB rfl rfl ent85 (Ct.use0 (λF' hF=>(by have:=qWO F' x.rA RA rn rc x.aud (hrc.mono (Fa hF)) (hrs.mono (Fa hF)) k hka;exact this)))) rfl λg51 _=>J.q 3 rfl<|J.p (qAL rfl qOy rfl) rfl λg9 _=>J.a6 (qAF (i:=3) (l:= [Str [],Str [],Str [],I 0]) (vs:= [Str ((x.aud.getD k qAs).nm),Str ((x.aud.getD k qAs).op),Str ((x.aud.getD k qAs).rt),I ((x.aud.getD k qAs).ht)]) rfl rfl rfl rfl rfl qDV rfl rfl) rfl rfl λ_ _=>J.b rfl<|J.c j5<|J.k λ_ j6=>J.f λ_ j7=>J.b rfl<|J.g ((qAe rfl rfl rfl).no (by decide)) rfl<|J.c j7<|J.a1 ?_
 refine J.M j6<|J.k λ_ j8=>J.b0 [F] [14,15,100012] (.y 0 (.y 1 (.y 2 (.y 3 (.y 4 (.y 5 (.y 6 (.y 7 (.br (.e 8 (.br (.e 9 (.y 10 (.y 11 (.y 12 (.e 13 (.e 14 (.e 15 .nil))))))) (.e 13 (.e 9 (.y 10 (.y 11 (.y 12 (.e 14 (.e 15 .nil))))))))) (.e 13 (.e 8 (.e 9 (.y 10 (.y 11 (.y 12 (.e 14 (.e 15 .nil))))))))))))))))) Tryz.wide (by decide+kernel) (by simp) ?_
 refine J.L ?_
 refine J.j O (qAC O O) O O<|J.j O (qAA O O qCV O sizeOf97 O) O O<|J.j O (qAJ O O isAgg97 (m:=F) (by simp) (hc.at (i:=9) rfl)) rfl rfl<|J.L ?_
 refine J.j O (qAH O O O qXs sizeOf118 hts (by omega)) O O<|J.j O (qAJ O O isAgg118 (m:=F) (by simp) (hts.elem (qGT (by omega)))) rfl rfl<|J.L ?_
 refine J.d5 ?_ ?_
 ·
  refine J.Z O (qAB O O ent86 (Ct.use0 (λF' hF=>qDx F' (hK.mo hF) k (by omega)))) O (by simp) λg68 _=>J.d5 ?_ ?_
  ·
   refine J.Z O (qAB O O ent37 (Ct.use (λF' hF=>qEd F' (hK.mo hF) (x.tg.getD e 0) (x.kv.getD e []) (hT.mono (Fa hF)) hf (qAM k) (qBq k) 0 (by omega)))) O (by simp) ?_
   rintro⟨s69,A69,c69,m69⟩ ⟨hst69,hr69⟩
   refine J.L ?_
   refine J.c3 (.agg #[.slice A69 (bsd (x.kv.getD e []) (qAM k) 0 (s69-0)).length c69,.bool (qAo (x.kv.getD e []) (qAM k) s69),Str (qBo (x.kv.getD e []) (qAM k) s69),Str (qBr (x.kv.getD e []) (qAM k) s69)]) ?_
   refine J.d8 O (qAh O O O) O O O ?_
   refine J.Z O (qAL O qOo O) O (by simp) λg11 _=>J.c2 rfl (qAF (i:=5) (l:= [.slice none 0 0,.bool false,Str [],Str []]) (vs:= [.slice A69 (bsd (x.kv.getD e []) (qAM k) 0 (s69-0)).length c69,.bool (qAo (x.kv.getD e []) (qAM k) s69),Str (qBo (x.kv.getD e []) (qAM k) s69),Str (qBr (x.kv.getD e []) (qAM k) s69)]) rfl rfl rfl rfl rfl qCl rfl rfl) rfl rfl rfl λ_ _=>J.d6 rfl (YOp.eop (qBm rfl rfl)) rfl rfl rfl rfl ?_
   intro _ _
   refine J.a8<|J.u (J.D j8 ?_)
   refine J.k λ_ j9=>J.b0 [blk g9 [Str ((x.aud.getD k qAs).nm),Str ((x.aud.getD k qAs).op),Str ((x.aud.getD k qAs).rt),I ((x.aud.getD k qAs).ht)] 72,blk g11 [.slice A69 (bsd (x.kv.getD e []) (qAM k) 0 (s69-0)).length c69,.bool (qAo (x.kv.getD e []) (qAM k) s69),Str (qBo (x.kv.getD e []) (qAM k) s69),Str (qBr (x.kv.getD e []) (qAM k) s69)] 53] [] (.y 0 (.y 1 (.y 2 (.e 3 (.e 4 (.y 5 .nil)))))) Tryz.wide (by decide+kernel) (by simp) ?_
   refine J.j O (qAY 0 O O O qKq qDV O) O O<|J.j O (qAY 1 O O O qF1 qCl O) O O<|J.L ?_
   refine J.d0 O (qAF (i:=1) (l:= [Str [],Str [],Str [],I 0]) (vs:= [Str ((x.aud.getD k qAs).nm),Str ((x.aud.getD k qAs).op),Str ((x.aud.getD k qAs).rt),I ((x.aud.getD k qAs).ht)]) O O O O O qDV O O) O O (by simp) λ_ _=>J.d0 rfl (qAF (i:=2) (l:= [.slice none 0 0,.bool false,Str [],Str []]) (vs:= [.slice A69 (bsd (x.kv.getD e []) (qAM k) 0 (s69-0)).length c69,.bool (qAo (x.kv.getD e []) (qAM k) s69),Str (qBo (x.kv.getD e []) (qAM k) s69),Str (qBr (x.kv.getD e []) (qAM k) s69)]) rfl rfl rfl rfl rfl qCl rfl rfl) rfl rfl (by simp) λ_ _=>J.b6 ?_
   refine J.a8<|J.u (J.D j9 ?_)
   exact J.A<|J.a9 hw0 (λ_ _ h=>h) (rv3c O (RV.blkA 1 O O qKq qDV) (RV.blkA 2 O O qF1 qCl) O) (qAq (⟨s69,A69,c69,m69⟩:MbR) O ⟨hst69,hr69⟩ [0,4] O (by decide))
  refine J.Z O (qAL O qOo O) O (by simp) λg11 _=>J.Z rfl (qAB rfl rfl ent37 (Ct.use (λF' hF=>qEd F' (hK.mo hF) (x.tg.getD e 0) (x.kv.getD e []) (hT.mono (Fa hF)) hf (qAM k) (qBq k) 0 (by omega)))) rfl (by simp) ?_
  rintro⟨s69,A69,c69,m69⟩ ⟨hst69,hr69⟩
  refine J.L ?_
  refine J.c3 (.agg #[.slice A69 (bsd (x.kv.getD e []) (qAM k) 0 (s69-0)).length c69,.bool (qAo (x.kv.getD e []) (qAM k) s69),Str (qBo (x.kv.getD e []) (qAM k) s69),Str (qBr (x.kv.getD e []) (qAM k) s69)]) ?_
  refine J.d8 O (qAh O O O) O O O ?_
  refine J.c2 O (qAF (i:=4) (l:= [.slice none 0 0,.bool false,Str [],Str []]) (vs:= [.slice A69 (bsd (x.kv.getD e []) (qAM k) 0 (s69-0)).length c69,.bool (qAo (x.kv.getD e []) (qAM k) s69),Str (qBo (x.kv.getD e []) (qAM k) s69),Str (qBr (x.kv.getD e []) (qAM k) s69)]) O O O O O qCl O O) O O O λ_ _=>J.d6 O (YOp.eop (qBm O O)) O O O O ?_
  intro _ _
  refine J.a8<|J.u (J.D j8 ?_)
  refine J.k λ_ j10=>J.b0 [blk g9 [Str ((x.aud.getD k qAs).nm),Str ((x.aud.getD k qAs).op),Str ((x.aud.getD k qAs).rt),I ((x.aud.getD k qAs).ht)] 72,blk g11 [.slice A69 (bsd (x.kv.getD e []) (qAM k) 0 (s69-0)).length c69,.bool (qAo (x.kv.getD e []) (qAM k) s69),Str (qBo (x.kv.getD e []) (qAM k) s69),Str (qBr (x.kv.getD e []) (qAM k) s69)] 53] [] (.y 0 (.y 1 (.y 2 (.e 3 (.e 4 (.y 5 .nil)))))) Tryz.wide (by decide+kernel) (by simp) ?_
  refine J.j O (qAY 0 O O O qKq qDV O) O O<|J.j O (qAY 1 O O O qF1 qCl O) O O<|J.L ?_
  refine J.d0 O (qAF (i:=1) (l:= [Str [],Str [],Str [],I 0]) (vs:= [Str ((x.aud.getD k qAs).nm),Str ((x.aud.getD k qAs).op),Str ((x.aud.getD k qAs).rt),I ((x.aud.getD k qAs).ht)]) O O O O O qDV O O) O O (by simp) λ_ _=>J.d0 rfl (qAF (i:=2) (l:= [.slice none 0 0,.bool false,Str [],Str []]) (vs:= [.slice A69 (bsd (x.kv.getD e []) (qAM k) 0 (s69-0)).length c69,.bool (qAo (x.kv.getD e []) (qAM k) s69),Str (qBo (x.kv.getD e []) (qAM k) s69),Str (qBr (x.kv.getD e []) (qAM k) s69)]) rfl rfl rfl rfl rfl qCl rfl rfl) rfl rfl (by simp) λ_ _=>J.b6 ?_
  refine J.a8<|J.u (J.D j10 ?_)
  exact J.A<|J.a9 hw0 (λ_ _ h=>h) (rv3c O (RV.blkA 1 O O qKq qDV) (RV.blkA 2 O O qF1 qCl) O) (qAq (⟨s69,A69,c69,m69⟩:MbR) O ⟨hst69,hr69⟩ [0,5] O (by decide))
 refine J.Z O (qAL O qOo O) O (by simp) λg11 _=>J.Z rfl (qAB rfl rfl ent86 (Ct.use0 (λF' hF=>qDx F' (hK.mo hF) k (by omega)))) rfl (by simp) λg68 _=>J.Z rfl (qAB rfl rfl ent37 (Ct.use (λF' hF=>qEd F' (hK.mo hF) (x.tg.getD e 0) (x.kv.getD e []) (hT.mono (Fa hF)) hf (qAM k) (qBq k) 0 (by omega)))) rfl (by simp) ?_
 rintro⟨s69,A69,c69,m69⟩ ⟨hst69,hr69⟩
 refine J.L ?_
 refine J.c3 (.agg #[.slice A69 (bsd (x.kv.getD e []) (qAM k) 0 (s69-0)).length c69,.bool (qAo (x.kv.getD e []) (qAM k) s69),Str (qBo (x.kv.getD e []) (qAM k) s69),Str (qBr (x.kv.getD e []) (qAM k) s69)]) ?_
 refine J.d8 O (qAh O O O) O O O ?_
 refine J.c2 O (qAF (i:=4) (l:= [.slice none 0 0,.bool false,Str [],Str []]) (vs:= [.slice A69 (bsd (x.kv.getD e []) (qAM k) 0 (s69-0)).length c69,.bool (qAo (x.kv.getD e []) (qAM k) s69),Str (qBo (x.kv.getD e []) (qAM k) s69),Str (qBr (x.kv.getD e []) (qAM k) s69)]) O O O O O qCl O O) O O O λ_ _=>J.d6 O (YOp.eop (qBm O O)) O O O O ?_
 intro _ _
 refine J.a8<|J.u (J.D j8 ?_)
 refine J.k λ_ j11=>J.b0 [blk g9 [Str ((x.aud.getD k qAs).nm),Str ((x.aud.getD k qAs).op),Str ((x.aud.getD k qAs).rt),I ((x.aud.getD k qAs).ht)] 72,blk g11 [.slice A69 (bsd (x.kv.getD e []) (qAM k) 0 (s69-0)).length c69,.bool (qAo (x.kv.getD e []) (qAM k) s69),Str (qBo (x.kv.getD e []) (qAM k) s69),Str (qBr (x.kv.getD e []) (qAM k) s69)] 53] [] (.y 0 (.y 1 (.y 2 (.e 3 (.e 4 (.y 5 .nil)))))) Tryz.wide (by decide+kernel) (by simp) ?_
 refine J.j O (qAY 0 O O O qKq qDV O) O O<|J.j O (qAY 1 O O O qF1 qCl O) O O<|J.L ?_
 refine J.d0 O (qAF (i:=1) (l:= [Str [],Str [],Str [],I 0]) (vs:= [Str ((x.aud.getD k qAs).nm),Str ((x.aud.getD k qAs).op),Str ((x.aud.getD k qAs).rt),I ((x.aud.getD k qAs).ht)]) O O O O O qDV O O) O O (by simp) λ_ _=>J.d0 rfl (qAF (i:=2) (l:= [.slice none 0 0,.bool false,Str [],Str []]) (vs:= [.slice A69 (bsd (x.kv.getD e []) (qAM k) 0 (s69-0)).length c69,.bool (qAo (x.kv.getD e []) (qAM k) s69),Str (qBo (x.kv.getD e []) (qAM k) s69),Str (qBr (x.kv.getD e []) (qAM k) s69)]) rfl rfl rfl rfl rfl qCl rfl rfl) rfl rfl (by simp) λ_ _=>J.b6 ?_
 refine J.a8<|J.u (J.D j11 ?_)
 exact J.A<|J.a9 hw0 (λ_ _ h=>h) (rv3c O (RV.blkA 1 O O qKq qDV) (RV.blkA 2 O O qF1 qCl) O) (qAq (⟨s69,A69,c69,m69⟩:MbR) O ⟨hst69,hr69⟩ [0,5] O (by decide))
theorem ent8:qAD prog 8:=qAD.of func8 rfl (by kernel_rfl)
theorem ent36:qAD prog 36:=qAD.of func36 rfl (by kernel_rfl)
theorem el74:qCe prog 74 [.int .u64 0,.int .i64 0,Str [],.int .i64 0,.int .i64 0,.slice none 0 0,.slice none 0 0,Str [],Str [],Str [],.int .i64 0,.slice none 0 0,.bool false,Str [],Str []] 216:=qCe.of (by kernel_rfl) rfl
attribute [local irreducible] Sha.tagged Wo.pub Wo.publicOf Wo.signs Wo.ends Wo.digs Wo.walk Wo.opn Mk.root Mk.path Mk.climb Xm.root sgC sgP qBW qAO
theorem qGE(F mu m:Hp)(hK:KF F)(a d sl nd:Nat)(h1:1≤nd)(h2:nd≤sl)(h3:sl≤a)(ha:a≤3)(hd:d≤0)(x:SvR)(hS:Srv m F x)(hm:Le m F)(hx:Pub6 a d x)(gw:Nat)(gs:List Nat)(kA:Option Addr)(kc gu uc:Nat)(us:List Nat)(hW:Wld a us F mu gw x gs kA kc gu uc)(B:Nat)(hB:B≤100)(hub: ∀j,us.getD j 0≤B)(y:RhD)(hgy:(qA1 y).good)(hsy:nsl F y)(hye:y.ep≤4294967295)(hyd:(qA1 y).dig.length=16)(p:RhD)(hp:x.hd.getD 0 qAc=p):Ct prog 12 [Ptr gw,I ((a:Nat):Int),.agg #[I ((sl:Nat):Int),I ((nd:Nat):Int)],.agg #[N64 (y.ep),Str (y.par),I ((y.dep:Nat):Int),I ((y.aud:Nat):Int),.slice y.nsA y.ns.length y.nsc]] [mu,F] (λr:VtsR=> .slice r.A r.V.length r.c) (VtsP B a d sl (qA1 y) (qBW a d sl) gu uc us) (λr=> [r.mu,F,r.m,r.G]):=by
 have hgl:=hW.gl
 have hpW:qA1 p=pW a d:=by rw [←hp];exact hx.h0
 have hpe:p.ep=0:=congrArg Hd.ep hpW
 have hpd:p.dep=d:=by have:=congrArg Hd.dep hpW;exact yK this
 have hpa:p.aud=a:=by have:=congrArg Hd.aud hpW;exact yK this
 have hpg:(qA1 p).good:=by rw [hpW];exact qLV a hd
 have hperr:(qA1 p).err=0:=by rw [hpW];exact qL2 ha hd
 have hpn:nsl F p:=by have:=hS.p.hn 0 (by rw [hx.hd2];decide);rw [hp] at this;exact this
 have hdr:qMH (qA1 p).dig (2^d) a sl (qBW a d sl):=by rw [hpW];exact qL6 ha hd (by omega) h3
 have hhd:=hx.hd2
 have hpw:2^d≤2:=jb (jf (by decide) hd) (by decide)
 refine Ct.walk func12 rfl ntmps12 rfl (λw0 hw0=>?_)
 refine J.f λ_ j1=>J.p (qAd O O O) O λg6 _=>J.p (qAd O O O) O λg7 _=>J.b O<|J.c j1<|J.f λ_ j2=>J.b O<|J.g (qAC O O) O<|J.T 0 qG8 qO4 O O O O O<|J.g (qAJ O O isAgg36 (m:=F) (by simp) (hW.w.at (i:=0) rfl)) rfl<|J.p (qAB rfl rfl ent8 (Ct.use (λF' hF=>qIQ F' x (hS.cells.mono (hm.trans (Fa hF))) (hS.hsl.mono (hm.trans (Fa hF))) (by omega)))) rfl ?_
 rintro⟨A25,c25,m25⟩ h25
 try dsimp only at h25
 refine J.b O<|J.c j2<|J.f λ_ j3=>J.q 2 O<|J.g (qAU qFP O O) O<|J.g ((qA4 O O O (by omega)).nat (0) (by omega)) O<|J.g (qAH O O O qFP qBz h25.sl (by omega)) O<|J.g (qAX O O qDT qBz (m:=m25) (by simp) (by have:=h25.sl.elem (qDC (l:=x.hd) (k:=0) (by omega));rw [hp] at this;exact this) rfl) rfl<|J.p (qAL rfl qRU rfl) rfl λg10 _=>J.a6 (qAF (i:=5) (l:= [.int .u64 0,Str [],I 0,I 0,.slice none 0 0]) (vs:= [N64 (p.ep),Str (p.par),I ((p.dep:Nat):Int),I ((p.aud:Nat):Int),.slice p.nsA p.ns.length p.nsc]) rfl rfl rfl rfl rfl qBz rfl rfl) rfl rfl λ_ _=>J.c j3<|J.f λ_ j4=>J.b7 5 qDT qBz rfl rfl rfl rfl rfl<|J.b rfl<|J.b7 2 qSO qNn rfl rfl rfl rfl rfl<|J.p (qAB rfl rfl ent32 (Ct.use (λF' hF=>qHT F' (hK.mo hF) (qA1 p) p.nsA p.nsc hpg (hpn.mono (Fa hF)) d a sl nd (by omega) (congrArg (λn:Nat=>(n:Int)) hpd) hperr h1 h2 h3 (by omega) (qBW a d sl) hdr))) rfl ?_
 rintro r36 hw36
 refine J.q 5 O<|J.c j4<|J.f λ_ j5=>J.b O<|J.c j5<|J.k λ_ j6=>J.f λ_ j7=>J.b O<|J.c j7<|J.O<|J.b4 (X:=Nat×List VtD×List Nat×Option Addr×Nat×Hp×Hp×Hp) (λζ=> [(0,Ptr gw),(7,Ptr g7),(10,Ptr g10),(11,.slice r36.A r36.ws.length r36.c),(13,.slice ζ.2.2.2.1 ζ.2.1.length ζ.2.2.2.2.1),(14,I ((ζ.1:Nat):Int))]) (λζ=> [ζ.2.2.2.2.2.2.1,ζ.2.2.2.2.2.2.2,ζ.2.2.2.2.2.1,F,blk g6 [I ((sl:Nat):Int),I ((nd:Nat):Int)] 26,blk g7 [N64 (y.ep),Str (y.par),I ((y.dep:Nat):Int),I ((y.aud:Nat):Int),.slice y.nsA y.ns.length y.nsc] 34,m25,blk g10 [N64 (p.ep),Str (p.par),I ((p.dep:Nat):Int),I ((p.aud:Nat):Int),.slice p.nsA p.ns.length p.nsc] 34,r36.mr,r36.G]) (λζ=>ζ.1≤r36.ws.length∧ζ.2.1.length=ζ.1*sl∧Row ζ.2.2.2.2.2.1 74 15 ζ.2.2.2.1 ζ.2.1.length ζ.2.2.2.2.1 (qHB ζ.2.1)∧qNl ζ.2.2.2.2.2.2.2 a d sl (qA1 y) (qBW a d sl) ζ.2.1∧ζ.2.2.1.length=a∧(∀j,ζ.2.2.1.getD j 0≤B+ζ.2.1.length)∧Row ζ.2.2.2.2.2.2.1 3 1 (some ⟨gu,0,none⟩) a uc (qBJ ζ.2.2.1)) (λζ=>r36.ws.length-ζ.1) (0,[],us,none,0,(λ_=>none),mu,(λ_=>none)) (⟨jG _,by rw [yG];rfl,qBb.nil,qNl.nil _ _ _ _ _ _,hW.ul,hub,hW.ur⟩) ⟨rfl,rfl,rfl,rfl,rfl,rfl,trivial⟩ (λ_ h=>h.empty.empty.pick [0,8,9,1,2,3,4,5,6,7] (by decide)) ?_
 rintro⟨b,V,us2,AV,cV,mV,mu2,G⟩ ⟨hb,hVl,hrV,hhon,hul2,hub2,hur2⟩ I0 hI0
 dsimp only at hb hVl hrV hhon hul2 hub2 hur2⊢
 have hsl5:b*sl≤2*5:=Nat.mul_le_mul (by have:=hw36.len;omega) (by omega)
 have hV10:V.length≤10:=by omega
 refine J.k λ_ j8=>J.f λ_ j9=>J.q 2 O<|J.g (qAU qIJ O O) O<|J.g (qAT O O O) O<|J.c j9<|J.W O (λh42=>?_) (λh42=>?_)
 ·
  refine J.M j8<|J.k λ_ j10=>J.O<|J.f λ_ j11=>J.b O<|J.c j11<|J.O<|J.b4 (X:=Nat×List VtD×List Nat×Option Addr×Nat×Hp×Hp×Hp) (λζ=> [(0,Ptr gw),(7,Ptr g7),(10,Ptr g10),(11,.slice r36.A r36.ws.length r36.c),(13,.slice ζ.2.2.2.1 ζ.2.1.length ζ.2.2.2.2.1),(14,I ((b:Nat):Int)),(15,I ((ζ.1:Nat):Int))]) (λζ=> [ζ.2.2.2.2.2.2.1,ζ.2.2.2.2.2.2.2,ζ.2.2.2.2.2.1,F,blk g6 [I ((sl:Nat):Int),I ((nd:Nat):Int)] 26,blk g7 [N64 (y.ep),Str (y.par),I ((y.dep:Nat):Int),I ((y.aud:Nat):Int),.slice y.nsA y.ns.length y.nsc] 34,m25,blk g10 [N64 (p.ep),Str (p.par),I ((p.dep:Nat):Int),I ((p.aud:Nat):Int),.slice p.nsA p.ns.length p.nsc] 34,r36.mr,r36.G]) (λζ=>ζ.1≤sl∧ζ.2.1.length=b*sl+ζ.1∧Row ζ.2.2.2.2.2.1 74 15 ζ.2.2.2.1 ζ.2.1.length ζ.2.2.2.2.1 (qHB ζ.2.1)∧qNl ζ.2.2.2.2.2.2.2 a d sl (qA1 y) (qBW a d sl) ζ.2.1∧ζ.2.2.1.length=a∧(∀j,ζ.2.2.1.getD j 0≤B+ζ.2.1.length)∧Row ζ.2.2.2.2.2.2.1 3 1 (some ⟨gu,0,none⟩) a uc (qBJ ζ.2.2.1)) (λζ=>sl-ζ.1) (0,V,us2,AV,cV,mV,mu2,G) (⟨jG _,hVl,hrV,hhon,hul2,hub2,hur2⟩) ⟨O,O,O,O,O,O,O,trivial⟩ (λ_ h=>h) ?_
  rintro⟨i,V,us2,AV,cV,mV,mu2,G⟩ ⟨hi,hVl,hrV,hhon,hul2,hub2,hur2⟩ I2 hI2
  dsimp only at hi hVl hrV hhon hul2 hub2 hur2⊢
  have hsl6:b*sl≤1*5:=Nat.mul_le_mul (by have:=hw36.len;omega) (by omega)
  refine J.k λ_ j12=>J.k λ_ j13=>?_
  have hwlen:=hw36.len
  have hbw:b<2^d:=by omega
  have hwb:=hw36.ok b (by omega)
  have hwl:=hwb.1
  have hwl2:=hwb.2.1
  have hwk:=qID ha hd (show 1≤sl by omega) h3 hbw
  refine J.H<|J.q 3 O<|J.g (qAH O O O qIJ qOu hw36.row.sl (by omega)) O<|J.g (qAJ O O isAgg38 (m:=r36.mr) (by simp) (hw36.row.sl.part (qIC (by omega)) 0 1)) rfl<|J.g (qAU qC7 rfl rfl) rfl<|J.g (qAT rfl rfl rfl) rfl<|J.c j13<|J.W rfl (λh51=>?_) (λh51=>?_)
  ·
   refine J.M j12<|J.k λ_ j14=>J.O<|J.f λ_ j15=>J.q 2 O<|J.g (qAH O O O qIJ qOu hw36.row.sl (by omega)) O<|J.g (qAJ O O isAgg38 (m:=r36.mr) (by simp) (hw36.row.sl.part (qIC (by omega)) 0 1)) rfl<|J.b rfl<|J.g (qAH rfl rfl rfl qC7 z3_ (hw36.ok b (by have:=hw36.len;omega)).2.2 (by omega)) rfl<|J.g (qAJ rfl rfl b3_ (m:=r36.G) (by simp) (((hw36.ok b (by have:=hw36.len;omega)).2.2).elem (qOh (by omega)))) rfl ?_
   obtain ⟨nm,hnm0⟩:=zh (hwk.2.2 i (by omega)).1
   have hnm:nm<a:=by have:=(hwk.2.2 i (by omega)).2;omega
   have hli:((r36.ws.getD b qDj).l).getD i 0=((nm:Nat):Int):=by
    rw [hwl,jB,zF,if_pos (by omega),←jB];exact hnm0
   rw [hli]
   have hkp:x.kv.getD p.ep []=qAO a:=by rw [hpe];exact hx.k0
   have hu1:=hub2 nm
   refine J.b O<|J.c j15<|J.d4 (X:=Nat) (λζ=> [(0,Ptr gw),(7,Ptr g7),(10,Ptr g10),(11,.slice r36.A r36.ws.length r36.c),(13,.slice AV V.length cV),(14,I ((b:Nat):Int)),(15,I ((i:Nat):Int)),(16,I ((nm:Nat):Int)),(17,Ptr ζ)]) (λζ=> [mu2,G,mV,F,blk g6 [I ((sl:Nat):Int),I ((nd:Nat):Int)] 26,blk g7 [N64 (y.ep),Str (y.par),I ((y.dep:Nat):Int),I ((y.aud:Nat):Int),.slice y.nsA y.ns.length y.nsc] 34,m25,blk g10 [N64 (p.ep),Str (p.par),I ((p.dep:Nat):Int),I ((p.aud:Nat):Int),.slice p.nsA p.ns.length p.nsc] 34,r36.mr,r36.G,blk ζ [N64 (y.ep),I ((b:Nat):Int),Str ((qA1 y).dig),I ((nm:Nat):Int),I 0,.slice none 0 0,.slice none 0 0] 70]) (λζ=>True) (λ_ j16=>?_) ?_
   ·
    refine J.b0 [blk g7 [N64 (y.ep),Str (y.par),I ((y.dep:Nat):Int),I ((y.aud:Nat):Int),.slice y.nsA y.ns.length y.nsc] 34,F] [8] (.y 0 (.y 1 (.y 2 (.y 3 (.y 5 (.br (.e 4 (.y 6 (.e 7 (.e 8 .nil)))) (.e 7 (.e 4 (.y 6 (.e 8 .nil)))))))))) Tryz.wide (by decide+kernel) (by simp) ?_
    refine J.j O (qAA O O qDW O qD9 O) O O<|J.j O (qAE 0 O O O qEz O) O O<|J.L ?_
    refine J.j O (qAY 0 O O O qDT qBz O) O O<|J.L ?_
    refine J.d5 ?_ ?_
    ·
     exact J.Z O (qAB O O ent33 (Ct.use0 (λF' hF=>qCW F' (hK.mo hF) (qA1 y) y.nsA y.nsc hgy (hsy.mono (Fa hF))))) O (by simp) λg65 _=>J.j rfl (qAK (places:= [(0,1),(1,1),(2,1),(3,1),(4,3)]) (r:= [N64 (y.ep),I ((b:Nat):Int),Str ((qA1 y).dig),I ((nm:Nat):Int),I 0,.slice none 0 0,.slice none 0 0]) rfl rfl rfl qFi zeroValue70 (λ_=>by kernel_rfl) (by kernel_rfl)) rfl rfl<|J.Z rfl (qAL rfl zeroValue70 rfl) rfl (by simp) λg17 _=>J.c2 rfl (qAF (i:=10) (l:= [.int .u64 0,I 0,Str [],I 0,I 0,.slice none 0 0,.slice none 0 0]) (vs:= [N64 (y.ep),I ((b:Nat):Int),Str ((qA1 y).dig),I ((nm:Nat):Int),I 0,.slice none 0 0,.slice none 0 0]) rfl rfl rfl rfl rfl qHN rfl rfl) rfl rfl rfl λ_ _=>J.a8<|J.u<|J.a4 (g17) j16 (trivial) ⟨rfl,rfl,rfl,rfl,rfl,rfl,rfl,rfl,rfl,trivial⟩ (λ_ h=>h)
    exact J.Z O (qAL O zeroValue70 O) O (by simp) λg17 _=>J.Z rfl (qAB rfl rfl ent33 (Ct.use0 (λF' hF=>qCW F' (hK.mo hF) (qA1 y) y.nsA y.nsc hgy (hsy.mono (Fa hF))))) rfl (by simp) λg65 _=>J.j rfl (qAK (places:= [(0,1),(1,1),(2,1),(3,1),(4,3)]) (r:= [N64 (y.ep),I ((b:Nat):Int),Str ((qA1 y).dig),I ((nm:Nat):Int),I 0,.slice none 0 0,.slice none 0 0]) rfl rfl rfl qFi zeroValue70 (λ_=>by kernel_rfl) (by kernel_rfl)) rfl rfl<|J.c2 rfl (qAF (i:=10) (l:= [.int .u64 0,I 0,Str [],I 0,I 0,.slice none 0 0,.slice none 0 0]) (vs:= [N64 (y.ep),I ((b:Nat):Int),Str ((qA1 y).dig),I ((nm:Nat):Int),I 0,.slice none 0 0,.slice none 0 0]) rfl rfl rfl rfl rfl qHN rfl rfl) rfl rfl rfl λ_ _=>J.a8<|J.u<|J.a4 (g17) j16 (trivial) ⟨rfl,rfl,rfl,rfl,rfl,rfl,rfl,rfl,rfl,trivial⟩ (λ_ h=>h)
   rintro g17 _
   refine J.k λ_ j17=>J.b0 [F,blk g17 [N64 (y.ep),I ((b:Nat):Int),Str ((qA1 y).dig),I ((nm:Nat):Int),I 0,.slice none 0 0,.slice none 0 0] 70,mu2] [22,100020] (.y 0 (.y 1 (.y 2 (.y 3 (.y 4 (.y 5 (.y 6 (.y 7 (.y 8 (.y 9 (.y 10 (.y 11 (.y 12 (.y 13 (.y 14 (.y 15 (.e 16 (.e 17 (.y 18 (.y 19 (.y 20 (.y 21 (.e 22 .nil))))))))))))))))))))))) Tryz.wide (by decide+kernel) (by simp) ?_
   refine J.L ?_
   refine J.j O (qAC O O) O O<|J.j O (qAA O O qG8 O qUs O) O O<|J.j O (qAJ O O isAgg37 (m:=F) (by simp) (hW.w.at (i:=1) rfl)) rfl rfl<|J.L ?_
   refine J.j O (qAH O O O qSe sizeOf77 hW.kr (by omega)) O O<|J.j O (qAJ O O isAgg77 (m:=F) (by simp) (hW.kr.elem (qGT (by omega)))) rfl rfl<|J.L ?_
   refine J.j O (qAC O O) O O<|J.j O (qAA O O qG8 O qOu O) O O<|J.j O (qAJ (v:= .slice (some ⟨gu,0,none⟩) a uc) O O isAgg38 (m:=F) (by simp) (hW.w.at (i:=2) rfl)) rfl rfl<|J.L ?_
   refine J.j O (qAi (i:=nm) (j:=0+nm*1) O O O qC7 z3_ (by omega) (by omega)) O O<|J.j O (qAJ O O b3_ (m:=mu2) (by simp) (hur2.sl.cells (qCD (by omega)))) rfl rfl<|J.j rfl ((qM3 2 rfl rfl rfl (by decide) (by decide)).nat (us2.getD nm 0%4) (by omega)) rfl rfl<|J.j rfl (qAY 1 rfl rfl rfl isAgg70 qHN rfl) rfl rfl<|J.Z rfl (qAB rfl rfl ent35 (Ct.use0 (λF' hF=>qG5 F' (hK.mo hF) y.ep b nm (qA1 y).dig 0 none none 0 0 0 0 hye (by omega) (by omega) hyd))) rfl (by simp) λg85 _=>J.Z rfl (qAB rfl rfl ent34 (Ct.use (λF' hF=>qJT F' (hK.mo hF) (gs.getD nm 0) (qAQ nm) 2 ((hW.ks nm (by have:=hW.gl;omega)).mono (Fa hF)) (jk rfl) (by decide) (us2.getD nm 0%4) (Nat.mod_lt _ (by decide)) (atM y.ep b nm (qA1 y).dig) (by rw [qR2];decide)))) rfl (by simp) ?_
   rintro⟨⟨A1,c1,m1⟩,A2,c2,m2⟩ ⟨hs1,hs2⟩
   refine J.L ?_
   refine J.c3 (.agg #[I (((us2.getD nm 0%4):Nat):Int),.slice A1 (sgC (qAQ nm) (us2.getD nm 0%4) (atM y.ep b nm (qA1 y).dig)).length c1,.slice A2 (sgP (qAQ nm) 2 (us2.getD nm 0%4)).length c2]) ?_
   refine J.d8 O (qAh O O O) O O O ?_
   refine J.j O (qAA O O qFi O qK2 O) O O<|J.c2 O (qAW (i:=10) O O O O O qK2 O (by simp)) rfl rfl rfl λ_ _=>J.a8<|J.u (J.D j17 ?_)
   refine J.f λ_ j18=>J.b O<|J.g (qAC O O) O<|J.T 2 qG8 qOu O O O O O<|J.g (qAJ (v:= .slice (some ⟨gu,0,none⟩) a uc) O O isAgg38 (m:=F) (by simp) (hW.w.at (i:=2) rfl)) rfl<|J.b rfl<|J.g (qAi (i:=nm) (j:=0+nm*1) rfl rfl rfl qC7 z3_ (by omega) (by omega)) rfl<|J.g (qAJ rfl rfl b3_ (m:=mu2) (by simp) (hur2.sl.cells (qCD (by omega)))) rfl<|J.g ((qAS rfl rfl rfl (by omega)).nat (us2.getD nm 0+1) (by omega)) rfl<|J.g (qAi (i:=nm) (j:=0+nm*1) rfl rfl rfl qC7 z3_ (by omega) (by omega)) rfl<|J.a6 (qBR (i:=0) (k:=nm) (off:=0) (b:= [I ((us2.getD nm 0+1:Nat):Int)]) rfl rfl rfl rfl hur2 (vs:= [I ((us2.getD nm 0+1:Nat):Int)]) rfl z3_ rfl (by omega) (qCD (by omega)) rfl (jK _)) rfl rfl ?_
   rintro m14_1 hm14_1
   rw [qKH] at hm14_1
   refine J.c j18<|J.d4 (X:=MbR×Nat×Nat) (λζ=> [(0,Ptr gw),(7,Ptr g7),(10,Ptr g10),(11,.slice r36.A r36.ws.length r36.c),(13,.slice AV V.length cV),(14,I ((b:Nat):Int)),(15,I ((i:Nat):Int)),(17,Ptr g17),(18,Ptr ζ.2.1),(19,Ptr ζ.2.2)]) (λζ=> [m14_1,G,mV,F,blk g6 [I ((sl:Nat):Int),I ((nd:Nat):Int)] 26,blk g7 [N64 (y.ep),Str (y.par),I ((y.dep:Nat):Int),I ((y.aud:Nat):Int),.slice y.nsA y.ns.length y.nsc] 34,m25,blk g10 [N64 (p.ep),Str (p.par),I ((p.dep:Nat):Int),I ((p.aud:Nat):Int),.slice p.nsA p.ns.length p.nsc] 34,r36.mr,r36.G,blk g17 [N64 (y.ep),I ((b:Nat):Int),Str ((qA1 y).dig),I ((nm:Nat):Int),I (((us2.getD nm 0%4):Nat):Int),.slice A1 (sgC (qAQ nm) (us2.getD nm 0%4) (atM y.ep b nm (qA1 y).dig)).length c1,.slice A2 (sgP (qAQ nm) 2 (us2.getD nm 0%4)).length c2] 70,m1,m2,ζ.1.m,blk ζ.2.1 [Str (wN nm),Str (Wo.opn (qAQ nm)),Str (Xm.root (qAQ nm) 2),I ((2:Nat):Int)] 72,blk ζ.2.2 [.slice ζ.1.A (bsd (qAO a) (qAM nm) 0 (ζ.1.s-0)).length ζ.1.c,.bool (qAo (qAO a) (qAM nm) ζ.1.s),Str (qBo (qAO a) (qAM nm) ζ.1.s),Str (qBr (qAO a) (qAM nm) ζ.1.s)] 53]) (λζ=>MbP x p.ep nm ζ.1) (λ_ j19=>?_) ?_
   ·
    refine J.b0 [F,blk g10 [N64 (p.ep),Str (p.par),I ((p.dep:Nat):Int),I ((p.aud:Nat):Int),.slice p.nsA p.ns.length p.nsc] 34] [] (.y 0 (.y 1 (.y 2 (.y 3 (.y 4 (.y 5 (.y 6 (.br (.e 7 (.y 8 (.y 9 (.y 10 (.y 11 (.br (.e 12 (.e 13 (.e 14 (.e 15 (.y 16 .nil))))) (.e 13 (.e 12 (.e 14 (.e 15 (.y 16 .nil))))))))))) (.br (.e 12 (.br (.e 7 (.y 8 (.y 9 (.y 10 (.y 11 (.e 13 (.e 14 (.e 15 (.y 16 .nil))))))))) (.e 13 (.e 7 (.y 8 (.y 9 (.y 10 (.y 11 (.e 14 (.e 15 (.y 16 .nil))))))))))) (.e 13 (.br (.e 7 (.y 8 (.y 9 (.y 10 (.y 11 (.e 12 (.e 14 (.e 15 (.y 16 .nil))))))))) (.e 12 (.e 7 (.y 8 (.y 9 (.y 10 (.y 11 (.e 14 (.e 15 (.y 16 .nil)))))))))))))))))))) Tryz.wide (by decide+kernel) (by simp) ?_
    refine J.L ?_
    refine J.j O (qAC O O) O O<|J.j O (qAA O O qG8 O qO4 O) O O<|J.j O (qAJ O O isAgg36 (m:=F) (by simp) (hW.w.at (i:=0) rfl)) rfl rfl<|J.j rfl (qAA rfl rfl qDW rfl qD9 rfl) rfl rfl<|J.j rfl (qAE 1 rfl rfl rfl qEz rfl) rfl rfl<|J.L ?_
    refine J.d5 ?_ ?_
    ·
     refine J.Z O (qAB O O ent36 (Ct.use (λF' hF=>by have:=qGM F' (hK.mo hF) x (hS.cells.mono (hm.trans (Fa hF))) (hS.tsl.mono (hm.trans (Fa hF))) (hS.hsl.mono (hm.trans (Fa hF))) (by omega) (hS.p.ra.mono (Fa hF)) p.ep nm (by omega) (by rw [hx.tg2];omega) (by rw [hpe,hp];omega) (by rw [hx.au,qB1];exact hnm) (by rw [hx.au,qB1];omega) (by rw [hpe];exact(hS.p.tr 0 (by rw [hx.tg2];decide)).mono (Fa hF)) (by rw [hkp];exact qC1 ha);rw [hkp,hx.au,qGC hnm] at this;exact this))) rfl (by simp) ?_
     rintro q hq
     refine J.L ?_
     refine J.c3 (.agg #[Str (wN nm),Str (Wo.opn (qAQ nm)),Str (Xm.root (qAQ nm) 2),I ((2:Nat):Int)]) ?_
     refine J.c3 (.agg #[.slice q.A (bsd (qAO a) (qAM nm) 0 (q.s-0)).length q.c,.bool (qAo (qAO a) (qAM nm) q.s),Str (qBo (qAO a) (qAM nm) q.s),Str (qBr (qAO a) (qAM nm) q.s)]) ?_
     refine J.c3 (I ((0:Nat):Int)) ?_
     refine J.d5 ?_ ?_
     ·
      refine J.Z O (qAL O qOy O) O (by simp) λg18 _=>J.Z rfl (qAL rfl qOo rfl) rfl (by simp) λg19 _=>J.d0 rfl (qAF (i:=14) (l:= [Str [],Str [],Str [],I 0]) (vs:= [Str (wN nm),Str (Wo.opn (qAQ nm)),Str (Xm.root (qAQ nm) 2),I ((2:Nat):Int)]) rfl rfl rfl rfl rfl qDV rfl rfl) rfl rfl (by simp) λ_ _=>J.d0 rfl (qAF (i:=15) (l:= [.slice none 0 0,.bool false,Str [],Str []]) (vs:= [.slice q.A (bsd (qAO a) (qAM nm) 0 (q.s-0)).length q.c,.bool (qAo (qAO a) (qAM nm) q.s),Str (qBo (qAO a) (qAM nm) q.s),Str (qBr (qAO a) (qAM nm) q.s)]) rfl rfl rfl rfl rfl qCl rfl rfl) rfl rfl (by simp) λ_ _=>J.b6 ?_
      exact J.a8<|J.u<|J.a4 (q,g18,g19) j19 (hq) ⟨O,O,O,O,O,O,O,O,O,O,trivial⟩ (λ_ h=>h)
     refine J.Z O (qAL O qOo O) O (by simp) λg19 _=>J.Z rfl (qAL rfl qOy rfl) rfl (by simp) λg18 _=>J.d0 rfl (qAF (i:=15) (l:= [Str [],Str [],Str [],I 0]) (vs:= [Str (wN nm),Str (Wo.opn (qAQ nm)),Str (Xm.root (qAQ nm) 2),I ((2:Nat):Int)]) rfl rfl rfl rfl rfl qDV rfl rfl) rfl rfl (by simp) λ_ _=>J.d0 rfl (qAF (i:=14) (l:= [.slice none 0 0,.bool false,Str [],Str []]) (vs:= [.slice q.A (bsd (qAO a) (qAM nm) 0 (q.s-0)).length q.c,.bool (qAo (qAO a) (qAM nm) q.s),Str (qBo (qAO a) (qAM nm) q.s),Str (qBr (qAO a) (qAM nm) q.s)]) rfl rfl rfl rfl rfl qCl rfl rfl) rfl rfl (by simp) λ_ _=>J.b6 ?_
     exact J.a8<|J.u<|J.a4 (q,g18,g19) j19 (hq) ⟨O,O,O,O,O,O,O,O,O,O,trivial⟩ (λ_ h=>h.pick [0,1,2,3,4,5,6,7,8,9,10,11,12,13,15,14] (by decide))
    refine J.d5 ?_ ?_
    ·
     refine J.Z O (qAL O qOy O) O (by simp) λg18 _=>J.d5 ?_ ?_
     ·
      refine J.Z O (qAB O O ent36 (Ct.use (λF' hF=>by have:=qGM F' (hK.mo hF) x (hS.cells.mono (hm.trans (Fa hF))) (hS.tsl.mono (hm.trans (Fa hF))) (hS.hsl.mono (hm.trans (Fa hF))) (by omega) (hS.p.ra.mono (Fa hF)) p.ep nm (by omega) (by rw [hx.tg2];omega) (by rw [hpe,hp];omega) (by rw [hx.au,qB1];exact hnm) (by rw [hx.au,qB1];omega) (by rw [hpe];exact(hS.p.tr 0 (by rw [hx.tg2];decide)).mono (Fa hF)) (by rw [hkp];exact qC1 ha);rw [hkp,hx.au,qGC hnm] at this;exact this))) rfl (by simp) ?_
      rintro q hq
      refine J.L ?_
      refine J.c3 (.agg #[Str (wN nm),Str (Wo.opn (qAQ nm)),Str (Xm.root (qAQ nm) 2),I ((2:Nat):Int)]) ?_
      refine J.c3 (.agg #[.slice q.A (bsd (qAO a) (qAM nm) 0 (q.s-0)).length q.c,.bool (qAo (qAO a) (qAM nm) q.s),Str (qBo (qAO a) (qAM nm) q.s),Str (qBr (qAO a) (qAM nm) q.s)]) ?_
      refine J.c3 (I ((0:Nat):Int)) ?_
      refine J.Z O (qAL O qOo O) O (by simp) λg19 _=>J.d0 rfl (qAF (i:=13) (l:= [Str [],Str [],Str [],I 0]) (vs:= [Str (wN nm),Str (Wo.opn (qAQ nm)),Str (Xm.root (qAQ nm) 2),I ((2:Nat):Int)]) rfl rfl rfl rfl rfl qDV rfl rfl) rfl rfl (by simp) λ_ _=>J.d0 rfl (qAF (i:=15) (l:= [.slice none 0 0,.bool false,Str [],Str []]) (vs:= [.slice q.A (bsd (qAO a) (qAM nm) 0 (q.s-0)).length q.c,.bool (qAo (qAO a) (qAM nm) q.s),Str (qBo (qAO a) (qAM nm) q.s),Str (qBr (qAO a) (qAM nm) q.s)]) rfl rfl rfl rfl rfl qCl rfl rfl) rfl rfl (by simp) λ_ _=>J.b6 ?_
      exact J.a8<|J.u<|J.a4 (q,g18,g19) j19 (hq) ⟨O,O,O,O,O,O,O,O,O,O,trivial⟩ (λ_ h=>h.pick [0,1,2,3,4,5,6,7,8,9,10,11,12,14,13,15] (by decide))
     refine J.Z O (qAL O qOo O) O (by simp) λg19 _=>J.Z rfl (qAB rfl rfl ent36 (Ct.use (λF' hF=>by have:=qGM F' (hK.mo hF) x (hS.cells.mono (hm.trans (Fa hF))) (hS.tsl.mono (hm.trans (Fa hF))) (hS.hsl.mono (hm.trans (Fa hF))) (by omega) (hS.p.ra.mono (Fa hF)) p.ep nm (by omega) (by rw [hx.tg2];omega) (by rw [hpe,hp];omega) (by rw [hx.au,qB1];exact hnm) (by rw [hx.au,qB1];omega) (by rw [hpe];exact(hS.p.tr 0 (by rw [hx.tg2];decide)).mono (Fa hF)) (by rw [hkp];exact qC1 ha);rw [hkp,hx.au,qGC hnm] at this;exact this))) rfl (by simp) ?_
     rintro q hq
     refine J.L ?_
     refine J.c3 (.agg #[Str (wN nm),Str (Wo.opn (qAQ nm)),Str (Xm.root (qAQ nm) 2),I ((2:Nat):Int)]) ?_
     refine J.c3 (.agg #[.slice q.A (bsd (qAO a) (qAM nm) 0 (q.s-0)).length q.c,.bool (qAo (qAO a) (qAM nm) q.s),Str (qBo (qAO a) (qAM nm) q.s),Str (qBr (qAO a) (qAM nm) q.s)]) ?_
     refine J.c3 (I ((0:Nat):Int)) ?_
     refine J.d0 O (qAF (i:=13) (l:= [Str [],Str [],Str [],I 0]) (vs:= [Str (wN nm),Str (Wo.opn (qAQ nm)),Str (Xm.root (qAQ nm) 2),I ((2:Nat):Int)]) O O O O O qDV O O) O O (by simp) λ_ _=>J.d0 rfl (qAF (i:=14) (l:= [.slice none 0 0,.bool false,Str [],Str []]) (vs:= [.slice q.A (bsd (qAO a) (qAM nm) 0 (q.s-0)).length q.c,.bool (qAo (qAO a) (qAM nm) q.s),Str (qBo (qAO a) (qAM nm) q.s),Str (qBr (qAO a) (qAM nm) q.s)]) rfl rfl rfl rfl rfl qCl rfl rfl) rfl rfl (by simp) λ_ _=>J.b6 ?_
     exact J.a8<|J.u<|J.a4 (q,g18,g19) j19 (hq) ⟨O,O,O,O,O,O,O,O,O,O,trivial⟩ (λ_ h=>h.pick [0,1,2,3,4,5,6,7,8,9,10,11,12,15,13,14] (by decide))
    refine J.Z O (qAL O qOo O) O (by simp) λg19 _=>J.d5 ?_ ?_
    ·
     refine J.Z O (qAB O O ent36 (Ct.use (λF' hF=>by have:=qGM F' (hK.mo hF) x (hS.cells.mono (hm.trans (Fa hF))) (hS.tsl.mono (hm.trans (Fa hF))) (hS.hsl.mono (hm.trans (Fa hF))) (by omega) (hS.p.ra.mono (Fa hF)) p.ep nm (by omega) (by rw [hx.tg2];omega) (by rw [hpe,hp];omega) (by rw [hx.au,qB1];exact hnm) (by rw [hx.au,qB1];omega) (by rw [hpe];exact(hS.p.tr 0 (by rw [hx.tg2];decide)).mono (Fa hF)) (by rw [hkp];exact qC1 ha);rw [hkp,hx.au,qGC hnm] at this;exact this))) rfl (by simp) ?_
     rintro q hq
     refine J.L ?_
     refine J.c3 (.agg #[Str (wN nm),Str (Wo.opn (qAQ nm)),Str (Xm.root (qAQ nm) 2),I ((2:Nat):Int)]) ?_
     refine J.c3 (.agg #[.slice q.A (bsd (qAO a) (qAM nm) 0 (q.s-0)).length q.c,.bool (qAo (qAO a) (qAM nm) q.s),Str (qBo (qAO a) (qAM nm) q.s),Str (qBr (qAO a) (qAM nm) q.s)]) ?_
     refine J.c3 (I ((0:Nat):Int)) ?_
     refine J.Z O (qAL O qOy O) O (by simp) λg18 _=>J.d0 rfl (qAF (i:=15) (l:= [Str [],Str [],Str [],I 0]) (vs:= [Str (wN nm),Str (Wo.opn (qAQ nm)),Str (Xm.root (qAQ nm) 2),I ((2:Nat):Int)]) rfl rfl rfl rfl rfl qDV rfl rfl) rfl rfl (by simp) λ_ _=>J.d0 rfl (qAF (i:=13) (l:= [.slice none 0 0,.bool false,Str [],Str []]) (vs:= [.slice q.A (bsd (qAO a) (qAM nm) 0 (q.s-0)).length q.c,.bool (qAo (qAO a) (qAM nm) q.s),Str (qBo (qAO a) (qAM nm) q.s),Str (qBr (qAO a) (qAM nm) q.s)]) rfl rfl rfl rfl rfl qCl rfl rfl) rfl rfl (by simp) λ_ _=>J.b6 ?_
     exact J.a8<|J.u<|J.a4 (q,g18,g19) j19 (hq) ⟨O,O,O,O,O,O,O,O,O,O,trivial⟩ (λ_ h=>h.pick [0,1,2,3,4,5,6,7,8,9,10,11,12,14,15,13] (by decide))
    refine J.Z O (qAL O qOy O) O (by simp) λg18 _=>J.Z rfl (qAB rfl rfl ent36 (Ct.use (λF' hF=>by have:=qGM F' (hK.mo hF) x (hS.cells.mono (hm.trans (Fa hF))) (hS.tsl.mono (hm.trans (Fa hF))) (hS.hsl.mono (hm.trans (Fa hF))) (by omega) (hS.p.ra.mono (Fa hF)) p.ep nm (by omega) (by rw [hx.tg2];omega) (by rw [hpe,hp];omega) (by rw [hx.au,qB1];exact hnm) (by rw [hx.au,qB1];omega) (by rw [hpe];exact(hS.p.tr 0 (by rw [hx.tg2];decide)).mono (Fa hF)) (by rw [hkp];exact qC1 ha);rw [hkp,hx.au,qGC hnm] at this;exact this))) rfl (by simp) ?_
    rintro q hq
    refine J.L ?_
    refine J.c3 (.agg #[Str (wN nm),Str (Wo.opn (qAQ nm)),Str (Xm.root (qAQ nm) 2),I ((2:Nat):Int)]) ?_
    refine J.c3 (.agg #[.slice q.A (bsd (qAO a) (qAM nm) 0 (q.s-0)).length q.c,.bool (qAo (qAO a) (qAM nm) q.s),Str (qBo (qAO a) (qAM nm) q.s),Str (qBr (qAO a) (qAM nm) q.s)]) ?_
    refine J.c3 (I ((0:Nat):Int)) ?_
    refine J.d0 O (qAF (i:=14) (l:= [Str [],Str [],Str [],I 0]) (vs:= [Str (wN nm),Str (Wo.opn (qAQ nm)),Str (Xm.root (qAQ nm) 2),I ((2:Nat):Int)]) O O O O O qDV O O) O O (by simp) λ_ _=>J.d0 rfl (qAF (i:=13) (l:= [.slice none 0 0,.bool false,Str [],Str []]) (vs:= [.slice q.A (bsd (qAO a) (qAM nm) 0 (q.s-0)).length q.c,.bool (qAo (qAO a) (qAM nm) q.s),Str (qBo (qAO a) (qAM nm) q.s),Str (qBr (qAO a) (qAM nm) q.s)]) rfl rfl rfl rfl rfl qCl rfl rfl) rfl rfl (by simp) λ_ _=>J.b6 ?_
    exact J.a8<|J.u<|J.a4 (q,g18,g19) j19 (hq) ⟨O,O,O,O,O,O,O,O,O,O,trivial⟩ (λ_ h=>h.pick [0,1,2,3,4,5,6,7,8,9,10,11,12,15,14,13] (by decide))
   rintro⟨q,g18,g19⟩ hq
   dsimp only at hq⊢
   obtain ⟨vx,hvx⟩: ∃v:VtD,v=(vtY a (qA1 y) b nm (us2.getD nm 0%4) A1 c1 A2 c2 q.s q.A q.c):=⟨_,rfl⟩
   refine J.H<|J.b O<|J.b7 10 isAgg70 qHN O O O O O<|J.b7 14 qKq qDV O O O O O<|J.b7 15 qF1 qCl O O O O O<|J.g (qAK (places:= [(0,7),(7,4),(11,4)]) (r:= [N64 (y.ep),I ((b:Nat):Int),Str ((qA1 y).dig),I ((nm:Nat):Int),I (((us2.getD nm 0%4):Nat):Int),.slice A1 (sgC (qAQ nm) (us2.getD nm 0%4) (atM y.ep b nm (qA1 y).dig)).length c1,.slice A2 (sgP (qAQ nm) 2 (us2.getD nm 0%4)).length c2,Str (wN nm),Str (Wo.opn (qAQ nm)),Str (Xm.root (qAQ nm) 2),I ((2:Nat):Int),.slice q.A (bsd (qAO a) (qAM nm) 0 (q.s-0)).length q.c,.bool (qAo (qAO a) (qAM nm) q.s),Str (qBo (qAO a) (qAM nm) q.s),Str (qBr (qAO a) (qAM nm) q.s)]) O O O qLF zeroValue74 (λ_=>by kernel_rfl) (by kernel_rfl)) O<|J.p (qAG (l:= [.tmp 115]) (xs:= [[N64 (y.ep),I ((b:Nat):Int),Str ((qA1 y).dig),I ((nm:Nat):Int),I (((us2.getD nm 0%4):Nat):Int),.slice A1 (sgC (qAQ nm) (us2.getD nm 0%4) (atM y.ep b nm (qA1 y).dig)).length c1,.slice A2 (sgP (qAQ nm) 2 (us2.getD nm 0%4)).length c2,Str (wN nm),Str (Wo.opn (qAQ nm)),Str (Xm.root (qAQ nm) 2),I ((2:Nat):Int),.slice q.A (bsd (qAO a) (qAM nm) 0 (q.s-0)).length q.c,.bool (qAo (qAO a) (qAM nm) q.s),Str (qBo (qAO a) (qAM nm) q.s),Str (qBr (qAO a) (qAM nm) q.s)]]) O O O O qJa el74 O (by decide) (by decide) (by simp)) rfl λg116 _=>J.p (qAV (i:=2) (m2:=blk g116 [N64 (y.ep),I ((b:Nat):Int),Str ((qA1 y).dig),I ((nm:Nat):Int),I (((us2.getD nm 0%4):Nat):Int),.slice A1 (sgC (qAQ nm) (us2.getD nm 0%4) (atM y.ep b nm (qA1 y).dig)).length c1,.slice A2 (sgP (qAQ nm) 2 (us2.getD nm 0%4)).length c2,Str (wN nm),Str (Wo.opn (qAQ nm)),Str (Xm.root (qAQ nm) 2),I ((2:Nat):Int),.slice q.A (bsd (qAO a) (qAM nm) 0 (q.s-0)).length q.c,.bool (qAo (qAO a) (qAM nm) q.s),Str (qBo (qAO a) (qAM nm) q.s),Str (qBr (qAO a) (qAM nm) q.s)] 74) rfl rfl rfl qJa qJa el74 rfl hrV (by simp) ((qAl (q:=True) (xs:=qHB [(⟨y.ep,b,(qA1 y).dig,nm,(us2.getD nm 0%4),A1,c1,(sgC (qAQ nm) (us2.getD nm 0%4) (atM y.ep b nm (qA1 y).dig)),A2,c2,(sgP (qAQ nm) 2 (us2.getD nm 0%4)),wN nm,Wo.opn (qAQ nm),Xm.root (qAQ nm) 2,2,q.A,q.c,(bsd (qAO a) (qAM nm) 0 (q.s-0)),qAo (qAO a) (qAM nm) q.s,qBo (qAO a) (qAM nm) q.s,qBr (qAO a) (qAM nm) q.s⟩:VtD)]) rfl (by intro x hx;rw [List.mem_singleton.1 hx];rfl)).sl) rfl (by omega) (by omega)) rfl ?_
   rintro⟨A117,c117,m117⟩ h117
   try dsimp only at h117
   replace h117:Row m117 74 15 A117 (V.length+1) c117 (qHB (V++ [vx])):=by rw [qGD,hvx];exact h117
   rw [show V.length+1=(V++ [vx]).length by rw [jA];rfl] at h117⊢
   refine J.b O<|J.c1 [1,11,12,13,0,2,3,4,5,6,7,8,9] [G,m1,m2,q.m,m14_1,m117,F,blk g6 [I ((sl:Nat):Int),I ((nd:Nat):Int)] 26,blk g7 [N64 (y.ep),Str (y.par),I ((y.dep:Nat):Int),I ((y.aud:Nat):Int),.slice y.nsA y.ns.length y.nsc] 34,m25,blk g10 [N64 (p.ep),Str (p.par),I ((p.dep:Nat):Int),I ((p.aud:Nat):Int),.slice p.nsA p.ns.length p.nsc] 34,r36.mr,r36.G] O (by decide)<|J.d1 (λhj1=>?_)
   refine J.d1 (λhj2=>?_)
   refine J.d1 (λhj3=>?_)
   refine J.a3<|J.a2<|J.u (J.D j14 ?_)
   exact J.H<|J.b O<|J.g ((qAS O O O (by omega)).nat (i+1) (by omega)) O<|J.b O<|J.a3<|J.u<|J.a4 (i+1,V++ [vx],us2.set nm (us2.getD nm 0+1),A117,c117,m117,m14_1,U [U [U [G,m1],m2],q.m]) (λη (hη:_∧sl-η.1<sl-i)=>hI2 η hη.1 hη.2) ⟨⟨by dsimp only;omega,by dsimp only;rw [jA,jH];omega,h117,(hhon.mono ((qK4 hj1).trans ((qK4 hj2).trans (qK4 hj3)))).snoc (k:=i) (b:=b) (by omega) (by have:=hw36.len;omega) (by omega) hnm0 (by rw [hvx];exact qYi ha hd hnm (by omega) hye hyd (Nat.mod_lt _ (by decide)) (by have:=hq.st;rw [hkp] at this;exact this) (hs1.sl.mono ((qSK hj1).trans ((qK4 hj2).trans (qK4 hj3)))) (hs2.sl.mono ((qSK hj2).trans (qK4 hj3))) (by have:=hq.rb.sl.mono (qSK hj3);rw [hkp] at this;exact this)),by dsimp only;rw [jm];exact hul2,λj=>by dsimp only;rw [jA,jH];exact qVd hub2 j,hm14_1⟩,by first|omega|(dsimp only;omega)⟩ ⟨rfl,rfl,rfl,rfl,rfl,rfl,rfl,trivial⟩ (λ_ h=>h.pick [1,0,2,3,4,5,6,7,8,9] (by decide))
  refine J.b2<|J.a0<|J.a0<|J.b3 ?_
  refine J.a2<|J.u (J.D j10 ?_)
  exact J.H<|J.b O<|J.g ((qAS O O O (by omega)).nat (b+1) (by omega)) O<|J.b O<|J.a3<|J.u<|J.a4 (b+1,V,us2,AV,cV,mV,mu2,G) (λη (hη:_∧r36.ws.length-η.1<r36.ws.length-b)=>hI0 η hη.1 hη.2) ⟨⟨by dsimp only;omega,by dsimp only;rw [hVl,zk,Nat.one_mul];omega,hrV,hhon,hul2,hub2,hur2⟩,by first|omega|(dsimp only;omega)⟩ ⟨rfl,rfl,rfl,rfl,rfl,rfl,trivial⟩ (λ_ h=>h)
 refine J.b2<|J.a0<|J.a0<|J.b3 ?_
 refine J.u (J.D j6 ?_)
 exact J.f λ_ j20=>J.q 2 O<|J.c j20<|J.A<|J.E hw0 O (⟨V,us2,AV,cV,mV,mu2,G⟩:VtsR) O ⟨hrV,by rw [hVl,show b=2^d by have:=hw36.len;omega],hhon,hul2,λj=>by have:=hub2 j;show us2.getD j 0≤B+10;omega,hur2⟩ [0,3,2,1] rfl (by decide)
end Go.Proofs.YtcgcjaflllmlpaaGreatDoor
namespace Go.Proofs.YtcgcjaflllmlpaaGreatDoor
open Go Go.Fw Go.Proofs.Tryz
set_option maxRecDepth 100000
set_option maxHeartbeats 1000000
attribute [local irreducible] Sha.tagged Wo.pub Wo.publicOf Wo.signs Wo.ends Wo.digs Wo.walk Wo.opn Mk.root Mk.path Mk.climb Xm.root sgC sgP qBG qBd sgB qAM kvT qBW qAO
def qY0(sp:UInt8)(i:Nat):Bool:=decide ((((UInt8.ofNat (sp.toNat/2^min i 8)&&&1:UInt8).toNat:Nat):Int)=(((1:UInt8).toNat:Nat):Int))
def pkK(sp:UInt8)(w:Bool):Nat→List Nat
 |0=> []
 |i+1=>if qY0 sp i=w then pkK sp w i++ [i] else pkK sp w i
def pkV(sp:UInt8)(w:Bool)(V:List VtD)(i:Nat):List VtD:=(pkK sp w i).map λj=>V.getD j qAN
theorem qIc{sp:UInt8}{w:Bool}{V:List VtD}{i:Nat}(h:qY0 sp i=w):pkV sp w V (i+1)=pkV sp w V i++ [V.getD i qAN]:=by
 unfold pkV
 rw [pkK,if_pos h,jM];rfl
theorem qU3{sp:UInt8}{w:Bool}{V:List VtD}{i:Nat}(h: ¬qY0 sp i=w):pkV sp w V (i+1)=pkV sp w V i:=by
 unfold pkV
 rw [pkK,if_neg h]
theorem qMu(sp:UInt8)(w:Bool): ∀i,∀k∈pkK sp w i,k<i
  |0,k,h=>by cases h
  |i+1,k,h=>by
    rw [pkK] at h
    split at h
    · rcases List.mem_append.1 h with h|h
      · have:=qMu sp w i k h;omega
      · rw [List.mem_singleton.1 h];exact Nat.lt_succ_self _
    · have:=qMu sp w i k h;omega
theorem qQM(sp:UInt8)(w:Bool): ∀i,(pkK sp w i).Nodup
  |0=>List.nodup_nil
  |i+1=>by
    rw [pkK]
    split
    · exact List.nodup_append.2 ⟨qQM sp w i,by simp,λa ha b hb=>by
        rw [List.mem_singleton.1 hb]
        have:=qMu sp w i a ha
        omega⟩
    · exact qQM sp w i
theorem qQK(sp:UInt8): ∀i,(pkK sp true i).length+(pkK sp false i).length=i
 |0=>rfl
 |i+1=>by
  have ih:=qQK sp i
  rw [pkK,pkK]
  cases hb:qY0 sp i with
  |true=>rw [if_pos rfl,if_neg (by decide),jA,jH];omega
  |false=>rw [if_neg (by decide),if_pos rfl,jA,jH];omega
theorem qQL{G:Hp}{a sl:Nat}{y:Hd}{V:List VtD}(h:qG7 G a sl y V (List.range sl))(hl:V.length=sl)(sp:UInt8)(w:Bool):qG7 G a sl y (pkV sp w V sl) (pkK sp w sl):=by
 refine⟨by unfold pkV;rw [jN],qQM sp w sl,λj hj=>?_⟩
 have hj2:j<(pkK sp w sl).length:=by unfold pkV at hj;rwa [jN] at hj
 have e1:(pkK sp w sl).getD j 0=(pkK sp w sl)[j]:=by rw [jB,jC hj2];rfl
 have hk:(pkK sp w sl).getD j 0<sl:=by rw [e1];exact qMu sp w sl _ (jX hj2)
 have e2:(pkV sp w V sl).getD j qAN=V.getD ((pkK sp w sl).getD j 0) qAN:=by
  unfold pkV
  rw [jB,jO,jC hj2,e1];rfl
 obtain ⟨_,nm,h2,h3⟩:=h.each ((pkK sp w sl).getD j 0) (by omega)
 rw [jB (l:=List.range sl),jv hk] at h2
 rw [e2]
 exact⟨hk,nm,h2,h3⟩
theorem qId(sp:UInt8)(w:Bool)(V:List VtD)(i:Nat):(pkV sp w V i).length=(pkK sp w i).length:=by unfold pkV;rw [jN]
theorem Wld.next{a:Nat}{us us':List Nat}{G mu mu':Hp}{gw:Nat}{x:SvR}{gs:List Nat}{kA:Option Addr}{kc gu uc:Nat}(h:Wld a us G mu gw x gs kA kc gu uc)(ul:us'.length=a)(ur:Row mu' 3 1 (some ⟨gu,0,none⟩) a uc (qBJ us')):Wld a us' G mu' gw x gs kA kc gu uc:=⟨h.w,h.gl,h.kr,h.ks,ul,ur⟩
end Go.Proofs.YtcgcjaflllmlpaaGreatDoor
