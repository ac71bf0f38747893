/- A part of the proof. -/
import Derived.Test.YtcgcjaflllmlpaaGreatDoorTopCfG8
import Derived.Test.YtcgcjaflllmlpaaGreatDoorTopCfG36
import Derived.Test.YtcgcjaflllmlpaaGreatDoorTopCfG21
set_option linter.unusedSimpArgs false
set_option linter.unusedVariables false
namespace Go.Proofs.YtcgcjaflllmlpaaGreatDoor
open Go Go.Fw Go.Proofs.Tryz
set_option maxRecDepth 100000
set_option maxHeartbeats 1000000
theorem ent43:qAD prog 43:=qAD.of func43 rfl (by kernel_rfl)
theorem ent131:qAD prog 131:=qAD.of func131 rfl (by kernel_rfl)
attribute [local irreducible] Sha.tagged Wo.pub Wo.publicOf Wo.signs Wo.ends Wo.digs Wo.walk Wo.opn Mk.root Mk.path Mk.climb Xm.root sgC sgP qBG qBd sgB normal
theorem En.hist1(x:En)(hv:x.v=1)(hp:x.p=qAm):En.hist [x]=0:=by
 show(if x.v≠1 then(13:Int) else if x.p≠qAm then 15 else En.chain [x])=0
 rw [if_neg (λh=>h hv),if_neg (λh=>h hp)];rfl
theorem qQG(F:Hp)(hA:qAR F ⟨2,0,none⟩ qBY)(hT:qB5 F)(s:List UInt8)(hsl:s.length≤1000000)(hN:normal s=(s,0)):Cz prog 131 [Str (s)] F (I ((0:Nat):Int)):=by
 refine Ct.walk func131 rfl ntmps131 rfl (λw0 hw0=>?_)
 refine J.f λ_ j1=>J.b O<|J.c j1<|J.f λ_ j2=>J.b O<|J.p (qAB O O ent169 (Ct.use0 (λF' hF=>qKB F' (hA.mono (Fa hF)) (hT.mono (Fa hF)) s (by first|omega|decide)))) O λg7 _=>J.q 5 O<|J.c j2<|J.k λ_ j3=>J.O<|J.f λ_ j4=>J.b O<|J.g ((qAe O O O).no (by rw [hN];exact λh=>h rfl)) rfl<|J.b rfl<|J.c j4<|J.a1 ?_
 refine J.f λ_ j5=>J.q 2 O<|J.g ((qEC O O O).no (by rw [hN];exact λh=>h rfl)) rfl<|J.b rfl<|J.c j5<|J.a1 ?_
 refine J.b5<|J.a2<|J.u (J.D j3 ?_)
 exact J.f λ_ j6=>J.b O<|J.c j6<|J.A<|J.E hw0 O () O trivial [0] O (by decide)
theorem qQ8(F:Hp)(hK:KF F)(hA:qAR F ⟨2,0,none⟩ qBY)(hT:qB5 F)(seed:List UInt8)(kh:Nat)(h6:kh≤6)(i:Nat)(hi:i<2^kh)(s:List UInt8)(hsl:s.length≤1000000)(hN:normal s=(s,0))(v:Nat)(p:List UInt8)(hE:qBd v (Wo.opn seed) (Xm.root seed kh) ((kh:Nat):Int) p=0)(A1:Option Addr)(n1 c1:Nat)(hch:Sl F 1 A1 n1 c1 (qAI (sgC seed i (qFb s v (Wo.opn seed) (Xm.root seed kh) ((kh:Nat):Int) p))))(A2:Option Addr)(n2 c2:Nat)(hpt:Sl F 1 A2 n2 c2 (qAI (sgP seed kh i)))(hx:En.hist [(⟨v,Wo.opn seed,Xm.root seed kh,((kh:Nat):Int),p⟩:En)]=0):Cz prog 64 [.agg #[Str (s),N64 (v),Str (Wo.opn seed),Str (Xm.root seed kh),I ((kh:Nat):Int),Str (p),I ((i:Nat):Int),.slice A1 n1 c1,.slice A2 n2 c2],.bool false,.agg #[.int .u64 0,Str [],Str [],I 0,Str []]] F (I ((0:Nat):Int)):=by
 obtain ⟨e1,e2,⟨e3,e4⟩,e5,e6,e7⟩:=qKZ hE
 have el:=qCE hE
 have eml:=qMq s v (Wo.opn seed) (Xm.root seed kh) ((kh:Nat):Int) p
 have hgy:(⟨v,Wo.opn seed,Xm.root seed kh,((kh:Nat):Int),p⟩:En).good:=⟨by show v<_;omega,by show(Wo.opn seed).length≤_;omega,by show(Xm.root seed kh).length≤_;omega,by show p.length≤_;omega⟩
 refine Ct.walk func64 rfl ntmps64 rfl (λw0 hw0=>?_)
 refine J.f λ_ j1=>J.p (qAd O O O) O λg3 _=>J.p (qAd O O O) O λg5 _=>J.b O<|J.c j1<|J.k λ_ j2=>J.f λ_ j3=>J.T 0 qB0 z9_ O O O O O<|J.a5 1 b9_ O O O O O<|J.p (qAB O O ent131 (Ct.use0 (λF' hF=>qQG F' (hA.mono (Fa hF)) (hT.mono (Fa hF)) s (by first|assumption|omega) (by assumption)))) O λg14 _=>J.b O<|J.c j3<|J.f λ_ j4=>J.b O<|J.g ((qAe O O O).no (by decide)) O<|J.c j4<|J.a1 ?_
 refine J.M j2<|J.k λ_ j5=>J.f λ_ j6=>J.T 1 qB0 qBy O O O O O<|J.g (qAX O O qEV qBy (m:=blk g3 [Str (s),N64 (v),Str (Wo.opn seed),Str (Xm.root seed kh),I ((kh:Nat):Int),Str (p),I ((i:Nat):Int),.slice A1 n1 c1,.slice A2 n2 c2] 101) (by simp) (qAR.blk0.sub 1 5) rfl) rfl<|J.p (qAB rfl rfl ent45 (Ct.use0 (λF' hF=>qFu F' v (Wo.opn seed) (Xm.root seed kh) ((kh:Nat):Int) p (by first|assumption|omega) (by first|assumption|omega) (by first|assumption|omega) (by first|assumption|omega)))) rfl λg21 _=>J.q 5 rfl<|J.c j6<|J.f λ_ j7=>J.b rfl<|J.g ((qAe rfl rfl rfl).no (by omega)) rfl<|J.c j7<|J.a1 ?_
 refine J.M j5<|J.k λ_ j8=>J.b0 [blk g3 [Str (s),N64 (v),Str (Wo.opn seed),Str (Xm.root seed kh),I ((kh:Nat):Int),Str (p),I ((i:Nat):Int),.slice A1 n1 c1,.slice A2 n2 c2] 101] [9] (.y 0 (.y 1 (.y 4 (.y 5 (.y 6 (.br (.e 2 (.br (.e 3 (.e 7 (.y 8 (.e 9 .nil)))) (.e 7 (.e 3 (.y 8 (.e 9 .nil)))))) (.e 7 (.e 2 (.e 3 (.y 8 (.e 9 .nil))))))))))) Tryz.wide (by decide+kernel) (by simp) ?_
 refine J.j O (qAA O O qB0 O qBy O) O O<|J.j O (qAX O O qEV qBy (m:=blk g3 [Str (s),N64 (v),Str (Wo.opn seed),Str (Xm.root seed kh),I ((kh:Nat):Int),Str (p),I ((i:Nat):Int),.slice A1 n1 c1,.slice A2 n2 c2] 101) (by simp) (qAR.blk0.sub 1 5) rfl) rfl rfl<|J.j rfl (qAA rfl rfl qB0 rfl qBy rfl) rfl rfl<|J.j rfl (qAA rfl rfl qJN rfl qET rfl) rfl rfl<|J.j rfl (qAX rfl rfl qNh qET (m:=blk g3 [Str (s),N64 (v),Str (Wo.opn seed),Str (Xm.root seed kh),I ((kh:Nat):Int),Str (p),I ((i:Nat):Int),.slice A1 n1 c1,.slice A2 n2 c2] 101) (by simp) (qAR.blk0.sub 2 3) rfl) rfl rfl<|J.d5 ?_ ?_
 ·
  refine J.Z O (qAG (l:= [.tmp 28]) (xs:= [[N64 (v),Str (Wo.opn seed),Str (Xm.root seed kh),I ((kh:Nat):Int),Str (p)]]) O O O O qFj el61 O (by decide) (by decide) (by simp)) rfl (by simp) λg29 _=>J.d5 ?_ ?_
  ·
   refine J.Z O (qAB O O ent43 (Ct.use0 (λF' hF=>qCT F' (hK.mo hF) [(⟨v,Wo.opn seed,Xm.root seed kh,((kh:Nat):Int),p⟩:En)] (by intro x hx;rw [List.mem_singleton.1 hx];exact hgy) g29 0 1 ((qAl (q:=True) (xs:= [(⟨v,Wo.opn seed,Xm.root seed kh,((kh:Nat):Int),p⟩:En).cells]) rfl (by intro x hx;rw [List.mem_singleton.1 hx];rfl)).sl.mono (hF (blk g29 [N64 (v),Str (Wo.opn seed),Str (Xm.root seed kh),I ((kh:Nat):Int),Str (p)] 61) (by simp))) (Nat.succ_pos _) (show 1≤1073741824 by decide)))) rfl (by simp) λg30 _=>J.Z rfl (qAL rfl qYu rfl) rfl (by simp) λg11 _=>J.b6 ?_
   refine J.c2 O (qAF (i:=4) (l:= [Str [],Str [],I 0]) (vs:= [Str (Wo.opn seed),Str (Xm.root seed kh),I ((kh:Nat):Int)]) O O O O O qET O O) O O O λ_ _=>J.a8<|J.u (J.D j8 ?_)
   refine J.k λ_ j9=>J.f λ_ j10=>J.b O<|J.c j10<|J.a1 ?_
   refine J.M j9<|J.k λ_ j11=>J.O<|J.f λ_ j12=>J.b O<|J.g ((qAe O O O).no (by rw [hx];exact λh=>h rfl)) rfl<|J.b rfl<|J.c j12<|J.a1 ?_
   refine J.k λ_ j13=>J.b0 [blk g3 [Str (s),N64 (v),Str (Wo.opn seed),Str (Xm.root seed kh),I ((kh:Nat):Int),Str (p),I ((i:Nat):Int),.slice A1 n1 c1,.slice A2 n2 c2] 101,blk g11 [Str (Wo.opn seed),Str (Xm.root seed kh),I ((kh:Nat):Int)] 59] [] (.y 0 (.y 1 (.y 2 (.y 3 (.y 4 (.y 6 (.y 7 (.e 5 (.e 8 (.y 9 (.y 10 .nil))))))))))) Tryz.wide (by decide+kernel) (by simp) ?_
   refine J.j O (qAY 1 O O O qNh qET O) O O<|J.j O (qAA O O qB0 O z9_ O) O O<|J.j O (qAE 0 O O O b9_ O) O O<|J.j O (qAA O O qB0 O qBy O) O O<|J.j O (qAX O O qEV qBy (m:=blk g3 [Str (s),N64 (v),Str (Wo.opn seed),Str (Xm.root seed kh),I ((kh:Nat):Int),Str (p),I ((i:Nat):Int),.slice A1 n1 c1,.slice A2 n2 c2] 101) (by simp) (qAR.blk0.sub 1 5) rfl) rfl rfl<|J.j rfl (qAA rfl rfl qB0 rfl qK2 rfl) rfl rfl<|J.j rfl (qAX rfl rfl isAgg68 qK2 (m:=blk g3 [Str (s),N64 (v),Str (Wo.opn seed),Str (Xm.root seed kh),I ((kh:Nat):Int),Str (p),I ((i:Nat):Int),.slice A1 n1 c1,.slice A2 n2 c2] 101) (by simp) (qAR.blk0.sub 6 3) rfl) rfl rfl<|J.Z rfl (qAB rfl rfl ent62 (Ct.use0 (λF' hF=>qIZ F' (hK.mo hF) s (by first|assumption|omega) v (Wo.opn seed) (Xm.root seed kh) ((kh:Nat):Int) p (by first|assumption|omega)))) rfl (by simp) λg51 _=>J.Z rfl (qAB rfl rfl ent132 (Ct.use0 (λF' hF=>qH8 F' (hK.mo hF) seed kh i (qFb s v (Wo.opn seed) (Xm.root seed kh) ((kh:Nat):Int) p) A1 n1 c1 (hch.mono (Fa hF)) A2 n2 c2 (hpt.mono (Fa hF)) (by omega) h6 hi))) rfl (by simp) λg54 _=>J.j rfl (qAy rfl rfl) rfl rfl<|J.b6 ?_
   refine J.a8<|J.u (J.D j13 ?_)
   refine J.a1 ?_
   refine J.b5<|J.a2<|J.u (J.D j11 ?_)
   exact J.f λ_ j14=>J.b O<|J.c j14<|J.A<|J.E hw0 O () O trivial [0] O (by decide)
  refine J.Z O (qAL O qYu O) O (by simp) λg11 _=>J.Z rfl (qAB rfl rfl ent43 (Ct.use0 (λF' hF=>qCT F' (hK.mo hF) [(⟨v,Wo.opn seed,Xm.root seed kh,((kh:Nat):Int),p⟩:En)] (by intro x hx;rw [List.mem_singleton.1 hx];exact hgy) g29 0 1 ((qAl (q:=True) (xs:= [(⟨v,Wo.opn seed,Xm.root seed kh,((kh:Nat):Int),p⟩:En).cells]) rfl (by intro x hx;rw [List.mem_singleton.1 hx];rfl)).sl.mono (hF (blk g29 [N64 (v),Str (Wo.opn seed),Str (Xm.root seed kh),I ((kh:Nat):Int),Str (p)] 61) (by simp))) (Nat.succ_pos _) (show 1≤1073741824 by decide)))) rfl (by simp) λg30 _=>J.b6 ?_
  refine J.c2 O (qAF (i:=4) (l:= [Str [],Str [],I 0]) (vs:= [Str (Wo.opn seed),Str (Xm.root seed kh),I ((kh:Nat):Int)]) O O O O O qET O O) O O O λ_ _=>J.a8<|J.u (J.D j8 ?_)
  refine J.k λ_ j15=>J.f λ_ j16=>J.b O<|J.c j16<|J.a1 ?_
  refine J.M j15<|J.k λ_ j17=>J.O<|J.f λ_ j18=>J.b O<|J.g ((qAe O O O).no (by rw [hx];exact λh=>h rfl)) rfl<|J.b rfl<|J.c j18<|J.a1 ?_
  refine J.k λ_ j19=>J.b0 [blk g3 [Str (s),N64 (v),Str (Wo.opn seed),Str (Xm.root seed kh),I ((kh:Nat):Int),Str (p),I ((i:Nat):Int),.slice A1 n1 c1,.slice A2 n2 c2] 101,blk g11 [Str (Wo.opn seed),Str (Xm.root seed kh),I ((kh:Nat):Int)] 59] [] (.y 0 (.y 1 (.y 2 (.y 3 (.y 4 (.y 6 (.y 7 (.e 5 (.e 8 (.y 9 (.y 10 .nil))))))))))) Tryz.wide (by decide+kernel) (by simp) ?_
  refine J.j O (qAY 1 O O O qNh qET O) O O<|J.j O (qAA O O qB0 O z9_ O) O O<|J.j O (qAE 0 O O O b9_ O) O O<|J.j O (qAA O O qB0 O qBy O) O O<|J.j O (qAX O O qEV qBy (m:=blk g3 [Str (s),N64 (v),Str (Wo.opn seed),Str (Xm.root seed kh),I ((kh:Nat):Int),Str (p),I ((i:Nat):Int),.slice A1 n1 c1,.slice A2 n2 c2] 101) (by simp) (qAR.blk0.sub 1 5) rfl) rfl rfl<|J.j rfl (qAA rfl rfl qB0 rfl qK2 rfl) rfl rfl<|J.j rfl (qAX rfl rfl isAgg68 qK2 (m:=blk g3 [Str (s),N64 (v),Str (Wo.opn seed),Str (Xm.root seed kh),I ((kh:Nat):Int),Str (p),I ((i:Nat):Int),.slice A1 n1 c1,.slice A2 n2 c2] 101) (by simp) (qAR.blk0.sub 6 3) rfl) rfl rfl<|J.Z rfl (qAB rfl rfl ent62 (Ct.use0 (λF' hF=>qIZ F' (hK.mo hF) s (by first|assumption|omega) v (Wo.opn seed) (Xm.root seed kh) ((kh:Nat):Int) p (by first|assumption|omega)))) rfl (by simp) λg51 _=>J.Z rfl (qAB rfl rfl ent132 (Ct.use0 (λF' hF=>qH8 F' (hK.mo hF) seed kh i (qFb s v (Wo.opn seed) (Xm.root seed kh) ((kh:Nat):Int) p) A1 n1 c1 (hch.mono (Fa hF)) A2 n2 c2 (hpt.mono (Fa hF)) (by omega) h6 hi))) rfl (by simp) λg54 _=>J.j rfl (qAy rfl rfl) rfl rfl<|J.b6 ?_
  refine J.a8<|J.u (J.D j19 ?_)
  refine J.a1 ?_
  refine J.b5<|J.a2<|J.u (J.D j17 ?_)
  exact J.f λ_ j20=>J.b O<|J.c j20<|J.A<|J.E hw0 O () O trivial [0] O (by decide)
 refine J.Z O (qAL O qYu O) O (by simp) λg11 _=>J.Z rfl (qAG (l:= [.tmp 28]) (xs:= [[N64 (v),Str (Wo.opn seed),Str (Xm.root seed kh),I ((kh:Nat):Int),Str (p)]]) rfl rfl rfl rfl qFj el61 rfl (by decide) (by decide) (by simp)) rfl (by simp) λg29 _=>J.Z rfl (qAB rfl rfl ent43 (Ct.use0 (λF' hF=>qCT F' (hK.mo hF) [(⟨v,Wo.opn seed,Xm.root seed kh,((kh:Nat):Int),p⟩:En)] (by intro x hx;rw [List.mem_singleton.1 hx];exact hgy) g29 0 1 ((qAl (q:=True) (xs:= [(⟨v,Wo.opn seed,Xm.root seed kh,((kh:Nat):Int),p⟩:En).cells]) rfl (by intro x hx;rw [List.mem_singleton.1 hx];rfl)).sl.mono (hF (blk g29 [N64 (v),Str (Wo.opn seed),Str (Xm.root seed kh),I ((kh:Nat):Int),Str (p)] 61) (by simp))) (Nat.succ_pos _) (show 1≤1073741824 by decide)))) rfl (by simp) λg30 _=>J.b6 ?_
 refine J.c2 O (qAF (i:=3) (l:= [Str [],Str [],I 0]) (vs:= [Str (Wo.opn seed),Str (Xm.root seed kh),I ((kh:Nat):Int)]) O O O O O qET O O) O O O λ_ _=>J.a8<|J.u (J.D j8 ?_)
 refine J.k λ_ j21=>J.f λ_ j22=>J.b O<|J.c j22<|J.a1 ?_
 refine J.M j21<|J.k λ_ j23=>J.O<|J.f λ_ j24=>J.b O<|J.g ((qAe O O O).no (by rw [hx];exact λh=>h rfl)) rfl<|J.b rfl<|J.c j24<|J.a1 ?_
 refine J.k λ_ j25=>J.b0 [blk g3 [Str (s),N64 (v),Str (Wo.opn seed),Str (Xm.root seed kh),I ((kh:Nat):Int),Str (p),I ((i:Nat):Int),.slice A1 n1 c1,.slice A2 n2 c2] 101,blk g11 [Str (Wo.opn seed),Str (Xm.root seed kh),I ((kh:Nat):Int)] 59] [] (.y 0 (.y 1 (.y 2 (.y 3 (.y 4 (.y 6 (.y 7 (.e 5 (.e 8 (.y 9 (.y 10 .nil))))))))))) Tryz.wide (by decide+kernel) (by simp) ?_
 refine J.j O (qAY 1 O O O qNh qET O) O O<|J.j O (qAA O O qB0 O z9_ O) O O<|J.j O (qAE 0 O O O b9_ O) O O<|J.j O (qAA O O qB0 O qBy O) O O<|J.j O (qAX O O qEV qBy (m:=blk g3 [Str (s),N64 (v),Str (Wo.opn seed),Str (Xm.root seed kh),I ((kh:Nat):Int),Str (p),I ((i:Nat):Int),.slice A1 n1 c1,.slice A2 n2 c2] 101) (by simp) (qAR.blk0.sub 1 5) rfl) rfl rfl<|J.j rfl (qAA rfl rfl qB0 rfl qK2 rfl) rfl rfl<|J.j rfl (qAX rfl rfl isAgg68 qK2 (m:=blk g3 [Str (s),N64 (v),Str (Wo.opn seed),Str (Xm.root seed kh),I ((kh:Nat):Int),Str (p),I ((i:Nat):Int),.slice A1 n1 c1,.slice A2 n2 c2] 101) (by simp) (qAR.blk0.sub 6 3) rfl) rfl rfl<|J.Z rfl (qAB rfl rfl ent62 (Ct.use0 (λF' hF=>qIZ F' (hK.mo hF) s (by first|assumption|omega) v (Wo.opn seed) (Xm.root seed kh) ((kh:Nat):Int) p (by first|assumption|omega)))) rfl (by simp) λg51 _=>J.Z rfl (qAB rfl rfl ent132 (Ct.use0 (λF' hF=>qH8 F' (hK.mo hF) seed kh i (qFb s v (Wo.opn seed) (Xm.root seed kh) ((kh:Nat):Int) p) A1 n1 c1 (hch.mono (Fa hF)) A2 n2 c2 (hpt.mono (Fa hF)) (by omega) h6 hi))) rfl (by simp) λg54 _=>J.j rfl (qAy rfl rfl) rfl rfl<|J.b6 ?_
 refine J.a8<|J.u (J.D j25 ?_)
 refine J.a1 ?_
 refine J.b5<|J.a2<|J.u (J.D j23 ?_)
 exact J.f λ_ j26=>J.b O<|J.c j26<|J.A<|J.E hw0 O () O trivial [0] O (by decide)
end Go.Proofs.YtcgcjaflllmlpaaGreatDoor
