/- A part of the proof. -/
import Derived.Test.YtllnfioplpipiaaGreatDoorTopOrG8
import Derived.Test.YtllnfioplpipiaaGreatDoorTopOrG35
import Derived.Test.YtllnfioplpipiaaGreatDoorTopOrG28
set_option linter.unusedSimpArgs false
set_option linter.unusedVariables false
namespace Go.Proofs.YtllnfioplpipiaaGreatDoor
open Go Go.Fw Go.Proofs.Tryz
set_option maxRecDepth 100000
set_option maxHeartbeats 1000000
theorem ent71:qAD prog 71:=qAD.of func71 rfl (by kernel_rfl)
theorem ent102:qAD prog 102:=qAD.of func102 rfl (by kernel_rfl)
theorem ent104:qAD prog 104:=qAD.of func104 rfl (by kernel_rfl)
attribute [local irreducible] Sha.tagged Wo.pub Wo.publicOf Wo.signs Wo.ends Wo.digs Wo.walk Wo.opn Mk.root Mk.path Mk.climb Xm.root sgC sgP qA3 qBS sgB normal
theorem En.hist1(x:En)(hv:x.v=1)(hp:x.p=qAh):En.hist [x]=0:=by
 show(if x.v≠1 then(13:Int) else if x.p≠qAh then 15 else En.chain [x])=0
 rw [if_neg (λh=>h hv),if_neg (λh=>h hp)];rfl
theorem qNN(F:Hp)(hA:qAL F ⟨2,0,none⟩ qBT)(hT:qBx F)(s:List UInt8)(hsl:s.length≤1000000)(hN:normal s=(s,0)):Ct prog 102 [Str (s)] [F] (λ_:Unit=>I ((0:Nat):Int)) (λ_=>True) (λ_=> [F]):=by
 refine Ct.walk func102 rfl ntmps102 rfl (λw0 hw0=>?_)
 change J _ [(0,_)] _ _ _
 refine J.g λK1 hK1=>J.b O<|J.c hK1<|J.u 0 ?_
 refine J.g λK2 hK2=>J.b O<|J.k (qAA O O ent148 (Ct.use0 (λF' hF=>qIY F' (hA.mono (hF F (by simp))) (hT.mono (hF F (by simp))) s (by first|omega|decide)))) rfl λg7 _=>J.p 5 rfl<|J.c hK2<|J.G 0 3 4 ?_
 refine J.j λK3 hK3=>J.V<|J.g λK4 hK4=>J.b O<|J.f ((qAb O O O).no (by rw [hN];exact λh=>h rfl)) rfl<|J.b rfl<|J.c hK4<|J.O 0 3 4 10 ?_
 refine J.a5 ?_
 refine J.g λK5 hK5=>J.p 2 O<|J.f ((qGQ O O O).no (by rw [hN];exact λh=>h rfl)) rfl<|J.b rfl<|J.c hK5<|J.u 14 ?_
 refine J.a5 ?_
 refine J.b7<|J.a6<|J.A (J.H hK3 ?_)
 refine J.c3 [] trivial<|J.g λK6 hK6=>J.b O<|J.c hK6<|J.u 2 ?_
 exact J.D<|J.M hw0 O () O trivial [0] O (by decide)
theorem qOA(F:Hp)(hK:KF F)(hA:qAL F ⟨2,0,none⟩ qBT)(hT:qBx F)(seed:List UInt8)(kh:Nat)(h6:kh≤6)(i:Nat)(hi:i<2^kh)(s:List UInt8)(hsl:s.length≤1000000)(hN:normal s=(s,0))(v:Nat)(p:List UInt8)(hE:qBS v (Wo.opn seed) (Xm.root seed kh) ((kh:Nat):Int) p=0)(A1:Option Addr)(n1 c1:Nat)(hch:Sl F 1 A1 n1 c1 (qAG (sgC seed i (qED s v (Wo.opn seed) (Xm.root seed kh) ((kh:Nat):Int) p))))(A2:Option Addr)(n2 c2:Nat)(hpt:Sl F 1 A2 n2 c2 (qAG (sgP seed kh i)))(hx:En.hist [(⟨v,Wo.opn seed,Xm.root seed kh,((kh:Nat):Int),p⟩:En)]=0):Ct prog 41 [.agg #[Str (s),N64 (v),Str (Wo.opn seed),Str (Xm.root seed kh),I ((kh:Nat):Int),Str (p),I ((i:Nat):Int),.slice A1 n1 c1,.slice A2 n2 c2],.bool false,.agg #[.int .u64 0,Str [],Str [],I 0,Str []]] [F] (λ_:Unit=>I ((0:Nat):Int)) (λ_=>True) (λ_=> [F]):=by
 obtain ⟨e1,e2,⟨e3,e4⟩,e5,e6,e7⟩:=qIt hE
 have el:=qBn hE
 have eml:=qKm s v (Wo.opn seed) (Xm.root seed kh) ((kh:Nat):Int) p
 have hgy:(⟨v,Wo.opn seed,Xm.root seed kh,((kh:Nat):Int),p⟩:En).good:=⟨by show v<_;omega,by show(Wo.opn seed).length≤_;omega,by show(Xm.root seed kh).length≤_;omega,by show p.length≤_;omega⟩
 refine Ct.walk func41 rfl ntmps41 rfl (λw0 hw0=>?_)
 change J _ [(0,_),(1,_),(2,_)] _ _ _
 refine J.g λK1 hK1=>J.k (qAi (l:= [Str (s),N64 (v),Str (Wo.opn seed),Str (Xm.root seed kh),I ((kh:Nat):Int),Str (p),I ((i:Nat):Int),.slice A1 n1 c1,.slice A2 n2 c2]) O O O) O λg3 _=>?_
 change J _ _ _ [F,blk g3 [Str (s),N64 (v),Str (Wo.opn seed),Str (Xm.root seed kh),I ((kh:Nat):Int),Str (p),I ((i:Nat):Int),.slice A1 n1 c1,.slice A2 n2 c2] 48] _
 refine J.k (qAi (l:= [.int .u64 0,Str [],Str [],I 0,Str []]) O O O) O λg5 _=>?_
 change J _ _ _ [_,_,blk g5 [.int .u64 0,Str [],Str [],I 0,Str []] 43] _
 refine J.b O<|J.c hK1<|J.G 1 3 5 ?_
 refine J.j λK2 hK2=>J.g λK3 hK3=>J.a3 0 qD0 z9_ O O O O O<|J.f (qAE 1 (v:=Str (s)) O O O b9_ O) O<|J.k (qAA O O ent102 (Ct.use0 (λF' hF=>qNN F' (hA.mono (hF F (by simp))) (hT.mono (hF F (by simp))) s (by first|assumption|omega) (by assumption)))) rfl λg14 _=>J.b rfl<|J.c hK3<|J.O 1 3 5 7 ?_
 refine J.g λK4 hK4=>J.b O<|J.f ((qAb O O O).no (by decide)) O<|J.c hK4<|J.a0 1 3 5 7 16 ?_
 refine J.a5 ?_
 refine J.W hK2<|J.G 1 3 5 ?_
 refine J.j λK5 hK5=>J.g λK6 hK6=>J.a3 1 qD0 qCR O O O O O<|J.f (qAd (vs:= [N64 (v),Str (Wo.opn seed),Str (Xm.root seed kh),I ((kh:Nat):Int),Str (p)]) O O qFy qCR (m:=blk g3 [Str (s),N64 (v),Str (Wo.opn seed),Str (Xm.root seed kh),I ((kh:Nat):Int),Str (p),I ((i:Nat):Int),.slice A1 n1 c1,.slice A2 n2 c2] 48) (by simp) (qAL.blk0.sub 1 5) rfl) rfl<|J.k (qAA rfl rfl ent76 (Ct.use0 (λF' hF=>qEx F' v (Wo.opn seed) (Xm.root seed kh) ((kh:Nat):Int) p (by first|assumption|omega) (by first|assumption|omega) (by first|assumption|omega) (by first|assumption|omega)))) rfl λg21 _=>J.p 5 rfl<|J.c hK6<|J.O 1 3 5 9 ?_
 refine J.g λK7 hK7=>J.b O<|J.f ((qAb O O O).no (by omega)) O<|J.c hK7<|J.a0 1 3 5 9 25 ?_
 refine J.a5 ?_
 refine J.W hK5<|J.G 1 3 5 ?_
 refine J.j λK8 hK8=>J.c1 [blk g3 [Str (s),N64 (v),Str (Wo.opn seed),Str (Xm.root seed kh),I ((kh:Nat):Int),Str (p),I ((i:Nat):Int),.slice A1 n1 c1,.slice A2 n2 c2] 48] [9] (.y 0 (.y 1 (.y 4 (.y 5 (.y 6 (.br (.e 2 (.br (.e 3 (.e 7 (.y 8 (.e 9 .nil)))) (.e 7 (.e 3 (.y 8 (.e 9 .nil)))))) (.e 7 (.e 2 (.e 3 (.y 8 (.e 9 .nil))))))))))) Tryz.wide (by decide+kernel) (by simp) ?_
 refine J.q O (qAB (j:=1) O O qD0 O qCR O) O O<|J.q O (qAd (vs:= [N64 (v),Str (Wo.opn seed),Str (Xm.root seed kh),I ((kh:Nat):Int),Str (p)]) O O qFy qCR (m:=blk g3 [Str (s),N64 (v),Str (Wo.opn seed),Str (Xm.root seed kh),I ((kh:Nat):Int),Str (p),I ((i:Nat):Int),.slice A1 n1 c1,.slice A2 n2 c2] 48) (by simp) (qAL.blk0.sub 1 5) rfl) rfl rfl<|J.q rfl (qAB (j:=1) rfl rfl qD0 rfl qCR rfl) rfl rfl<|J.q rfl (qAB (j:=2) rfl rfl qKT rfl qD3 rfl) rfl rfl<|J.q rfl (qAd (vs:= [Str (Wo.opn seed),Str (Xm.root seed kh),I ((kh:Nat):Int)]) rfl rfl qMM qD3 (m:=blk g3 [Str (s),N64 (v),Str (Wo.opn seed),Str (Xm.root seed kh),I ((kh:Nat):Int),Str (p),I ((i:Nat):Int),.slice A1 n1 c1,.slice A2 n2 c2] 48) (by simp) (qAL.blk0.sub 2 3) rfl) rfl rfl<|J.g0 ?_ ?_
 ·
  refine J.a9 O (qAF (l:= [.tmp 28]) (xs:= [[N64 (v),Str (Wo.opn seed),Str (Xm.root seed kh),I ((kh:Nat):Int),Str (p)]]) O O O O qFz el43 O (by decide) (by decide) (by simp)) rfl (by simp) λg29 _=>?_
  change J _ _ _ [_,_,_,blk g29 [N64 (v),Str (Wo.opn seed),Str (Xm.root seed kh),I ((kh:Nat):Int),Str (p)] 43] _
  refine J.g0 ?_ ?_
  ·
   refine J.a9 O (qAA O O ent71 (Ct.use0 (λF' hF=>qCm F' (hK.mo hF) [(⟨v,Wo.opn seed,Xm.root seed kh,((kh:Nat):Int),p⟩:En)] (by intro x hx;rw [List.mem_singleton.1 hx];exact hgy) g29 0 1 ((qAk (q:=True) (xs:= [(⟨v,Wo.opn seed,Xm.root seed kh,((kh:Nat):Int),p⟩:En).cells]) rfl (by intro x hx;rw [List.mem_singleton.1 hx];rfl)).sl.mono (hF (blk g29 [N64 (v),Str (Wo.opn seed),Str (Xm.root seed kh),I ((kh:Nat):Int),Str (p)] 43) (by simp))) (Nat.succ_pos _) (show 1≤1073741824 by decide)))) rfl (by simp) λg30 _=>J.a9 rfl (qAN (l:= [Str [],Str [],I 0]) rfl qTR rfl) rfl (by simp) λg11 _=>?_
   change J _ _ _ [_,_,_,_,blk g11 [Str [],Str [],I 0] 32] _
   refine J.c6 ?_
   refine J.d3 O (qAI (i:=4) (l:= [Str [],Str [],I 0]) (vs:= [Str (Wo.opn seed),Str (Xm.root seed kh),I ((kh:Nat):Int)]) O O O O O qD3 O O) O O O λ_ _=>?_
   change J _ _ _ [_,_,_,_,blk g11 [Str (Wo.opn seed),Str (Xm.root seed kh),I ((kh:Nat):Int)] 32] _
   refine J.b9<|J.A (J.H hK8 ?_)
   refine J.a0 1 3 5 10 11 ?_
   refine J.j λK9 hK9=>J.g λK10 hK10=>J.b O<|J.c hK10<|J.a0 3 5 10 11 34 ?_
   refine J.a5 ?_
   refine J.W hK9<|J.G 3 10 11 ?_
   refine J.j λK11 hK11=>J.V<|J.g λK12 hK12=>J.b O<|J.f ((qAb O O O).no (by rw [hx];exact λh=>h rfl)) rfl<|J.b rfl<|J.c hK12<|J.O 3 10 11 41 ?_
   refine J.a5 ?_
   refine J.j λK13 hK13=>J.c1 [blk g3 [Str (s),N64 (v),Str (Wo.opn seed),Str (Xm.root seed kh),I ((kh:Nat):Int),Str (p),I ((i:Nat):Int),.slice A1 n1 c1,.slice A2 n2 c2] 48,blk g11 [Str (Wo.opn seed),Str (Xm.root seed kh),I ((kh:Nat):Int)] 32] [] (.y 0 (.y 1 (.y 2 (.y 3 (.y 4 (.y 6 (.y 7 (.e 5 (.e 8 (.y 9 (.y 10 .nil))))))))))) Tryz.wide (by decide+kernel) (by simp) ?_
   refine J.q O (qAy 1 O O O qMM qD3 O) O O<|J.q O (qAB (j:=0) O O qD0 O z9_ O) O O<|J.q O (qAE 0 (v:=Str (s)) O O O b9_ O) O O<|J.q O (qAB (j:=1) O O qD0 O qCR O) O O<|J.q O (qAd (vs:= [N64 (v),Str (Wo.opn seed),Str (Xm.root seed kh),I ((kh:Nat):Int),Str (p)]) O O qFy qCR (m:=blk g3 [Str (s),N64 (v),Str (Wo.opn seed),Str (Xm.root seed kh),I ((kh:Nat):Int),Str (p),I ((i:Nat):Int),.slice A1 n1 c1,.slice A2 n2 c2] 48) (by simp) (qAL.blk0.sub 1 5) rfl) rfl rfl<|J.q rfl (qAB (j:=6) rfl rfl qD0 rfl qMG rfl) rfl rfl<|J.q rfl (qAd (vs:= [I ((i:Nat):Int),.slice A1 n1 c1,.slice A2 n2 c2]) rfl rfl isAgg46 qMG (m:=blk g3 [Str (s),N64 (v),Str (Wo.opn seed),Str (Xm.root seed kh),I ((kh:Nat):Int),Str (p),I ((i:Nat):Int),.slice A1 n1 c1,.slice A2 n2 c2] 48) (by simp) (qAL.blk0.sub 6 3) rfl) rfl rfl<|J.a9 rfl (qAA rfl rfl ent105 (Ct.use0 (λF' hF=>qHE F' (hK.mo hF) s (by first|assumption|omega) v (Wo.opn seed) (Xm.root seed kh) ((kh:Nat):Int) p (by first|assumption|omega)))) rfl (by simp) λg51 _=>J.a9 rfl (qAA rfl rfl ent104 (Ct.use0 (λF' hF=>qGp F' (hK.mo hF) seed kh i (qED s v (Wo.opn seed) (Xm.root seed kh) ((kh:Nat):Int) p) A1 n1 c1 (hch.mono (hF F (by simp))) A2 n2 c2 (hpt.mono (hF F (by simp))) (by omega) h6 hi))) rfl (by simp) λg54 _=>J.q rfl (qAt rfl rfl) rfl rfl<|J.c6 ?_
   refine J.b9<|J.A (J.H hK13 ?_)
   refine J.u 45 ?_
   refine J.a5 ?_
   refine J.b7<|J.a6<|J.A (J.H hK11 ?_)
   refine J.c3 [] trivial<|J.g λK14 hK14=>J.b O<|J.c hK14<|J.u 6 ?_
   exact J.D<|J.M hw0 O () O trivial [0] O (by decide)
  refine J.a9 O (qAN (l:= [Str [],Str [],I 0]) O qTR O) O (by simp) λg11 _=>?_
  change J _ _ _ [F,blk g3 [Str (s),N64 (v),Str (Wo.opn seed),Str (Xm.root seed kh),I ((kh:Nat):Int),Str (p),I ((i:Nat):Int),.slice A1 n1 c1,.slice A2 n2 c2] 48,blk g5 [.int .u64 0,Str [],Str [],I 0,Str []] 43,blk g29 [N64 (v),Str (Wo.opn seed),Str (Xm.root seed kh),I ((kh:Nat):Int),Str (p)] 43,blk g11 [Str [],Str [],I 0] 32] _
  refine J.a9 O (qAA O O ent71 (Ct.use0 (λF' hF=>qCm F' (hK.mo hF) [(⟨v,Wo.opn seed,Xm.root seed kh,((kh:Nat):Int),p⟩:En)] (by intro x hx;rw [List.mem_singleton.1 hx];exact hgy) g29 0 1 ((qAk (q:=True) (xs:= [(⟨v,Wo.opn seed,Xm.root seed kh,((kh:Nat):Int),p⟩:En).cells]) rfl (by intro x hx;rw [List.mem_singleton.1 hx];rfl)).sl.mono (hF (blk g29 [N64 (v),Str (Wo.opn seed),Str (Xm.root seed kh),I ((kh:Nat):Int),Str (p)] 43) (by simp))) (Nat.succ_pos _) (show 1≤1073741824 by decide)))) rfl (by simp) λg30 _=>J.c6 ?_
  refine J.d3 O (qAI (i:=4) (l:= [Str [],Str [],I 0]) (vs:= [Str (Wo.opn seed),Str (Xm.root seed kh),I ((kh:Nat):Int)]) O O O O O qD3 O O) O O O λ_ _=>?_
  change J _ _ _ [_,_,_,_,blk g11 [Str (Wo.opn seed),Str (Xm.root seed kh),I ((kh:Nat):Int)] 32] _
  refine J.b9<|J.A (J.H hK8 ?_)
  refine J.a0 1 3 5 10 11 ?_
  refine J.j λK15 hK15=>J.g λK16 hK16=>J.b O<|J.c hK16<|J.a0 3 5 10 11 34 ?_
  refine J.a5 ?_
  refine J.W hK15<|J.G 3 10 11 ?_
  refine J.j λK17 hK17=>J.V<|J.g λK18 hK18=>J.b O<|J.f ((qAb O O O).no (by rw [hx];exact λh=>h rfl)) rfl<|J.b rfl<|J.c hK18<|J.O 3 10 11 41 ?_
  refine J.a5 ?_
  refine J.j λK19 hK19=>J.c1 [blk g3 [Str (s),N64 (v),Str (Wo.opn seed),Str (Xm.root seed kh),I ((kh:Nat):Int),Str (p),I ((i:Nat):Int),.slice A1 n1 c1,.slice A2 n2 c2] 48,blk g11 [Str (Wo.opn seed),Str (Xm.root seed kh),I ((kh:Nat):Int)] 32] [] (.y 0 (.y 1 (.y 2 (.y 3 (.y 4 (.y 6 (.y 7 (.e 5 (.e 8 (.y 9 (.y 10 .nil))))))))))) Tryz.wide (by decide+kernel) (by simp) ?_
  refine J.q O (qAy 1 O O O qMM qD3 O) O O<|J.q O (qAB (j:=0) O O qD0 O z9_ O) O O<|J.q O (qAE 0 (v:=Str (s)) O O O b9_ O) O O<|J.q O (qAB (j:=1) O O qD0 O qCR O) O O<|J.q O (qAd (vs:= [N64 (v),Str (Wo.opn seed),Str (Xm.root seed kh),I ((kh:Nat):Int),Str (p)]) O O qFy qCR (m:=blk g3 [Str (s),N64 (v),Str (Wo.opn seed),Str (Xm.root seed kh),I ((kh:Nat):Int),Str (p),I ((i:Nat):Int),.slice A1 n1 c1,.slice A2 n2 c2] 48) (by simp) (qAL.blk0.sub 1 5) rfl) rfl rfl<|J.q rfl (qAB (j:=6) rfl rfl qD0 rfl qMG rfl) rfl rfl<|J.q rfl (qAd (vs:= [I ((i:Nat):Int),.slice A1 n1 c1,.slice A2 n2 c2]) rfl rfl isAgg46 qMG (m:=blk g3 [Str (s),N64 (v),Str (Wo.opn seed),Str (Xm.root seed kh),I ((kh:Nat):Int),Str (p),I ((i:Nat):Int),.slice A1 n1 c1,.slice A2 n2 c2] 48) (by simp) (qAL.blk0.sub 6 3) rfl) rfl rfl<|J.a9 rfl (qAA rfl rfl ent105 (Ct.use0 (λF' hF=>qHE F' (hK.mo hF) s (by first|assumption|omega) v (Wo.opn seed) (Xm.root seed kh) ((kh:Nat):Int) p (by first|assumption|omega)))) rfl (by simp) λg51 _=>J.a9 rfl (qAA rfl rfl ent104 (Ct.use0 (λF' hF=>qGp F' (hK.mo hF) seed kh i (qED s v (Wo.opn seed) (Xm.root seed kh) ((kh:Nat):Int) p) A1 n1 c1 (hch.mono (hF F (by simp))) A2 n2 c2 (hpt.mono (hF F (by simp))) (by omega) h6 hi))) rfl (by simp) λg54 _=>J.q rfl (qAt rfl rfl) rfl rfl<|J.c6 ?_
  refine J.b9<|J.A (J.H hK19 ?_)
  refine J.u 45 ?_
  refine J.a5 ?_
  refine J.b7<|J.a6<|J.A (J.H hK17 ?_)
  refine J.c3 [] trivial<|J.g λK20 hK20=>J.b O<|J.c hK20<|J.u 6 ?_
  exact J.D<|J.M hw0 O () O trivial [0] O (by decide)
 refine J.a9 O (qAN (l:= [Str [],Str [],I 0]) O qTR O) O (by simp) λg11 _=>?_
 change J _ _ _ [F,blk g3 [Str (s),N64 (v),Str (Wo.opn seed),Str (Xm.root seed kh),I ((kh:Nat):Int),Str (p),I ((i:Nat):Int),.slice A1 n1 c1,.slice A2 n2 c2] 48,blk g5 [.int .u64 0,Str [],Str [],I 0,Str []] 43,blk g11 [Str [],Str [],I 0] 32] _
 refine J.a9 O (qAF (l:= [.tmp 28]) (xs:= [[N64 (v),Str (Wo.opn seed),Str (Xm.root seed kh),I ((kh:Nat):Int),Str (p)]]) O O O O qFz el43 O (by decide) (by decide) (by simp)) rfl (by simp) λg29 _=>?_
 change J _ _ _ [_,_,_,_,blk g29 [N64 (v),Str (Wo.opn seed),Str (Xm.root seed kh),I ((kh:Nat):Int),Str (p)] 43] _
 refine J.a9 O (qAA O O ent71 (Ct.use0 (λF' hF=>qCm F' (hK.mo hF) [(⟨v,Wo.opn seed,Xm.root seed kh,((kh:Nat):Int),p⟩:En)] (by intro x hx;rw [List.mem_singleton.1 hx];exact hgy) g29 0 1 ((qAk (q:=True) (xs:= [(⟨v,Wo.opn seed,Xm.root seed kh,((kh:Nat):Int),p⟩:En).cells]) rfl (by intro x hx;rw [List.mem_singleton.1 hx];rfl)).sl.mono (hF (blk g29 [N64 (v),Str (Wo.opn seed),Str (Xm.root seed kh),I ((kh:Nat):Int),Str (p)] 43) (by simp))) (Nat.succ_pos _) (show 1≤1073741824 by decide)))) rfl (by simp) λg30 _=>J.c6 ?_
 refine J.d3 O (qAI (i:=3) (l:= [Str [],Str [],I 0]) (vs:= [Str (Wo.opn seed),Str (Xm.root seed kh),I ((kh:Nat):Int)]) O O O O O qD3 O O) O O O λ_ _=>?_
 change J _ _ _ [_,_,_,blk g11 [Str (Wo.opn seed),Str (Xm.root seed kh),I ((kh:Nat):Int)] 32,_] _
 refine J.b9<|J.A (J.H hK8 ?_)
 refine J.a0 1 3 5 10 11 ?_
 refine J.j λK21 hK21=>J.g λK22 hK22=>J.b O<|J.c hK22<|J.a0 3 5 10 11 34 ?_
 refine J.a5 ?_
 refine J.W hK21<|J.G 3 10 11 ?_
 refine J.j λK23 hK23=>J.V<|J.g λK24 hK24=>J.b O<|J.f ((qAb O O O).no (by rw [hx];exact λh=>h rfl)) rfl<|J.b rfl<|J.c hK24<|J.O 3 10 11 41 ?_
 refine J.a5 ?_
 refine J.j λK25 hK25=>J.c1 [blk g3 [Str (s),N64 (v),Str (Wo.opn seed),Str (Xm.root seed kh),I ((kh:Nat):Int),Str (p),I ((i:Nat):Int),.slice A1 n1 c1,.slice A2 n2 c2] 48,blk g11 [Str (Wo.opn seed),Str (Xm.root seed kh),I ((kh:Nat):Int)] 32] [] (.y 0 (.y 1 (.y 2 (.y 3 (.y 4 (.y 6 (.y 7 (.e 5 (.e 8 (.y 9 (.y 10 .nil))))))))))) Tryz.wide (by decide+kernel) (by simp) ?_
 refine J.q O (qAy 1 O O O qMM qD3 O) O O<|J.q O (qAB (j:=0) O O qD0 O z9_ O) O O<|J.q O (qAE 0 (v:=Str (s)) O O O b9_ O) O O<|J.q O (qAB (j:=1) O O qD0 O qCR O) O O<|J.q O (qAd (vs:= [N64 (v),Str (Wo.opn seed),Str (Xm.root seed kh),I ((kh:Nat):Int),Str (p)]) O O qFy qCR (m:=blk g3 [Str (s),N64 (v),Str (Wo.opn seed),Str (Xm.root seed kh),I ((kh:Nat):Int),Str (p),I ((i:Nat):Int),.slice A1 n1 c1,.slice A2 n2 c2] 48) (by simp) (qAL.blk0.sub 1 5) rfl) rfl rfl<|J.q rfl (qAB (j:=6) rfl rfl qD0 rfl qMG rfl) rfl rfl<|J.q rfl (qAd (vs:= [I ((i:Nat):Int),.slice A1 n1 c1,.slice A2 n2 c2]) rfl rfl isAgg46 qMG (m:=blk g3 [Str (s),N64 (v),Str (Wo.opn seed),Str (Xm.root seed kh),I ((kh:Nat):Int),Str (p),I ((i:Nat):Int),.slice A1 n1 c1,.slice A2 n2 c2] 48) (by simp) (qAL.blk0.sub 6 3) rfl) rfl rfl<|J.a9 rfl (qAA rfl rfl ent105 (Ct.use0 (λF' hF=>qHE F' (hK.mo hF) s (by first|assumption|omega) v (Wo.opn seed) (Xm.root seed kh) ((kh:Nat):Int) p (by first|assumption|omega)))) rfl (by simp) λg51 _=>J.a9 rfl (qAA rfl rfl ent104 (Ct.use0 (λF' hF=>qGp F' (hK.mo hF) seed kh i (qED s v (Wo.opn seed) (Xm.root seed kh) ((kh:Nat):Int) p) A1 n1 c1 (hch.mono (hF F (by simp))) A2 n2 c2 (hpt.mono (hF F (by simp))) (by omega) h6 hi))) rfl (by simp) λg54 _=>J.q rfl (qAt rfl rfl) rfl rfl<|J.c6 ?_
 refine J.b9<|J.A (J.H hK25 ?_)
 refine J.u 45 ?_
 refine J.a5 ?_
 refine J.b7<|J.a6<|J.A (J.H hK23 ?_)
 refine J.c3 [] trivial<|J.g λK26 hK26=>J.b O<|J.c hK26<|J.u 6 ?_
 exact J.D<|J.M hw0 O () O trivial [0] O (by decide)
end Go.Proofs.YtllnfioplpipiaaGreatDoor
