/- A part of the proof. -/
import Derived.Test.YtmemgokiolfdoaaGreatDoorTopMsG30
import Derived.Test.YtmemgokiolfdoaaGreatDoorTopMsG24
set_option maxRecDepth 100000
set_option maxHeartbeats 1000000
set_option linter.unusedSimpArgs false
set_option linter.unusedVariables false
namespace Go.Proofs.YtmemgokiolfdoaaGreatDoor
open Go Go.Fw Go.Proofs.Tryz
attribute [local irreducible] Sha.tagged Wo.pub Wo.publicOf Wo.signs Wo.ends Wo.digs Wo.walk Wo.opn Mk.root Mk.path Mk.climb Xm.root sgC sgP qBH qBX sgB normal
theorem En.hist1(x:En)(hv:x.v=1)(hp:x.p=qAk):En.hist [x]=0:=by
 show(if x.v≠1 then(13:Int) else if x.p≠qAk then 15 else En.chain [x])=0
 rw [if_neg (λh=>h hv),if_neg (λh=>h hp)];rfl
theorem qKd(F:Hp)(hA:qAG F ⟨0,0,none⟩ qBT)(hT:qBv F)(s:xA)(hsl:s.length≤1000000)(hN:normal s=(s,0)):Cz prog 184 [Str (s)] F (I (0:Nat)):=by
 refine Ct.walk func184 O ntmps184 O (λw0 hw0=>?_)
 refine J.f λ_ j1=>J.b O<|J.c j1<|J.f λ_ j2=>J.b O<|J.q (qAZ O O (λF' hF=>qHE F' (hA.mono (Fa hF)) (hT.mono (Fa hF)) s xN)) O λg7 _=>J.p 5 O<|J.c j2<|J.k λ_ j3=>J.T<|J.f λ_ j4=>J.b O<|J.g ((qAV O O O).no (by rw [hN];exact λh=>h O)) O<|J.b O<|J.c j4<|J.a3 ?_
 refine J.f λ_ j5=>J.p 2 O<|J.g ((qDH O O O).no (by rw [hN];exact λh=>h O)) O<|J.b O<|J.c j5<|J.a3 ?_
 refine J.b2<|J.a2<|J.u (J.D j3 ?_)
 exact J.f λ_ j6=>J.b O<|J.c j6<|J.A<|J.E hw0 O () O trivial [0] O xC
end Go.Proofs.YtmemgokiolfdoaaGreatDoor
namespace Go.Proofs.YtmemgokiolfdoaaGreatDoor
open Go Go.Fw Go.Proofs.Tryz
attribute [local irreducible] Sha.tagged Wo.pub Wo.publicOf Wo.signs Wo.ends Wo.digs Wo.walk Wo.opn Mk.root Mk.path Mk.climb Xm.root sgC sgP qBH qBX sgB normal
theorem qO8(F:Hp)(hK:qAG F ⟨3,0,none⟩ (Sha.K.map W32))(hA:qAG F ⟨0,0,none⟩ qBT)(hT:qBv F)(s:xA)(hsl:s.length≤1000000)(hN:normal s=(s,0))(v:Nat)(o r:xA)(h:Int)(p:xA)(hE:qBX v o r h p=0)(i:Nat)(A1:Option Addr)(n1 c1:Nat)(A2:Option Addr)(n2 c2:Nat)(ok:Bool)(hV: ∀F':Hp,Le F F'→Cz prog 185 [.agg #[Str (o),Str (r),I (h)],Str (qEd s v o r h p),.agg #[I (i:Nat),.slice A1 n1 c1,.slice A2 n2 c2]] F' (.bool ok)):Cz prog 103 [.agg #[Str (s),N64 (v),Str (o),Str (r),I (h),Str (p),I (i:Nat),.slice A1 n1 c1,.slice A2 n2 c2],.bool false,.agg #[.int .u64 0,Str [],Str [],I 0,Str []]] F (I ((if En.hist [(⟨v,o,r,h,p⟩:En)]≠0 then En.hist [(⟨v,o,r,h,p⟩:En)] else if ok=true then(0:Int) else 12))):=by
 obtain ⟨e1,e2,⟨e3,e4⟩,e5,e6,e7⟩:=qHX hE
 have el:=qB8 hE
 have eml:=qE6 s v o r h p
 have hgy:(⟨v,o,r,h,p⟩:En).good:=⟨by show v<_;omega,by show o.length≤_;omega,by show r.length≤_;omega,by show p.length≤_;omega⟩
 refine Ct.walk func103 O ntmps103 O (λw0 hw0=>?_)
 refine J.f λ_ j1=>J.q (qAb O O O) O λg3 _=>J.q (qAb O O O) O λg5 _=>J.b O<|J.c j1<|J.k λ_ j2=>J.f λ_ j3=>J.W 0 qBP z9_ O O O O O<|J.a6 1 b9_ O O O O O<|J.q (qAZ O O (λF' hF=>qKd F' (hA.mono (Fa hF)) (hT.mono (Fa hF)) s xH xG)) O λg14 _=>J.b O<|J.c j3<|J.f λ_ j4=>J.b O<|J.g ((qAV O O O).no xC) O<|J.c j4<|J.a3 ?_
 refine J.M j2<|J.k λ_ j5=>J.f λ_ j6=>J.W 1 qBP qAj O O O O O<|J.g (qAP O O qBB qAj (m:=blk g3 [Str (s),N64 (v),Str (o),Str (r),I (h),Str (p),I (i:Nat),.slice A1 n1 c1,.slice A2 n2 c2] 108) xD (qAG.blk0.sub 1 5) O) O<|J.q (qAZ O O (λF' hF=>qFO F' v o r h p xH xH xH xH)) O λg21 _=>J.p 5 O<|J.c j6<|J.f λ_ j7=>J.b O<|J.g ((qAV O O O).no xB) O<|J.c j7<|J.a3 ?_
 refine J.M j5<|J.k λ_ j8=>J.b1 [blk g3 [Str (s),N64 (v),Str (o),Str (r),I (h),Str (p),I (i:Nat),.slice A1 n1 c1,.slice A2 n2 c2] 108] [9] (.y 0 (.y 1 (.y 4 (.y 5 (.y 6 (.br (.e 2 (.br (.e 3 (.e 7 (.y 8 (.e 9 .nil)))) (.e 7 (.e 3 (.y 8 (.e 9 .nil)))))) (.e 7 (.e 2 (.e 3 (.y 8 (.e 9 .nil))))))))))) Tryz.wide xF xD ?_
 refine J.j O (qAA O O qBP O qAj O) O O<|J.j O (qAP O O qBB qAj (m:=blk g3 [Str (s),N64 (v),Str (o),Str (r),I (h),Str (p),I (i:Nat),.slice A1 n1 c1,.slice A2 n2 c2] 108) xD (qAG.blk0.sub 1 5) O) O O<|J.j O (qAA O O qBP O qAj O) O O<|J.j O (qAA O O qCA O qCT O) O O<|J.j O (qAP O O qGb qCT (m:=blk g3 [Str (s),N64 (v),Str (o),Str (r),I (h),Str (p),I (i:Nat),.slice A1 n1 c1,.slice A2 n2 c2] 108) xD (qAG.blk0.sub 2 3) O) O O<|J.d6 ?_ ?_
 ·
  refine J.a1 O (qAE (l:= [.tmp 28]) (xs:= [[N64 (v),Str (o),Str (r),I (h),Str (p)]]) O O O O qCK el102 O xC xC xD) O xD λg29 _=>J.d6 ?_ ?_
  ·
   refine J.a1 O (qAZ O O (λF' hF=>qBg F' (hK.mo hF) [(⟨v,o,r,h,p⟩:En)] (by intro x hx;rw [List.mem_singleton.1 hx];exact hgy) g29 0 1 ((qAm (q:=True) (xs:= [(⟨v,o,r,h,p⟩:En).cells]) O (by intro x hx;rw [List.mem_singleton.1 hx];rfl)).sl.mono (hF (blk g29 [N64 (v),Str (o),Str (r),I (h),Str (p)] 102) xD)) (z8 _) (show 1≤1073741824 by decide))) O xD λg30 _=>J.a1 O (qAJ O qWA O) O xD λg11 _=>J.b7 ?_
   refine J.c1 O (qAC (i:=4) (l:= [Str [],Str [],I 0]) (vs:= [Str (o),Str (r),I (h)]) O O O O O qCT O O) O O O λ_ _=>J.b0<|J.u (J.D j8 ?_)
   refine J.k λ_ j9=>J.f λ_ j10=>J.b O<|J.c j10<|J.a3 ?_
   refine J.M j9<|J.k λ_ j11=>J.T<|J.f λ_ j12=>J.b O<|J.g (qAV O O O) O<|J.b O<|J.c j12<|J.Z O (λh41=>?_) (λh41=>?_)
   ·
    exact J.f λ_ j13=>J.p 2 O<|J.c j13<|J.A<|J.a5<|J.V<|J.E hw0 O () (by split<;>first|rfl|contradiction|(split<;>first|rfl|contradiction|(exfalso;simp_all))) trivial [0] O xC
   refine J.k λ_ j14=>J.b1 [blk g3 [Str (s),N64 (v),Str (o),Str (r),I (h),Str (p),I (i:Nat),.slice A1 n1 c1,.slice A2 n2 c2] 108,blk g11 [Str (o),Str (r),I (h)] 32] [] (.y 0 (.y 1 (.y 2 (.y 3 (.y 4 (.y 6 (.y 7 (.e 5 (.e 8 (.y 9 (.y 10 .nil))))))))))) Tryz.wide xF xD ?_
   refine J.j O (qAU 1 O O O qGb qCT O) O O<|J.j O (qAA O O qBP O z9_ O) O O<|J.j O (qAD 0 O O O b9_ O) O O<|J.j O (qAA O O qBP O qAj O) O O<|J.j O (qAP O O qBB qAj (m:=blk g3 [Str (s),N64 (v),Str (o),Str (r),I (h),Str (p),I (i:Nat),.slice A1 n1 c1,.slice A2 n2 c2] 108) xD (qAG.blk0.sub 1 5) O) O O<|J.j O (qAA O O qBP O qCy O) O O<|J.j O (qAP O O isAgg106 qCy (m:=blk g3 [Str (s),N64 (v),Str (o),Str (r),I (h),Str (p),I (i:Nat),.slice A1 n1 c1,.slice A2 n2 c2] 108) xD (qAG.blk0.sub 6 3) O) O O<|J.a1 O (qAZ O O (λF' hF=>qEj F' (hK.mo hF) s xH v o r h p xH)) O xD λg51 _=>J.a1 O (qAZ O O (λF' hF=>hV F' (Fa hF))) O xD λg54 _=>J.j O (qAs O O) O O<|J.b7 ?_
   refine J.b0<|J.u (J.D j14 ?_)
   refine J.c5 O (λh45=>?_) (λh45=>?_)
   ·
    exact J.f λ_ j15=>J.b O<|J.c j15<|J.A<|J.a5<|J.V<|J.E hw0 O () (by split<;>first|rfl|contradiction|(split<;>first|rfl|contradiction|(exfalso;simp_all))) trivial [0] O xC
   refine J.b2<|J.a2<|J.u (J.D j11 ?_)
   exact J.f λ_ j16=>J.b O<|J.c j16<|J.A<|J.E hw0 O () (by split<;>first|rfl|contradiction|(split<;>first|rfl|contradiction|(exfalso;simp_all))) trivial [0] O xC
  refine J.a1 O (qAJ O qWA O) O xD λg11 _=>J.a1 O (qAZ O O (λF' hF=>qBg F' (hK.mo hF) [(⟨v,o,r,h,p⟩:En)] (by intro x hx;rw [List.mem_singleton.1 hx];exact hgy) g29 0 1 ((qAm (q:=True) (xs:= [(⟨v,o,r,h,p⟩:En).cells]) O (by intro x hx;rw [List.mem_singleton.1 hx];rfl)).sl.mono (hF (blk g29 [N64 (v),Str (o),Str (r),I (h),Str (p)] 102) xD)) (z8 _) (show 1≤1073741824 by decide))) O xD λg30 _=>J.b7 ?_
  refine J.c1 O (qAC (i:=4) (l:= [Str [],Str [],I 0]) (vs:= [Str (o),Str (r),I (h)]) O O O O O qCT O O) O O O λ_ _=>J.b0<|J.u (J.D j8 ?_)
  refine J.k λ_ j17=>J.f λ_ j18=>J.b O<|J.c j18<|J.a3 ?_
  refine J.M j17<|J.k λ_ j19=>J.T<|J.f λ_ j20=>J.b O<|J.g (qAV O O O) O<|J.b O<|J.c j20<|J.Z O (λh41=>?_) (λh41=>?_)
  ·
   exact J.f λ_ j21=>J.p 2 O<|J.c j21<|J.A<|J.a5<|J.V<|J.E hw0 O () (by split<;>first|rfl|contradiction|(split<;>first|rfl|contradiction|(exfalso;simp_all))) trivial [0] O xC
  refine J.k λ_ j22=>J.b1 [blk g3 [Str (s),N64 (v),Str (o),Str (r),I (h),Str (p),I (i:Nat),.slice A1 n1 c1,.slice A2 n2 c2] 108,blk g11 [Str (o),Str (r),I (h)] 32] [] (.y 0 (.y 1 (.y 2 (.y 3 (.y 4 (.y 6 (.y 7 (.e 5 (.e 8 (.y 9 (.y 10 .nil))))))))))) Tryz.wide xF xD ?_
  refine J.j O (qAU 1 O O O qGb qCT O) O O<|J.j O (qAA O O qBP O z9_ O) O O<|J.j O (qAD 0 O O O b9_ O) O O<|J.j O (qAA O O qBP O qAj O) O O<|J.j O (qAP O O qBB qAj (m:=blk g3 [Str (s),N64 (v),Str (o),Str (r),I (h),Str (p),I (i:Nat),.slice A1 n1 c1,.slice A2 n2 c2] 108) xD (qAG.blk0.sub 1 5) O) O O<|J.j O (qAA O O qBP O qCy O) O O<|J.j O (qAP O O isAgg106 qCy (m:=blk g3 [Str (s),N64 (v),Str (o),Str (r),I (h),Str (p),I (i:Nat),.slice A1 n1 c1,.slice A2 n2 c2] 108) xD (qAG.blk0.sub 6 3) O) O O<|J.a1 O (qAZ O O (λF' hF=>qEj F' (hK.mo hF) s xH v o r h p xH)) O xD λg51 _=>J.a1 O (qAZ O O (λF' hF=>hV F' (Fa hF))) O xD λg54 _=>J.j O (qAs O O) O O<|J.b7 ?_
  refine J.b0<|J.u (J.D j22 ?_)
  refine J.c5 O (λh45=>?_) (λh45=>?_)
  ·
   exact J.f λ_ j23=>J.b O<|J.c j23<|J.A<|J.a5<|J.V<|J.E hw0 O () (by split<;>first|rfl|contradiction|(split<;>first|rfl|contradiction|(exfalso;simp_all))) trivial [0] O xC
  refine J.b2<|J.a2<|J.u (J.D j19 ?_)
  exact J.f λ_ j24=>J.b O<|J.c j24<|J.A<|J.E hw0 O () (by split<;>first|rfl|contradiction|(split<;>first|rfl|contradiction|(exfalso;simp_all))) trivial [0] O xC
 refine J.a1 O (qAJ O qWA O) O xD λg11 _=>J.a1 O (qAE (l:= [.tmp 28]) (xs:= [[N64 (v),Str (o),Str (r),I (h),Str (p)]]) O O O O qCK el102 O xC xC xD) O xD λg29 _=>J.a1 O (qAZ O O (λF' hF=>qBg F' (hK.mo hF) [(⟨v,o,r,h,p⟩:En)] (by intro x hx;rw [List.mem_singleton.1 hx];exact hgy) g29 0 1 ((qAm (q:=True) (xs:= [(⟨v,o,r,h,p⟩:En).cells]) O (by intro x hx;rw [List.mem_singleton.1 hx];rfl)).sl.mono (hF (blk g29 [N64 (v),Str (o),Str (r),I (h),Str (p)] 102) xD)) (z8 _) (show 1≤1073741824 by decide))) O xD λg30 _=>J.b7 ?_
 refine J.c1 O (qAC (i:=3) (l:= [Str [],Str [],I 0]) (vs:= [Str (o),Str (r),I (h)]) O O O O O qCT O O) O O O λ_ _=>J.b0<|J.u (J.D j8 ?_)
 refine J.k λ_ j25=>J.f λ_ j26=>J.b O<|J.c j26<|J.a3 ?_
 refine J.M j25<|J.k λ_ j27=>J.T<|J.f λ_ j28=>J.b O<|J.g (qAV O O O) O<|J.b O<|J.c j28<|J.Z O (λh41=>?_) (λh41=>?_)
 ·
  exact J.f λ_ j29=>J.p 2 O<|J.c j29<|J.A<|J.a5<|J.V<|J.E hw0 O () (by split<;>first|rfl|contradiction|(split<;>first|rfl|contradiction|(exfalso;simp_all))) trivial [0] O xC
 refine J.k λ_ j30=>J.b1 [blk g3 [Str (s),N64 (v),Str (o),Str (r),I (h),Str (p),I (i:Nat),.slice A1 n1 c1,.slice A2 n2 c2] 108,blk g11 [Str (o),Str (r),I (h)] 32] [] (.y 0 (.y 1 (.y 2 (.y 3 (.y 4 (.y 6 (.y 7 (.e 5 (.e 8 (.y 9 (.y 10 .nil))))))))))) Tryz.wide xF xD ?_
 refine J.j O (qAU 1 O O O qGb qCT O) O O<|J.j O (qAA O O qBP O z9_ O) O O<|J.j O (qAD 0 O O O b9_ O) O O<|J.j O (qAA O O qBP O qAj O) O O<|J.j O (qAP O O qBB qAj (m:=blk g3 [Str (s),N64 (v),Str (o),Str (r),I (h),Str (p),I (i:Nat),.slice A1 n1 c1,.slice A2 n2 c2] 108) xD (qAG.blk0.sub 1 5) O) O O<|J.j O (qAA O O qBP O qCy O) O O<|J.j O (qAP O O isAgg106 qCy (m:=blk g3 [Str (s),N64 (v),Str (o),Str (r),I (h),Str (p),I (i:Nat),.slice A1 n1 c1,.slice A2 n2 c2] 108) xD (qAG.blk0.sub 6 3) O) O O<|J.a1 O (qAZ O O (λF' hF=>qEj F' (hK.mo hF) s xH v o r h p xH)) O xD λg51 _=>J.a1 O (qAZ O O (λF' hF=>hV F' (Fa hF))) O xD λg54 _=>J.j O (qAs O O) O O<|J.b7 ?_
 refine J.b0<|J.u (J.D j30 ?_)
 refine J.c5 O (λh45=>?_) (λh45=>?_)
 ·
  exact J.f λ_ j31=>J.b O<|J.c j31<|J.A<|J.a5<|J.V<|J.E hw0 O () (by split<;>first|rfl|contradiction|(split<;>first|rfl|contradiction|(exfalso;simp_all))) trivial [0] O xC
 refine J.b2<|J.a2<|J.u (J.D j27 ?_)
 exact J.f λ_ j32=>J.b O<|J.c j32<|J.A<|J.E hw0 O () (by split<;>first|rfl|contradiction|(split<;>first|rfl|contradiction|(exfalso;simp_all))) trivial [0] O xC
theorem qMZ(F:Hp)(hK:qAG F ⟨3,0,none⟩ (Sha.K.map W32))(hA:qAG F ⟨0,0,none⟩ qBT)(hT:qBv F)(s:xA)(hsl:s.length≤1000000)(hN:normal s=(s,0))(v:Nat)(o r:xA)(h:Int)(p:xA)(hE:qBX v o r h p=0)(i:Nat)(A1:Option Addr)(n1 c1:Nat)(A2:Option Addr)(n2 c2:Nat)(v2:Nat)(o2 r2:xA)(h2:Int)(p2:xA)(hE2:qBX v2 o2 r2 h2 p2=0)(ok:Bool)(hV: ∀F':Hp,Le F F'→Cz prog 185 [.agg #[Str (o2),Str (r2),I (h2)],Str (qEd s v o r h p),.agg #[I (i:Nat),.slice A1 n1 c1,.slice A2 n2 c2]] F' (.bool ok)):Cz prog 103 [.agg #[Str (s),N64 (v),Str (o),Str (r),I (h),Str (p),I (i:Nat),.slice A1 n1 c1,.slice A2 n2 c2],.bool true,.agg #[N64 (v2),Str (o2),Str (r2),I (h2),Str (p2)]] F (I ((if(⟨v2,o2,r2,h2,p2⟩:En).next (⟨v,o,r,h,p⟩:En)≠0 then(⟨v2,o2,r2,h2,p2⟩:En).next (⟨v,o,r,h,p⟩:En) else if ok=true then(0:Int) else 12))):=by
 obtain ⟨e1,e2,⟨e3,e4⟩,e5,e6,e7⟩:=qHX hE
 have el:=qB8 hE
 have eml:=qE6 s v o r h p
 have hgy:(⟨v,o,r,h,p⟩:En).good:=⟨by show v<_;omega,by show o.length≤_;omega,by show r.length≤_;omega,by show p.length≤_;omega⟩
 obtain ⟨d1,d2,_,d5,d6,d7⟩:=qHX hE2
 have hgx:(⟨v2,o2,r2,h2,p2⟩:En).good:=⟨by show v2<_;omega,by show o2.length≤_;omega,by show r2.length≤_;omega,by show p2.length≤_;omega⟩
 refine Ct.walk func103 O ntmps103 O (λw0 hw0=>?_)
 refine J.f λ_ j1=>J.q (qAb O O O) O λg3 _=>J.q (qAb O O O) O λg5 _=>J.b O<|J.c j1<|J.k λ_ j2=>J.f λ_ j3=>J.W 0 qBP z9_ O O O O O<|J.a6 1 b9_ O O O O O<|J.q (qAZ O O (λF' hF=>qKd F' (hA.mono (Fa hF)) (hT.mono (Fa hF)) s xH xG)) O λg14 _=>J.b O<|J.c j3<|J.f λ_ j4=>J.b O<|J.g ((qAV O O O).no xC) O<|J.c j4<|J.a3 ?_
 refine J.M j2<|J.k λ_ j5=>J.f λ_ j6=>J.W 1 qBP qAj O O O O O<|J.g (qAP O O qBB qAj (m:=blk g3 [Str (s),N64 (v),Str (o),Str (r),I (h),Str (p),I (i:Nat),.slice A1 n1 c1,.slice A2 n2 c2] 108) xD (qAG.blk0.sub 1 5) O) O<|J.q (qAZ O O (λF' hF=>qFO F' v o r h p xH xH xH xH)) O λg21 _=>J.p 5 O<|J.c j6<|J.f λ_ j7=>J.b O<|J.g ((qAV O O O).no xB) O<|J.c j7<|J.a3 ?_
 refine J.M j5<|J.k λ_ j8=>J.b1 [blk g3 [Str (s),N64 (v),Str (o),Str (r),I (h),Str (p),I (i:Nat),.slice A1 n1 c1,.slice A2 n2 c2] 108] [9] (.y 0 (.y 1 (.y 4 (.y 5 (.y 6 (.br (.e 2 (.br (.e 3 (.e 7 (.y 8 (.e 9 .nil)))) (.e 7 (.e 3 (.y 8 (.e 9 .nil)))))) (.e 7 (.e 2 (.e 3 (.y 8 (.e 9 .nil))))))))))) Tryz.wide xF xD ?_
 refine J.j O (qAA O O qBP O qAj O) O O<|J.j O (qAP O O qBB qAj (m:=blk g3 [Str (s),N64 (v),Str (o),Str (r),I (h),Str (p),I (i:Nat),.slice A1 n1 c1,.slice A2 n2 c2] 108) xD (qAG.blk0.sub 1 5) O) O O<|J.j O (qAA O O qBP O qAj O) O O<|J.j O (qAA O O qCA O qCT O) O O<|J.j O (qAP O O qGb qCT (m:=blk g3 [Str (s),N64 (v),Str (o),Str (r),I (h),Str (p),I (i:Nat),.slice A1 n1 c1,.slice A2 n2 c2] 108) xD (qAG.blk0.sub 2 3) O) O O<|J.d6 ?_ ?_
 ·
  refine J.a1 O (qAE (l:= [.tmp 28]) (xs:= [[N64 (v),Str (o),Str (r),I (h),Str (p)]]) O O O O qCK el102 O xC xC xD) O xD λg29 _=>J.d6 ?_ ?_
  ·
   refine J.a1 O (qAZ O O (λF' hF=>qBg F' (hK.mo hF) [(⟨v,o,r,h,p⟩:En)] (by intro x hx;rw [List.mem_singleton.1 hx];exact hgy) g29 0 1 ((qAm (q:=True) (xs:= [(⟨v,o,r,h,p⟩:En).cells]) O (by intro x hx;rw [List.mem_singleton.1 hx];rfl)).sl.mono (hF (blk g29 [N64 (v),Str (o),Str (r),I (h),Str (p)] 102) xD)) (z8 _) (show 1≤1073741824 by decide))) O xD λg30 _=>J.a1 O (qAJ O qWA O) O xD λg11 _=>J.b7 ?_
   refine J.c1 O (qAC (i:=4) (l:= [Str [],Str [],I 0]) (vs:= [Str (o),Str (r),I (h)]) O O O O O qCT O O) O O O λ_ _=>J.b0<|J.u (J.D j8 ?_)
   refine J.k λ_ j9=>J.f λ_ j10=>J.b O<|J.c j10<|J.c3 ?_
   refine J.b1 [blk g5 [N64 (v2),Str (o2),Str (r2),I (h2),Str (p2)] 102,blk g3 [Str (s),N64 (v),Str (o),Str (r),I (h),Str (p),I (i:Nat),.slice A1 n1 c1,.slice A2 n2 c2] 108] [7] (.y 0 (.y 1 (.y 2 (.y 4 (.y 5 (.e 3 (.y 6 (.e 7 .nil)))))))) Tryz.wide xF xD ?_
   refine J.j O (qAU 0 O O O qBB qAj O) O O<|J.j O (qAA O O qBP O qAj O) O O<|J.j O (qAP O O qBB qAj (m:=blk g3 [Str (s),N64 (v),Str (o),Str (r),I (h),Str (p),I (i:Nat),.slice A1 n1 c1,.slice A2 n2 c2] 108) xD (qAG.blk0.sub 1 5) O) O O<|J.j O (qAA O O qCA O qCT O) O O<|J.j O (qAP O O qGb qCT (m:=blk g5 [N64 (v2),Str (o2),Str (r2),I (h2),Str (p2)] 102) xD (qAG.blk0.sub 1 3) O) O O<|J.a1 O (qAZ O O (λF' hF=>qGS F' (hK.mo hF) (⟨v2,o2,r2,h2,p2⟩:En) (⟨v,o,r,h,p⟩:En) hgx hgy)) O xD λg38 _=>J.b7 ?_
   refine J.c1 O (qAC (i:=4) (l:= [Str (o),Str (r),I (h)]) (vs:= [Str (o2),Str (r2),I (h2)]) O O O O O qCT O O) O O O λ_ _=>J.b0<|J.u (J.D j9 ?_)
   refine J.k λ_ j11=>J.T<|J.f λ_ j12=>J.b O<|J.g (qAV O O O) O<|J.b O<|J.c j12<|J.Z O (λh41=>?_) (λh41=>?_)
   ·
    exact J.f λ_ j13=>J.p 2 O<|J.c j13<|J.A<|J.a5<|J.V<|J.E hw0 O () (by split<;>first|rfl|contradiction|(split<;>first|rfl|contradiction|(exfalso;simp_all))) trivial [0] O xC
   refine J.k λ_ j14=>J.b1 [blk g3 [Str (s),N64 (v),Str (o),Str (r),I (h),Str (p),I (i:Nat),.slice A1 n1 c1,.slice A2 n2 c2] 108,blk g11 [Str (o2),Str (r2),I (h2)] 32] [] (.y 0 (.y 1 (.y 2 (.y 3 (.y 4 (.y 6 (.y 7 (.e 5 (.e 8 (.y 9 (.y 10 .nil))))))))))) Tryz.wide xF xD ?_
   refine J.j O (qAU 1 O O O qGb qCT O) O O<|J.j O (qAA O O qBP O z9_ O) O O<|J.j O (qAD 0 O O O b9_ O) O O<|J.j O (qAA O O qBP O qAj O) O O<|J.j O (qAP O O qBB qAj (m:=blk g3 [Str (s),N64 (v),Str (o),Str (r),I (h),Str (p),I (i:Nat),.slice A1 n1 c1,.slice A2 n2 c2] 108) xD (qAG.blk0.sub 1 5) O) O O<|J.j O (qAA O O qBP O qCy O) O O<|J.j O (qAP O O isAgg106 qCy (m:=blk g3 [Str (s),N64 (v),Str (o),Str (r),I (h),Str (p),I (i:Nat),.slice A1 n1 c1,.slice A2 n2 c2] 108) xD (qAG.blk0.sub 6 3) O) O O<|J.a1 O (qAZ O O (λF' hF=>qEj F' (hK.mo hF) s xH v o r h p xH)) O xD λg51 _=>J.a1 O (qAZ O O (λF' hF=>hV F' (Fa hF))) O xD λg54 _=>J.j O (qAs O O) O O<|J.b7 ?_
   refine J.b0<|J.u (J.D j14 ?_)
   refine J.c5 O (λh45=>?_) (λh45=>?_)
   ·
    exact J.f λ_ j15=>J.b O<|J.c j15<|J.A<|J.a5<|J.V<|J.E hw0 O () (by split<;>first|rfl|contradiction|(split<;>first|rfl|contradiction|(exfalso;simp_all))) trivial [0] O xC
   refine J.b2<|J.a2<|J.u (J.D j11 ?_)
   exact J.f λ_ j16=>J.b O<|J.c j16<|J.A<|J.E hw0 O () (by split<;>first|rfl|contradiction|(split<;>first|rfl|contradiction|(exfalso;simp_all))) trivial [0] O xC
  refine J.a1 O (qAJ O qWA O) O xD λg11 _=>J.a1 O (qAZ O O (λF' hF=>qBg F' (hK.mo hF) [(⟨v,o,r,h,p⟩:En)] (by intro x hx;rw [List.mem_singleton.1 hx];exact hgy) g29 0 1 ((qAm (q:=True) (xs:= [(⟨v,o,r,h,p⟩:En).cells]) O (by intro x hx;rw [List.mem_singleton.1 hx];rfl)).sl.mono (hF (blk g29 [N64 (v),Str (o),Str (r),I (h),Str (p)] 102) xD)) (z8 _) (show 1≤1073741824 by decide))) O xD λg30 _=>J.b7 ?_
  refine J.c1 O (qAC (i:=4) (l:= [Str [],Str [],I 0]) (vs:= [Str (o),Str (r),I (h)]) O O O O O qCT O O) O O O λ_ _=>J.b0<|J.u (J.D j8 ?_)
  refine J.k λ_ j17=>J.f λ_ j18=>J.b O<|J.c j18<|J.c3 ?_
  refine J.b1 [blk g5 [N64 (v2),Str (o2),Str (r2),I (h2),Str (p2)] 102,blk g3 [Str (s),N64 (v),Str (o),Str (r),I (h),Str (p),I (i:Nat),.slice A1 n1 c1,.slice A2 n2 c2] 108] [7] (.y 0 (.y 1 (.y 2 (.y 4 (.y 5 (.e 3 (.y 6 (.e 7 .nil)))))))) Tryz.wide xF xD ?_
  refine J.j O (qAU 0 O O O qBB qAj O) O O<|J.j O (qAA O O qBP O qAj O) O O<|J.j O (qAP O O qBB qAj (m:=blk g3 [Str (s),N64 (v),Str (o),Str (r),I (h),Str (p),I (i:Nat),.slice A1 n1 c1,.slice A2 n2 c2] 108) xD (qAG.blk0.sub 1 5) O) O O<|J.j O (qAA O O qCA O qCT O) O O<|J.j O (qAP O O qGb qCT (m:=blk g5 [N64 (v2),Str (o2),Str (r2),I (h2),Str (p2)] 102) xD (qAG.blk0.sub 1 3) O) O O<|J.a1 O (qAZ O O (λF' hF=>qGS F' (hK.mo hF) (⟨v2,o2,r2,h2,p2⟩:En) (⟨v,o,r,h,p⟩:En) hgx hgy)) O xD λg38 _=>J.b7 ?_
  refine J.c1 O (qAC (i:=4) (l:= [Str (o),Str (r),I (h)]) (vs:= [Str (o2),Str (r2),I (h2)]) O O O O O qCT O O) O O O λ_ _=>J.b0<|J.u (J.D j17 ?_)
  refine J.k λ_ j19=>J.T<|J.f λ_ j20=>J.b O<|J.g (qAV O O O) O<|J.b O<|J.c j20<|J.Z O (λh41=>?_) (λh41=>?_)
  ·
   exact J.f λ_ j21=>J.p 2 O<|J.c j21<|J.A<|J.a5<|J.V<|J.E hw0 O () (by split<;>first|rfl|contradiction|(split<;>first|rfl|contradiction|(exfalso;simp_all))) trivial [0] O xC
  refine J.k λ_ j22=>J.b1 [blk g3 [Str (s),N64 (v),Str (o),Str (r),I (h),Str (p),I (i:Nat),.slice A1 n1 c1,.slice A2 n2 c2] 108,blk g11 [Str (o2),Str (r2),I (h2)] 32] [] (.y 0 (.y 1 (.y 2 (.y 3 (.y 4 (.y 6 (.y 7 (.e 5 (.e 8 (.y 9 (.y 10 .nil))))))))))) Tryz.wide xF xD ?_
  refine J.j O (qAU 1 O O O qGb qCT O) O O<|J.j O (qAA O O qBP O z9_ O) O O<|J.j O (qAD 0 O O O b9_ O) O O<|J.j O (qAA O O qBP O qAj O) O O<|J.j O (qAP O O qBB qAj (m:=blk g3 [Str (s),N64 (v),Str (o),Str (r),I (h),Str (p),I (i:Nat),.slice A1 n1 c1,.slice A2 n2 c2] 108) xD (qAG.blk0.sub 1 5) O) O O<|J.j O (qAA O O qBP O qCy O) O O<|J.j O (qAP O O isAgg106 qCy (m:=blk g3 [Str (s),N64 (v),Str (o),Str (r),I (h),Str (p),I (i:Nat),.slice A1 n1 c1,.slice A2 n2 c2] 108) xD (qAG.blk0.sub 6 3) O) O O<|J.a1 O (qAZ O O (λF' hF=>qEj F' (hK.mo hF) s xH v o r h p xH)) O xD λg51 _=>J.a1 O (qAZ O O (λF' hF=>hV F' (Fa hF))) O xD λg54 _=>J.j O (qAs O O) O O<|J.b7 ?_
  refine J.b0<|J.u (J.D j22 ?_)
  refine J.c5 O (λh45=>?_) (λh45=>?_)
  ·
   exact J.f λ_ j23=>J.b O<|J.c j23<|J.A<|J.a5<|J.V<|J.E hw0 O () (by split<;>first|rfl|contradiction|(split<;>first|rfl|contradiction|(exfalso;simp_all))) trivial [0] O xC
  refine J.b2<|J.a2<|J.u (J.D j19 ?_)
  exact J.f λ_ j24=>J.b O<|J.c j24<|J.A<|J.E hw0 O () (by split<;>first|rfl|contradiction|(split<;>first|rfl|contradiction|(exfalso;simp_all))) trivial [0] O xC
 refine J.a1 O (qAJ O qWA O) O xD λg11 _=>J.a1 O (qAE (l:= [.tmp 28]) (xs:= [[N64 (v),Str (o),Str (r),I (h),Str (p)]]) O O O O qCK el102 O xC xC xD) O xD λg29 _=>J.a1 O (qAZ O O (λF' hF=>qBg F' (hK.mo hF) [(⟨v,o,r,h,p⟩:En)] (by intro x hx;rw [List.mem_singleton.1 hx];exact hgy) g29 0 1 ((qAm (q:=True) (xs:= [(⟨v,o,r,h,p⟩:En).cells]) O (by intro x hx;rw [List.mem_singleton.1 hx];rfl)).sl.mono (hF (blk g29 [N64 (v),Str (o),Str (r),I (h),Str (p)] 102) xD)) (z8 _) (show 1≤1073741824 by decide))) O xD λg30 _=>J.b7 ?_
 refine J.c1 O (qAC (i:=3) (l:= [Str [],Str [],I 0]) (vs:= [Str (o),Str (r),I (h)]) O O O O O qCT O O) O O O λ_ _=>J.b0<|J.u (J.D j8 ?_)
 refine J.k λ_ j25=>J.f λ_ j26=>J.b O<|J.c j26<|J.c3 ?_
 refine J.b1 [blk g5 [N64 (v2),Str (o2),Str (r2),I (h2),Str (p2)] 102,blk g3 [Str (s),N64 (v),Str (o),Str (r),I (h),Str (p),I (i:Nat),.slice A1 n1 c1,.slice A2 n2 c2] 108] [7] (.y 0 (.y 1 (.y 2 (.y 4 (.y 5 (.e 3 (.y 6 (.e 7 .nil)))))))) Tryz.wide xF xD ?_
 refine J.j O (qAU 0 O O O qBB qAj O) O O<|J.j O (qAA O O qBP O qAj O) O O<|J.j O (qAP O O qBB qAj (m:=blk g3 [Str (s),N64 (v),Str (o),Str (r),I (h),Str (p),I (i:Nat),.slice A1 n1 c1,.slice A2 n2 c2] 108) xD (qAG.blk0.sub 1 5) O) O O<|J.j O (qAA O O qCA O qCT O) O O<|J.j O (qAP O O qGb qCT (m:=blk g5 [N64 (v2),Str (o2),Str (r2),I (h2),Str (p2)] 102) xD (qAG.blk0.sub 1 3) O) O O<|J.a1 O (qAZ O O (λF' hF=>qGS F' (hK.mo hF) (⟨v2,o2,r2,h2,p2⟩:En) (⟨v,o,r,h,p⟩:En) hgx hgy)) O xD λg38 _=>J.b7 ?_
 refine J.c1 O (qAC (i:=3) (l:= [Str (o),Str (r),I (h)]) (vs:= [Str (o2),Str (r2),I (h2)]) O O O O O qCT O O) O O O λ_ _=>J.b0<|J.u (J.D j25 ?_)
 refine J.k λ_ j27=>J.T<|J.f λ_ j28=>J.b O<|J.g (qAV O O O) O<|J.b O<|J.c j28<|J.Z O (λh41=>?_) (λh41=>?_)
 ·
  exact J.f λ_ j29=>J.p 2 O<|J.c j29<|J.A<|J.a5<|J.V<|J.E hw0 O () (by split<;>first|rfl|contradiction|(split<;>first|rfl|contradiction|(exfalso;simp_all))) trivial [0] O xC
 refine J.k λ_ j30=>J.b1 [blk g3 [Str (s),N64 (v),Str (o),Str (r),I (h),Str (p),I (i:Nat),.slice A1 n1 c1,.slice A2 n2 c2] 108,blk g11 [Str (o2),Str (r2),I (h2)] 32] [] (.y 0 (.y 1 (.y 2 (.y 3 (.y 4 (.y 6 (.y 7 (.e 5 (.e 8 (.y 9 (.y 10 .nil))))))))))) Tryz.wide xF xD ?_
 refine J.j O (qAU 1 O O O qGb qCT O) O O<|J.j O (qAA O O qBP O z9_ O) O O<|J.j O (qAD 0 O O O b9_ O) O O<|J.j O (qAA O O qBP O qAj O) O O<|J.j O (qAP O O qBB qAj (m:=blk g3 [Str (s),N64 (v),Str (o),Str (r),I (h),Str (p),I (i:Nat),.slice A1 n1 c1,.slice A2 n2 c2] 108) xD (qAG.blk0.sub 1 5) O) O O<|J.j O (qAA O O qBP O qCy O) O O<|J.j O (qAP O O isAgg106 qCy (m:=blk g3 [Str (s),N64 (v),Str (o),Str (r),I (h),Str (p),I (i:Nat),.slice A1 n1 c1,.slice A2 n2 c2] 108) xD (qAG.blk0.sub 6 3) O) O O<|J.a1 O (qAZ O O (λF' hF=>qEj F' (hK.mo hF) s xH v o r h p xH)) O xD λg51 _=>J.a1 O (qAZ O O (λF' hF=>hV F' (Fa hF))) O xD λg54 _=>J.j O (qAs O O) O O<|J.b7 ?_
 refine J.b0<|J.u (J.D j30 ?_)
 refine J.c5 O (λh45=>?_) (λh45=>?_)
 ·
  exact J.f λ_ j31=>J.b O<|J.c j31<|J.A<|J.a5<|J.V<|J.E hw0 O () (by split<;>first|rfl|contradiction|(split<;>first|rfl|contradiction|(exfalso;simp_all))) trivial [0] O xC
 refine J.b2<|J.a2<|J.u (J.D j27 ?_)
 exact J.f λ_ j32=>J.b O<|J.c j32<|J.A<|J.E hw0 O () (by split<;>first|rfl|contradiction|(split<;>first|rfl|contradiction|(exfalso;simp_all))) trivial [0] O xC
end Go.Proofs.YtmemgokiolfdoaaGreatDoor