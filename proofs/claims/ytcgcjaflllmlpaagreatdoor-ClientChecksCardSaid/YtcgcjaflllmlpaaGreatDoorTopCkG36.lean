/- A part of the proof. -/
import Derived.Test.YtcgcjaflllmlpaaGreatDoorTopCkG34
import Derived.Test.YtcgcjaflllmlpaaGreatDoorTopCkG20
set_option maxRecDepth 100000
set_option maxHeartbeats 1000000
set_option linter.unusedSimpArgs false
set_option linter.unusedVariables false
namespace Go.Proofs.YtcgcjaflllmlpaaGreatDoor
open Go Go.Fw Go.Proofs.Tryz
attribute [local irreducible] Sha.tagged Wo.pub Wo.publicOf Wo.signs Wo.ends Wo.digs Wo.walk Wo.opn Mk.root Mk.path Mk.climb Xm.root sgC sgP qBI qBf sgB normal
theorem En.hist1(x:En)(hv:x.v=1)(hp:x.p=qAh):En.hist [x]=0:=by
 show(if x.v≠1 then(13:Int) else if x.p≠qAh then 15 else En.chain [x])=0
 rw [if_neg (λh=>h hv),if_neg (λh=>h hp)];rfl
theorem En.hist13(x:En)(hv:x.v≠1):En.hist [x]=13:=by
 show(if x.v≠1 then(13:Int) else if x.p≠qAh then 15 else En.chain [x])=13
 rw [if_pos hv]
theorem qQp(F:Hp)(hA:qAM F ⟨2,0,none⟩ qBd)(hT:qCI F)(s:xA)(hsl:s.length≤1000000)(hN:normal s=(s,0)):Cz prog 131 [Str (s)] F (I (0:Nat)):=by
 refine Ct.walk func131 O ntmps131 O (λw0 hw0=>?_)
 refine J.g λ_ j1=>J.b O<|J.c j1<|J.g λ_ j2=>J.b O<|J.p (qAa O O (λF' hF=>qKX F' (hA.mono (Fa hF)) (hT.mono (Fa hF)) s xN)) O λg7 _=>J.k 5 O<|J.c j2<|J.q λ_ j3=>J.V<|J.g λ_ j4=>J.b O<|J.f ((qAe O O O).no (by rw [hN];exact λh=>h O)) O<|J.b O<|J.c j4<|J.a2 ?_
 refine J.g λ_ j5=>J.k 2 O<|J.f ((qDv O O O).no (by rw [hN];exact λh=>h O)) O<|J.b O<|J.c j5<|J.a2 ?_
 refine J.b5<|J.a3<|J.u (J.G j3 ?_)
 exact J.g λ_ j6=>J.b O<|J.c j6<|J.A<|J.E hw0 O () O trivial [0] O xC
theorem qRl(F:Hp)(hK:KF F)(hA:qAM F ⟨2,0,none⟩ qBd)(hT:qCI F)(seed:xA)(kh:Nat)(h6:kh≤6)(i:Nat)(hi:i<2^kh)(s:xA)(hsl:s.length≤1000000)(hN:normal s=(s,0))(v:Nat)(p:xA)(hE:qBf v (Wo.opn seed) (Xm.root seed kh) ((kh:Nat):Int) p=0)(A1:Option Addr)(n1 c1:Nat)(hch:Sl F 1 A1 n1 c1 (qAG (sgC seed i (qFz s v (Wo.opn seed) (Xm.root seed kh) ((kh:Nat):Int) p))))(A2:Option Addr)(n2 c2:Nat)(hpt:Sl F 1 A2 n2 c2 (qAG (sgP seed kh i)))(hx:En.hist [(⟨v,Wo.opn seed,Xm.root seed kh,((kh:Nat):Int),p⟩:En)]=0):Cz prog 64 [.agg #[Str (s),N64 (v),Str (Wo.opn seed),Str (Xm.root seed kh),I (kh:Nat),Str (p),I (i:Nat),.slice A1 n1 c1,.slice A2 n2 c2],.bool false,.agg #[.int .u64 0,Str [],Str [],I 0,Str []]] F (I (0:Nat)):=by
 obtain ⟨e1,e2,⟨e3,e4⟩,e5,e6,e7⟩:=qKw hE
 have el:=qCS hE
 have eml:=qNH s v (Wo.opn seed) (Xm.root seed kh) ((kh:Nat):Int) p
 have hgy:(⟨v,Wo.opn seed,Xm.root seed kh,((kh:Nat):Int),p⟩:En).good:=⟨by show v<_;omega,by show(Wo.opn seed).length≤_;omega,by show(Xm.root seed kh).length≤_;omega,by show p.length≤_;omega⟩
 refine Ct.walk func64 O ntmps64 O (λw0 hw0=>?_)
 refine J.g λ_ j1=>J.p (qAZ O O O) O λg3 _=>J.p (qAZ O O O) O λg5 _=>J.b O<|J.c j1<|J.q λ_ j2=>J.g λ_ j3=>J.M 0 qB7 z9_ O O O O O<|J.a7 1 b9_ O O O O O<|J.p (qAa O O (λF' hF=>qQp F' (hA.mono (Fa hF)) (hT.mono (Fa hF)) s xH xG)) O λg14 _=>J.b O<|J.c j3<|J.g λ_ j4=>J.b O<|J.f ((qAe O O O).no xC) O<|J.c j4<|J.a2 ?_
 refine J.T j2<|J.q λ_ j5=>J.g λ_ j6=>J.M 1 qB7 qBY O O O O O<|J.f (qAV O O qC6 qBY (m:=blk g3 [Str (s),N64 (v),Str (Wo.opn seed),Str (Xm.root seed kh),I (kh:Nat),Str (p),I (i:Nat),.slice A1 n1 c1,.slice A2 n2 c2] 101) xD (qAM.blk0.sub 1 5) O) O<|J.p (qAa O O (λF' hF=>qGK F' v (Wo.opn seed) (Xm.root seed kh) ((kh:Nat):Int) p xH xH xH xH)) O λg21 _=>J.k 5 O<|J.c j6<|J.g λ_ j7=>J.b O<|J.f ((qAe O O O).no xB) O<|J.c j7<|J.a2 ?_
 refine J.T j5<|J.q λ_ j8=>J.b1 [blk g3 [Str (s),N64 (v),Str (Wo.opn seed),Str (Xm.root seed kh),I (kh:Nat),Str (p),I (i:Nat),.slice A1 n1 c1,.slice A2 n2 c2] 101] [9] (.y 0 (.y 1 (.y 4 (.y 5 (.y 6 (.br (.e 2 (.br (.e 3 (.e 7 (.y 8 (.e 9 .nil)))) (.e 7 (.e 3 (.y 8 (.e 9 .nil)))))) (.e 7 (.e 2 (.e 3 (.y 8 (.e 9 .nil))))))))))) Tryz.wide xF xD ?_
 refine J.j O (qAA O O qB7 O qBY O) O O<|J.j O (qAV O O qC6 qBY (m:=blk g3 [Str (s),N64 (v),Str (Wo.opn seed),Str (Xm.root seed kh),I (kh:Nat),Str (p),I (i:Nat),.slice A1 n1 c1,.slice A2 n2 c2] 101) xD (qAM.blk0.sub 1 5) O) O O<|J.j O (qAA O O qB7 O qBY O) O O<|J.j O (qAA O O qFQ O qEA O) O O<|J.j O (qAV O O qLS qEA (m:=blk g3 [Str (s),N64 (v),Str (Wo.opn seed),Str (Xm.root seed kh),I (kh:Nat),Str (p),I (i:Nat),.slice A1 n1 c1,.slice A2 n2 c2] 101) xD (qAM.blk0.sub 2 3) O) O O<|J.d5 ?_ ?_
 ·
  refine J.Z O (qAE (l:= [.tmp 28]) (xs:= [[N64 (v),Str (Wo.opn seed),Str (Xm.root seed kh),I (kh:Nat),Str (p)]]) O O O O qDJ el61 O xC xC xD) O xD λg29 _=>J.d5 ?_ ?_
  ·
   refine J.Z O (qAa O O (λF' hF=>qCg F' (hK.mo hF) [(⟨v,Wo.opn seed,Xm.root seed kh,((kh:Nat):Int),p⟩:En)] (by intro x hx;rw [List.mem_singleton.1 hx];exact hgy) g29 0 1 ((qAl (q:=True) (xs:= [(⟨v,Wo.opn seed,Xm.root seed kh,((kh:Nat):Int),p⟩:En).cells]) O (by intro x hx;rw [List.mem_singleton.1 hx];rfl)).sl.mono (hF (blk g29 [N64 (v),Str (Wo.opn seed),Str (Xm.root seed kh),I (kh:Nat),Str (p)] 61) xD)) (Nat.succ_pos _) (show 1≤1073741824 by decide))) O xD λg30 _=>J.Z O (qAJ O qZr O) O xD λg11 _=>J.b7 ?_
   refine J.c1 O (qAD (i:=4) (l:= [Str [],Str [],I 0]) (vs:= [Str (Wo.opn seed),Str (Xm.root seed kh),I (kh:Nat)]) O O O O O qEA O O) O O O λ_ _=>J.a9<|J.u (J.G j8 ?_)
   refine J.q λ_ j9=>J.g λ_ j10=>J.b O<|J.c j10<|J.a2 ?_
   refine J.T j9<|J.q λ_ j11=>J.V<|J.g λ_ j12=>J.b O<|J.f ((qAe O O O).no (by rw [hx];exact λh=>h O)) O<|J.b O<|J.c j12<|J.a2 ?_
   refine J.q λ_ j13=>J.b1 [blk g3 [Str (s),N64 (v),Str (Wo.opn seed),Str (Xm.root seed kh),I (kh:Nat),Str (p),I (i:Nat),.slice A1 n1 c1,.slice A2 n2 c2] 101,blk g11 [Str (Wo.opn seed),Str (Xm.root seed kh),I (kh:Nat)] 59] [] (.y 0 (.y 1 (.y 2 (.y 3 (.y 4 (.y 6 (.y 7 (.e 5 (.e 8 (.y 9 (.y 10 .nil))))))))))) Tryz.wide xF xD ?_
   refine J.j O (qAW 1 O O O qLS qEA O) O O<|J.j O (qAA O O qB7 O z9_ O) O O<|J.j O (qAC 0 O O O b9_ O) O O<|J.j O (qAA O O qB7 O qBY O) O O<|J.j O (qAV O O qC6 qBY (m:=blk g3 [Str (s),N64 (v),Str (Wo.opn seed),Str (Xm.root seed kh),I (kh:Nat),Str (p),I (i:Nat),.slice A1 n1 c1,.slice A2 n2 c2] 101) xD (qAM.blk0.sub 1 5) O) O O<|J.j O (qAA O O qB7 O qLO O) O O<|J.j O (qAV O O isAgg68 qLO (m:=blk g3 [Str (s),N64 (v),Str (Wo.opn seed),Str (Xm.root seed kh),I (kh:Nat),Str (p),I (i:Nat),.slice A1 n1 c1,.slice A2 n2 c2] 101) xD (qAM.blk0.sub 6 3) O) O O<|J.Z O (qAa O O (λF' hF=>qI1 F' (hK.mo hF) s xH v (Wo.opn seed) (Xm.root seed kh) ((kh:Nat):Int) p xH)) O xD λg51 _=>J.Z O (qAa O O (λF' hF=>qIb F' (hK.mo hF) seed kh i (qFz s v (Wo.opn seed) (Xm.root seed kh) ((kh:Nat):Int) p) A1 n1 c1 (hch.mono (Fa hF)) A2 n2 c2 (hpt.mono (Fa hF)) xB h6 hi)) O xD λg54 _=>J.j O (qAt O O) O O<|J.b7 ?_
   refine J.a9<|J.u (J.G j13 ?_)
   refine J.a2 ?_
   refine J.b5<|J.a3<|J.u (J.G j11 ?_)
   exact J.g λ_ j14=>J.b O<|J.c j14<|J.A<|J.E hw0 O () O trivial [0] O xC
  refine J.Z O (qAJ O qZr O) O xD λg11 _=>J.Z O (qAa O O (λF' hF=>qCg F' (hK.mo hF) [(⟨v,Wo.opn seed,Xm.root seed kh,((kh:Nat):Int),p⟩:En)] (by intro x hx;rw [List.mem_singleton.1 hx];exact hgy) g29 0 1 ((qAl (q:=True) (xs:= [(⟨v,Wo.opn seed,Xm.root seed kh,((kh:Nat):Int),p⟩:En).cells]) O (by intro x hx;rw [List.mem_singleton.1 hx];rfl)).sl.mono (hF (blk g29 [N64 (v),Str (Wo.opn seed),Str (Xm.root seed kh),I (kh:Nat),Str (p)] 61) xD)) (Nat.succ_pos _) (show 1≤1073741824 by decide))) O xD λg30 _=>J.b7 ?_
  refine J.c1 O (qAD (i:=4) (l:= [Str [],Str [],I 0]) (vs:= [Str (Wo.opn seed),Str (Xm.root seed kh),I (kh:Nat)]) O O O O O qEA O O) O O O λ_ _=>J.a9<|J.u (J.G j8 ?_)
  refine J.q λ_ j15=>J.g λ_ j16=>J.b O<|J.c j16<|J.a2 ?_
  refine J.T j15<|J.q λ_ j17=>J.V<|J.g λ_ j18=>J.b O<|J.f ((qAe O O O).no (by rw [hx];exact λh=>h O)) O<|J.b O<|J.c j18<|J.a2 ?_
  refine J.q λ_ j19=>J.b1 [blk g3 [Str (s),N64 (v),Str (Wo.opn seed),Str (Xm.root seed kh),I (kh:Nat),Str (p),I (i:Nat),.slice A1 n1 c1,.slice A2 n2 c2] 101,blk g11 [Str (Wo.opn seed),Str (Xm.root seed kh),I (kh:Nat)] 59] [] (.y 0 (.y 1 (.y 2 (.y 3 (.y 4 (.y 6 (.y 7 (.e 5 (.e 8 (.y 9 (.y 10 .nil))))))))))) Tryz.wide xF xD ?_
  refine J.j O (qAW 1 O O O qLS qEA O) O O<|J.j O (qAA O O qB7 O z9_ O) O O<|J.j O (qAC 0 O O O b9_ O) O O<|J.j O (qAA O O qB7 O qBY O) O O<|J.j O (qAV O O qC6 qBY (m:=blk g3 [Str (s),N64 (v),Str (Wo.opn seed),Str (Xm.root seed kh),I (kh:Nat),Str (p),I (i:Nat),.slice A1 n1 c1,.slice A2 n2 c2] 101) xD (qAM.blk0.sub 1 5) O) O O<|J.j O (qAA O O qB7 O qLO O) O O<|J.j O (qAV O O isAgg68 qLO (m:=blk g3 [Str (s),N64 (v),Str (Wo.opn seed),Str (Xm.root seed kh),I (kh:Nat),Str (p),I (i:Nat),.slice A1 n1 c1,.slice A2 n2 c2] 101) xD (qAM.blk0.sub 6 3) O) O O<|J.Z O (qAa O O (λF' hF=>qI1 F' (hK.mo hF) s xH v (Wo.opn seed) (Xm.root seed kh) ((kh:Nat):Int) p xH)) O xD λg51 _=>J.Z O (qAa O O (λF' hF=>qIb F' (hK.mo hF) seed kh i (qFz s v (Wo.opn seed) (Xm.root seed kh) ((kh:Nat):Int) p) A1 n1 c1 (hch.mono (Fa hF)) A2 n2 c2 (hpt.mono (Fa hF)) xB h6 hi)) O xD λg54 _=>J.j O (qAt O O) O O<|J.b7 ?_
  refine J.a9<|J.u (J.G j19 ?_)
  refine J.a2 ?_
  refine J.b5<|J.a3<|J.u (J.G j17 ?_)
  exact J.g λ_ j20=>J.b O<|J.c j20<|J.A<|J.E hw0 O () O trivial [0] O xC
 refine J.Z O (qAJ O qZr O) O xD λg11 _=>J.Z O (qAE (l:= [.tmp 28]) (xs:= [[N64 (v),Str (Wo.opn seed),Str (Xm.root seed kh),I (kh:Nat),Str (p)]]) O O O O qDJ el61 O xC xC xD) O xD λg29 _=>J.Z O (qAa O O (λF' hF=>qCg F' (hK.mo hF) [(⟨v,Wo.opn seed,Xm.root seed kh,((kh:Nat):Int),p⟩:En)] (by intro x hx;rw [List.mem_singleton.1 hx];exact hgy) g29 0 1 ((qAl (q:=True) (xs:= [(⟨v,Wo.opn seed,Xm.root seed kh,((kh:Nat):Int),p⟩:En).cells]) O (by intro x hx;rw [List.mem_singleton.1 hx];rfl)).sl.mono (hF (blk g29 [N64 (v),Str (Wo.opn seed),Str (Xm.root seed kh),I (kh:Nat),Str (p)] 61) xD)) (Nat.succ_pos _) (show 1≤1073741824 by decide))) O xD λg30 _=>J.b7 ?_
 refine J.c1 O (qAD (i:=3) (l:= [Str [],Str [],I 0]) (vs:= [Str (Wo.opn seed),Str (Xm.root seed kh),I (kh:Nat)]) O O O O O qEA O O) O O O λ_ _=>J.a9<|J.u (J.G j8 ?_)
 refine J.q λ_ j21=>J.g λ_ j22=>J.b O<|J.c j22<|J.a2 ?_
 refine J.T j21<|J.q λ_ j23=>J.V<|J.g λ_ j24=>J.b O<|J.f ((qAe O O O).no (by rw [hx];exact λh=>h O)) O<|J.b O<|J.c j24<|J.a2 ?_
 refine J.q λ_ j25=>J.b1 [blk g3 [Str (s),N64 (v),Str (Wo.opn seed),Str (Xm.root seed kh),I (kh:Nat),Str (p),I (i:Nat),.slice A1 n1 c1,.slice A2 n2 c2] 101,blk g11 [Str (Wo.opn seed),Str (Xm.root seed kh),I (kh:Nat)] 59] [] (.y 0 (.y 1 (.y 2 (.y 3 (.y 4 (.y 6 (.y 7 (.e 5 (.e 8 (.y 9 (.y 10 .nil))))))))))) Tryz.wide xF xD ?_
 refine J.j O (qAW 1 O O O qLS qEA O) O O<|J.j O (qAA O O qB7 O z9_ O) O O<|J.j O (qAC 0 O O O b9_ O) O O<|J.j O (qAA O O qB7 O qBY O) O O<|J.j O (qAV O O qC6 qBY (m:=blk g3 [Str (s),N64 (v),Str (Wo.opn seed),Str (Xm.root seed kh),I (kh:Nat),Str (p),I (i:Nat),.slice A1 n1 c1,.slice A2 n2 c2] 101) xD (qAM.blk0.sub 1 5) O) O O<|J.j O (qAA O O qB7 O qLO O) O O<|J.j O (qAV O O isAgg68 qLO (m:=blk g3 [Str (s),N64 (v),Str (Wo.opn seed),Str (Xm.root seed kh),I (kh:Nat),Str (p),I (i:Nat),.slice A1 n1 c1,.slice A2 n2 c2] 101) xD (qAM.blk0.sub 6 3) O) O O<|J.Z O (qAa O O (λF' hF=>qI1 F' (hK.mo hF) s xH v (Wo.opn seed) (Xm.root seed kh) ((kh:Nat):Int) p xH)) O xD λg51 _=>J.Z O (qAa O O (λF' hF=>qIb F' (hK.mo hF) seed kh i (qFz s v (Wo.opn seed) (Xm.root seed kh) ((kh:Nat):Int) p) A1 n1 c1 (hch.mono (Fa hF)) A2 n2 c2 (hpt.mono (Fa hF)) xB h6 hi)) O xD λg54 _=>J.j O (qAt O O) O O<|J.b7 ?_
 refine J.a9<|J.u (J.G j25 ?_)
 refine J.a2 ?_
 refine J.b5<|J.a3<|J.u (J.G j23 ?_)
 exact J.g λ_ j26=>J.b O<|J.c j26<|J.A<|J.E hw0 O () O trivial [0] O xC
end Go.Proofs.YtcgcjaflllmlpaaGreatDoor