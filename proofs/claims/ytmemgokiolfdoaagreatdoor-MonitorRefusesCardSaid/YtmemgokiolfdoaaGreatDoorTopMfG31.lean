/- A part of the proof. -/
import Derived.Test.YtmemgokiolfdoaaGreatDoorTopMfG30
import Derived.Test.YtmemgokiolfdoaaGreatDoorTopMfG24
set_option maxRecDepth 100000
set_option maxHeartbeats 1000000
set_option linter.unusedSimpArgs false
set_option linter.unusedVariables false
namespace Go.Proofs.YtmemgokiolfdoaaGreatDoor
open Go Go.Fw Go.Proofs.Tryz
attribute [local irreducible] Sha.tagged Wo.pub Wo.publicOf Wo.signs Wo.ends Wo.digs Wo.walk Wo.opn Mk.root Mk.path Mk.climb Xm.root sgC sgP qBO qBi sgB normal
theorem En.hist1(x:En)(hv:x.v=1)(hp:x.p=qAj):En.hist [x]=0:=by
 show(if x.v≠1 then(13:Int) else if x.p≠qAj then 15 else En.chain [x])=0
 rw [if_neg (λh=>h hv),if_neg (λh=>h hp)];rfl
theorem qQX(F:Hp)(hA:qAG F ⟨0,0,none⟩ qBd)(hT:qB7 F)(s:xA)(hsl:s.length≤1000000)(hN:normal s=(s,0)):Cz prog 184 [Str (s)] F (I (0:Nat)):=by
 refine Ct.walk func184 O ntmps184 O (λw0 hw0=>?_)
 refine J.f λ_ j1=>J.b O<|J.c j1<|J.f λ_ j2=>J.b O<|J.k (qAY O O (λF' hF=>qFV F' (hA.mono (Fa hF)) (hT.mono (Fa hF)) s xM)) O λg7 _=>J.j 5 O<|J.c j2<|J.q λ_ j3=>J.T<|J.f λ_ j4=>J.b O<|J.g ((qAf O O O).no (by rw [hN];exact λh=>h O)) O<|J.b O<|J.c j4<|J.a3 ?_
 refine J.f λ_ j5=>J.j 2 O<|J.g ((qDi O O O).no (by rw [hN];exact λh=>h O)) O<|J.b O<|J.c j5<|J.a3 ?_
 refine J.b3<|J.a4<|J.u (J.D j3 ?_)
 exact J.f λ_ j6=>J.b O<|J.c j6<|J.A<|J.E hw0 O () O trivial [0] O xC
theorem qRS(F:Hp)(hK:qAG F ⟨3,0,none⟩ (Sha.K.map W32))(hA:qAG F ⟨0,0,none⟩ qBd)(hT:qB7 F)(seed:xA)(kh:Nat)(h6:kh≤6)(i:Nat)(hi:i<2^kh)(s:xA)(hsl:s.length≤1000000)(hN:normal s=(s,0))(v:Nat)(p:xA)(hE:qBi v (Wo.opn seed) (Xm.root seed kh) ((kh:Nat):Int) p=0)(A1:Option Addr)(n1 c1:Nat)(hch:Sl F 1 A1 n1 c1 (qAH (sgC seed i (qGM s v (Wo.opn seed) (Xm.root seed kh) ((kh:Nat):Int) p))))(A2:Option Addr)(n2 c2:Nat)(hpt:Sl F 1 A2 n2 c2 (qAH (sgP seed kh i)))(hx:En.hist [(⟨v,Wo.opn seed,Xm.root seed kh,((kh:Nat):Int),p⟩:En)]=0):Cz prog 103 [.agg #[Str (s),N64 (v),Str (Wo.opn seed),Str (Xm.root seed kh),I (kh:Nat),Str (p),I (i:Nat),.slice A1 n1 c1,.slice A2 n2 c2],.bool false,.agg #[.int .u64 0,Str [],Str [],I 0,Str []]] F (I (0:Nat)):=by
 obtain ⟨e1,e2,⟨e3,e4⟩,e5,e6,e7⟩:=qK8 hE
 have el:=qCL hE
 have eml:=qNK s v (Wo.opn seed) (Xm.root seed kh) ((kh:Nat):Int) p
 have hgy:(⟨v,Wo.opn seed,Xm.root seed kh,((kh:Nat):Int),p⟩:En).good:=⟨by show v<_;omega,by show(Wo.opn seed).length≤_;omega,by show(Xm.root seed kh).length≤_;omega,by show p.length≤_;omega⟩
 refine Ct.walk func103 O ntmps103 O (λw0 hw0=>?_)
 refine J.f λ_ j1=>J.k (qAd O O O) O λg3 _=>J.k (qAd O O O) O λg5 _=>J.b O<|J.c j1<|J.q λ_ j2=>J.f λ_ j3=>J.V 0 qB6 z9_ O O O O O<|J.a6 1 b9_ O O O O O<|J.k (qAY O O (λF' hF=>qQX F' (hA.mono (Fa hF)) (hT.mono (Fa hF)) s xI xG)) O λg14 _=>J.b O<|J.c j3<|J.f λ_ j4=>J.b O<|J.g ((qAf O O O).no xC) O<|J.c j4<|J.a3 ?_
 refine J.M j2<|J.q λ_ j5=>J.f λ_ j6=>J.V 1 qB6 qAr O O O O O<|J.g (qAT O O qBQ qAr (m:=blk g3 [Str (s),N64 (v),Str (Wo.opn seed),Str (Xm.root seed kh),I (kh:Nat),Str (p),I (i:Nat),.slice A1 n1 c1,.slice A2 n2 c2] 108) xD (qAG.blk0.sub 1 5) O) O<|J.k (qAY O O (λF' hF=>qGg F' v (Wo.opn seed) (Xm.root seed kh) ((kh:Nat):Int) p xI xI xI xI)) O λg21 _=>J.j 5 O<|J.c j6<|J.f λ_ j7=>J.b O<|J.g ((qAf O O O).no xB) O<|J.c j7<|J.a3 ?_
 refine J.M j5<|J.q λ_ j8=>J.b2 [blk g3 [Str (s),N64 (v),Str (Wo.opn seed),Str (Xm.root seed kh),I (kh:Nat),Str (p),I (i:Nat),.slice A1 n1 c1,.slice A2 n2 c2] 108] [9] (.y 0 (.y 1 (.y 4 (.y 5 (.y 6 (.br (.e 2 (.br (.e 3 (.e 7 (.y 8 (.e 9 .nil)))) (.e 7 (.e 3 (.y 8 (.e 9 .nil)))))) (.e 7 (.e 2 (.e 3 (.y 8 (.e 9 .nil))))))))))) Tryz.wide xF xD ?_
 refine J.p O (qAA O O qB6 O qAr O) O O<|J.p O (qAT O O qBQ qAr (m:=blk g3 [Str (s),N64 (v),Str (Wo.opn seed),Str (Xm.root seed kh),I (kh:Nat),Str (p),I (i:Nat),.slice A1 n1 c1,.slice A2 n2 c2] 108) xD (qAG.blk0.sub 1 5) O) O O<|J.p O (qAA O O qB6 O qAr O) O O<|J.p O (qAA O O qC2 O qEE O) O O<|J.p O (qAT O O qLP qEE (m:=blk g3 [Str (s),N64 (v),Str (Wo.opn seed),Str (Xm.root seed kh),I (kh:Nat),Str (p),I (i:Nat),.slice A1 n1 c1,.slice A2 n2 c2] 108) xD (qAG.blk0.sub 2 3) O) O O<|J.d6 ?_ ?_
 ·
  refine J.a1 O (qAF (l:= [.tmp 28]) (xs:= [[N64 (v),Str (Wo.opn seed),Str (Xm.root seed kh),I (kh:Nat),Str (p)]]) O O O O qB4 el102 O xC xC xD) O xD λg29 _=>J.d6 ?_ ?_
  ·
   refine J.a1 O (qAY O O (λF' hF=>qCc F' (hK.mo hF) [(⟨v,Wo.opn seed,Xm.root seed kh,((kh:Nat):Int),p⟩:En)] (by intro x hx;rw [List.mem_singleton.1 hx];exact hgy) g29 0 1 ((qAp (q:=True) (xs:= [(⟨v,Wo.opn seed,Xm.root seed kh,((kh:Nat):Int),p⟩:En).cells]) O (by intro x hx;rw [List.mem_singleton.1 hx];rfl)).sl.mono (hF (blk g29 [N64 (v),Str (Wo.opn seed),Str (Xm.root seed kh),I (kh:Nat),Str (p)] 102) xD)) (Nat.succ_pos _) (show 1≤1073741824 by decide))) O xD λg30 _=>J.a1 O (qAJ O qZI O) O xD λg11 _=>J.b7 ?_
   refine J.c1 O (qAD (i:=4) (l:= [Str [],Str [],I 0]) (vs:= [Str (Wo.opn seed),Str (Xm.root seed kh),I (kh:Nat)]) O O O O O qEE O O) O O O λ_ _=>J.b1<|J.u (J.D j8 ?_)
   refine J.q λ_ j9=>J.f λ_ j10=>J.b O<|J.c j10<|J.a3 ?_
   refine J.M j9<|J.q λ_ j11=>J.T<|J.f λ_ j12=>J.b O<|J.g ((qAf O O O).no (by rw [hx];exact λh=>h O)) O<|J.b O<|J.c j12<|J.a3 ?_
   refine J.q λ_ j13=>J.b2 [blk g3 [Str (s),N64 (v),Str (Wo.opn seed),Str (Xm.root seed kh),I (kh:Nat),Str (p),I (i:Nat),.slice A1 n1 c1,.slice A2 n2 c2] 108,blk g11 [Str (Wo.opn seed),Str (Xm.root seed kh),I (kh:Nat)] 32] [] (.y 0 (.y 1 (.y 2 (.y 3 (.y 4 (.y 6 (.y 7 (.e 5 (.e 8 (.y 9 (.y 10 .nil))))))))))) Tryz.wide xF xD ?_
   refine J.p O (qAW 1 O O O qLP qEE O) O O<|J.p O (qAA O O qB6 O z9_ O) O O<|J.p O (qAC 0 O O O b9_ O) O O<|J.p O (qAA O O qB6 O qAr O) O O<|J.p O (qAT O O qBQ qAr (m:=blk g3 [Str (s),N64 (v),Str (Wo.opn seed),Str (Xm.root seed kh),I (kh:Nat),Str (p),I (i:Nat),.slice A1 n1 c1,.slice A2 n2 c2] 108) xD (qAG.blk0.sub 1 5) O) O O<|J.p O (qAA O O qB6 O qEW O) O O<|J.p O (qAT O O isAgg106 qEW (m:=blk g3 [Str (s),N64 (v),Str (Wo.opn seed),Str (Xm.root seed kh),I (kh:Nat),Str (p),I (i:Nat),.slice A1 n1 c1,.slice A2 n2 c2] 108) xD (qAG.blk0.sub 6 3) O) O O<|J.a1 O (qAY O O (λF' hF=>qI9 F' (hK.mo hF) s xI v (Wo.opn seed) (Xm.root seed kh) ((kh:Nat):Int) p xI)) O xD λg51 _=>J.a1 O (qAY O O (λF' hF=>qIp F' (hK.mo hF) seed kh i (qGM s v (Wo.opn seed) (Xm.root seed kh) ((kh:Nat):Int) p) A1 n1 c1 (hch.mono (Fa hF)) A2 n2 c2 (hpt.mono (Fa hF)) xB h6 hi)) O xD λg54 _=>J.p O (qAq O O) O O<|J.b7 ?_
   refine J.b1<|J.u (J.D j13 ?_)
   refine J.a3 ?_
   refine J.b3<|J.a4<|J.u (J.D j11 ?_)
   exact J.f λ_ j14=>J.b O<|J.c j14<|J.A<|J.E hw0 O () O trivial [0] O xC
  refine J.a1 O (qAJ O qZI O) O xD λg11 _=>J.a1 O (qAY O O (λF' hF=>qCc F' (hK.mo hF) [(⟨v,Wo.opn seed,Xm.root seed kh,((kh:Nat):Int),p⟩:En)] (by intro x hx;rw [List.mem_singleton.1 hx];exact hgy) g29 0 1 ((qAp (q:=True) (xs:= [(⟨v,Wo.opn seed,Xm.root seed kh,((kh:Nat):Int),p⟩:En).cells]) O (by intro x hx;rw [List.mem_singleton.1 hx];rfl)).sl.mono (hF (blk g29 [N64 (v),Str (Wo.opn seed),Str (Xm.root seed kh),I (kh:Nat),Str (p)] 102) xD)) (Nat.succ_pos _) (show 1≤1073741824 by decide))) O xD λg30 _=>J.b7 ?_
  refine J.c1 O (qAD (i:=4) (l:= [Str [],Str [],I 0]) (vs:= [Str (Wo.opn seed),Str (Xm.root seed kh),I (kh:Nat)]) O O O O O qEE O O) O O O λ_ _=>J.b1<|J.u (J.D j8 ?_)
  refine J.q λ_ j15=>J.f λ_ j16=>J.b O<|J.c j16<|J.a3 ?_
  refine J.M j15<|J.q λ_ j17=>J.T<|J.f λ_ j18=>J.b O<|J.g ((qAf O O O).no (by rw [hx];exact λh=>h O)) O<|J.b O<|J.c j18<|J.a3 ?_
  refine J.q λ_ j19=>J.b2 [blk g3 [Str (s),N64 (v),Str (Wo.opn seed),Str (Xm.root seed kh),I (kh:Nat),Str (p),I (i:Nat),.slice A1 n1 c1,.slice A2 n2 c2] 108,blk g11 [Str (Wo.opn seed),Str (Xm.root seed kh),I (kh:Nat)] 32] [] (.y 0 (.y 1 (.y 2 (.y 3 (.y 4 (.y 6 (.y 7 (.e 5 (.e 8 (.y 9 (.y 10 .nil))))))))))) Tryz.wide xF xD ?_
  refine J.p O (qAW 1 O O O qLP qEE O) O O<|J.p O (qAA O O qB6 O z9_ O) O O<|J.p O (qAC 0 O O O b9_ O) O O<|J.p O (qAA O O qB6 O qAr O) O O<|J.p O (qAT O O qBQ qAr (m:=blk g3 [Str (s),N64 (v),Str (Wo.opn seed),Str (Xm.root seed kh),I (kh:Nat),Str (p),I (i:Nat),.slice A1 n1 c1,.slice A2 n2 c2] 108) xD (qAG.blk0.sub 1 5) O) O O<|J.p O (qAA O O qB6 O qEW O) O O<|J.p O (qAT O O isAgg106 qEW (m:=blk g3 [Str (s),N64 (v),Str (Wo.opn seed),Str (Xm.root seed kh),I (kh:Nat),Str (p),I (i:Nat),.slice A1 n1 c1,.slice A2 n2 c2] 108) xD (qAG.blk0.sub 6 3) O) O O<|J.a1 O (qAY O O (λF' hF=>qI9 F' (hK.mo hF) s xI v (Wo.opn seed) (Xm.root seed kh) ((kh:Nat):Int) p xI)) O xD λg51 _=>J.a1 O (qAY O O (λF' hF=>qIp F' (hK.mo hF) seed kh i (qGM s v (Wo.opn seed) (Xm.root seed kh) ((kh:Nat):Int) p) A1 n1 c1 (hch.mono (Fa hF)) A2 n2 c2 (hpt.mono (Fa hF)) xB h6 hi)) O xD λg54 _=>J.p O (qAq O O) O O<|J.b7 ?_
  refine J.b1<|J.u (J.D j19 ?_)
  refine J.a3 ?_
  refine J.b3<|J.a4<|J.u (J.D j17 ?_)
  exact J.f λ_ j20=>J.b O<|J.c j20<|J.A<|J.E hw0 O () O trivial [0] O xC
 refine J.a1 O (qAJ O qZI O) O xD λg11 _=>J.a1 O (qAF (l:= [.tmp 28]) (xs:= [[N64 (v),Str (Wo.opn seed),Str (Xm.root seed kh),I (kh:Nat),Str (p)]]) O O O O qB4 el102 O xC xC xD) O xD λg29 _=>J.a1 O (qAY O O (λF' hF=>qCc F' (hK.mo hF) [(⟨v,Wo.opn seed,Xm.root seed kh,((kh:Nat):Int),p⟩:En)] (by intro x hx;rw [List.mem_singleton.1 hx];exact hgy) g29 0 1 ((qAp (q:=True) (xs:= [(⟨v,Wo.opn seed,Xm.root seed kh,((kh:Nat):Int),p⟩:En).cells]) O (by intro x hx;rw [List.mem_singleton.1 hx];rfl)).sl.mono (hF (blk g29 [N64 (v),Str (Wo.opn seed),Str (Xm.root seed kh),I (kh:Nat),Str (p)] 102) xD)) (Nat.succ_pos _) (show 1≤1073741824 by decide))) O xD λg30 _=>J.b7 ?_
 refine J.c1 O (qAD (i:=3) (l:= [Str [],Str [],I 0]) (vs:= [Str (Wo.opn seed),Str (Xm.root seed kh),I (kh:Nat)]) O O O O O qEE O O) O O O λ_ _=>J.b1<|J.u (J.D j8 ?_)
 refine J.q λ_ j21=>J.f λ_ j22=>J.b O<|J.c j22<|J.a3 ?_
 refine J.M j21<|J.q λ_ j23=>J.T<|J.f λ_ j24=>J.b O<|J.g ((qAf O O O).no (by rw [hx];exact λh=>h O)) O<|J.b O<|J.c j24<|J.a3 ?_
 refine J.q λ_ j25=>J.b2 [blk g3 [Str (s),N64 (v),Str (Wo.opn seed),Str (Xm.root seed kh),I (kh:Nat),Str (p),I (i:Nat),.slice A1 n1 c1,.slice A2 n2 c2] 108,blk g11 [Str (Wo.opn seed),Str (Xm.root seed kh),I (kh:Nat)] 32] [] (.y 0 (.y 1 (.y 2 (.y 3 (.y 4 (.y 6 (.y 7 (.e 5 (.e 8 (.y 9 (.y 10 .nil))))))))))) Tryz.wide xF xD ?_
 refine J.p O (qAW 1 O O O qLP qEE O) O O<|J.p O (qAA O O qB6 O z9_ O) O O<|J.p O (qAC 0 O O O b9_ O) O O<|J.p O (qAA O O qB6 O qAr O) O O<|J.p O (qAT O O qBQ qAr (m:=blk g3 [Str (s),N64 (v),Str (Wo.opn seed),Str (Xm.root seed kh),I (kh:Nat),Str (p),I (i:Nat),.slice A1 n1 c1,.slice A2 n2 c2] 108) xD (qAG.blk0.sub 1 5) O) O O<|J.p O (qAA O O qB6 O qEW O) O O<|J.p O (qAT O O isAgg106 qEW (m:=blk g3 [Str (s),N64 (v),Str (Wo.opn seed),Str (Xm.root seed kh),I (kh:Nat),Str (p),I (i:Nat),.slice A1 n1 c1,.slice A2 n2 c2] 108) xD (qAG.blk0.sub 6 3) O) O O<|J.a1 O (qAY O O (λF' hF=>qI9 F' (hK.mo hF) s xI v (Wo.opn seed) (Xm.root seed kh) ((kh:Nat):Int) p xI)) O xD λg51 _=>J.a1 O (qAY O O (λF' hF=>qIp F' (hK.mo hF) seed kh i (qGM s v (Wo.opn seed) (Xm.root seed kh) ((kh:Nat):Int) p) A1 n1 c1 (hch.mono (Fa hF)) A2 n2 c2 (hpt.mono (Fa hF)) xB h6 hi)) O xD λg54 _=>J.p O (qAq O O) O O<|J.b7 ?_
 refine J.b1<|J.u (J.D j25 ?_)
 refine J.a3 ?_
 refine J.b3<|J.a4<|J.u (J.D j23 ?_)
 exact J.f λ_ j26=>J.b O<|J.c j26<|J.A<|J.E hw0 O () O trivial [0] O xC
end Go.Proofs.YtmemgokiolfdoaaGreatDoor