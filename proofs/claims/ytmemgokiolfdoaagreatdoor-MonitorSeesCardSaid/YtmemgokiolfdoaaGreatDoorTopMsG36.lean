/- A part of the proof. -/
import Derived.Test.YtmemgokiolfdoaaGreatDoorTopMsG35
set_option maxRecDepth 100000
set_option maxHeartbeats 1000000
set_option linter.unusedSimpArgs false
set_option linter.unusedVariables false
namespace Go.Proofs.YtmemgokiolfdoaaGreatDoor
open Go Go.Fw Go.Proofs.Tryz
def qID(lb s:xA)(e:Int)(l le:List En):Int:=
 if s≠lb then 20 else if e≠0 then e else if le.length<l.length then 13 else if le.take l.length≠l then 15 else 0
def qOc(lb s:xA)(e:Int)(l le:List En):List En:=if qID lb s e l le=0 then le else l
def qVl(own:List Pk)(lb s:xA)(e:Int)(l le:List En):Bool:=decide (qID lb s e l le=0)&&decide ((qCU own le).length=0)
structure SeR where
 A:Option Addr
 c:Nat
 m:Hp
section
variable{own:List Pk}{lb s:xA}{e:Int}{l le:List En}{E:Int}
theorem qDz(h:qID lb s e l le=E)(hE:E≠0):qOc lb s e l le=l:=by unfold qOc;rw [h,if_neg hE]
theorem qI6(h:qID lb s e l le=E)(hE:E≠0):qVl own lb s e l le=false:=by unfold qVl;rw [h,decide_eq_false hE];rfl
end
theorem qRP(F mk:Hp)(gm gk:Nat)(lb:xA)(A:Option Addr)(c:Nat)(l:List En)(hr:Row mk 102 5 A l.length c (qBz l))(hl:l.length≤1000000)(own:List Pk)(hk:qHi pkK F gk (qEq own))(s:xA)(Ae:Option Addr)(ne ce:Nat)(le:List En)(hse:Sl F 5 Ae ne ce (qBz le))(hne:ne≤1000000)(Ab:Option Addr)(nb cb:Nat)(th:Bool)(pk pv:xA)(cv:Value)(xe:En)(xb:Bool)(xr:Int)(hck: ∀F',Le F F'→Cz prog 99 [cv,.agg #[Str (s),.slice Ae ne ce,.slice Ab nb cb,.bool (th),Str (pk),Str (pv)]] F' (.tuple #[.agg #[N64 (xe.v),Str (xe.o),Str (xe.r),I (xe.h),Str (xe.p)],.bool xb,I xr])):
    Ct prog 32 [Ptr gm,cv,.agg #[Str (s),.slice Ae ne ce,.slice Ab nb cb,.bool (th),Str (pk),Str (pv)]] [blk gm [Str lb,.map (some gk),.slice A l.length c] 195,mk,F] (λ_:SeR=> .tuple #[.bool (qVl own lb s xr l le),I (qID lb s xr l le)]) (λr=>Row r.m 102 5 r.A (qOc lb s xr l le).length r.c (qBz (qOc lb s xr l le))) (λr=> [blk gm [Str lb,.map (some gk),.slice r.A (qOc lb s xr l le).length r.c] 195,r.m,F]):=by
  have hle:le.length=ne:=by have:=hse.1;simpa [qBz] using this
  have hcap:=hse.2.1
  refine Ct.walk func32 O ntmps32 O (λw0 hw0=>?_)
  refine J.f λ_ j1=>J.q (qAb O O O) O λg5 _=>J.p 2 O<|J.c j1<|J.k λ_ j2=>J.T<|J.f λ_ j3=>J.b O<|J.g ((qA6 underlying76 O O O).as (v':= .bool false) O) O<|J.b O<|J.c j3<|J.a3 ?_
  refine J.k λ_ j4=>J.b1 [blk gm [Str lb,.map (some gk),.slice A l.length c] 195,blk g5 [Str (s),.slice Ae ne ce,.slice Ab nb cb,.bool (th),Str (pk),Str (pv)] 89] [] (.y 0 (.y 1 (.y 2 (.y 3 (.y 4 (.y 5 (.y 6 (.y 7 .nil)))))))) Tryz.wide xF xD ?_
  refine J.j O (qAA O O qLy O z9_ O) O O<|J.j O (qAD 1 O O O b9_ O) O O<|J.L ?_
  refine J.j O (qAB O O) O O<|J.j O (qAA O O qHo O z9_ O) O O<|J.j O (qAD 0 O O O b9_ O) O O<|J.j O (qDH O O O) O O<|J.b7 ?_
  refine J.b0<|J.u (J.D j4 ?_)
  refine J.Z O (λh15=>?_) (λh15=>?_)
  ·
    refine J.f λ_ j5=>J.p 2 O<|J.c j5<|J.A<|J.a5<|J.V ?_
    have hE:qID lb s xr l le=20:=by unfold qID;rw [if_pos h15]
    exact J.a9 hw0 (λ_ _ h=>h) (qBw O O O) (qAg (⟨A,c,mk⟩:SeR) (by rw [qI6 (E:=20) hE xK,hE]) (by rw [qDz (E:=20) hE xK];exact hr) [0,1,2] (by rw [qDz (E:=20) hE xK];rfl) xC)
  refine J.b2<|J.a2<|J.u (J.D j2 ?_)
  refine J.k λ_ j6=>J.f λ_ j7=>J.b O<|J.c0 3 isAgg89 qS4 O O O O O<|J.q (qAZ O O (λF' hF=>hck F' (Fa hF))) O λg26 _=>J.p 4 O<|J.q (qAJ O qDe O) O λg8 _=>J.a7 (qAC (i:=4) (l:= [.int .u64 0,Str [],Str [],I 0,Str []]) (vs:= [N64 (xe.v),Str (xe.o),Str (xe.r),I (xe.h),Str (xe.p)]) O O O O O qAj O O) O O λ_ _=>J.p 2 O<|J.c j7<|J.f λ_ j8=>J.b O<|J.g (qAV O O O) O<|J.c j8<|J.Z O (λh31=>?_) (λh31=>?_)
  ·
    refine J.f λ_ j9=>J.p 3 O<|J.c j9<|J.A<|J.V ?_
    have hE:qID lb s xr l le=xr:=by unfold qID;rw [if_neg h15,if_pos h31]
    exact J.a9 hw0 (λ_ _ h=>h) (qBw O O O) (qAg (⟨A,c,mk⟩:SeR) (by rw [qI6 (E:=xr) hE xK,hE]) (by rw [qDz (E:=xr) hE xK];exact hr) [0,1,2] (by rw [qDz (E:=xr) hE xK];rfl) xC)
  refine J.M j6<|J.k λ_ j10=>J.f λ_ j11=>J.b O<|J.g (qAB O O) O<|J.W 2 qHo qLi O O O O O<|J.a6 0 qOD O O O O O<|J.g (qAO qCK O O) O<|J.b O<|J.c j11<|J.T<|J.f λ_ j12=>J.W 1 qLy qLi O O O O O<|J.a6 3 qOD O O O O O<|J.g (qAO qCK O O) O<|J.b O<|J.g (qAS O O O) O<|J.b O<|J.c j12<|J.Z O (λh38=>?_) (λh38=>?_)
  ·
    refine J.f λ_ j13=>J.p 2 O<|J.c j13<|J.A<|J.a5<|J.V ?_
    have hE:qID lb s xr l le=13:=by unfold qID;rw [if_neg h15,if_neg h31,if_pos xB]
    exact J.a9 hw0 (λ_ _ h=>h) (qBw O O O) (qAg (⟨A,c,mk⟩:SeR) (by rw [qI6 (E:=13) hE xK,hE]) (by rw [qDz (E:=13) hE xK];exact hr) [0,1,2] (by rw [qDz (E:=13) hE xK];rfl) xC)
  refine J.k λ_ j14=>J.b1 [F,mk,blk gm [Str lb,.map (some gk),.slice A l.length c] 195,blk g5 [Str (s),.slice Ae ne ce,.slice Ab nb cb,.bool (th),Str (pk),Str (pv)] 89] [] (.y 0 (.y 1 (.y 2 (.y 3 (.y 4 (.y 5 (.y 6 (.y 7 (.e 8 (.y 9 (.y 10 .nil))))))))))) Tryz.wide xF xD ?_
  refine J.j O (qAA O O qLy O qLi O) O O<|J.j O (qAD 3 O O O qOD O) O O<|J.L ?_
  refine J.j O (qCm O O qCK qAj O xB) O O<|J.L ?_
  refine J.j O (qAB O O) O O<|J.j O (qAA O O qHo O qLi O) O O<|J.j O (qAD 2 O O O qOD O) O O<|J.a1 O (qAZ O O (λF' hF=>qX8 F' Ae l.length ce (le.take l.length) (by rw [←qLF];exact((hse.to xB).mono (Fa hF))) xB A l.length c l (hr.sl.mono (Fa hF)))) O xD λg53 _=>J.j O (qFc O O) O O<|J.b7 ?_
  refine J.b0<|J.u (J.D j14 ?_)
  refine J.Z O (λh44=>?_) (λh44=>?_)
  ·
    refine J.f λ_ j15=>J.p 2 O<|J.c j15<|J.A<|J.a5<|J.V ?_
    have hE:qID lb s xr l le=15:=by unfold qID;rw [if_neg h15,if_neg h31,if_neg xB,if_pos h44]
    exact J.a9 hw0 (λ_ _ h=>h) (qBw O O O) (qAg (⟨A,c,mk⟩:SeR) (by rw [qI6 (E:=15) hE xK,hE]) (by rw [qDz (E:=15) hE xK];exact hr) [0,1,2] (by rw [qDz (E:=15) hE xK];rfl) xC)
  refine J.b2<|J.a2<|J.u (J.D j10 ?_)
  refine J.f λ_ j16=>J.b O<|J.W 1 qLy qLi O O O O O<|J.a6 3 qOD O O O O O<|J.q (qBb O O (λF' hF=>qFQ F' Ae ne ce le (hse.mono (Fa hF)) xO)) O ?_
  rintro⟨A58,c58,m58⟩ h58
  try dsimp only at h58
  refine J.g (qAB O O) O<|J.W 2 qHo qLi O O O O O<|J.a7 (qAW (i:=0) O O O O O qLi O xD) O O λ_ _=>?_
  change J _ _ _ [blk gm [Str lb,.map (some gk),.slice A58 ((le).length) c58] 195,_,_,_,_,_] _
  refine J.c j16<|J.f λ_ j17=>J.b O<|J.q (qAK O O ent (Ct.use (new:=λx:Option Addr×Nat×Hp=> [x.2.2]) (λF' hF=>qRO F' gm gk lb A58 le.length c58 le (h58.sl.mono (Fa hF)) xB (qAG.blk0.mono (hF (blk gm [Str lb,.map (some gk),.slice A58 le.length c58] 195) xD)) own (hk.mono (Fa hF))))) O ?_
  rintro⟨A62,c62,m62⟩ h62
  try dsimp only at h62
  refine J.g (qAO qCK O O) O<|J.g ((qAe O O O).as (v':= .bool (decide ((qCU own le).length=0))) (congrArg Value.bool (decide_eq_decide.2 xB))) O<|J.p 2 O<|J.c j17<|J.A ?_
  have hE:qID lb s xr l le=0:=by unfold qID;rw [if_neg h15,if_neg h31,if_neg xB,if_neg h44]
  exact J.a9 hw0 (λ_ _ h=>h) (qBw O O O) (qAg (⟨A58,c58,m58⟩:SeR) (by unfold qVl;rw [hE];rfl) (by unfold qOc;rw [hE,if_pos rfl];exact h58) [0,5,2] (by unfold qOc;rw [hE];rfl) xC)
end Go.Proofs.YtmemgokiolfdoaaGreatDoor
namespace Go.Proofs.YtmemgokiolfdoaaGreatDoor
open Go Go.Fw Go.Proofs.Tryz
theorem rv3c{P:Program}{env:Env}{ms:List Hp}{fn:Func}{n:Nat}{w0:Wd}{x t x' t' u v v' v''}(h:fn.results= #[.cell x t,.cell x' t',.tmp u])(h1:RV P env ms (.cell x t) v)(h2:RV P env ms (.cell x' t') v')(h3:RV P env ms (.tmp u) v''): ∀a w,Kn n env a→St w0 ms w→(results fn a.tmps).run P w= .ok (.tuple #[v,v',v'']) w:=λa w hk hs=>by
  have e:=RV.run hk hs h1
  have e':=RV.run hk hs h2
  have e'':=RV.run hk hs h3
  have hA: ∀(f:Value→World→Result Value) (x:Tmp) (t:TypeId) (u:Value),(do loadVar t (←asAddr (a.tmps.getD x undef)):Sem Value).run P w= .ok u w→
      ((Sem.run P (asAddr (a.tmps[x]?.getD undef)) w).andThen λb w'=>(Sem.run P (loadVar t b) w').andThen f)=f u w:=λf x t u hu=>by
    have h3:((Sem.run P (asAddr (a.tmps[x]?.getD undef)) w).andThen λb w'=>(Sem.run P (loadVar t b) w'))= .ok u w:=by simpa using hu
    cases hq:Sem.run P (asAddr (a.tmps[x]?.getD undef)) w with
    |ok b w'=>rw [hq] at h3;simp only [Result.andThen_ok] at h3⊢;rw [h3];rfl
    |halt x w'=>rw [hq] at h3;cases h3
  simp at e''
  unfold results
  rw [h]
  simp
  rw [hA _ _ _ _ e]
  rw [hA _ _ _ _ e']
  simp [e'']
theorem qW7(F:Hp)(g:Nat)(RA:Option Addr)(rn rc:Nat)(l:List Aud)(hrc:qAG F ⟨g,0,none⟩ [.slice RA rn rc])(hrs:Sl F 4 RA rn rc (qBr l))(k:Nat)(hk:k<l.length):Cz prog 170 [Ptr g,I (k:Nat)] F (.tuple #[.agg #[Str ((l.getD k qAt).nm),Str ((l.getD k qAt).op),Str ((l.getD k qAt).rt),I ((l.getD k qAt).ht)],I (0:Nat)]):=by
 have hrl:l.length=rn:=by have:=hrs.1;rw [qEF] at this;exact this
 refine Ct.walk func170 O ntmps170 O (λw0 hw0=>?_)
 refine J.f λ_ j1=>J.q (qAJ O qSD O) O λg4 _=>J.b O<|J.c j1<|J.k λ_ j2=>J.f λ_ j3=>J.b O<|J.g ((qAS O O O).no xB) O<|J.p 3 O<|J.d0 (qAZ O O (λF' hF=>qND F' g RA rn rc (hrc.mono (Fa hF)))) O λg11 _=>J.G ((qBI O O O).no xB) O<|J.b O<|J.c j3<|J.a3 ?_
 exact J.M j2<|J.f λ_ j4=>J.b O<|J.g (qAB O O) O<|J.W 0 qGm qHk O O O O O<|J.g (qAI O O isAgg118 (m:=F) xD (hrc)) O<|J.b O<|J.g (qAF O O O qDm qDq hrs xB) O<|J.g (qAP O O qLY qDq (m:=F) xD (hrs.elem (qFT xB)) O) O<|J.a7 (qAC (i:=1) (l:= [Str [],Str [],Str [],I 0]) (vs:= [Str ((l.getD k qAt).nm),Str ((l.getD k qAt).op),Str ((l.getD k qAt).rt),I ((l.getD k qAt).ht)]) O O O O O qDq O O) O O λ_ _=>J.b O<|J.c j4<|J.A<|J.a9 hw0 (λ_ _ h=>h) (rv2 O (RV.blkA 1 O O qLY qDq) O) (qAg () O trivial [0] O xC)
structure MbR where
 s:Nat
 A:Option Addr
 c:Nat
 m:Hp
structure MbP (x:SvR) (e k:Nat) (r:MbR):Prop where
 st:qJy (x.kv.getD e []) (qAM k) 0 r.s
 rb:Row r.m 9 1 r.A (bsd (x.kv.getD e []) (qAM k) 0 (r.s-0)).length r.c (qAH (bsd (x.kv.getD e []) (qAM k) 0 (r.s-0)))
theorem qGs(F:Hp)(hK:qAG F ⟨3,0,none⟩ (Sha.K.map W32))(x:SvR)(hc:qAG F ⟨x.gs,0,none⟩ [I (x.dp:Nat),Ptr x.gb,.bool false,.map (some x.nA),Ptr x.rA,.map (some x.nB),Ptr x.rB,.slice x.cA x.cl.length x.cc,.slice x.oA x.no.length x.oc,.slice x.tA x.tg.length x.tc,.slice x.hA x.hd.length x.hc])(hts:Sl F 1 x.tA x.tg.length x.tc (qDn x.tg))(hhs:Sl F 5 x.hA x.hd.length x.hc (qDQ x.hd))(hnb:x.hd.length≤1000)(hra:qSt F x.rA x.aud)(e k:Nat)(he:e<x.hd.length)(het:e<x.tg.length)(hk:k<(x.hd.getD e qAY).aud)(hka:k<x.aud.length)(hal:x.aud.length≤64)(hT:qCl F (x.tg.getD e 0) (x.kv.getD e []))(hf:qCS (x.kv.getD e [])):Ct prog 94 [Ptr x.gs,N64 e,I (k:Nat)] [F] (λr:MbR=> .tuple #[.agg #[Str ((x.aud.getD k qAt).nm),Str ((x.aud.getD k qAt).op),Str ((x.aud.getD k qAt).rt),I ((x.aud.getD k qAt).ht)],.agg #[.slice r.A (bsd (x.kv.getD e []) (qAM k) 0 (r.s-0)).length r.c,.bool (qAl (x.kv.getD e []) (qAM k) r.s),Str (qBk (x.kv.getD e []) (qAM k) r.s),Str (qBo (x.kv.getD e []) (qAM k) r.s)],I (0:Nat)]) (MbP x e k) (λr=> [F,r.m]):=by
 obtain ⟨RA,rn,rc,hrc,hrs⟩:=hra
 have hrl:x.aud.length=rn:=by have:=hrs.1;rw [qEF] at this;exact this
 refine Ct.walk func94 O ntmps94 O (λw0 hw0=>?_)
 refine J.f λ_ j1=>J.q (qAJ O qSD O) O λg6 _=>J.q (qAJ O qPH O) O λg7 _=>J.b O<|J.c j1<|J.k λ_ j2=>J.T<|J.f λ_ j3=>J.b O<|J.g ((qA6 qYv O O O).as (v':= .bool false) O) O<|J.p 3 O<|J.G (qAB O O) O<|J.G (qAA O O qBJ O qLj O) O<|J.G (qAI O O qPY (m:=F) xD (hc.at (i:=10) O)) O<|J.G (qAO qGl O O) O<|J.G (qDK O O u3_ qEV xB) O<|J.G ((qBI O O O).no xB) O<|J.p 2 O<|J.c j3<|J.a3 ?_
 refine J.f λ_ j4=>J.b O<|J.g ((qAS O O O).no xB) O<|J.p 3 O<|J.G (qAB O O) O<|J.G (qAA O O qBJ O qLj O) O<|J.G (qAI O O qPY (m:=F) xD (hc.at (i:=10) O)) O<|J.b O<|J.G (qAF O O O qGl qDP hhs xB) O<|J.G (qFD O O qEJ O z3_ hhs xB O) O<|J.G (qAI O O b3_ (m:=F) xD (hhs.part (qE4 xB) 3 1)) O<|J.G ((qBI O O O).no xB) O<|J.p 2 O<|J.c j4<|J.a3 ?_
 refine J.b2<|J.a2<|J.u (J.D j2 ?_)
 refine J.f λ_ j5=>J.b O<|J.g (qAB O O) O<|J.W 3 qBJ qCp O O O O O<|J.W 4 qEW sizeOf121 O O O O O<|J.g (qAI O O isAgg121 (m:=F) xD (hc.at (i:=4) O)) O<|J.b O<|J.q (qAZ O O (λF' hF=>(by have:=qW7 F' x.rA RA rn rc x.aud (hrc.mono (Fa hF)) (hrs.mono (Fa hF)) k hka;exact this))) O λg51 _=>J.p 3 O<|J.q (qAJ O qSD O) O λg9 _=>J.a7 (qAC (i:=3) (l:= [Str [],Str [],Str [],I 0]) (vs:= [Str ((x.aud.getD k qAt).nm),Str ((x.aud.getD k qAt).op),Str ((x.aud.getD k qAt).rt),I ((x.aud.getD k qAt).ht)]) O O O O O qDq O O) O O λ_ _=>J.b O<|J.c j5<|J.k λ_ j6=>J.f λ_ j7=>J.b O<|J.g ((qAV O O O).no xC) O<|J.c j7<|J.a3 ?_
 refine J.M j6<|J.k λ_ j8=>J.b1 [F] [14,15,100012] (.y 0 (.y 1 (.y 2 (.y 3 (.y 4 (.y 5 (.y 6 (.y 7 (.br (.e 8 (.br (.e 9 (.y 10 (.y 11 (.y 12 (.e 13 (.e 14 (.e 15 .nil))))))) (.e 13 (.e 9 (.y 10 (.y 11 (.y 12 (.e 14 (.e 15 .nil))))))))) (.e 13 (.e 8 (.e 9 (.y 10 (.y 11 (.y 12 (.e 14 (.e 15 .nil))))))))))))))))) Tryz.wide xF xD ?_
 refine J.L ?_
 refine J.j O (qAB O O) O O<|J.j O (qAA O O qBJ O sizeOf127 O) O O<|J.j O (qAI O O isAgg127 (m:=F) xD (hc.at (i:=9) O)) O O<|J.L ?_
 refine J.j O (qAF O O O qOT sizeOf130 hts xB) O O<|J.j O (qAI O O isAgg130 (m:=F) xD (hts.elem (qKX xB))) O O<|J.L ?_
 refine J.d6 ?_ ?_
 ·
  refine J.a1 O (qAZ O O (λF' hF=>qEO F' (hK.mo hF) k xB)) O xD λg68 _=>J.d6 ?_ ?_
  ·
   refine J.a1 O (qBb O O (λF' hF=>qE5 F' (hK.mo hF) (x.tg.getD e 0) (x.kv.getD e []) (hT.mono (Fa hF)) hf (qAM k) (qBm k) 0 xB)) O xD ?_
   rintro⟨s69,A69,c69,m69⟩ ⟨hst69,hr69⟩
   refine J.L ?_
   refine J.c7 (.agg #[.slice A69 (bsd (x.kv.getD e []) (qAM k) 0 (s69-0)).length c69,.bool (qAl (x.kv.getD e []) (qAM k) s69),Str (qBk (x.kv.getD e []) (qAM k) s69),Str (qBo (x.kv.getD e []) (qAM k) s69)]) ?_
   refine J.d1 O (qAT O O O) O O O ?_
   refine J.a1 O (qAJ O qPH O) O xD λg11 _=>J.c1 O (qAC (i:=5) (l:= [.slice none 0 0,.bool false,Str [],Str []]) (vs:= [.slice A69 (bsd (x.kv.getD e []) (qAM k) 0 (s69-0)).length c69,.bool (qAl (x.kv.getD e []) (qAM k) s69),Str (qBk (x.kv.getD e []) (qAM k) s69),Str (qBo (x.kv.getD e []) (qAM k) s69)]) O O O O O qC6 O O) O O O λ_ _=>J.d4 O (YOp.eop (qBF O O)) O O O O ?_
   intro _ _
   refine J.b0<|J.u (J.D j8 ?_)
   refine J.k λ_ j9=>J.b1 [blk g9 [Str ((x.aud.getD k qAt).nm),Str ((x.aud.getD k qAt).op),Str ((x.aud.getD k qAt).rt),I ((x.aud.getD k qAt).ht)] 34,blk g11 [.slice A69 (bsd (x.kv.getD e []) (qAM k) 0 (s69-0)).length c69,.bool (qAl (x.kv.getD e []) (qAM k) s69),Str (qBk (x.kv.getD e []) (qAM k) s69),Str (qBo (x.kv.getD e []) (qAM k) s69)] 87] [] (.y 0 (.y 1 (.y 2 (.e 3 (.e 4 (.y 5 .nil)))))) Tryz.wide xF xD ?_
   refine J.j O (qAU 0 O O O qLY qDq O) O O<|J.j O (qAU 1 O O O qGa qC6 O) O O<|J.L ?_
   refine J.e1 O (qAC (i:=1) (l:= [Str [],Str [],Str [],I 0]) (vs:= [Str ((x.aud.getD k qAt).nm),Str ((x.aud.getD k qAt).op),Str ((x.aud.getD k qAt).rt),I ((x.aud.getD k qAt).ht)]) O O O O O qDq O O) O O xD λ_ _=>J.e1 O (qAC (i:=2) (l:= [.slice none 0 0,.bool false,Str [],Str []]) (vs:= [.slice A69 (bsd (x.kv.getD e []) (qAM k) 0 (s69-0)).length c69,.bool (qAl (x.kv.getD e []) (qAM k) s69),Str (qBk (x.kv.getD e []) (qAM k) s69),Str (qBo (x.kv.getD e []) (qAM k) s69)]) O O O O O qC6 O O) O O xD λ_ _=>J.b7 ?_
   refine J.b0<|J.u (J.D j9 ?_)
   exact J.A<|J.a9 hw0 (λ_ _ h=>h) (rv3c O (RV.blkA 1 O O qLY qDq) (RV.blkA 2 O O qGa qC6) O) (qAg (⟨s69,A69,c69,m69⟩:MbR) O ⟨hst69,hr69⟩ [0,4] O xC)
  refine J.a1 O (qAJ O qPH O) O xD λg11 _=>J.a1 O (qBb O O (λF' hF=>qE5 F' (hK.mo hF) (x.tg.getD e 0) (x.kv.getD e []) (hT.mono (Fa hF)) hf (qAM k) (qBm k) 0 xB)) O xD ?_
  rintro⟨s69,A69,c69,m69⟩ ⟨hst69,hr69⟩
  refine J.L ?_
  refine J.c7 (.agg #[.slice A69 (bsd (x.kv.getD e []) (qAM k) 0 (s69-0)).length c69,.bool (qAl (x.kv.getD e []) (qAM k) s69),Str (qBk (x.kv.getD e []) (qAM k) s69),Str (qBo (x.kv.getD e []) (qAM k) s69)]) ?_
  refine J.d1 O (qAT O O O) O O O ?_
  refine J.c1 O (qAC (i:=4) (l:= [.slice none 0 0,.bool false,Str [],Str []]) (vs:= [.slice A69 (bsd (x.kv.getD e []) (qAM k) 0 (s69-0)).length c69,.bool (qAl (x.kv.getD e []) (qAM k) s69),Str (qBk (x.kv.getD e []) (qAM k) s69),Str (qBo (x.kv.getD e []) (qAM k) s69)]) O O O O O qC6 O O) O O O λ_ _=>J.d4 O (YOp.eop (qBF O O)) O O O O ?_
  intro _ _
  refine J.b0<|J.u (J.D j8 ?_)
  refine J.k λ_ j10=>J.b1 [blk g9 [Str ((x.aud.getD k qAt).nm),Str ((x.aud.getD k qAt).op),Str ((x.aud.getD k qAt).rt),I ((x.aud.getD k qAt).ht)] 34,blk g11 [.slice A69 (bsd (x.kv.getD e []) (qAM k) 0 (s69-0)).length c69,.bool (qAl (x.kv.getD e []) (qAM k) s69),Str (qBk (x.kv.getD e []) (qAM k) s69),Str (qBo (x.kv.getD e []) (qAM k) s69)] 87] [] (.y 0 (.y 1 (.y 2 (.e 3 (.e 4 (.y 5 .nil)))))) Tryz.wide xF xD ?_
  refine J.j O (qAU 0 O O O qLY qDq O) O O<|J.j O (qAU 1 O O O qGa qC6 O) O O<|J.L ?_
  refine J.e1 O (qAC (i:=1) (l:= [Str [],Str [],Str [],I 0]) (vs:= [Str ((x.aud.getD k qAt).nm),Str ((x.aud.getD k qAt).op),Str ((x.aud.getD k qAt).rt),I ((x.aud.getD k qAt).ht)]) O O O O O qDq O O) O O xD λ_ _=>J.e1 O (qAC (i:=2) (l:= [.slice none 0 0,.bool false,Str [],Str []]) (vs:= [.slice A69 (bsd (x.kv.getD e []) (qAM k) 0 (s69-0)).length c69,.bool (qAl (x.kv.getD e []) (qAM k) s69),Str (qBk (x.kv.getD e []) (qAM k) s69),Str (qBo (x.kv.getD e []) (qAM k) s69)]) O O O O O qC6 O O) O O xD λ_ _=>J.b7 ?_
  refine J.b0<|J.u (J.D j10 ?_)
  exact J.A<|J.a9 hw0 (λ_ _ h=>h) (rv3c O (RV.blkA 1 O O qLY qDq) (RV.blkA 2 O O qGa qC6) O) (qAg (⟨s69,A69,c69,m69⟩:MbR) O ⟨hst69,hr69⟩ [0,5] O xC)
 refine J.a1 O (qAJ O qPH O) O xD λg11 _=>J.a1 O (qAZ O O (λF' hF=>qEO F' (hK.mo hF) k xB)) O xD λg68 _=>J.a1 O (qBb O O (λF' hF=>qE5 F' (hK.mo hF) (x.tg.getD e 0) (x.kv.getD e []) (hT.mono (Fa hF)) hf (qAM k) (qBm k) 0 xB)) O xD ?_
 rintro⟨s69,A69,c69,m69⟩ ⟨hst69,hr69⟩
 refine J.L ?_
 refine J.c7 (.agg #[.slice A69 (bsd (x.kv.getD e []) (qAM k) 0 (s69-0)).length c69,.bool (qAl (x.kv.getD e []) (qAM k) s69),Str (qBk (x.kv.getD e []) (qAM k) s69),Str (qBo (x.kv.getD e []) (qAM k) s69)]) ?_
 refine J.d1 O (qAT O O O) O O O ?_
 refine J.c1 O (qAC (i:=4) (l:= [.slice none 0 0,.bool false,Str [],Str []]) (vs:= [.slice A69 (bsd (x.kv.getD e []) (qAM k) 0 (s69-0)).length c69,.bool (qAl (x.kv.getD e []) (qAM k) s69),Str (qBk (x.kv.getD e []) (qAM k) s69),Str (qBo (x.kv.getD e []) (qAM k) s69)]) O O O O O qC6 O O) O O O λ_ _=>J.d4 O (YOp.eop (qBF O O)) O O O O ?_
 intro _ _
 refine J.b0<|J.u (J.D j8 ?_)
 refine J.k λ_ j11=>J.b1 [blk g9 [Str ((x.aud.getD k qAt).nm),Str ((x.aud.getD k qAt).op),Str ((x.aud.getD k qAt).rt),I ((x.aud.getD k qAt).ht)] 34,blk g11 [.slice A69 (bsd (x.kv.getD e []) (qAM k) 0 (s69-0)).length c69,.bool (qAl (x.kv.getD e []) (qAM k) s69),Str (qBk (x.kv.getD e []) (qAM k) s69),Str (qBo (x.kv.getD e []) (qAM k) s69)] 87] [] (.y 0 (.y 1 (.y 2 (.e 3 (.e 4 (.y 5 .nil)))))) Tryz.wide xF xD ?_
 refine J.j O (qAU 0 O O O qLY qDq O) O O<|J.j O (qAU 1 O O O qGa qC6 O) O O<|J.L ?_
 refine J.e1 O (qAC (i:=1) (l:= [Str [],Str [],Str [],I 0]) (vs:= [Str ((x.aud.getD k qAt).nm),Str ((x.aud.getD k qAt).op),Str ((x.aud.getD k qAt).rt),I ((x.aud.getD k qAt).ht)]) O O O O O qDq O O) O O xD λ_ _=>J.e1 O (qAC (i:=2) (l:= [.slice none 0 0,.bool false,Str [],Str []]) (vs:= [.slice A69 (bsd (x.kv.getD e []) (qAM k) 0 (s69-0)).length c69,.bool (qAl (x.kv.getD e []) (qAM k) s69),Str (qBk (x.kv.getD e []) (qAM k) s69),Str (qBo (x.kv.getD e []) (qAM k) s69)]) O O O O O qC6 O O) O O xD λ_ _=>J.b7 ?_
 refine J.b0<|J.u (J.D j11 ?_)
 exact J.A<|J.a9 hw0 (λ_ _ h=>h) (rv3c O (RV.blkA 1 O O qLY qDq) (RV.blkA 2 O O qGa qC6) O) (qAg (⟨s69,A69,c69,m69⟩:MbR) O ⟨hst69,hr69⟩ [0,5] O xC)
def zEn:En:=⟨0,[],[],0,[]⟩
def qJw(root nm:xA)(l:List En)(bs:List xA)(th:Bool)(pk pv:xA):En×Bool×Int:=
 if l.length=0 then(if qHM bs th pk pv root nm 0=true then(zEn,false,0) else(zEn,false,18))
 else if En.hist l≠0 then(zEn,false,En.hist l)
 else if qPC bs th pk pv root nm (l.getD (l.length-1) qAz).val 0=true then(l.getD (l.length-1) qAz,true,0) else(zEn,false,18)
section
variable{root nm:xA}{l:List En}{bs:List xA}{th:Bool}{pk pv:xA}
theorem chk_1(h:l.length=0)(h2:qHM bs th pk pv root nm 0=true):qJw root nm l bs th pk pv=(zEn,false,0):=by unfold qJw;rw [if_pos h,if_pos h2]
theorem chk_2(h:l.length=0)(h2:qHM bs th pk pv root nm 0=false):qJw root nm l bs th pk pv=(zEn,false,18):=by unfold qJw;rw [if_pos h,h2];rfl
theorem chk_3(h: ¬l.length=0)(h2:En.hist l≠0):qJw root nm l bs th pk pv=(zEn,false,En.hist l):=by unfold qJw;rw [if_neg h,if_pos h2]
theorem chk_4(h: ¬l.length=0)(h2: ¬En.hist l≠0)(h3:qPC bs th pk pv root nm (l.getD (l.length-1) qAz).val 0=false):qJw root nm l bs th pk pv=(zEn,false,18):=by unfold qJw;rw [if_neg h,if_neg h2,h3];rfl
theorem qZx(h: ¬l.length=0)(h2: ¬En.hist l≠0)(h3:qPC bs th pk pv root nm (l.getD (l.length-1) qAz).val 0=true):qJw root nm l bs th pk pv=(l.getD (l.length-1) qAz,true,0):=by unfold qJw;rw [if_neg h,if_neg h2,if_pos h3]
end
theorem qSS(F:Hp)(hK:qAG F ⟨3,0,none⟩ (Sha.K.map W32))(gc sl nd:Nat)(A:Option Addr)(n c:Nat)(l:List RhD)(hs:Sl F 5 A n c (qDQ l))(h0:0<n)(hn:n≤1000000)(hC:qAG F ⟨gc,0,none⟩ [I (sl:Nat),I (nd:Nat),.slice A n c])(hg:(qA7 (l.getD (n-1) qAY)).good)(hxs:nsl F (l.getD (n-1) qAY))(hsm: ∀s∈(l.getD (n-1) qAY).ns,s.length≤1048576)(s:xA)(hsl:s.length≤1000000)(Ae:Option Addr)(ne ce:Nat)(le:List En)(hse:Sl F 5 Ae ne ce (qBz le))(hel: ∀x∈le,x.good)(hne:ne≤1000000)(Ab:Option Addr)(cb:Nat)(bs:List xA)(hsb:Sl F 1 Ab bs.length cb (qAH bs))(th:Bool)(pk pv:xA)(hgp:qLg bs th pk pv (Sha.tagged 11 [s]) 0)(hpv:pv.length≤1000000):Cz prog 99 [Ptr gc,.agg #[Str (s),.slice Ae ne ce,.slice Ab bs.length cb,.bool (th),Str (pk),Str (pv)]] F (.tuple #[.agg #[N64 ((qJw (qCW (l.getD (n-1) qAY).ns (((l.getD (n-1) qAY).dep:Nat):Int)) (Sha.tagged 11 [s]) le bs th pk pv).1.v),Str ((qJw (qCW (l.getD (n-1) qAY).ns (((l.getD (n-1) qAY).dep:Nat):Int)) (Sha.tagged 11 [s]) le bs th pk pv).1.o),Str ((qJw (qCW (l.getD (n-1) qAY).ns (((l.getD (n-1) qAY).dep:Nat):Int)) (Sha.tagged 11 [s]) le bs th pk pv).1.r),I ((qJw (qCW (l.getD (n-1) qAY).ns (((l.getD (n-1) qAY).dep:Nat):Int)) (Sha.tagged 11 [s]) le bs th pk pv).1.h),Str ((qJw (qCW (l.getD (n-1) qAY).ns (((l.getD (n-1) qAY).dep:Nat):Int)) (Sha.tagged 11 [s]) le bs th pk pv).1.p)],.bool ((qJw (qCW (l.getD (n-1) qAY).ns (((l.getD (n-1) qAY).dep:Nat):Int)) (Sha.tagged 11 [s]) le bs th pk pv).2.1),I ((qJw (qCW (l.getD (n-1) qAY).ns (((l.getD (n-1) qAY).dep:Nat):Int)) (Sha.tagged 11 [s]) le bs th pk pv).2.2)]):=by
 have hln:l.length=n:=by have:=hs.1;simpa [qDQ] using this
 have hle:le.length=ne:=by have:=hse.1;simpa [qBz] using this
 refine Ct.walk func99 O ntmps99 O (λw0 hw0=>?_)
 refine J.f λ_ j1=>J.q (qAb O O O) O λg3 _=>J.q (qAJ O qDe O) O λg4 _=>J.p 2 O<|J.c j1 ?_
 refine J.k λ_ j2=>J.f λ_ j3=>J.b O<|J.g ((qA6 underlying91 O O O).as (v':= .bool false) O) O<|J.c j3 ?_
 refine J.a3 ?_
 refine J.M j2 ?_
 refine J.d9 (X:=Unit) (λζ=> [(3,Ptr g3),(4,Ptr g4),(7,Str ((qCW (l.getD (n-1) qAY).ns (((l.getD (n-1) qAY).dep:Nat):Int)))),(8,Str ((Sha.tagged 11 [s])))]) (λζ=> [F,blk g3 [Str (s),.slice Ae ne ce,.slice Ab bs.length cb,.bool (th),Str (pk),Str (pv)] 89,blk g4 [.int .u64 0,Str [],Str [],I 0,Str []] 102]) (λζ=>True) (λ_ j4=>?_) ?_
 ·
  refine J.b1 [F,blk g3 [Str (s),.slice Ae ne ce,.slice Ab bs.length cb,.bool (th),Str (pk),Str (pv)] 89] [] (.y 0 (.y 3 (.y 4 (.e 1 (.e 2 (.e 5 (.y 6 (.y 7 .nil)))))))) Tryz.wide xF xD ?_
  refine J.L ?_
  refine J.j O (qAA O O qLy O z9_ O) O O<|J.j O (qAD 1 O O O b9_ O) O O<|J.a1 O (qAZ O O (λF' hF=>qN6 F' gc sl nd A n c l (hs.mono (Fa hF)) h0 hn (hC.mono (Fa hF)))) O xD λg15 _=>J.a1 O (qAZ O O (λF' hF=>qJa F' (hK.mo hF) (qA7 (l.getD (n-1) qAY)) (l.getD (n-1) qAY).nsA (l.getD (n-1) qAY).nsc hg (hxs.mono (Fa hF)) hsm)) O xD λg16 _=>J.a1 O (qAZ O O (λF' hF=>qGT F' (hK.mo hF) s xB)) O xD λg19 _=>J.b7 ?_
  refine J.b7 ?_
  exact J.b0<|J.u<|J.a8 () j4 (trivial) ⟨O,O,O,O,trivial⟩ (λ_ h=>h)
 rintro _ _
 refine J.k λ_ j5=>J.f λ_ j6=>J.W 1 qLy qLi O O O O O<|J.a6 1 qOD O O O O O<|J.g (qAO qCK O O) O<|J.g (qAe O O O) O<|J.c j6 ?_
 refine J.Z O (λh23=>?_) (λh23=>?_)
 ·
  refine J.k λ_ j7=>J.f λ_ j8=>J.W 2 qLy qC6 O O O O O<|J.g (qAP O O qGa qC6 (m:=blk g3 [Str (s),.slice Ae ne ce,.slice Ab bs.length cb,.bool (th),Str (pk),Str (pv)] 89) xD (qAG.blk0.sub 2 4) O) O<|J.p 2 O<|J.q (qAZ O O (λF' hF=>qO4 F' (hK.mo hF) Ab cb bs (hsb.mono (Fa hF)) th pk pv (Sha.tagged 11 [s]) 0 hgp (qCW (l.getD (n-1) qAY).ns (((l.getD (n-1) qAY).dep:Nat):Int)) hpv)) O λg28 _=>J.g (qAs O O) O<|J.c j8 ?_
  refine J.c5 O (λh29=>?_) (λh29=>?_)
  ·
   refine J.f λ_ j9=>J.g (qAL (places:= [(0,1),(1,3),(4,1)]) (r:= [.int .u64 0,Str [],Str [],I 0,Str []]) O O O qCA qDe (λ_=>xI) O) O<|J.a7 (qAC (i:=2) O O O O O qAj O O) O O λ_ _=>J.p 2 O<|J.c j9 ?_
   exact J.A<|J.V<|J.V<|J.a9 hw0 (λ_ _ h=>h) (rv3 O (RV.blkA 2 O O qBB qAj) O O) (qAg () (by rw [chk_2 xB (by simpa using h29)];rfl) trivial [0] O xC)
  refine J.M j7 ?_
  refine J.f λ_ j10=>J.g (qAL (places:= [(0,1),(1,3),(4,1)]) (r:= [.int .u64 0,Str [],Str [],I 0,Str []]) O O O qCA qDe (λ_=>xI) O) O<|J.a7 (qAC (i:=2) O O O O O qAj O O) O O λ_ _=>J.p 2 O<|J.c j10 ?_
  exact J.A<|J.V<|J.a9 hw0 (λ_ _ h=>h) (rv3 O (RV.blkA 2 O O qBB qAj) O O) (qAg () (by rw [chk_1 xB (by simpa using h29)];rfl) trivial [0] O xC)
 refine J.M j5 ?_
 refine J.k λ_ j11=>J.f λ_ j12=>J.W 1 qLy qLi O O O O O<|J.a6 1 qOD O O O O O<|J.q (qAZ O O (λF' hF=>qMh F' (hK.mo hF) le hel Ae ne ce (hse.mono (Fa hF)) xB)) O λg34 _=>J.b O<|J.c j12 ?_
 refine J.f λ_ j13=>J.b O<|J.g (qAV O O O) O<|J.c j13 ?_
 refine J.Z O (λh36=>?_) (λh36=>?_)
 ·
  refine J.f λ_ j14=>J.g (qAL (places:= [(0,1),(1,3),(4,1)]) (r:= [.int .u64 0,Str [],Str [],I 0,Str []]) O O O qCA qDe (λ_=>xI) O) O<|J.b O<|J.a7 (qAC (i:=2) O O O O O qAj O O) O O λ_ _=>J.p 2 O<|J.c j14 ?_
  exact J.A<|J.V<|J.a9 hw0 (λ_ _ h=>h) (rv3 O (RV.blkA 2 O O qBB qAj) O O) (qAg () (by rw [chk_3 xB h36];rfl) trivial [0] O xC)
 refine J.M j11 ?_
 refine J.k λ_ j15=>?_
 have hE:(le.getD (ne-1) qAz).good:=hel _ (by rw [jB,jC (show ne-1<le.length by omega)];exact jQ _)
 refine J.H<|J.W 1 qLy qLi O O O O O<|J.a6 1 qOD O O O O O<|J.W 1 qLy qLi O O O O O<|J.a6 1 qOD O O O O O<|J.g (qAO qCK O O) O<|J.g ((qA4 O O O xB).nat (ne-1) xB) O<|J.g (qAF O O O qCK qAj hse xB) O<|J.g (qAP O O qBB qAj (m:=F) xD (hse.elem (qCk xB)) O) O<|J.q (qAJ O qDe O) O λg10 _=>J.a7 (qAC (i:=3) (l:= [.int .u64 0,Str [],Str [],I 0,Str []]) (vs:= [N64 ((le.getD (ne-1) qAz).v),Str ((le.getD (ne-1) qAz).o),Str ((le.getD (ne-1) qAz).r),I ((le.getD (ne-1) qAz).h),Str ((le.getD (ne-1) qAz).p)]) O O O O O qAj O O) O O λ_ _=>J.c j15 ?_
 refine J.k λ_ j16=>J.k λ_ j17=>J.b1 [F,blk g3 [Str (s),.slice Ae ne ce,.slice Ab bs.length cb,.bool (th),Str (pk),Str (pv)] 89,blk g10 [N64 ((le.getD (ne-1) qAz).v),Str ((le.getD (ne-1) qAz).o),Str ((le.getD (ne-1) qAz).r),I ((le.getD (ne-1) qAz).h),Str ((le.getD (ne-1) qAz).p)] 102] [] (.y 0 (.y 1 (.y 2 (.y 3 (.y 4 (.e 5 (.e 6 (.y 7 .nil)))))))) Tryz.wide xF xD ?_
 refine J.j O (qAA O O qLy O qC6 O) O O<|J.j O (qAP O O qGa qC6 (m:=blk g3 [Str (s),.slice Ae ne ce,.slice Ab bs.length cb,.bool (th),Str (pk),Str (pv)] 89) xD (qAG.blk0.sub 2 4) O) O O<|J.L ?_
 refine J.L ?_
 refine J.j O (qAU 2 O O O qBB qAj O) O O<|J.a1 O (qAZ O O (λF' hF=>qEA F' (hK.mo hF) (le.getD (ne-1) qAz).v (le.getD (ne-1) qAz).o (le.getD (ne-1) qAz).r (le.getD (ne-1) qAz).h (le.getD (ne-1) qAz).p hE.1 hE.2.1 hE.2.2.1 hE.2.2.2)) O xD λg52 _=>J.a1 O (qAZ O O (λF' hF=>qNx F' (hK.mo hF) Ab cb bs (hsb.mono (Fa hF)) th pk pv (Sha.tagged 11 [s]) 0 hgp (qCW (l.getD (n-1) qAY).ns (((l.getD (n-1) qAY).dep:Nat):Int)) (qCO (le.getD (ne-1) qAz).v (le.getD (ne-1) qAz).o (le.getD (ne-1) qAz).r (le.getD (ne-1) qAz).h (le.getD (ne-1) qAz).p) hpv)) O xD λg53 _=>J.j O (qAs O O) O O<|J.b0<|J.u (J.D j17 ?_)
 refine J.c5 O (λh54=>?_) (λh54=>?_)
 ·
  refine J.f λ_ j18=>J.g (qAL (places:= [(0,1),(1,3),(4,1)]) (r:= [.int .u64 0,Str [],Str [],I 0,Str []]) O O O qCA qDe (λ_=>xI) O) O<|J.a7 (qAC (i:=2) O O O O O qAj O O) O O λ_ _=>J.p 2 O<|J.c j18 ?_
  exact J.A<|J.V<|J.a9 hw0 (λ_ _ h=>h) (rv3 O (RV.blkA 2 O O qBB qAj) O O) (qAg () (by rw [chk_4 xB h36 (by rw [hle];exact(by simpa using h54:qPC bs th pk pv (qCW (l.getD (n-1) qAY).ns (((l.getD (n-1) qAY).dep:Nat):Int)) (Sha.tagged 11 [s]) (qCO (le.getD (ne-1) qAz).v (le.getD (ne-1) qAz).o (le.getD (ne-1) qAz).r (le.getD (ne-1) qAz).h (le.getD (ne-1) qAz).p) 0=false))];rfl) trivial [0] O xC)
 refine J.M j16 ?_
 refine J.f λ_ j19=>J.c0 3 qBB qAj O O O O O<|J.a7 (qAC (i:=2) (l:= [.int .u64 0,Str [],Str [],I 0,Str []]) (vs:= [N64 ((le.getD (ne-1) qAz).v),Str ((le.getD (ne-1) qAz).o),Str ((le.getD (ne-1) qAz).r),I ((le.getD (ne-1) qAz).h),Str ((le.getD (ne-1) qAz).p)]) O O O O O qAj O O) O O λ_ _=>J.p 2 O<|J.c j19 ?_
 exact J.A<|J.a9 hw0 (λ_ _ h=>h) (rv3 O (RV.blkA 2 O O qBB qAj) O O) (qAg () (by rw [qZx xB h36 (by rw [hle];exact(by simpa using h54:qPC bs th pk pv (qCW (l.getD (n-1) qAY).ns (((l.getD (n-1) qAY).dep:Nat):Int)) (Sha.tagged 11 [s]) (qCO (le.getD (ne-1) qAz).v (le.getD (ne-1) qAz).o (le.getD (ne-1) qAz).r (le.getD (ne-1) qAz).h (le.getD (ne-1) qAz).p) 0=true)),hle]) trivial [0] O xC)
end Go.Proofs.YtmemgokiolfdoaaGreatDoor