/- A part of the proof. -/
import Derived.Test.YtcgcjaflllmlpaaGreatDoorTopCfG8
import Derived.Test.YtcgcjaflllmlpaaGreatDoorTopCfG37
import Derived.Test.YtcgcjaflllmlpaaGreatDoorTopCfG42
import Derived.Test.YtcgcjaflllmlpaaGreatDoorTopCfG28
import Derived.Test.YtcgcjaflllmlpaaGreatDoorTopCfG39
import Derived.Test.YtcgcjaflllmlpaaGreatDoorTopCfG30
import Derived.Test.YtcgcjaflllmlpaaGreatDoorTopCfG38
set_option linter.unusedSimpArgs false
set_option linter.unusedVariables false
namespace Go.Proofs.YtcgcjaflllmlpaaGreatDoor
open Go Go.Fw Go.Proofs.Tryz
set_option maxRecDepth 100000
set_option maxHeartbeats 1000000
theorem ent18:qAD prog 18:=qAD.of func18 rfl (by kernel_rfl)
theorem ent19:qAD prog 19:=qAD.of func19 rfl (by kernel_rfl)
theorem ent20:qAD prog 20:=qAD.of func20 rfl (by kernel_rfl)
theorem ent21:qAD prog 21:=qAD.of func21 rfl (by kernel_rfl)
theorem el77:qCe prog 77 [.pointer none] 8:=qCe.of (by kernel_rfl) rfl
theorem gl_w{a:Nat}(h:a≤3):qXq (wL a) where
 len:=by rw [qB1];omega
 sm:=qSX h
 ok:=λi hi=>by
  rw [qB1] at hi
  have e:(wL a).take i=wL i:=by unfold wL;rw [←List.map_take,List.take_range,jn (by omega)]
  rw [e,show aX (wL a) i=wA i from qGC hi]
  exact add_w (by omega)
theorem gen_w{a d:Nat}(ha:a≤3)(A:Option Addr)(c:Nat):qA1 (adH qAm d (wL a).length [] (qFp [] (wL a) (wL a).length) A c)=pW a d:=by
 unfold qA1 adH pW
 dsimp only
 rw [qB1,qYa ha];rfl
structure qSF (a d:Nat) (x:SvR):Prop where
 dp:x.dp=d
 nxt:x.nxt= []
 now:x.now= []
 no:x.no= []
 cl:x.cl= []
 hd1:x.hd.length=1
 tg1:x.tg.length=1
 h0:qA1 (x.hd.getD 0 qAc)=pW a d
 k0:x.kv.getD 0 []=qAO a
 an:x.audN=wL a
 sz:x.bk.size=150
 e0:x.bk.e=0
theorem new6{a d:Nat}(ha:a≤3)(gd:Nat)(md:Hp)(r:NwR):qSF a d (nwS gd 300 0 300 d (wL a) md r):=by
 refine⟨rfl,rfl,rfl,rfl,rfl,rfl,rfl,gen_w ha _ _,?_,rfl,rfl,rfl⟩
 show qFp [] (wL a) (wL a).length=_
 rw [qB1,qYa ha]
structure W6R where
 gw:Nat
 x:SvR
 gs:List Nat
 kA:Option Addr
 kc:Nat
 gu:Nat
 uc:Nat
 ms:Hp
 mu:Hp
 H:Hp
structure Wld (a:Nat) (us:List Nat) (G mu:Hp) (gw:Nat) (x:SvR) (gs:List Nat) (kA:Option Addr) (kc gu uc:Nat):Prop where
 w:qAR G ⟨gw,0,none⟩ [Ptr x.gs,.slice kA a kc,.slice (some ⟨gu,0,none⟩) a uc]
 gl:gs.length=a
 kr:Sl G 1 kA a kc (qBp gs)
 ks:qFh G gs
 ul:us.length=a
 ur:Row mu 3 1 (some ⟨gu,0,none⟩) a uc (qBJ us)
theorem Wld.mono{a:Nat}{us:List Nat}{G G' mu:Hp}{gw:Nat}{x:SvR}{gs:List Nat}{kA:Option Addr}{kc gu uc:Nat}(h:Wld a us G mu gw x gs kA kc gu uc)(hl:Le G G'):Wld a us G' mu gw x gs kA kc gu uc:=⟨h.w.mono hl,h.gl,h.kr.mono hl,h.ks.mono hl,h.ul,h.ur⟩
structure W6P (a d:Nat) (r:W6R):Prop where
 s:Srv r.ms r.H r.x
 n:qSF a d r.x
 w:Wld a (List.replicate a 0) r.H r.mu r.gw r.x r.gs r.kA r.kc r.gu r.uc
structure W6Q where
 gw:Nat
 x:SvR
 gs:List Nat
 kA:Option Addr
 kc:Nat
 uA:Option Addr
 uc:Nat
 ms:Hp
 mu:Hp
 Gs:Hp
 mq:Hp
 G:Hp
structure W6QP (a d:Nat) (r:W6Q):Prop where
 s:Srv r.ms r.Gs r.x
 n:qSF a d r.x
 gl:r.gs.length=a
 kr:Row r.mq 77 1 r.kA a r.kc (qBp r.gs)
 ks:qFh r.G r.gs
 ur:Row r.mu 3 1 r.uA a r.uc (qBJ (List.replicate a 0))
theorem qTA{m:Hp}{e:TypeId}{sz:Nat}{A:Option Addr}{n c:Nat}{xs:List (List Value)}(h:Row m e sz A n c xs)(hn:0<n): ∃g,A=some ⟨g,0,none⟩:=by
 obtain ⟨_,_,hnc,hcase⟩:=h
 rcases hcase with ⟨_,hc,_⟩|⟨g,_,_,_,hA,_⟩
 · omega
 · exact⟨g,hA⟩
theorem qTg(F:Hp)(hK:KF F)(hA:qAR F ⟨2,0,none⟩ qBY)(hT:qB5 F)(a d:Nat)(ha:a≤3)(hd:d≤4):Ct prog 6 [I ((a:Nat):Int),I ((d:Nat):Int)] [F] (λr:W6Q=>Ptr r.gw) (λr=>W6QP a d r) (λr=> [F,r.ms,r.mu,r.Gs,r.mq,r.G,blk r.gw [Ptr r.x.gs,.slice r.kA a r.kc,.slice r.uA a r.uc] 40]):=by
 refine Ct.walk func6 rfl ntmps6 rfl (λw0 hw0=>?_)
 refine J.f λ_ j1=>?_
 refine J.b O ?_
 refine J.c j1 ?_
 refine J.f λ_ j2=>?_
 refine J.g (qAK (places:= [(0,1),(1,1),(2,1)]) (r:= [.pointer none,.slice none 0 0,.slice none 0 0]) O O O qG8 zeroValue40 (λ_=>by kernel_rfl) O) O ?_
 refine J.p (qAd O O O) O ?_
 intro g15 _
 refine J.b O ?_
 refine J.c j2 ?_
 refine J.f λ_ j3=>?_
 refine J.b O ?_
 refine J.c j3 ?_
 refine J.k (λ_ j4=>?_)
 refine J.f λ_ j5=>?_
 refine J.b O ?_
 refine J.c j5 ?_
 refine J.O ?_
 refine J.b4 (X:=Nat×List Nat×Option Addr×Nat×Option Addr×Nat×Option Addr×Nat×Hp×Hp×Hp×Hp) (λζ=> [(0,I ((a:Nat):Int)),(1,I ((d:Nat):Int)),(5,Ptr g15),(6,.slice ζ.2.2.2.2.2.2.1 ζ.1 ζ.2.2.2.2.2.2.2.1),(7,I ((ζ.1:Nat):Int))]) (λζ=> [F,blk g15 [.pointer none,.slice ζ.2.2.1 ζ.1 ζ.2.2.2.1,.slice ζ.2.2.2.2.1 ζ.1 ζ.2.2.2.2.2.1] 40,ζ.2.2.2.2.2.2.2.2.1,ζ.2.2.2.2.2.2.2.2.2.1,ζ.2.2.2.2.2.2.2.2.2.2.1,ζ.2.2.2.2.2.2.2.2.2.2.2]) (λζ=>ζ.1≤a∧ζ.2.1.length=ζ.1∧Row ζ.2.2.2.2.2.2.2.2.1 77 1 ζ.2.2.1 ζ.1 ζ.2.2.2.1 (qBp ζ.2.1)∧qFh ζ.2.2.2.2.2.2.2.2.2.1 ζ.2.1∧Row ζ.2.2.2.2.2.2.2.2.2.2.1 3 1 ζ.2.2.2.2.1 ζ.1 ζ.2.2.2.2.2.1 (qBJ (List.replicate ζ.1 0))∧Row ζ.2.2.2.2.2.2.2.2.2.2.2 72 4 ζ.2.2.2.2.2.2.1 ζ.1 ζ.2.2.2.2.2.2.2.1 (qBX (wL ζ.1))) (λζ=>a-ζ.1) (0,[],none,0,none,0,none,0,(λ_=>none),(λ_=>none),(λ_=>none),(λ_=>none)) (⟨jG _,O,qBb.nil,qFh.nil _,qBb.nil,qBb.nil⟩) ⟨O,O,O,O,O,trivial⟩ (λ_ h=>h.empty.empty.empty.empty.pick [0,1,2,3,4,5] (by decide)) ?_
 rintro⟨i,gs,kA,kc,uA,uc,Aa,ca,mk,G,mu,mA⟩ ⟨hi,hgl,hkr,hks,hur,haud⟩ I0 hI0
 dsimp only at hi hgl hkr hks hur haud⊢
 refine J.k (λ_ j6=>?_)
 refine J.f λ_ j7=>?_
 refine J.q 2 O ?_
 refine J.g (qAT O O O) O ?_
 refine J.c j7 ?_
 refine J.W O (λh18=>?_) (λh18=>?_)
 ·
  refine J.M j6 ?_
  refine J.k (λ_ j8=>?_)
  refine J.O ?_
  refine J.f λ_ j9=>?_
  refine J.b O ?_
  refine J.g ((qAS O O O (by first|omega|(simp only [jD,jE];omega)|decide)).nat (97+i) (by omega)) rfl ?_
  refine J.g (qAv O O u3_ u5_) O ?_
  refine J.p (qAG (l:= [.tmp 24]) (xs:= [[B8 (UInt8.ofNat (97+i))]]) O O O O qBl el5 O (by decide) (by decide) (by simp)) rfl ?_
  intro g25 _
  refine J.g (qBi O O qBl u5_ u9_ (m:=blk g25 [B8 (UInt8.ofNat (97+i))] 5) (by simp) ((qBD (q:=True) (qAf [UInt8.ofNat (97+i)]) rfl (by simp [qAf]) rfl).sl)) rfl ?_
  refine J.g (qBI O O O (by first|omega|(simp only [jD,jE];omega)|decide)) rfl ?_
  refine J.p (qAB O O ent18 (Ct.use (λF' hF=>qMJ F' (hK.mo hF) (qAQ i) 2 (jk O) (by decide)))) O ?_
  rintro⟨g28,m28⟩ h28
  try dsimp only at h28
  refine J.q 5 O ?_
  refine J.c j9 ?_
  refine J.k (λ_ j10=>?_)
  refine J.f λ_ j11=>?_
  refine J.b O ?_
  refine J.g ((qAe O O O).no (by decide)) O ?_
  refine J.c j11 ?_
  refine J.a1 ?_
  refine J.M j10 ?_
  refine J.d4 (X:=Option Addr×Nat×Option Addr×Nat×Hp×Hp) (λζ=> [(0,I ((a:Nat):Int)),(1,I ((d:Nat):Int)),(5,Ptr g15),(6,.slice Aa i ca),(7,I ((i:Nat):Int)),(8,Ptr g28)]) (λζ=> [F,blk g15 [.pointer none,.slice ζ.1 (i+1) ζ.2.1,.slice ζ.2.2.1 (i+1) ζ.2.2.2.1] 40,ζ.2.2.2.2.1,G,ζ.2.2.2.2.2,mA,m28]) (λζ=>Row ζ.2.2.2.2.1 77 1 ζ.1 (i+1) ζ.2.1 (qBp (gs++ [g28]))∧Row ζ.2.2.2.2.2 3 1 ζ.2.2.1 (i+1) ζ.2.2.2.1 (qBJ (List.replicate (i+1) 0))) (λ_ j12=>?_) ?_
  ·
   refine J.b0 [F,blk g15 [.pointer none,.slice kA i kc,.slice uA i uc] 40] [17,18,19,20,100001] (.y 0 (.y 1 (.y 2 (.y 3 (.y 4 (.y 5 (.y 6 (.y 9 (.y 10 (.y 11 (.y 12 (.br (.e 7 (.br (.e 8 (.e 13 (.e 14 (.y 15 (.y 16 (.e 17 (.e 18 (.e 19 (.e 20 .nil))))))))) (.e 13 (.e 8 (.e 14 (.y 15 (.y 16 (.e 17 (.e 18 (.e 19 (.e 20 .nil))))))))))) (.e 13 (.e 7 (.e 8 (.e 14 (.y 15 (.y 16 (.e 17 (.e 18 (.e 19 (.e 20 .nil)))))))))))))))))))))) Tryz.wide (by decide+kernel) (by simp) ?_
   refine J.L ?_
   refine J.d8 O (qA0 O O) O O O ?_
   refine J.L ?_
   refine J.j O (qAC O O) O O ?_
   refine J.j O (qAA O O qG8 O qUs O) O O ?_
   refine J.j O (qAE 1 O O O isAgg37 O) O O ?_
   refine J.L ?_
   refine J.L ?_
   refine J.j O (qAC O O) O O ?_
   refine J.j O (qAA O O qG8 O qOu O) O O ?_
   refine J.j O (qAE 1 O O O isAgg38 O) O O ?_
   refine J.d5 ?_ ?_
   ·
    refine J.Z O (qAG (l:= [.tmp 39]) (xs:= [[Ptr g28]]) O O O O qSe el77 O (by decide) (by decide) (by simp)) rfl (by simp) ?_
    intro g40 _
    refine J.d5 ?_ ?_
    ·
     refine J.Z O (qAV (i:=2) (xs:=qBp gs) (m2:=blk g40 [Ptr g28] 77) (ys:= [[Ptr g28]]) O O O qSe qSe el77 O hkr (by simp) ((qBD (q:=True) (qBp [g28]) rfl (by simp [qBp]) rfl).sl) rfl (by first|omega|(simp only [jD,jE];omega)|decide) (by first|omega|(simp only [jD,jE];omega)|decide)) rfl (by simp) ?_
     rintro⟨A41,c41,m41⟩ h41
     try dsimp only at h41
     change J _ ((41,.slice A41 (i+1) c41)::_) _ [_,_,m41,_,_,_,_,_,_] _
     rw [←qDw] at h41
     refine J.Z O (qAG (l:= [.const ((Value.int IntKind.i64 0))]) (xs:= [[I ((0:Nat):Int)]]) O O O O qC7 el3 O (by decide) (by decide) (by simp)) rfl (by simp) ?_
     intro g46 _
     refine J.Z O (qAV (i:=4) (m2:=blk g46 [I ((0:Nat):Int)] 3) O O O qC7 qC7 el3 O hur (by simp) ((qBD (q:=True) (qBJ [0]) rfl (by simp [qBJ]) rfl).sl) rfl (by first|omega|(simp only [jD,jE];omega)|decide) (by first|omega|(simp only [jD,jE];omega)|decide)) rfl (by simp) ?_
     rintro⟨A47,c47,m47⟩ h47
     try dsimp only at h47
     replace h47:Row m47 3 1 A47 (i+1) c47 (qBJ (List.replicate (i+1) 0)):=by rw [zf,qFB];exact h47
     refine J.j O (qAC O O) O O ?_
     refine J.j O (qAA O O qG8 O qUs O) O O ?_
     refine J.c2 O (qAW (i:=1) O O O O O qUs O (by simp)) rfl rfl rfl (λ_ _=>?_)
     refine J.d6 O (YOp.eop (qAC O O)) O O O O ?_
     intro _ _
     refine J.d6 O (YOp.eop (qAA O O qG8 O qOu O)) O O O O ?_
     intro _ _
     refine J.c2 O (qAW (i:=1) (l:= [.pointer none,.slice A41 (i+1) c41,.slice uA i uc]) (vs:= [.slice A47 (i+1) c47]) O O O O O qOu O (by simp)) rfl rfl rfl (λ_ _=>?_)
     refine J.a8 ?_
     refine J.u ?_
     exact J.a4 (A41,c41,A47,c47,m41,m47) j12 (⟨h41,h47⟩) ⟨O,O,O,O,O,O,trivial⟩ (λ_ h=>h.pick [0,1,2,3,4,5,7] (by decide))
    refine J.Z O (qAG (l:= [.const ((Value.int IntKind.i64 0))]) (xs:= [[I ((0:Nat):Int)]]) O O O O qC7 el3 O (by decide) (by decide) (by simp)) rfl (by simp) ?_
    intro g46 _
    change J _ _ _ [_,_,_,_,_,_,_,_,_,blk g46 [I ((0:Nat):Int)] 3] _
    refine J.Z O (qAV (i:=2) (xs:=qBp gs) (m2:=blk g40 [Ptr g28] 77) (ys:= [[Ptr g28]]) O O O qSe qSe el77 O hkr (by simp) ((qBD (q:=True) (qBp [g28]) rfl (by simp [qBp]) rfl).sl) rfl (by first|omega|(simp only [jD,jE];omega)|decide) (by first|omega|(simp only [jD,jE];omega)|decide)) rfl (by simp) ?_
    rintro⟨A41,c41,m41⟩ h41
    try dsimp only at h41
    change J _ ((41,.slice A41 (i+1) c41)::_) _ [_,_,m41,_,_,_,_,_,_,_] _
    rw [←qDw] at h41
    refine J.Z O (qAV (i:=4) (m2:=blk g46 [I ((0:Nat):Int)] 3) O O O qC7 qC7 el3 O hur (by simp) ((qBD (q:=True) (qBJ [0]) rfl (by simp [qBJ]) rfl).sl) rfl (by first|omega|(simp only [jD,jE];omega)|decide) (by first|omega|(simp only [jD,jE];omega)|decide)) rfl (by simp) ?_
    rintro⟨A47,c47,m47⟩ h47
    try dsimp only at h47
    replace h47:Row m47 3 1 A47 (i+1) c47 (qBJ (List.replicate (i+1) 0)):=by rw [zf,qFB];exact h47
    refine J.j O (qAC O O) O O ?_
    refine J.j O (qAA O O qG8 O qUs O) O O ?_
    refine J.c2 O (qAW (i:=1) O O O O O qUs O (by simp)) rfl rfl rfl (λ_ _=>?_)
    refine J.d6 O (YOp.eop (qAC O O)) O O O O ?_
    intro _ _
    refine J.d6 O (YOp.eop (qAA O O qG8 O qOu O)) O O O O ?_
    intro _ _
    refine J.c2 O (qAW (i:=1) (l:= [.pointer none,.slice A41 (i+1) c41,.slice uA i uc]) (vs:= [.slice A47 (i+1) c47]) O O O O O qOu O (by simp)) rfl rfl rfl (λ_ _=>?_)
    refine J.a8 ?_
    refine J.u ?_
    exact J.a4 (A41,c41,A47,c47,m41,m47) j12 (⟨h41,h47⟩) ⟨O,O,O,O,O,O,trivial⟩ (λ_ h=>h.pick [0,1,2,3,4,5,7] (by decide))
   refine J.Z O (qAG (l:= [.const ((Value.int IntKind.i64 0))]) (xs:= [[I ((0:Nat):Int)]]) O O O O qC7 el3 O (by decide) (by decide) (by simp)) rfl (by simp) ?_
   intro g46 _
   refine J.Z O (qAG (l:= [.tmp 39]) (xs:= [[Ptr g28]]) O O O O qSe el77 O (by decide) (by decide) (by simp)) rfl (by simp) ?_
   intro g40 _
   change J _ _ _ [_,_,_,_,_,_,_,_,_,blk g40 [Ptr g28] 77] _
   refine J.Z O (qAV (i:=2) (xs:=qBp gs) (m2:=blk g40 [Ptr g28] 77) (ys:= [[Ptr g28]]) O O O qSe qSe el77 O hkr (by simp) ((qBD (q:=True) (qBp [g28]) rfl (by simp [qBp]) rfl).sl) rfl (by first|omega|(simp only [jD,jE];omega)|decide) (by first|omega|(simp only [jD,jE];omega)|decide)) rfl (by simp) ?_
   rintro⟨A41,c41,m41⟩ h41
   try dsimp only at h41
   change J _ ((41,.slice A41 (i+1) c41)::_) _ [_,_,m41,_,_,_,_,_,_,_] _
   rw [←qDw] at h41
   refine J.Z O (qAV (i:=4) (m2:=blk g46 [I ((0:Nat):Int)] 3) O O O qC7 qC7 el3 O hur (by simp) ((qBD (q:=True) (qBJ [0]) rfl (by simp [qBJ]) rfl).sl) rfl (by first|omega|(simp only [jD,jE];omega)|decide) (by first|omega|(simp only [jD,jE];omega)|decide)) rfl (by simp) ?_
   rintro⟨A47,c47,m47⟩ h47
   try dsimp only at h47
   replace h47:Row m47 3 1 A47 (i+1) c47 (qBJ (List.replicate (i+1) 0)):=by rw [zf,qFB];exact h47
   refine J.j O (qAC O O) O O ?_
   refine J.j O (qAA O O qG8 O qUs O) O O ?_
   refine J.c2 O (qAW (i:=1) O O O O O qUs O (by simp)) rfl rfl rfl (λ_ _=>?_)
   refine J.d6 O (YOp.eop (qAC O O)) O O O O ?_
   intro _ _
   refine J.d6 O (YOp.eop (qAA O O qG8 O qOu O)) O O O O ?_
   intro _ _
   refine J.c2 O (qAW (i:=1) (l:= [.pointer none,.slice A41 (i+1) c41,.slice uA i uc]) (vs:= [.slice A47 (i+1) c47]) O O O O O qOu O (by simp)) rfl rfl rfl (λ_ _=>?_)
   refine J.a8 ?_
   refine J.u ?_
   exact J.a4 (A41,c41,A47,c47,m41,m47) j12 (⟨h41,h47⟩) ⟨O,O,O,O,O,O,trivial⟩ (λ_ h=>h.pick [0,1,2,3,4,5,7] (by decide))
  rintro⟨kA2,kc2,uA2,uc2,mk2,mu2⟩ ⟨hkr2,hur2⟩
  dsimp only at hkr2 hur2⊢
  refine J.b0 [F,m28] [] (.y 0 (.y 1 (.y 2 (.y 3 (.y 7 (.br (.e 4 (.y 5 (.y 6 (.e 8 (.y 9 (.e 10 (.e 11 (.y 12 .nil)))))))) (.e 8 (.e 4 (.y 5 (.y 6 (.y 9 (.e 10 (.e 11 (.y 12 .nil)))))))))))))) Tryz.wide (by decide+kernel) (by simp) ?_
  refine J.L ?_
  refine J.L ?_
  refine J.j O ((qAS O O O (by first|omega|(simp only [jD,jE];omega)|decide)).nat (97+i) (by omega)) rfl rfl ?_
  refine J.j O (qAv O O u3_ u5_) O O ?_
  refine J.L ?_
  refine J.d5 ?_ ?_
  ·
   refine J.f2 (λg=>_++ [blk g [B8 (UInt8.ofNat (97+i))] 5]) O (qAG (l:= [.tmp 55]) (xs:= [[B8 (UInt8.ofNat (97+i))]]) O O O O qBl el5 O (by decide) (by decide) (by simp)) rfl rfl rfl (λ_ _ h=>je _ h) (by simp) ?_
   intro g56 _
   refine J.j O (qBi O O qBl u5_ u9_ (m:=blk g56 [B8 (UInt8.ofNat (97+i))] 5) (by simp) ((qBD (q:=True) (qAf [UInt8.ofNat (97+i)]) rfl (by simp [qAf]) rfl).sl)) rfl rfl ?_
   refine J.j O (qBI O O O (by first|omega|(simp only [jD,jE];omega)|decide)) rfl rfl ?_
   refine J.Z O (qAB O O ent19 (Ct.use0 (λF' hF=>qH9 F' g28 (qAQ i) 2 (h28.mono (Fa hF))))) O (by simp) ?_
   intro g60 _
   refine J.j O (qAK (places:= [(0,1),(1,3)]) (r:= [Str (([120])++([UInt8.ofNat (97+i)])),Str (Wo.opn ((qAQ i))),Str (Xm.root ((qAQ i)) (2)),I ((2:Nat):Int)]) O O O qNv qOy (λ_=>by kernel_rfl) O) O O ?_
   refine J.Z O (qAG (l:= [.tmp 61]) (xs:= [[Str (([120])++([UInt8.ofNat (97+i)])),Str (Wo.opn ((qAQ i))),Str (Xm.root ((qAQ i)) (2)),I ((2:Nat):Int)]]) O O O O qGF el72 O (by decide) (by decide) (by simp)) rfl (by simp) ?_
   intro g62 _
   refine J.Z O (qAV (i:=5) (m2:=blk g62 [Str (([120])++([UInt8.ofNat (97+i)])),Str (Wo.opn ((qAQ i))),Str (Xm.root ((qAQ i)) (2)),I ((2:Nat):Int)] 72) O O O qGF qGF el72 O haud (by simp) ((qAl (q:=True) (xs:=qBX [(⟨([120])++([UInt8.ofNat (97+i)]),Wo.opn ((qAQ i)),Xm.root ((qAQ i)) (2),((2:Nat):Int)⟩:Aud)]) rfl (by intro x hx;rw [List.mem_singleton.1 hx];rfl)).sl) rfl (by first|omega|(simp only [jD,jE];omega)|decide) (by first|omega|(simp only [jD,jE];omega)|decide)) rfl (by simp) ?_
   rintro⟨A63,c63,m63⟩ h63
   try dsimp only at h63
   replace h63:Row m63 72 4 A63 (i+1) c63 (qBX (wL (i+1))):=by rw [qPE,qFO];exact h63
   refine J.b6 ?_
   refine J.c1 [3,6,0,1,2,4,5] [G,m28,F,blk g15 [.pointer none,.slice kA2 (i+1) kc2,.slice uA2 (i+1) uc2] 40,mk2,mu2,m63] O (by decide) ?_
   refine J.d1 (λhj=>?_)
   refine J.a8 ?_
   refine J.a2 ?_
   refine J.u (J.D j8 ?_)
   refine J.H ?_
   refine J.b O ?_
   refine J.g ((qAS O O O (by first|omega|(simp only [jD,jE];omega)|decide)).nat (i+1) (by omega)) rfl ?_
   refine J.b O ?_
   refine J.a3 ?_
   refine J.u ?_
   exact J.a4 (i+1,gs++ [g28],kA2,kc2,uA2,uc2,A63,c63,mk2,U [G,m28],mu2,m63) (λη (hη:_∧a-η.1<a-i)=>hI0 η hη.1 hη.2) ⟨⟨by dsimp only;omega,by dsimp only;rw [jA,hgl];rfl,hkr2,(hks.mono (qK4 hj)).snoc hgl (h28.mono (qSK hj)),hur2,h63⟩,by first|omega|(dsimp only;omega)⟩ ⟨rfl,rfl,rfl,rfl,rfl,trivial⟩ (λ_ h=>h.pick [1,2,3,0,4,5] (by decide))
  refine J.Z O (qAB O O ent19 (Ct.use0 (λF' hF=>qH9 F' g28 (qAQ i) 2 (h28.mono (Fa hF))))) O (by simp) ?_
  intro g60 _
  refine J.f2 (λg=>_++ [blk g [B8 (UInt8.ofNat (97+i))] 5]) O (qAG (l:= [.tmp 55]) (xs:= [[B8 (UInt8.ofNat (97+i))]]) O O O O qBl el5 O (by decide) (by decide) (by simp)) rfl rfl rfl (λ_ _ h=>je _ h) (by simp) ?_
  intro g56 _
  refine J.j O (qBi O O qBl u5_ u9_ (m:=blk g56 [B8 (UInt8.ofNat (97+i))] 5) (by simp) ((qBD (q:=True) (qAf [UInt8.ofNat (97+i)]) rfl (by simp [qAf]) rfl).sl)) rfl rfl ?_
  refine J.j O (qBI O O O (by first|omega|(simp only [jD,jE];omega)|decide)) rfl rfl ?_
  refine J.j O (qAK (places:= [(0,1),(1,3)]) (r:= [Str (([120])++([UInt8.ofNat (97+i)])),Str (Wo.opn ((qAQ i))),Str (Xm.root ((qAQ i)) (2)),I ((2:Nat):Int)]) O O O qNv qOy (λ_=>by kernel_rfl) O) O O ?_
  refine J.Z O (qAG (l:= [.tmp 61]) (xs:= [[Str (([120])++([UInt8.ofNat (97+i)])),Str (Wo.opn ((qAQ i))),Str (Xm.root ((qAQ i)) (2)),I ((2:Nat):Int)]]) O O O O qGF el72 O (by decide) (by decide) (by simp)) rfl (by simp) ?_
  intro g62 _
  refine J.Z O (qAV (i:=5) (m2:=blk g62 [Str (([120])++([UInt8.ofNat (97+i)])),Str (Wo.opn ((qAQ i))),Str (Xm.root ((qAQ i)) (2)),I ((2:Nat):Int)] 72) O O O qGF qGF el72 O haud (by simp) ((qAl (q:=True) (xs:=qBX [(⟨([120])++([UInt8.ofNat (97+i)]),Wo.opn ((qAQ i)),Xm.root ((qAQ i)) (2),((2:Nat):Int)⟩:Aud)]) rfl (by intro x hx;rw [List.mem_singleton.1 hx];rfl)).sl) rfl (by first|omega|(simp only [jD,jE];omega)|decide) (by first|omega|(simp only [jD,jE];omega)|decide)) rfl (by simp) ?_
  rintro⟨A63,c63,m63⟩ h63
  try dsimp only at h63
  replace h63:Row m63 72 4 A63 (i+1) c63 (qBX (wL (i+1))):=by rw [qPE,qFO];exact h63
  refine J.b6 ?_
  refine J.c1 [3,6,0,1,2,4,5] [G,m28,F,blk g15 [.pointer none,.slice kA2 (i+1) kc2,.slice uA2 (i+1) uc2] 40,mk2,mu2,m63] O (by decide) ?_
  refine J.d1 (λhj=>?_)
  refine J.a8 ?_
  refine J.a2 ?_
  refine J.u (J.D j8 ?_)
  refine J.H ?_
  refine J.b O ?_
  refine J.g ((qAS O O O (by first|omega|(simp only [jD,jE];omega)|decide)).nat (i+1) (by omega)) rfl ?_
  refine J.b O ?_
  refine J.a3 ?_
  refine J.u ?_
  exact J.a4 (i+1,gs++ [g28],kA2,kc2,uA2,uc2,A63,c63,mk2,U [G,m28],mu2,m63) (λη (hη:_∧a-η.1<a-i)=>hI0 η hη.1 hη.2) ⟨⟨by dsimp only;omega,by dsimp only;rw [jA,hgl];rfl,hkr2,(hks.mono (qK4 hj)).snoc hgl (h28.mono (qSK hj)),hur2,h63⟩,by first|omega|(dsimp only;omega)⟩ ⟨rfl,rfl,rfl,rfl,rfl,trivial⟩ (λ_ h=>h.pick [1,2,3,0,4,5] (by decide))
 refine J.b2 ?_
 refine J.a0 ?_
 refine J.a0 ?_
 refine J.b3 ?_
 refine J.u (J.D j4 ?_)
 refine J.k (λ_ j13=>?_)
 obtain rfl:a=i:=by omega
 refine J.H ?_
 refine J.p (qAB O O ent20 (Ct.use (λF' _=>qQl F' 300 (by decide) (by decide)))) O ?_
 rintro⟨g65,m65⟩ hb65
 try dsimp only at hb65
 refine J.q 5 O ?_
 refine J.c j13 ?_
 refine J.f λ_ j14=>?_
 refine J.q 3 O ?_
 refine J.p (qAB O O ent21 (Ct.use1 6 O (λF' hF=>(by have:=qWu F' m65 (hK.mo hF) (hA.mono (Fa hF)) (hT.mono (Fa hF)) g65 300 hb65 (by decide) (by decide) 0 300 (by decide) (by decide) d hd Aa ca (wL a) (by rw [qB1];exact haud.sl.mono (Fa hF)) (gl_w ha);rw [qB1] at this;exact this)))) rfl ?_
 rintro⟨ms72,Gs72,r72⟩ hS72
 try dsimp only at hS72
 obtain ⟨x,hx⟩: ∃x,x=nwS g65 300 0 300 d (wL a) m65 r72:=⟨_,rfl⟩
 rw [←hx] at hS72
 rw [show r72.gs=x.gs by rw [hx];rfl]
 refine J.q 5 O ?_
 refine J.c j14 ?_
 refine J.k (λ_ j15=>?_)
 refine J.f λ_ j16=>?_
 refine J.b O ?_
 refine J.g ((qAe O O O).no (by decide)) O ?_
 refine J.q 2 O ?_
 refine J.G ((qA6 qXt O O O).as (v':= .bool false) O) O ?_
 refine J.b O ?_
 refine J.c j16 ?_
 refine J.a1 ?_
 refine J.M j15 ?_
 refine J.f λ_ j17=>?_
 refine J.q 2 O ?_
 refine J.g (qAC O O) O ?_
 refine J.T 0 qG8 qO4 O O O O O ?_
 refine J.a6 (qAW (i:=1) O O O O O qO4 O (by simp)) rfl rfl (λ_ _=>?_)
 refine J.c j17 ?_
 refine J.f λ_ j18=>?_
 refine J.q 2 O ?_
 refine J.c j18 ?_
 refine J.A ?_
 exact J.E hw0 O (⟨g15,x,gs,kA,kc,uA,uc,ms72,mu,Gs72,mk,G⟩:W6Q) O ⟨hS72,hx▸new6 ha _ _ _,hgl,hkr,hks,hur⟩ [0,6,4,7,2,3,1] O (by decide)
theorem qKF(F:Hp)(hK:KF F)(hA:qAR F ⟨2,0,none⟩ qBY)(hT:qB5 F)(a d:Nat)(h1:1≤a)(ha:a≤3)(hd:d≤4):Ct prog 6 [I ((a:Nat):Int),I ((d:Nat):Int)] [F] (λr:W6R=>Ptr r.gw) (λr=>W6P a d r) (λr=> [F,r.ms,r.mu,r.H]):=λw0 w hw=>
 (qTg F hK hA hT a d ha hd w0 w hw).mono λe w' ⟨r,he,hp,hs⟩=>by
  obtain ⟨gu,hgu⟩:=qTA hp.ur (by omega)
  have hs2:=hs.pick [3,4,5,6,0,1,2] (by decide)
  have hj:=St.joinUs (A:= [r.Gs,r.mq,r.G,blk r.gw [Ptr r.x.gs,.slice r.kA a r.kc,.slice r.uA a r.uc] 40]) (r:= [F,r.ms,r.mu]) hs2
  have hl: ∀m∈ [r.Gs,r.mq,r.G,blk r.gw [Ptr r.x.gs,.slice r.kA a r.kc,.slice r.uA a r.uc] 40],Le m (U [r.Gs,r.mq,r.G,blk r.gw [Ptr r.x.gs,.slice r.kA a r.kc,.slice r.uA a r.uc] 40]):=λm hm=>qEy hj.1 hm
  refine⟨⟨r.gw,r.x,r.gs,r.kA,r.kc,gu,r.uc,r.ms,r.mu,_⟩,he,⟨hp.s.mono (hl _ (by simp)),hp.n,⟨?_,hp.gl,hp.kr.sl.mono (hl _ (by simp)),hp.ks.mono (hl _ (by simp)),jJ,by have:=hp.ur;rw [hgu] at this;exact this⟩⟩,hj.2.pick [1,2,3,0] (by decide)⟩
  have hc:qAR (blk r.gw [Ptr r.x.gs,.slice r.kA a r.kc,.slice r.uA a r.uc] 40) ⟨r.gw,0,none⟩ [Ptr r.x.gs,.slice r.kA a r.kc,.slice (some ⟨gu,0,none⟩) a r.uc]:=by
   rw [hgu];exact qAR.blk0
  exact hc.mono (hl _ (by simp))
attribute [local irreducible] Sha.tagged Wo.pub Wo.publicOf Wo.signs Wo.ends Wo.digs Wo.walk Wo.opn Mk.root Mk.path Mk.climb Xm.root
theorem valW{nm:Nat}(hnm:nm<3):Sha.tagged 16 [wN nm,qBL (Wo.opn (qAQ nm)) (Xm.root (qAQ nm) 2) ((2:Nat):Int)]=qCY nm:=by
 unfold qBL
 rw [if_pos ⟨by decide,by decide,Wo.opn_length _,qDd hnm⟩];rfl
theorem qYj{a nm:Nat}(ha:a≤3)(h:nm<a):Sm.getP (qAO a) (qAM nm)=some (qCY nm):=by
 rw [qT0 (by omega)]
 exact Sm.getP_mem (p:=(qCf nm,qCY nm)) (qC1 ha).once (List.mem_map.2 ⟨nm,List.mem_range.2 h,rfl⟩)
theorem br23{a d:Nat}(ha:a≤3)(hd:d≤0)(k:List UInt8):qCI (pW a d).nodes (pW a d).dep=Sm.ndB (qAO a) k 0:=by
 have h:=(qIt (qC1 ha) (d:=d) (by omega)).2
 have e:Sm.ndB (qAO a) k 0=Sm.nd 128 (qAO a):=by
  show Sm.nd 128 (Sm.bel _ k 0)=_
  rw [Sm.bel_zero]
 rw [e];exact h
def vtY(a:Nat)(y:Hd)(b nm i:Nat)(A1:Option Addr)(c1:Nat)(A2:Option Addr)(c2:Nat)(s:Nat)(A3:Option Addr)(c3:Nat):VtD:=⟨y.ep,b,y.dig,nm,i,A1,c1,(sgC (qAQ nm) i (atM y.ep b nm y.dig)),A2,c2,(sgP (qAQ nm) 2 i),wN nm,Wo.opn (qAQ nm),Xm.root (qAQ nm) 2,2,A3,c3,(bsd (qAO a) (qAM nm) 0 (s-0)),qAo (qAO a) (qAM nm) s,qBo (qAO a) (qAM nm) s,qBr (qAO a) (qAM nm) s⟩
structure Hon (G:Hp) (a d:Nat) (y:Hd) (v:VtD) (b nm:Nat):Prop where
 ok:qSC G v
 ep:v.ep=y.ep
 hd:v.hd=y.dig
 eb:v.b=b
 en:v.nm=nm
 has:qRE (pW a d) v=true
 ver:qSI v=true
theorem Hon.mono{G G':Hp}{a d:Nat}{y:Hd}{v:VtD}{b nm:Nat}(h:Hon G a d y v b nm)(hl:Le G G'):Hon G' a d y v b nm:={h with ok:=h.ok.mono hl}
theorem qYi{G:Hp}{a d:Nat}{y:Hd}{b nm i:Nat}{A1:Option Addr}{c1:Nat}{A2:Option Addr}{c2 s:Nat}{A3:Option Addr}{c3:Nat}(ha:a≤3)(hd:d≤0)(hnm:nm<a)(hb:b<16)(he:y.ep≤4294967295)(hy:y.dig.length=16)(hi:i<2^2)(hst:qKv (qAO a) (qAM nm) 0 s)
    (h1:Sl G 1 A1 (sgC (qAQ nm) i (atM y.ep b nm y.dig)).length c1 (qAI (sgC (qAQ nm) i (atM y.ep b nm y.dig)))) (h2:Sl G 1 A2 (sgP (qAQ nm) 2 i).length c2 (qAI (sgP (qAQ nm) 2 i))) (h3:Sl G 1 A3 (bsd (qAO a) (qAM nm) 0 (s-0)).length c3 (qAI (bsd (qAO a) (qAM nm) 0 (s-0)))):Hon G a d y (vtY a y b nm i A1 c1 A2 c2 s A3 c3) b nm where
  ok:={ch:=h1,pt:=h2,bs:=h3,good:=qE7 (qC1 ha) (qBq nm) hst,pvl:=qE9 (qC1 ha) (qAM nm) s,ch35:=qGO _ _ _,ch16:=qMc _ _ _,ptl:=qE3 _ _ _,pt16:=qMb _ hi,h6:=(by show 2≤6;decide),hi:=hi,an:=jk rfl,op:=(by show(Wo.opn (qAQ nm)).length≤_;rw [Wo.opn_length];decide),rt:=(by show(Xm.root (qAQ nm) 2).length≤_;rw [qDd (by omega)];decide),pe:=qPD (by omega),b16:=hb,nm64:=(by show nm<64;omega),ep:=he,hd:=hy}
  ep:=rfl
  hd:=rfl
  eb:=rfl
  en:=rfl
  has:=by
    have h:=qJw (qC1 ha) (qBq nm) hst
    rw [qYj ha hnm] at h
    unfold qRE
    rw [show valV (vtY a y b nm i A1 c1 A2 c2 s A3 c3)=qCY nm from valW (by omega),br23 ha hd (qAM nm)]
    exact h
  ver:=by
    have e:=Wo.recPub (qAQ nm) i (Xm.digest (Wo.opn (qAQ nm)) i (atM y.ep b nm y.dig)) (by rw [Xm.digest_length];decide)
    unfold qSI
    refine decide_eq_true ?_
    show Mk.climb (Wo.publicOf (Wo.opn (qAQ nm)) i (Wo.ends (Wo.opn (qAQ nm)) i (Wo.digs (Xm.digest (Wo.opn (qAQ nm)) i (atM y.ep b nm y.dig))) (sgC (qAQ nm) i (atM y.ep b nm y.dig)) 35)) i (sgP (qAQ nm) 2 i)=Xm.root (qAQ nm) 2
    unfold sgC
    rw [e]
    exact qG0 (qAQ nm) 2 _ hi
def qNl(G:Hp)(a d sl:Nat)(y:Hd)(W:Nat→List Int)(V:List VtD):Prop:= ∀j,j<V.length→ ∃b k nm,k<sl∧b<2^d∧j=b*sl+k∧(W b).getD k 0=((nm:Nat):Int)∧Hon G a d y (V.getD j qAN) b nm
theorem qNl.nil(G:Hp)(a d sl:Nat)(y:Hd)(W:Nat→List Int):qNl G a d sl y W []:=λj h=>absurd h (zA j)
theorem qNl.mono{G G':Hp}{a d sl:Nat}{y:Hd}{W:Nat→List Int}{V:List VtD}(h:qNl G a d sl y W V)(hl:Le G G'):qNl G' a d sl y W V:=λj hj=>by
 obtain ⟨b,k,nm,h1,h2,h3,h4,h5⟩:=h j hj
 exact⟨b,k,nm,h1,h2,h3,h4,h5.mono hl⟩
theorem qNl.snoc{G:Hp}{a d sl:Nat}{y:Hd}{W:Nat→List Int}{V:List VtD}{v:VtD}{b k nm:Nat}(h:qNl G a d sl y W V)(h1:k<sl)(h2:b<2^d)(h3:V.length=b*sl+k)(h4:(W b).getD k 0=((nm:Nat):Int))(h5:Hon G a d y v b nm):qNl G a d sl y W (V++ [v]):=λj hj=>by
 rw [jA,jH] at hj
 rw [qFG V v qAN j hj]
 split
 · exact h j (by omega)
 · exact⟨b,k,nm,h1,h2,by omega,h4,h5⟩
structure Pub6 (a d:Nat) (x:SvR):Prop where
 hd2:x.hd.length=2
 tg2:x.tg.length=2
 h0:qA1 (x.hd.getD 0 qAc)=pW a d
 k0:x.kv.getD 0 []=qAO a
 au:x.aud=wL a
structure VtsR where
 V:List VtD
 us:List Nat
 A:Option Addr
 c:Nat
 m:Hp
 mu:Hp
 G:Hp
structure VtsP (B a d sl:Nat) (y:Hd) (W:Nat→List Int) (gu uc:Nat) (us:List Nat) (r:VtsR):Prop where
 row:Row r.m 74 15 r.A r.V.length r.c (qHB r.V)
 len:r.V.length=2^d*sl
 hon:qNl r.G a d sl y W r.V
 ul:r.us.length=a
 ub: ∀j,r.us.getD j 0≤B+10
 ur:Row r.mu 3 1 (some ⟨gu,0,none⟩) a uc (qBJ r.us)
theorem qRI(l:List Nat)(k v j:Nat):(l.set k v).getD j 0=if j=k∧k<l.length then v else l.getD j 0:=by
  rw [jB,zD]
  by_cases h:k=j
  · subst h
    rw [if_pos rfl]
    by_cases h2:k<l.length
    · rw [if_pos h2,if_pos ⟨rfl,h2⟩];rfl
    · rw [if_neg h2,if_neg (λx=>h2 x.2),jB,jg (by omega)]
  · rw [if_neg h,if_neg (λx=>h x.1.symm),jB]
theorem qVd{us:List Nat}{N nm:Nat}(h: ∀j,us.getD j 0≤N): ∀j,(us.set nm (us.getD nm 0+1)).getD j 0≤N+1:=λj=>by
 rw [qRI]
 split
 · have:=h nm;omega
 · have:=h j;omega
end Go.Proofs.YtcgcjaflllmlpaaGreatDoor
namespace Go.Proofs.YtcgcjaflllmlpaaGreatDoor
open Go Go.Fw Go.Proofs.Tryz
set_option maxRecDepth 100000
set_option maxHeartbeats 1000000
theorem ent13:qAD prog 13:=qAD.of func13 rfl (by kernel_rfl)
theorem ent24:qAD prog 24:=qAD.of func24 rfl (by kernel_rfl)
theorem ent25:qAD prog 25:=qAD.of func25 rfl (by kernel_rfl)
attribute [local irreducible] Sha.tagged Wo.pub Wo.publicOf Wo.signs Wo.ends Wo.digs Wo.walk Wo.opn Mk.root Mk.path Mk.climb Xm.root sgC sgP qBG qBd sgB normal qAM SN.tagN
theorem qYs{v:Nat}{seed:List UInt8}{kh:Nat}{p:List UInt8}(h1:1≤v)(h2:v≤4294967295)(h3:kh≤6)(hp:p.length=16):qBd v (Wo.opn seed) (Xm.root seed kh) ((kh:Nat):Int) p=0:=(en_0 (by omega) (by omega) (by omega) (by omega) (Wo.opn_length _) (Mk.root_16 _ _) hp).1
theorem qVE:normal [97,108,105,99,101]=([97,108,105,99,101],0):=qD3 (l:= [97,108,105,99,101]) (by decide) (by decide) (by decide)
theorem entE(sd:List UInt8):qBd 1 (Wo.opn sd) (Xm.root sd 0) ((0:Nat):Int) qAm=0:=qYs (by decide) (by decide) (by decide) rfl
def SvR.put(x:SvR)(s sd:List UInt8)(y:SbR):SvR:=x.e1 s 1 (Wo.opn sd) (Xm.root sd 0) ((0:Nat):Int) qAm 0 (sgC sd 0 (qFb s 1 (Wo.opn sd) (Xm.root sd 0) ((0:Nat):Int) qAm)) (sgP sd 0 0) y
theorem qVp(F m G:Hp)(hK:KF F)(hA:qAR F ⟨2,0,none⟩ qBY)(hT:qB5 F)(hGF:Le G F)(x:SvR)(hS:Srv m G x)(s:List UInt8)(hs2:s.length≤200)(hN:normal s=(s,0))(sd:List UInt8)(A1:Option Addr)(c1:Nat)(hch:Sl F 1 A1 (sgC sd 0 (qFb s 1 (Wo.opn sd) (Xm.root sd 0) ((0:Nat):Int) qAm)).length c1 (qAI (sgC sd 0 (qFb s 1 (Wo.opn sd) (Xm.root sd 0) ((0:Nat):Int) qAm))))(A2:Option Addr)(c2:Nat)(hpt:Sl F 1 A2 (sgP sd 0 0).length c2 (qAI (sgP sd 0 0)))(hno2:x.no.length<256)(hg0:qCq x.nxt s=none):
    Ct prog 25 [Ptr x.gs,.agg #[Str s,N64 1,Str (Wo.opn sd),Str (Xm.root sd 0),I ((0:Nat):Int),Str qAm,I ((0:Nat):Int),.slice A1 (sgC sd 0 (qFb s 1 (Wo.opn sd) (Xm.root sd 0) ((0:Nat):Int) qAm)).length c1,.slice A2 (sgP sd 0 0).length c2]] [m,F] (λ_:Hp×SbR=>I ((0:Nat):Int)) (λy=>Srv y.1 G (x.put s sd y.2)) (λy=> [y.1,F]):=by
  refine qVq F m G hK hGF x hS s hs2 1 (Wo.opn sd) (Xm.root sd 0) ((0:Nat):Int) qAm (entE sd) 0 A1 _ c1 (sgC sd 0 (qFb s 1 (Wo.opn sd) (Xm.root sd 0) ((0:Nat):Int) qAm)) hch A2 _ c2 (sgP sd 0 0) hpt (by decide) (qGO _ _ _) (by rw [qE3];decide) (qMc _ _ _) (qMb _ (by decide)) (by rw [qE3];decide) hno2 hg0 (λF' hF=>?_)
  exact qQ8 F' (hK.mono hF) (hA.mono hF) (hT.mono hF) sd 0 (by decide) 0 (by decide) s (by omega) hN 1 qAm (entE sd) A1 _ c1 (hch.mono hF) A2 _ c2 (hpt.mono hF) (En.hist1 _ rfl rfl)
theorem qP3(F ms G:Hp)(hK:KF F)(hA:qAR F ⟨2,0,none⟩ qBY)(hT:qB5 F)(hGF:Le G F)(x:SvR)(hS:Srv ms G x)(gw a kc uc:Nat)(kA uA:Option Addr)(hw:qAR F ⟨gw,0,none⟩ [Ptr x.gs,.slice kA a kc,.slice uA a uc])(s:List UInt8)(hs2:s.length≤200)(hN:normal s=(s,0))(sd:List UInt8)(hsd:sd.length≤1000)(hno2:x.no.length<256)(hg0:qCq x.nxt s=none)(hnow:qED (lbE x.now) s= []):Ct prog 9 [Ptr gw,Str s,Str sd] [ms,F] (λ_:Hp×SbR=> .bool true) (λy=>Srv y.1 G (x.put s sd y.2)) (λy=> [y.1,F]):=by
 refine Ct.walk func9 rfl ntmps9 rfl (λw0 hw0=>?_)
 refine J.f λ_ j1=>J.b O<|J.c j1<|J.f λ_ j2=>J.b O<|J.p (qAB O O ent18 (Ct.use (λF' hF=>qMJ F' (hK.mo hF) sd 0 (by omega) (by decide)))) O ?_
 rintro⟨g17,m17⟩ h17
 try dsimp only at h17
 refine J.q 5 O<|J.c j2<|J.f λ_ j3=>J.b O<|J.g (qAC O O) O<|J.T 0 qG8 qO4 O O O O O<|J.g (qAJ O O isAgg36 (m:=F) (by simp) (hw.at (i:=0) rfl)) rfl<|J.b rfl<|J.p (qAB rfl rfl ent13 (Ct.use (λF' hF=>qMX F' (hK.mo hF) x hS.i (hS.cells.mono (Fa hF)) (hS.tsl.mono (Fa hF)) (hS.tree.mono (hGF.trans (Fa hF))) (hS.p.nw.mono (hGF.trans (Fa hF))) (hS.p.nl.mono (hGF.trans (Fa hF))) s (by omega)))) rfl ?_
 rintro r26 hr26
 rw [hnow]
 refine J.q 3 O<|J.p (qAL O zeroValue55 O) O λg9 _=>J.a6 (qAF (i:=5) (l:= [Str [],.slice none 0 0,.slice none 0 0,.bool false,Str [],Str []]) (vs:= [Str s,.slice r26.A ([]:List En).length r26.c,.slice r26.bA (bsd x.kvL (Sha.tagged 11 [s]) 0 (r26.s-0)).length r26.bc,.bool (qAo x.kvL (Sha.tagged 11 [s]) r26.s),Str (qBo x.kvL (Sha.tagged 11 [s]) r26.s),Str (qBr x.kvL (Sha.tagged 11 [s]) r26.s)]) O O O O O sizeOf55 O O) O O λ_ _=>J.b O<|J.c j3<|J.f λ_ j4=>J.b O<|J.p (qAB O O ent19 (Ct.use0 (λF' hF=>qH9 F' g17 sd 0 (h17.mono (Fa hF))))) O λg30 _=>J.g (qAK (places:= [(0,1),(1,3),(4,1)]) (r:= [N64 (1),Str (Wo.opn sd),Str (Xm.root sd 0),I ((0:Nat):Int),Str ([0,0,0,0,0,0,0,0,0,0,0,0,0,0,0,0])]) O O O qJN qOn (λ_=>by kernel_rfl) O) O<|J.p (qAL O qOn O) O λg11 _=>J.a6 (qAF (i:=6) (l:= [.int .u64 0,Str [],Str [],I 0,Str []]) (vs:= [N64 (1),Str (Wo.opn sd),Str (Xm.root sd 0),I ((0:Nat):Int),Str (qAm)]) O O O O O qBy O O) O O λ_ _=>J.c j4<|J.k λ_ j5=>J.f λ_ j6=>J.T 1 qSd sizeOf51 O O O O O<|J.a5 5 isAgg51 O O O O O<|J.g (qAU qFj O O) O<|J.b O<|J.c j6<|J.f λ_ j7=>J.b O<|J.g ((qA5 O O O).no (by decide)) O<|J.c j7<|J.a1 ?_
 refine J.M j5<|J.f λ_ j8=>J.q 2 O<|J.b7 6 qEV qBy O O O O O<|J.p (qAB O O ent24 (Ct.use (λF' hF=>qTO F' (hK.mo hF) g17 sd 0 (h17.mono (Fa hF)) (by omega) (by decide) 0 (by decide) s (by omega) 1 (Wo.opn sd) (Xm.root sd 0) ((0:Nat):Int) qAm (entE sd)))) O ?_
 rintro⟨⟨A53,c53,m53⟩,⟨B53,d53,n53⟩⟩ ⟨h53,k53⟩
 refine J.q 3 O<|J.p (qAL O zeroValue101 O) O λg13 _=>J.a6 (qAF (i:=9) (l:= [Str [],.int .u64 0,Str [],Str [],I 0,Str [],I 0,.slice none 0 0,.slice none 0 0]) (vs:= [Str (s),N64 (1),Str (Wo.opn sd),Str (Xm.root sd 0),I ((0:Nat):Int),Str (qAm),I ((0:Nat):Int),.slice A53 (sgC sd 0 (qFb s 1 (Wo.opn sd) (Xm.root sd 0) ((0:Nat):Int) qAm)).length c53,.slice B53 (sgP sd 0 0).length d53]) O O O O O sizeOf101 O O) O O λ_ _=>J.b O<|J.c j8<|J.k λ_ j9=>J.b0 [F,blk g13 [Str (s),N64 (1),Str (Wo.opn sd),Str (Xm.root sd 0),I ((0:Nat):Int),Str (qAm),I ((0:Nat):Int),.slice A53 (sgC sd 0 (qFb s 1 (Wo.opn sd) (Xm.root sd 0) ((0:Nat):Int) qAm)).length c53,.slice B53 (sgP sd 0 0).length d53] 101] [] (.y 0 (.y 1 (.y 2 (.y 3 (.y 4 (.y 5 (.y 6 (.y 7 (.y 8 (.y 9 (.y 10 (.y 11 (.e 12 (.y 13 (.y 14 (.y 15 .nil)))))))))))))))) Tryz.wide (by decide+kernel) (by simp) ?_
 refine J.L ?_
 refine J.j O ((qAg O O O).yes (by decide)) O O<|J.L ?_
 refine J.b8 O (qA0 O O) O O<|J.b8 O ((qAg O O O).yes (by decide)) O O<|J.d2 ?_
 refine J.L ?_
 refine J.b8 O (qA0 O O) O O<|J.b8 O (qAC O O) O O<|J.b8 O (qAA O O qG8 O qO4 O) O O<|J.b8 O (qAJ O O isAgg36 (m:=F) (by simp) (hw.at (i:=0) rfl)) rfl rfl<|J.b8 rfl (qAY 1 rfl rfl rfl isAgg101 sizeOf101 rfl) rfl rfl<|J.e4 rfl (qAB rfl rfl ent25 (Ct.use1 0 rfl (λF' hF=>qVp F' ms G (hK.mo hF) (hA.mono (Fa hF)) (hT.mono (Fa hF)) (hGF.trans (Fa hF)) x hS s hs2 hN sd A53 c53 (h53.sl.mono (Fa hF)) B53 d53 (k53.sl.mono (Fa hF)) hno2 hg0))) (Wan.is rfl rfl rfl rfl rfl) rfl rfl (by simp) ?_
 rintro⟨ms68,y68⟩ hS68
 try dsimp only at hS68
 refine J.b8 O ((qAg O O O).yes (by decide)) O O<|J.d2 ?_
 refine J.b6 ?_
 refine J.a8<|J.u (J.D j9 ?_)
 exact J.A<|J.E hw0 O (ms68,y68) O hS68 [0,1] O (by decide)
end Go.Proofs.YtcgcjaflllmlpaaGreatDoor
namespace Go.Proofs.YtcgcjaflllmlpaaGreatDoor
open Go Go.Fw Go.Proofs.Tryz
set_option maxRecDepth 100000
set_option maxHeartbeats 1000000
attribute [local irreducible] Sha.tagged Wo.pub Wo.publicOf Wo.signs Wo.ends Wo.digs Wo.walk Wo.opn Mk.root Mk.path Mk.climb Xm.root sgC sgP qBW qAO
theorem qPK{v:VtD}{W:Nat→List Int}{sl n:Nat}{x y:Hd}(hy:y.dig≠ [])(he:v.ep=y.ep)(hh:v.hd=y.dig)(hs:qLO W sl n v.b v.nm=true)(h1:qRE x v=true)(h2:qSI v=true):qMP x y W sl n v=0:=by
 unfold qMP
 rw [if_neg (λh=>h.elim hy (λh=>h.elim (λh=>h he) (λh=>h hh))),hs,if_neg (by decide),h1,if_neg (by decide),h2,if_neg (by decide)]
theorem qPp{x y:Hd}{W:Nat→List Int}{sl n nd:Nat}{vs:List VtD}(h1: ∀i,i<vs.length→qJn vs i=false)(h2: ∀i,i<vs.length→qMP x y W sl n (vs.getD i qAN)=0): ∀k,k≤vs.length→qHF x y W sl n nd vs k=if∀b,b<n→nd≤qK5 vs b then 0 else 16
 |0,_=>rfl
 |k+1,hk=>by
  rw [qHF,h1 _ (by omega),if_neg (by decide),if_pos (h2 _ (by omega))]
  exact qPp h1 h2 k (by omega)
theorem qXY{x y:Hd}{W:Nat→List Int}{sl n nd:Nat}{vs:List VtD}(hn:x.next y=0)(h1: ∀i,i<vs.length→qJn vs i=false)(h2: ∀i,i<vs.length→qMP x y W sl n (vs.getD i qAN)=0):qDS x y W sl n nd vs=((if∀b,b<n→nd≤qK5 vs b then 0 else 16:Nat):Int):=by
 unfold qDS
 rw [if_pos hn,qPp h1 h2 _ (jK _)]
theorem qSy{W:Nat→List Int}{sl n b nm i:Nat}(hb:b<n)(hi:i<sl)(hl:sl≤(W b).length)(h:((nm:Nat):Int)=(W b).getD i 0):qLO W sl n b nm=true:=by
  have hf: ∀(l:List Int) (x:Int) (k:Nat),x∈l→0≤Wd.find l x k:=λl x=>by
    induction l with
    |nil=>intro k hx;cases hx
    |cons y r ih=>
      intro k hx
      unfold Wd.find
      by_cases e:x=y
      · rw [if_pos e];omega
      · rw [if_neg e]
        rcases List.mem_cons.1 hx with h|h
        · exact absurd h e
        · exact ih (k+1) h
  unfold qLO
  rw [decide_eq_true hb,Bool.true_and]
  refine decide_eq_true (hf _ _ _ ?_)
  rw [h,jB,jC (by omega)]
  exact List.mem_take_iff_getElem.2 ⟨i,by omega,rfl⟩
def hdN(a d:Nat)(kv:List Sm.PR):Hd:=⟨1,(pW a d).dig,((d:Nat):Int),((a:Nat):Int),qAp kv d⟩
theorem qRC{a d:Nat}{kv:List Sm.PR}(ha:a≤3)(hd:d≤0)(hf:qCJ kv):(hdN a d kv).err=0:=hdOk hf (ep:=1) (by decide) (par:=(pW a d).dig) (qC2 ha hd) (d:=d) (by omega) (a:=a) (by omega)
theorem qLw{a d:Nat}{kv:List Sm.PR}(ha:a≤3)(hd:d≤0)(hf:qCJ kv):(hdN a d kv).dig.length=16:=qL7 (qRC ha hd hf)
theorem qI4{a d:Nat}{kv:List Sm.PR}(ha:a≤3)(hd:d≤0):(hdN a d kv).good:=by
 obtain ⟨_,h16⟩:=qHd (show d≤4 by omega)
 exact⟨by show 1<_;decide,by show(pW a d).dig.length≤_;rw [qC2 ha hd];decide,by show(qAp kv d).length≤_;unfold qAp;rw [qBa];omega⟩
theorem qI3{a d:Nat}{kv:List Sm.PR}(ha:a≤3)(hd:d≤0)(hf:qCJ kv):(pW a d).next (hdN a d kv)=0:=by
 have h1:=qRC (a:=a) ha hd hf
 have h2:=qC2 ha hd
 refine qVA (by rw [h1];decide) ?_ ?_ ?_
 · show¬(1=0∨1-1≠0);decide
 · exact λe=>e.elim (λe=>by rw [e] at h2;exact absurd h2 (by decide)) (λe=>e rfl)
 · show¬(((d:Nat):Int)≠((d:Nat):Int)∨((a:Nat):Int)<((a:Nat):Int));omega
structure qG7 (G:Hp) (a sl:Nat) (y:Hd) (V:List VtD) (ks:List Nat):Prop where
 len:V.length=ks.length
 nd:ks.Nodup
 each: ∀j,j<V.length→ks.getD j 0<sl∧ ∃nm,(qBW a 0 sl 0).getD (ks.getD j 0) 0=((nm:Nat):Int)∧Hon G a 0 y (V.getD j qAN) 0 nm
theorem qG7.mono{G G':Hp}{a sl:Nat}{y:Hd}{V:List VtD}{ks:List Nat}(h:qG7 G a sl y V ks)(hl:Le G G'):qG7 G' a sl y V ks:=⟨h.len,h.nd,λj hj=>by
 obtain ⟨h1,nm,h2,h3⟩:=h.each j hj
 exact⟨h1,nm,h2,h3.mono hl⟩⟩
theorem qG7.vo{G:Hp}{a sl:Nat}{y:Hd}{V:List VtD}{ks:List Nat}(h:qG7 G a sl y V ks): ∀i,i<V.length→qSC G (V.getD i qAN):=λi hi=>by
 obtain ⟨_,_,_,h3⟩:=h.each i hi
 exact h3.ok
theorem qKC{α:Type}{l:List α}(h:l.Nodup){i j:Nat}(hi:i<l.length)(hj:j<l.length)(e:l[i]=l[j]):i=j:=by
 rcases Nat.lt_trichotomy i j with q|q|q
 · exact absurd e (List.pairwise_iff_getElem.1 h i j hi hj q)
 · exact q
 · exact absurd e.symm (List.pairwise_iff_getElem.1 h j i hj hi q)
theorem qVc{a sl:Nat}(ha:a≤3)(h1:1≤sl)(h2:sl≤a){i j:Nat}(hi:i<sl)(hj:j<sl)(e:(qBW a 0 sl 0).getD i 0=(qBW a 0 sl 0).getD j 0):i=j:=by
 obtain ⟨h3,h4,_⟩:=qID ha (jG 0) h1 h2 (b:=0) (by decide)
 have hl:((qBW a 0 sl 0).take sl).length=sl:=by rw [jF,h3];omega
 have g: ∀k,(hk:k<sl)→(qBW a 0 sl 0).getD k 0=((qBW a 0 sl 0).take sl)[k]'(by omega):=λk hk=>by
  rw [jB,jC (by omega),List.getElem_take];rfl
 rw [g i hi,g j hj] at e
 exact qKC h4 (by omega) (by omega) e
theorem qXZ{G:Hp}{a sl nd:Nat}{y:Hd}{V:List VtD}{ks:List Nat}(ha:a≤3)(h1:1≤sl)(h2:sl≤a)(hn:(pW a 0).next y=0)(hy:y.dig.length=16)(h:qG7 G a sl y V ks):qDS (pW a 0) y (qBW a 0 sl) sl (2^0) nd V=((if nd≤V.length then 0 else 16:Nat):Int):=by
  obtain ⟨h3,_,_⟩:=qID ha (jG 0) h1 h2 (b:=0) (by decide)
  rw [qXY hn (λi hi=>?_) (λi hi=>?_)]
  · have hc:qK5 V 0=V.length:=by
      unfold qK5
      rw [List.filter_eq_self.2 (λv hv=>?_)]
      obtain ⟨j,hj,rfl⟩:=zW hv
      obtain ⟨_,_,_,h5⟩:=h.each j hj
      have:=h5.eb
      rw [jB,jC hj] at this
      exact decide_eq_true this
    congr 2
    refine propext ⟨λq=>by rw [←hc];exact q 0 (by decide),λq b hb=>?_⟩
    obtain rfl:b=0:=by have:b<1:=hb;omega
    rw [hc];exact q
  · rw [Bool.eq_false_iff]
    intro hs
    obtain ⟨v,hv,he⟩:=List.any_eq_true.1 hs
    obtain ⟨j,hj,rfl⟩:=zW hv
    rw [jF] at hj
    have hji:j<i:=by omega
    have e:=of_decide_eq_true he
    rw [List.getElem_take] at e
    obtain ⟨k1,nm,q1,q2⟩:=h.each i hi
    obtain ⟨k2,nm',q3,q4⟩:=h.each j (by omega)
    have e2:V[j]'(by omega)=V.getD j qAN:=by rw [jB,jC (by omega)];rfl
    rw [e2] at e
    have e3:=congrArg Prod.snd e
    have e4:(V.getD j qAN).nm=(V.getD i qAN).nm:=e3
    rw [q4.en,q2.en] at e4
    have e5:=qVc ha h1 h2 k1 k2 (q1.trans (by rw [q3,e4]))
    have hil:i<ks.length:=by rw [←h.len];exact hi
    have hjl:j<ks.length:=by omega
    rw [jB,jC hil,jB,jC hjl] at e5
    have:=qKC h.nd hil hjl e5
    omega
  · obtain ⟨k1,nm,q1,q2⟩:=h.each i hi
    refine qPK (λe=>by rw [e] at hy;cases hy) q2.ep q2.hd ?_ q2.has q2.ver
    rw [q2.eb,q2.en]
    exact qSy (by decide) k1 (by omega) q1.symm
theorem qNl.some{G:Hp}{a sl:Nat}{y:Hd}{V:List VtD}(h:qNl G a 0 sl y (qBW a 0 sl) V)(hl:V.length=2^0*sl):qG7 G a sl y V (List.range sl):=by
 rw [Nat.pow_zero,Nat.one_mul] at hl
 refine⟨by rw [zV,hl],List.nodup_range,λj hj=>?_⟩
 obtain ⟨b,k,nm,h1,h2,h3,h4,h5⟩:=h j hj
 obtain rfl:b=0:=by have:b<1:=h2;omega
 obtain rfl:j=k:=by omega
 rw [jB,jv h1]
 exact⟨h1,nm,h4,h5⟩
theorem Wld.of{a:Nat}{us:List Nat}{G mu:Hp}{gw:Nat}{x x':SvR}{gs:List Nat}{kA:Option Addr}{kc gu uc:Nat}(h:Wld a us G mu gw x gs kA kc gu uc)(e:x'.gs=x.gs):Wld a us G mu gw x' gs kA kc gu uc:=⟨by rw [e];exact h.w,h.gl,h.kr,h.ks,h.ul,h.ur⟩
theorem qP1(s sd:List UInt8)(hs:s.length≤20):qBc (117::upB s (qBG 1 (Wo.opn sd) (Xm.root sd 0) ((0:Nat):Int) qAm) (sgB 0 (sgC sd 0 (qFb s 1 (Wo.opn sd) (Xm.root sd 0) ((0:Nat):Int) qAm)) (sgP sd 0 0))).length≤18:=by
 have h1:=qIS (i:=0) (qMc sd 0 (qFb s 1 (Wo.opn sd) (Xm.root sd 0) ((0:Nat):Int) qAm)) (qMb sd (h:=0) (i:=0) (by decide)) (qGO sd 0 (qFb s 1 (Wo.opn sd) (Xm.root sd 0) ((0:Nat):Int) qAm))
 have h2:=qIG s (qBG 1 (Wo.opn sd) (Xm.root sd 0) ((0:Nat):Int) qAm) (sgB 0 (sgC sd 0 (qFb s 1 (Wo.opn sd) (Xm.root sd 0) ((0:Nat):Int) qAm)) (sgP sd 0 0))
 have h3:=qCE (entE sd)
 have h5:(sgP sd 0 0).length=0:=qE3 _ _ _
 rw [jD,h2,h3,h1,h5]
 unfold qBc
 split<;>omega
theorem qUK(n e:Nat):qBc (cmB n e).length=1:=by rw [qRe];rfl
theorem qSF.room{a d:Nat}{x:SvR}(h:qSF a d x){s sd:List UInt8}(hs:s.length≤20)(y:SbR):(x.put s sd y).bk.e+qCz ((x.put s sd y).no++ [cmB (x.put s sd y).no.length (x.put s sd y).hd.length])≤(x.put s sd y).bk.size:=by
 show x.bk.e+qCz ((x.no++ [_])++ [cmB _ _])≤x.bk.size
 rw [qCy,qUK,h.no,h.e0,h.sz,qCy]
 have:=qP1 s sd hs
 show 0+(qCz []+_+1)≤150
 have e:qCz []=0:=rfl
 rw [e];omega
theorem qSF.pub{a:Nat}{x:SvR}(h:qSF a 0 x)(ha:a≤3){s sd:List UInt8}(y:SbR)(hI:SvI (x.put s sd y))(r:StR×WrR):Pub6 a 0 ((x.put s sd y).pub r)∧qA1 ((x.put s sd y).pub r).hdL=hdN a 0 ((x.put s sd y).pub r).kvL∧((x.put s sd y).pub r).hd.getD 0 qAc=x.hd.getD 0 qAc:=by
  have e0: ∀l:List RhD,∀z:RhD,0<l.length→(l++ [z]).getD 0 qAc=l.getD 0 qAc:=λl z hl=>by
    rw [jB,jh hl,←jB]
  have hk1:x.kv.length=1:=by have:=hI.tk;exact this.trans h.tg1
  refine⟨⟨?_,?_,?_,?_,h.an⟩,?_,e0 _ _ (by show 0<x.hd.length;rw [h.hd1];decide)⟩
  · show(x.hd++ [_]).length=2;rw [jA,h.hd1];rfl
  · show(x.tg++ [_]).length=2;rw [jA,h.tg1];rfl
  · show qA1 ((x.hd++ [_]).getD 0 qAc)=_;rw [e0 _ _ (by rw [h.hd1];decide)];exact h.h0
  · show(x.kv++ [_]).getD 0 []=_
    rw [jB,jh (by omega),←jB];exact h.k0
  · rw [SvR.pub_kvL _ r hI.tk,SvR.pub_hdL]
    have e1:(x.put s sd y).hdL=x.hd.getD 0 qAc:=by show x.hd.getD (x.hd.length-1) qAc=_;rw [h.hd1]
    rw [e1,h.h0]
    unfold qA1 adH hdN
    dsimp only
    rw [show(x.put s sd y).hd.length=1 from h.hd1,show(x.put s sd y).audN.length=a by show x.audN.length=a;rw [h.an,qB1],show(x.put s sd y).dp=0 from h.dp]
end Go.Proofs.YtcgcjaflllmlpaaGreatDoor
namespace Go.Proofs.YtcgcjaflllmlpaaGreatDoor
open Go Go.Fw Go.Proofs.Tryz
set_option maxRecDepth 100000
set_option maxHeartbeats 1000000
theorem ent22:qAD prog 22:=qAD.of func22 rfl (by kernel_rfl)
theorem ent23:qAD prog 23:=qAD.of func23 rfl (by kernel_rfl)
theorem qLv(F:Hp)(x:Hd)(A:Option Addr)(c:Nat)(hg:x.good)(hsl:Sl F 1 A x.nodes.length c (qAI x.nodes)):
    Cz prog 22 [.agg #[N64 x.ep,Str x.par,I x.dep,I x.aud,.slice A x.nodes.length c]] F (I x.gen):=by
  refine Ct.walk func22 rfl ntmps22 rfl (λw0 hw0=>?_)
  refine J.f λ_ j1=>J.p (qAd O O O) O λg1 _=>J.b O<|J.c j1 ?_
  refine J.f λ_ j2=>J.b7 1 qDT qBz O O O O O<|J.p (qAB O O ent61 (Ct.use0 (λF' hF=>qGr F' x A c hg (hsl.mono (Fa hF))))) O λg5 _=>J.b O<|J.c j2 ?_
  refine J.k λ_ j3=>J.O<|J.f λ_ j4=>J.b O<|J.g (qAe O O O) O<|J.b O<|J.c j4 ?_
  refine J.W O (λh6=>?_) (λh6=>?_)
  ·
    refine J.f λ_ j5=>J.q 2 O<|J.c j5 ?_
    exact J.A<|J.a7<|J.V<|J.E hw0 O () (congrArg I (gen_1 (by omega)).symm) trivial [0] O (by decide)
  refine J.f λ_ j6=>J.T 0 qDW qD9 O O O O O<|J.a5 1 qEz O O O O O<|J.g (qAe O O O) O<|J.b O<|J.c j6 ?_
  refine J.W O (λh10=>?_) (λh10=>?_)
  ·
    refine J.f λ_ j7=>J.b O<|J.c j7 ?_
    exact J.A<|J.a7<|J.V<|J.E hw0 O () (congrArg I (gen_2 (by omega) (by omega)).symm) trivial [0] O (by decide)
  refine J.k λ_ j8=>J.b0 [F,blk g1 [N64 x.ep,Str x.par,I x.dep,I x.aud,.slice A x.nodes.length c] 34] [] (.y 0 (.y 1 (.e 2 (.y 3 (.y 4 .nil))))) Tryz.wide (by decide+kernel) (by simp) ?_
  refine J.j O (qAA O O qDW O z9_ O) O O<|J.j O (qAE 1 O O O b9_ O) O O<|J.Z O (qAB O O ent50 (Ct.use0 (λF' hF=>qGR F' 16 (by decide) (by decide)))) O (by simp) λg17 _=>J.j rfl (qEC rfl rfl rfl) rfl rfl<|J.b6 ?_
  refine J.a8<|J.u (J.D j8 ?_)
  refine J.W O (λh14=>?_) (λh14=>?_)
  ·
    change x.par≠qAm at h14
    refine J.f λ_ j9=>J.b O<|J.c j9 ?_
    exact J.A<|J.a7<|J.V<|J.E hw0 O () (congrArg I (gen_3 (by omega) (by omega) h14).symm) trivial [0] O (by decide)
  change¬x.par≠qAm at h14
  refine J.b5<|J.a2<|J.u (J.D j3 ?_)
  refine J.f λ_ j10=>J.b O<|J.c j10 ?_
  exact J.A<|J.E hw0 O () (congrArg I (qXH (by omega) (by omega) h14).symm) trivial [0] O (by decide)
theorem qKh(F:Hp)(A:Option Addr)(n c:Nat)(l:List RhD)(hs:Sl F 5 A n c (qCu l))(hnb:n≤1000000):Ct prog 23 [.slice A n c] [F] (λx:Option Addr×Nat×Hp=> .slice x.1 (l).length x.2.1) (λx=>Row x.2.2 34 5 x.1 (l).length x.2.1 (qCu l)) (λx=> [F,x.2.2]):=by
 have hkn:l.length=n:=by have:=hs.1;simpa [qCu] using this
 refine Ct.walk func23 rfl ntmps23 rfl (λw0 hw0=>?_)
 refine J.f λ_ j1=>J.b O<|J.c j1 ?_
 refine J.k λ_ j2=>J.f λ_ j3=>J.b O<|J.g ((qEh qFP O O O).as (v':= .bool (decide (A.isNone=true))) (congrArg Value.bool (by cases A<;>rfl))) rfl<|J.c j3 ?_
 refine J.W O (λh4=>?_) (λh4=>?_)
 ·
  refine J.f λ_ j4=>J.b O<|J.c j4 ?_
  refine J.A<|J.V ?_
  have hk0:l= []:=by
   refine jU ?_
   rcases yO n with h|h
   · omega
   · obtain ⟨g,o,rfl⟩:=hs.at h;cases h4
  exact J.c7 [0,1] [F,(λ_=>none)] O (by decide)<|J.E hw0 O (none,0,(λ_=>none)) (by rw [hk0];rfl) (by rw [hk0];exact qBb.nil) [0,1] rfl (by decide)
 refine J.M j2 ?_
 refine J.f λ_ j5=>J.p (qBZ O qFP el34) O λg5 _=>J.b O<|J.p (qAV (i:=1) (m2:=F) O O O qFP qFP el34 O (qAl (q:=True) (xs:=qCu ([])) O (by intro x hx;first|exact absurd hx (zC)|(rw [List.mem_singleton.1 hx];rfl))) (by simp) (hs) (qWm _) (by omega) (by omega)) rfl ?_
 rintro⟨A7,c7,m7⟩ h7
 try dsimp only at h7
 replace h7:Row m7 34 5 A7 (0+n) c7 (qCu (l)):=h7
 refine J.b O<|J.c j5 ?_
 refine J.A ?_
 rw [show 0+n=l.length by omega] at h7
 exact J.E hw0 O (A7,c7,m7) (by rw [←hkn,jj]) h7 [0,1] rfl (by decide)
theorem qIQ(F:Hp)(x:SvR)(hc:qAR F ⟨x.gs,0,none⟩ [I ((x.dp:Nat):Int),Ptr x.gb,.bool false,.map (some x.nA),Ptr x.rA,.map (some x.nB),Ptr x.rB,.slice x.cA x.cl.length x.cc,.slice x.oA x.no.length x.oc,.slice x.tA x.tg.length x.tc,.slice x.hA x.hd.length x.hc])(hs:Sl F 5 x.hA x.hd.length x.hc (qCu x.hd))(hnb:x.hd.length≤1000000):Ct prog 8 [Ptr x.gs] [F] (λq:Option Addr×Nat×Hp=> .slice q.1 x.hd.length q.2.1) (λq=>Row q.2.2 34 5 q.1 x.hd.length q.2.1 (qCu x.hd)) (λq=> [F,q.2.2]):=by
 refine Ct.walk func8 rfl ntmps8 rfl (λw0 hw0=>?_)
 refine J.f λ_ j1=>J.b O<|J.c j1 ?_
 refine J.k λ_ j2=>J.f λ_ j3=>J.b O<|J.g ((qA6 qXt O O O).as (v':= .bool false) O) O<|J.c j3 ?_
 refine J.a1 ?_
 refine J.M j2 ?_
 refine J.f λ_ j4=>J.b O<|J.g (qAC O O) O<|J.T 10 qCV qJS O O O O O<|J.g (qAJ O O qOr (m:=F) (by simp) (hc.at (i:=10) rfl)) rfl<|J.p (qAB rfl rfl ent23 (Ct.use (λF' hF=>qKh F' x.hA x.hd.length x.hc x.hd (hs.mono (Fa hF)) (by first|omega|assumption)))) rfl ?_
 rintro⟨A9,c9,m9⟩ h9
 try dsimp only at h9
 refine J.b O<|J.c j4 ?_
 exact J.A<|J.E hw0 O (A9,c9,m9) O h9 [0,1] O (by decide)
theorem qL8(F:Hp)(h:RhD)(hg:(qA1 h).good)(hns:nsl F h)(hgen:(qA1 h).gen=0)(sl nd:Nat)(h1:1≤nd)(h2:nd≤sl)(h3:sl≤h.aud):Ct prog 7 [.agg #[N64 (h.ep),Str (h.par),I ((h.dep:Nat):Int),I ((h.aud:Nat):Int),.slice h.nsA h.ns.length h.nsc],.agg #[I ((sl:Nat):Int),I ((nd:Nat):Int)]] [F] (λr:Nat×Nat=> .tuple #[Ptr r.1,I ((0:Nat):Int)]) (λ_=>True) (λr=> [F,blk r.1 [I ((sl:Nat):Int),I ((nd:Nat):Int),.slice (some ⟨r.2,0,none⟩) 1 1] 89,blk r.2 [N64 (h.ep),Str (h.par),I ((h.dep:Nat):Int),I ((h.aud:Nat):Int),.slice h.nsA h.ns.length h.nsc] 34]):=by
 refine Ct.walk func7 rfl ntmps7 rfl (λw0 hw0=>?_)
 refine J.f λ_ j1=>J.p (qAd O O O) O λg2 _=>J.p (qAd O O O) O λg3 _=>J.q 2 O<|J.c j1 ?_
 refine J.k λ_ j2=>J.f λ_ j3=>J.b7 1 qDT qBz O O O O O<|J.p (qAB O O ent22 (Ct.use0 (λF' hF=>(by have:=qLv F' (qA1 h) h.nsA h.nsc hg (hns.mono (Fa hF));rw [hgen] at this;exact this)))) rfl λg8 _=>J.b rfl<|J.c j3 ?_
 refine J.f λ_ j4=>J.b O<|J.g ((qAe O O O).no (by decide)) O<|J.c j4 ?_
 refine J.a1 ?_
 refine J.M j2 ?_
 refine J.k λ_ j5=>J.O<|J.f λ_ j6=>J.T 1 qPR z3_ O O O O O<|J.a5 2 b3_ O O O O O<|J.g ((qAT O O O).no (by omega)) O<|J.b O<|J.G (qAA O O qPR O z3_ O) O<|J.G (qAE 2 O O O b3_ O) O<|J.G (qAA O O qPR O z3_ O) O<|J.G (qAE 2 O O O b3_ O) O<|J.G ((qA5 O O O).no (by omega)) O<|J.q 2 O<|J.c j6 ?_
 refine J.a1 ?_
 refine J.f λ_ j7=>J.T 3 qDW z3_ O O O O O<|J.a5 1 b3_ O O O O O<|J.T 0 qPR z3_ O O O O O<|J.a5 2 b3_ O O O O O<|J.g ((qAT O O O).no (by omega)) O<|J.b O<|J.c j7 ?_
 refine J.a1 ?_
 refine J.b5<|J.a2<|J.u (J.D j5 ?_)
 refine J.f λ_ j8=>J.b7 2 qSO qNn O O O O O<|J.b7 1 qDT qBz O O O O O<|J.p (qAG (l:= [.tmp 30]) (xs:= [[N64 (h.ep),Str (h.par),I ((h.dep:Nat):Int),I ((h.aud:Nat):Int),.slice h.nsA h.ns.length h.nsc]]) O O O O qFP el34 O (by decide) (by decide) (by simp)) rfl λg31 _=>J.g (qAK (places:= [(0,2),(2,1)]) (r:= [I ((sl:Nat):Int),I ((nd:Nat):Int),.slice (some ⟨g31,0,none⟩) 1 1]) rfl rfl rfl qSc zeroValue89 (λ_=>by kernel_rfl) rfl) rfl<|J.p (qAd rfl rfl rfl) rfl λg33 _=>J.q 2 rfl<|J.c j8 ?_
 exact J.A<|J.a9 hw0 (λ_ _ h=>h) (qCG O O O) (qAq (g33,g31) O trivial [0,4,3] O (by decide))
theorem qNa(F:Hp)(gc sl nd:Nat)(A:Option Addr)(n c:Nat)(l:List RhD)(hs:Sl F 5 A n c (qCu l))(h0:0<n)(hn:n≤1000000)(hC:qAR F ⟨gc,0,none⟩ [I ((sl:Nat):Int),I ((nd:Nat):Int),.slice A n c]):Cz prog 30 [Ptr gc] F (.agg #[N64 ((l.getD (n-1) qAc).ep),Str ((l.getD (n-1) qAc).par),I (((l.getD (n-1) qAc).dep:Nat):Int),I (((l.getD (n-1) qAc).aud:Nat):Int),.slice (l.getD (n-1) qAc).nsA (l.getD (n-1) qAc).ns.length (l.getD (n-1) qAc).nsc]):=by
 have hln:l.length=n:=by have:=hs.1;simpa [qCu] using this
 refine Ct.walk func30 rfl ntmps30 rfl (λw0 hw0=>?_)
 refine J.f λ_ j1=>J.p (qAL O qRU O) O λg2 _=>J.c j1 ?_
 refine J.k λ_ j2=>J.b0 [F] [12] (.y 0 (.y 1 (.y 2 (.y 3 (.y 4 (.y 5 (.y 6 (.y 7 (.y 8 (.y 9 (.y 10 (.y 11 (.e 12 .nil))))))))))))) Tryz.wide (by decide+kernel) (by simp) ?_
 refine J.L ?_
 refine J.j O (qAC O O) O O<|J.j O (qAA O O qSc O qJS O) O O<|J.j O (qAJ O O qOr (m:=F) (by simp) (hC.at (i:=2) rfl)) rfl rfl<|J.L ?_
 refine J.j O (qAC O O) O O<|J.j O (qAA O O qSc O qJS O) O O<|J.j O (qAJ O O qOr (m:=F) (by simp) (hC.at (i:=2) rfl)) rfl rfl<|J.j rfl (qAU qFP rfl rfl) rfl rfl<|J.j rfl ((qA4 rfl rfl rfl (by omega)).nat (n-1) (by omega)) rfl rfl<|J.j rfl (qAH rfl rfl rfl qFP qBz hs (by omega)) rfl rfl<|J.j rfl (qAX rfl rfl qDT qBz (m:=F) (by simp) (hs.elem (qDC (by omega))) rfl) rfl rfl<|J.c2 rfl (qAF (i:=1) (l:= [.int .u64 0,Str [],I 0,I 0,.slice none 0 0]) (vs:= [N64 ((l.getD (n-1) qAc).ep),Str ((l.getD (n-1) qAc).par),I (((l.getD (n-1) qAc).dep:Nat):Int),I (((l.getD (n-1) qAc).aud:Nat):Int),.slice (l.getD (n-1) qAc).nsA (l.getD (n-1) qAc).ns.length (l.getD (n-1) qAc).nsc]) rfl rfl rfl rfl rfl qBz rfl rfl) rfl rfl rfl λ_ _=>J.a8<|J.u (J.D j2 ?_)
 exact J.A<|J.a9 hw0 (λ_ _ h=>h) (rv1 O (RV.blkA 1 O O qDT qBz)) (qAq () O trivial [0] O (by decide))
theorem qXd(F:Hp)(gc sl nd:Nat)(A:Option Addr)(n c:Nat)(l:List RhD)(hs:Sl F 5 A n c (qCu l))(h0:0<n)(hn:n≤1000000)(hC:qAR F ⟨gc,0,none⟩ [I ((sl:Nat):Int),I ((nd:Nat):Int),.slice A n c]):Cz prog 16 [Ptr gc] F (I (((l.getD (n-2) qAc).aud:Nat):Int)):=by
 have hln:l.length=n:=by have:=hs.1;simpa [qCu] using this
 refine Ct.walk func16 rfl ntmps16 rfl (λw0 hw0=>?_)
 refine J.f λ_ j1=>J.b O<|J.c j1 ?_
 refine J.k λ_ j2=>J.f λ_ j3=>J.b O<|J.g ((qA6 underlying27 O O O).as (v':= .bool false) O) O<|J.c j3 ?_
 refine J.a1 ?_
 refine J.M j2 ?_
 refine J.k λ_ j4=>J.b0 [F] [] (.y 0 (.y 1 (.y 2 (.y 3 (.y 4 (.y 5 (.y 6 (.y 7 (.y 8 (.y 9 (.y 10 (.y 11 (.y 12 (.y 13 (.y 14 .nil))))))))))))))) Tryz.wide (by decide+kernel) (by simp) ?_
 refine J.L ?_
 refine J.j O (qAC O O) O O<|J.j O (qAA O O qSc O qJS O) O O<|J.j O (qAJ O O qOr (m:=F) (by simp) (hC.at (i:=2) rfl)) rfl rfl<|J.L ?_
 refine J.j O (qAC O O) O O<|J.j O (qAA O O qSc O qJS O) O O<|J.j O (qAJ O O qOr (m:=F) (by simp) (hC.at (i:=2) rfl)) rfl rfl<|J.j rfl (qAU qFP rfl rfl) rfl rfl<|J.j rfl (qA4 rfl rfl rfl (by omega)) rfl rfl<|J.j rfl ((qHi rfl rfl rfl).nat (n-2) (by omega)) rfl rfl<|J.j rfl (qAH rfl rfl rfl qFP qBz hs (by omega)) rfl rfl<|J.j rfl (qEk rfl rfl qDW rfl z3_ hs (by omega) rfl) rfl rfl<|J.j rfl (qAJ rfl rfl b3_ (m:=F) (by simp) (hs.part (qDC (by omega)) 3 1)) rfl rfl<|J.b6 ?_
 refine J.a8<|J.u (J.D j4 ?_)
 exact J.A<|J.E hw0 O () O trivial [0] O (by decide)
theorem qUP(F:Hp)(gc sl nd:Nat)(A:Option Addr)(n c:Nat)(l:List RhD)(hs:Sl F 5 A n c (qCu l))(h0:0<n)(hn:n≤1000000)(hC:qAR F ⟨gc,0,none⟩ [I ((sl:Nat):Int),I ((nd:Nat):Int),.slice A n c]):Ct prog 17 [Ptr gc] [F] (λx:Option Addr×Nat×Hp=> .slice x.1 (l).length x.2.1) (λx=>Row x.2.2 34 5 x.1 (l).length x.2.1 (qCu l)) (λx=> [F,x.2.2]):=by
 have hln:l.length=n:=by have:=hs.1;simpa [qCu] using this
 refine Ct.walk func17 rfl ntmps17 rfl (λw0 hw0=>?_)
 refine J.f λ_ j1=>J.b O<|J.c j1 ?_
 refine J.k λ_ j2=>J.f λ_ j3=>J.b O<|J.g ((qA6 underlying27 O O O).as (v':= .bool false) O) O<|J.c j3 ?_
 refine J.a1 ?_
 refine J.M j2 ?_
 refine J.f λ_ j4=>J.b O<|J.g (qAC O O) O<|J.T 2 qSc qJS O O O O O<|J.g (qAJ O O qOr (m:=F) (by simp) (hC.at (i:=2) rfl)) rfl<|J.p (qAB rfl rfl ent23 (Ct.use (λF' hF=>qKh F' A n c l (hs.mono (Fa hF)) (by first|omega|assumption)))) rfl ?_
 rintro⟨A9,c9,m9⟩ h9
 try dsimp only at h9
 refine J.b O<|J.c j4 ?_
 exact J.A<|J.E hw0 O (A9,c9,m9) O h9 [0,1] O (by decide)
theorem ent16:qAD prog 16:=qAD.of func16 rfl (by kernel_rfl)
theorem ent29:qAD prog 29:=qAD.of func29 rfl (by kernel_rfl)
structure CaR where
 hd:List RhD
 A:Option Addr
 c:Nat
 m:Hp
 N:Hp
structure CaP (hd:List RhD) (y:RhD) (E:Int) (r:CaR):Prop where
 row:Row r.m 34 5 r.A r.hd.length r.c (qCu r.hd)
 no:E≠0→r.hd=hd
 yes:E=0→ ∃A c,r.hd=hd++ [⟨y.ep,y.par,y.dep,y.aud,A,c,y.ns⟩]∧Sl r.N 1 A y.ns.length c (qAI y.ns)
theorem qFL(F mh:Hp)(hK:KF F)(gc sl nd:Nat)(A:Option Addr)(c:Nat)(l:List RhD)(hR:Row mh 34 5 A l.length c (qCu l))(h0:0<l.length)(hn:l.length≤1000)(hg:(qA1 (l.getD (l.length-1) qAc)).good)(hxs:nsl F (l.getD (l.length-1) qAc))(hsm: ∀s∈(l.getD (l.length-1) qAc).ns,s.length≤1048576)(d ac:Nat)(hd:d≤4)(hxd:(l.getD (l.length-1) qAc).dep=d)(hx:(qA1 (l.getD (l.length-1) qAc)).err=0)(h1:1≤nd)(h2:nd≤sl)(h3:sl≤ac)(h4:ac≤64)(hac:(l.getD (l.length-2) qAc).aud=ac)(W:Nat→List Int)(hW:qMH (qA1 (l.getD (l.length-1) qAc)).dig (2^d) ac sl W)(y:RhD)(hgy:(qA1 y).good)(hsy:nsl F y)(hyn:y.ns.length≤1000000)(Av:Option Addr)(nv cv:Nat)(vs:List VtD)(hvs:Sl F 15 Av nv cv (qHB vs))(hnv:nv≤100000)(hvo: ∀i,i<vs.length→qSC F (vs.getD i qAN)):Ct prog 11 [Ptr gc,.agg #[N64 (y.ep),Str (y.par),I ((y.dep:Nat):Int),I ((y.aud:Nat):Int),.slice y.nsA y.ns.length y.nsc,.slice Av nv cv]] [blk gc [I ((sl:Nat):Int),I ((nd:Nat):Int),.slice A l.length c] 89,mh,F] (λ_:CaR=>I (qDS (qA1 (l.getD (l.length-1) qAc)) (qA1 y) W sl (2^d) nd vs)) (CaP l y (qDS (qA1 (l.getD (l.length-1) qAc)) (qA1 y) W sl (2^d) nd vs)) (λr=> [blk gc [I ((sl:Nat):Int),I ((nd:Nat):Int),.slice r.A r.hd.length r.c] 89,r.m,F,r.N]):=by
 refine Ct.walk func11 rfl ntmps11 rfl (λw0 hw0=>?_)
 refine J.f λ_ j1=>J.p (qAd O O O) O λg3 _=>J.b O<|J.c j1<|J.k λ_ j2=>J.f λ_ j3=>J.b O<|J.g (qA6 underlying27 O O O) O<|J.c j3<|J.a1 ?_
 refine J.M j2<|J.d4 (X:=Unit) (λζ=> [(0,Ptr gc),(3,Ptr g3)]) (λζ=> [blk gc [I ((sl:Nat):Int),I ((nd:Nat):Int),.slice A l.length c] 89,mh,F,blk g3 [N64 (y.ep),Str (y.par),I ((y.dep:Nat):Int),I ((y.aud:Nat):Int),.slice y.nsA y.ns.length y.nsc,.slice Av nv cv] 50]) (λζ=>(qDS (qA1 (l.getD (l.length-1) qAc)) (qA1 y) W sl (2^d) nd vs)=0) (λ_ j4=>?_) ?_
 ·
  refine J.k λ_ j5=>J.b0 [F,blk g3 [N64 (y.ep),Str (y.par),I ((y.dep:Nat):Int),I ((y.aud:Nat):Int),.slice y.nsA y.ns.length y.nsc,.slice Av nv cv] 50,blk gc [I ((sl:Nat):Int),I ((nd:Nat):Int),.slice A l.length c] 89,mh] [] (.y 0 (.y 1 (.y 3 (.y 5 (.y 6 (.y 7 (.y 8 (.e 2 (.e 4 (.e 9 (.y 10 .nil))))))))))) Tryz.wide (by decide+kernel) (by simp) ?_
  refine J.j O (qAY 1 O O O isAgg50 sizeOf50 O) O O<|J.L ?_
  refine J.L ?_
  refine J.L ?_
  refine J.j O (qAC O O) O O<|J.j O (qAA O O qSc O qNn O) O O<|J.j O (qAX O O qSO qNn (m:=blk gc [I ((sl:Nat):Int),I ((nd:Nat):Int),.slice A l.length c] 89) (by simp) (qAR.blk0.sub 0 2) rfl) rfl rfl<|J.Z rfl (qAB rfl rfl ent30 (Ct.use0 (λF' hF=>qNa F' (gc) sl nd A l.length c l (hR.sl.mono (Fa hF)) h0 (by omega) (qAR.blk0.mono (hF (blk gc [I ((sl:Nat):Int),I ((nd:Nat):Int),.slice A l.length c] 89) (by simp)))))) rfl (by simp) λg11 _=>J.Z rfl (qAB rfl rfl ent16 (Ct.use0 (λF' hF=>(by have:=qXd F' (gc) sl nd A l.length c l (hR.sl.mono (Fa hF)) h0 (by omega) (qAR.blk0.mono (hF (blk gc [I ((sl:Nat):Int),I ((nd:Nat):Int),.slice A l.length c] 89) (by simp)));rw [hac] at this;exact this)))) rfl (by simp) λg13 _=>J.Z rfl (qAB rfl rfl ent29 (Ct.use0 (λF' hF=>qRm F' (hK.mo hF) (qA1 (l.getD (l.length-1) qAc)) (l.getD (l.length-1) qAc).nsA (l.getD (l.length-1) qAc).nsc hg (hxs.mono (Fa hF)) (qA1 y) y.nsA y.nsc hgy (hsy.mono (Fa hF)) hsm d ac sl nd hd (congrArg (λn:Nat=>(n:Int)) hxd) hx h1 h2 h3 h4 W hW Av nv cv vs (hvs.mono (Fa hF)) hnv (λi hi=>(hvo i hi).mono (Fa hF))))) rfl (by simp) λg18 _=>J.b6 ?_
  refine J.a8<|J.u (J.D j5 ?_)
  refine J.f λ_ j6=>J.b O<|J.g (qAe O O O) O<|J.c j6<|J.W O (λh20=>?_) (λh20=>?_)
  ·
   exact J.f λ_ j7=>J.q 2 O<|J.c7 [0,1,2,4] [blk gc [I ((sl:Nat):Int),I ((nd:Nat):Int),.slice A l.length c] 89,mh,F,(λ_=>none)] O (by decide)<|J.c j7<|J.A<|J.V<|J.E hw0 O (⟨l,A,c,mh,λ_=>none⟩:CaR) O ⟨hR,λ_=>rfl,λe=>absurd e h20⟩ [0,1,2,3] O (by decide)
  exact J.b5<|J.u<|J.a4 () j4 ((Decidable.not_not.1 h20)) ⟨O,O,trivial⟩ (λ_ h=>h)
 rintro _ hE
 refine J.f λ_ j8=>J.T 0 qVe qBz O O O O O<|J.g (qAX O O qDT qBz (m:=blk g3 [N64 (y.ep),Str (y.par),I ((y.dep:Nat):Int),I ((y.aud:Nat):Int),.slice y.nsA y.ns.length y.nsc,.slice Av nv cv] 50) (by simp) (qAR.blk0.sub 0 5) rfl) rfl<|J.p (qAL rfl qRU rfl) rfl λg6 _=>J.a6 (qAF (i:=4) (l:= [.int .u64 0,Str [],I 0,I 0,.slice none 0 0]) (vs:= [N64 (y.ep),Str (y.par),I ((y.dep:Nat):Int),I ((y.aud:Nat):Int),.slice y.nsA y.ns.length y.nsc]) rfl rfl rfl rfl rfl qBz rfl rfl) rfl rfl λ_ _=>J.c j8<|J.f λ_ j9=>J.T 4 qDW qBs rfl rfl rfl rfl rfl<|J.a5 4 qB8 rfl rfl rfl rfl rfl<|J.p (qAB rfl rfl ent31 (Ct.use (λF' hF=>qJG F' y.nsA y.ns.length y.nsc y.ns (hsy.mono (Fa hF)) (by omega)))) rfl ?_
 rintro⟨A26,c26,m26⟩ h26
 try dsimp only at h26
 refine J.T 4 qDW qBs O O O O O<|J.a6 (qAW (i:=4) O O O O O qBs O (by simp)) rfl rfl λ_ _=>?_
 change J _ _ _ [_,_,_,_,blk g6 [N64 (y.ep),Str (y.par),I ((y.dep:Nat):Int),I ((y.aud:Nat):Int),.slice A26 y.ns.length c26] 34,_] _
 refine J.c j9<|J.k λ_ j10=>?_
 obtain ⟨x35,hx35⟩: ∃x:RhD,x=⟨y.ep,y.par,y.dep,y.aud,A26,c26,y.ns⟩:=⟨_,rfl⟩
 refine J.b0 [blk gc [I ((sl:Nat):Int),I ((nd:Nat):Int),.slice A l.length c] 89,blk g6 [N64 (y.ep),Str (y.par),I ((y.dep:Nat):Int),I ((y.aud:Nat):Int),.slice A26 y.ns.length c26] 34,F] [10] (.y 0 (.y 1 (.y 2 (.y 3 (.y 4 (.y 5 (.e 6 (.e 7 (.y 8 (.y 9 (.e 10 .nil))))))))))) Tryz.wide (by decide+kernel) (by simp) ?_
 refine J.L ?_
 refine J.L ?_
 refine J.j O (qAC O O) O O<|J.j O (qAA O O qSc O qJS O) O O<|J.j O (qAE 0 O O O qOr O) O O<|J.j O (qAY 1 O O O qDT qBz O) O O<|J.Z O (qAG (l:= [.tmp 33]) (xs:= [[N64 (y.ep),Str (y.par),I ((y.dep:Nat):Int),I ((y.aud:Nat):Int),.slice A26 y.ns.length c26]]) O O O O qFP el34 O (by decide) (by decide) (by simp)) rfl (by simp) λg34 _=>J.Z rfl (qAV (i:=1) (m2:=blk g34 [N64 (y.ep),Str (y.par),I ((y.dep:Nat):Int),I ((y.aud:Nat):Int),.slice A26 y.ns.length c26] 34) rfl rfl rfl qFP qFP el34 rfl hR (by simp) ((qAl (q:=True) (xs:=qCu [(⟨y.ep,y.par,y.dep,y.aud,A26,c26,y.ns⟩:RhD)]) rfl (by intro x hx;rw [List.mem_singleton.1 hx];rfl)).sl) rfl (by omega) (by omega)) rfl (by simp) ?_
 rintro⟨A35,c35,m35⟩ h35
 try dsimp only at h35
 replace h35:Row m35 34 5 A35 (l.length+1) c35 (qCu (l++ [x35])):=by rw [qJt,hx35];exact h35
 rw [show l.length+1=(l++ [x35]).length by rw [jA];rfl] at h35⊢
 refine J.j O (qAC O O) O O<|J.j O (qAA O O qSc O qJS O) O O<|J.c2 O (qAW (i:=0) O O O O O qJS O (by simp)) rfl rfl rfl λ_ _=>J.a8<|J.u (J.D j10 ?_)
 exact J.f λ_ j11=>J.b O<|J.c j11<|J.A<|J.E hw0 O (⟨l++ [x35],A35,c35,m35,m26⟩:CaR) (by rw [hE]) ⟨h35,λe=>absurd hE e,λ_=>⟨A26,c26,by rw [hx35],h26.sl⟩⟩ [0,1,2,5] rfl (by decide)
end Go.Proofs.YtcgcjaflllmlpaaGreatDoor
