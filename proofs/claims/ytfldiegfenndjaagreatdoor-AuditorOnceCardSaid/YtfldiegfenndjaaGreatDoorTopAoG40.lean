/- A part of the proof. -/
import Derived.Test.YtfldiegfenndjaaGreatDoorTopAoG8
import Derived.Test.YtfldiegfenndjaaGreatDoorTopAoG37
import Derived.Test.YtfldiegfenndjaaGreatDoorTopAoG38
import Derived.Test.YtfldiegfenndjaaGreatDoorTopAoG39
set_option linter.unusedSimpArgs false
set_option linter.unusedVariables false
namespace Go.Proofs.YtfldiegfenndjaaGreatDoor
open Go Go.Fw Go.Proofs.Tryz
set_option maxRecDepth 100000
set_option maxHeartbeats 1000000
theorem ent15:qAE prog 15:=qAE.of func15 rfl (by kernel_rfl)
theorem ent23:qAE prog 23:=qAE.of func23 rfl (by kernel_rfl)
theorem ent24:qAE prog 24:=qAE.of func24 rfl (by kernel_rfl)
theorem ent27:qAE prog 27:=qAE.of func27 rfl (by kernel_rfl)
theorem ent29:qAE prog 29:=qAE.of func29 rfl (by kernel_rfl)
theorem ent30:qAE prog 30:=qAE.of func30 rfl (by kernel_rfl)
theorem el52:qCv prog 52 [.int .u64 0,.int .i64 0,Str [],.int .i64 0,.int .i64 0,.slice none 0 0,.slice none 0 0] 96:=qCv.of (by kernel_rfl) rfl
theorem el97:qCv prog 97 [.int .u64 0,.int .i64 0,Str []] 32:=qCv.of (by kernel_rfl) rfl
attribute [local irreducible] Sha.tagged Wo.pub Wo.publicOf Wo.signs Wo.ends Wo.digs Wo.walk Wo.opn Mk.root Mk.path Mk.climb Xm.root sgC sgP qBL prt qAt XM mkB
theorem qNk(F:Hp)(hK:KF F)(A0:Option Addr)(n0 c0:Nat)(acts:List qGg)(hs0:Sl F 4 A0 n0 c0 (qE4 acts))(A1:Option Addr)(n1 c1:Nat)(ks:List UInt8)(hs1:Sl F 1 A1 n1 c1 (qAR ks))(hn0:n0≤9223372036854775807)(hn1:n1≤140737488351232):Ct prog 6 [.slice A0 n0 c0,.slice A1 n1 c1] [F] (λ_:Unit=> .bool true) (λ_=>True) (λ_=> [F]):=by
  have hl0:acts.length=n0:=by have:=hs0.1;rw [qKK] at this;exact this
  have hl1:ks.length=n1:=by have:=hs1.1;simpa [qAR] using this
  have hAD0:=AD.new ks
  obtain ⟨O0,hg0,_⟩:=hAD0.dg
  refine Ct.walk func6 rfl ntmps6 rfl (λw0 hw0=>?_)
  change J _ [(0,_),(1,_)] _ _ _
  refine J.g λK1 hK1=>J.b V<|J.c hK1<|J.E 0 1 ?_
  refine J.k λK2 hK2=>J.g λK3 hK3=>J.q (qAB V V ent15 (Ct.use0 (λF' hF=>qJh F' (hK.mo hF)))) V λg36 _=>J.f (qAw V V) V<|J.c hK3<|J.G 0 1 37 ?_
  refine J.a5 ?_
  refine J.W hK2<|J.E 0 1 ?_
  refine J.g λK4 hK4=>J.q (qAB V V ent16 (Ct.use (new:=λx:Nat×Hp=> [x.2]) (λF' _=>qIp F' 40 (by decide) (by decide)))) V ?_
  rintro⟨gd,md⟩ hb39
  try dsimp only at hb39
  change J _ ((39,.tuple #[Ptr gd,I 0])::_) _ [F,md] _
  have hbD:=hb39
  obtain ⟨A,c,B,e,hc,hsL,hsW⟩:=hb39.see
  refine J.j 5 V<|J.c hK4<|J.G 0 1 5 ?_
  refine J.g λK5 hK5=>J.b V<|J.q (qAB V V ent17 (Ct.use (new:=λr:AoR×Hp=> [r.1.kk,blk r.1.gb (bkC gd 2 (8/2) (XG 2 0) r.1.Ab r.1.cb false) 223,r.1.mb,blk r.1.gs [Ptr r.1.gk,Ptr r.1.gb,I ((0:Nat):Int)] 216,blk r.1.gq (bkC gd 10 15 (XM []) r.1.Aq r.1.cq false) 223,r.1.mq,r.2,blk r.1.ga [Ptr r.1.gs,I ((2^3:Nat):Int),Ptr r.1.gq,.map (some r.1.gm)] 145]) (λF' hF=>qKJ F' (hK.mo hF) gd (Dk.new 40) 2 40 0 O0 hg0 (by decide) V (by decide) (by decide) A c B e none 0 (hc.mono (hF md (by simp))) (hsL.mono (hF md (by simp))) (hsW.mono (hF md (by simp))) [115,101,101,100] (by decide) 3 (by decide) 38 (by decide) (by decide) (XM []) hAD0.half [] (XM_R _) hAD0.good hAD0.once hAD0.two))) rfl ?_
  rintro⟨⟨gk,mk,gb,Ab,cb,mb,gs,gq,Aq,cq,mq,gm,ga⟩,mm⟩ ⟨⟨hk,hbr,hqr⟩,hmm⟩
  change J _ ((44,.tuple #[Ptr ga,I ((0:Nat):Int)])::_) _ [_,_,mk,blk gb (bkC gd 2 (8/2) (XG 2 0) Ab cb false) 223,mb,blk gs [Ptr gk,Ptr gb,I ((0:Nat):Int)] 216,blk gq (bkC gd 10 15 (XM []) Aq cq false) 223,mq,mm,blk ga [Ptr gs,I ((2^3:Nat):Int),Ptr gq,.map (some gm)] 145] _
  dsimp only at hk hbr hqr hmm
  refine J.j 5 V<|J.c hK5<|J.a0 0 1 5 7 8 ?_
  refine J.k λK6 hK6=>J.g λK7 hK7=>J.b V<|J.f ((qAU V V V).no (by decide)) V<|J.c hK7<|J.a0 0 1 5 7 48 ?_
  refine J.a5 ?_
  refine J.W hK6<|J.O 0 1 5 7 ?_
  refine J.g λK8 hK8=>J.q (qAB V V ent18 (Ct.use (new:=λr:RvR=> [r.mh,r.ma,r.G]) (λF' hF=>qIZ F' (hK.mo hF) 3 (by decide)))) V ?_
  rintro⟨hs,ts,An,cn,Ah,ch,mh,Aa,ca,ma,G⟩ ⟨hlen,hnod,hrh,hra,hrok⟩
  change J _ ((50,.tuple #[.agg #[N64 0,Str qAc,I 1,I 0,.slice An (qAN rv0 1).length cn],.slice Ah 3 ch,.slice Aa 3 ca])::_) _ [_,_,_,_,_,_,_,_,_,_,mh,ma,G] _
  dsimp only at hlen hnod hrh hra hrok
  refine J.j 4 V<|J.q (qAO (l:= [.int .u64 0,Str [],I 0,I 0,.slice none 0 0]) V qTL V) V λg9 _=>?_
  change J _ _ _ [_,_,_,_,_,_,_,_,_,_,_,_,_,blk g9 [.int .u64 0,Str [],I 0,I 0,.slice none 0 0] 39] _
  refine J.b1 (qAG (i:=13) (l:= [.int .u64 0,Str [],I 0,I 0,.slice none 0 0]) (vs:= [N64 0,Str qAc,I 1,I 0,.slice An ((qAN rv0 1).length) cn]) V V V V V qCj V V) V V λ_ _=>?_
  change J _ _ _ [_,_,_,_,_,_,_,_,_,_,_,_,_,blk g9 [N64 0,Str qAc,I 1,I 0,.slice An ((qAN rv0 1).length) cn] 39] _
  refine J.j 2 V<|J.c hK8<|J.c5 0 1 5 7 9 10 11 ?_
  refine J.g λK9 hK9=>J.b V<|J.c hK9<|J.d6 0 1 5 7 9 10 11 12 ?_
  refine J.g λK10 hK10=>J.b V<|J.c hK10<|J.e4 0 1 5 7 9 10 11 12 13 ?_
  refine J.d9 (X:=Nat×Mks×Dk×List AtD×Option Addr×Nat×Hp) (λζ=> [(12,.slice ζ.2.2.2.2.1 ζ.2.2.2.1.length ζ.2.2.2.2.2.1)]) (λζ=> [F,ζ.2.2.2.2.2.2]) (λζ=>AD ks ζ.2.2.1 ζ.1 ζ.2.1∧Row ζ.2.2.2.2.2.2 52 7 ζ.2.2.2.2.1 ζ.2.2.2.1.length ζ.2.2.2.2.2.1 (qGO ζ.2.2.2.1)∧ζ.2.2.2.1.length≤14∧Tld ζ.1 ζ.2.1 ζ.2.2.2.1) (λK11 hK11=>?_) ?_
  ·
    refine J.g λK12 hK12=>J.b V<|J.c hK12<|J.f1 0 1 5 7 9 10 11 12 13 14 ?_
    refine J.a1<|J.c1 (X:=Nat×Nat×Mks×Dk×Option Addr×Nat×Hp×Hp×Nat×Nat×Hp×Nat×Option Addr×Nat×Hp×Nat×Option Addr×Nat×Hp×Nat×Hp×Nat×List AtD×Option Addr×Nat×Hp×List MkD×Option Addr×Nat×Hp) (λζ=> [(0,.slice A0 n0 c0),(1,.slice A1 n1 c1),(5,Ptr gd),(7,Ptr ζ.2.2.2.2.2.2.2.2.2.2.2.2.2.2.2.2.2.2.2.2.2.1),(9,Ptr g9),(10,.slice Ah 3 ch),(11,.slice Aa 3 ca),(12,.slice ζ.2.2.2.2.2.2.2.2.2.2.2.2.2.2.2.2.2.2.2.2.2.2.2.1 ζ.2.2.2.2.2.2.2.2.2.2.2.2.2.2.2.2.2.2.2.2.2.2.1.length ζ.2.2.2.2.2.2.2.2.2.2.2.2.2.2.2.2.2.2.2.2.2.2.2.2.1),(13,.slice ζ.2.2.2.2.2.2.2.2.2.2.2.2.2.2.2.2.2.2.2.2.2.2.2.2.2.2.2.1 ζ.2.2.2.2.2.2.2.2.2.2.2.2.2.2.2.2.2.2.2.2.2.2.2.2.2.2.1.length ζ.2.2.2.2.2.2.2.2.2.2.2.2.2.2.2.2.2.2.2.2.2.2.2.2.2.2.2.2.1),(14,I ((ζ.1:Nat):Int))]) (λζ=> [F,ζ.2.2.2.2.2.2.1,ζ.2.2.2.2.2.2.2.1,ζ.2.2.2.2.2.2.2.2.2.2.1,blk ζ.2.2.2.2.2.2.2.2.1 [Ptr ζ.2.2.2.2.2.2.2.2.2.1,Ptr ζ.2.2.2.2.2.2.2.2.2.2.2.1,I ((ζ.2.1:Nat):Int)] 216,ζ.2.2.2.2.2.2.2.2.2.2.2.2.2.2.1,blk ζ.2.2.2.2.2.2.2.2.2.2.2.1 (bkC gd 2 (8/2) (XG 2 ζ.2.1) ζ.2.2.2.2.2.2.2.2.2.2.2.2.1 ζ.2.2.2.2.2.2.2.2.2.2.2.2.2.1 false) 223,blk ζ.2.2.2.2.2.2.2.2.2.2.2.2.2.2.2.1 (bkC gd 10 15 (XM ζ.2.2.1) ζ.2.2.2.2.2.2.2.2.2.2.2.2.2.2.2.2.1 ζ.2.2.2.2.2.2.2.2.2.2.2.2.2.2.2.2.2.1 false) 223,ζ.2.2.2.2.2.2.2.2.2.2.2.2.2.2.2.2.2.2.1,ζ.2.2.2.2.2.2.2.2.2.2.2.2.2.2.2.2.2.2.2.2.1,blk ζ.2.2.2.2.2.2.2.2.2.2.2.2.2.2.2.2.2.2.2.2.2.1 [Ptr ζ.2.2.2.2.2.2.2.2.1,I ((2^3:Nat):Int),Ptr ζ.2.2.2.2.2.2.2.2.2.2.2.2.2.2.2.1,.map (some ζ.2.2.2.2.2.2.2.2.2.2.2.2.2.2.2.2.2.2.2.1)] 145,mh,ma,G,blk g9 [N64 0,Str qAc,I 1,I 0,.slice An (qAN rv0 1).length cn] 39,ζ.2.2.2.2.2.2.2.2.2.2.2.2.2.2.2.2.2.2.2.2.2.2.2.2.2.1,ζ.2.2.2.2.2.2.2.2.2.2.2.2.2.2.2.2.2.2.2.2.2.2.2.2.2.2.2.2.2]) (λζ=>ζ.1≤14∧ζ.2.1≤8∧AD ks ζ.2.2.2.1 ζ.2.1 ζ.2.2.1∧ζ.2.2.2.1.off=false∧Dsk ζ.2.2.2.2.2.2.1 gd ζ.2.2.2.1 ζ.2.2.2.2.1 ζ.2.2.2.2.2.1∧Sl ζ.2.2.2.2.2.2.2.1 1 ζ.2.2.2.2.1 ζ.2.2.2.1.keep.length ζ.2.2.2.2.2.1 (qAR ζ.2.2.2.1.keep)∧ζ.2.2.2.1.keep.length≤140737488351232∧qGR ζ.2.2.2.2.2.2.2.2.2.2.1 ζ.2.2.2.2.2.2.2.2.2.1 [115,101,101,100] 3∧Sl ζ.2.2.2.2.2.2.2.2.2.2.2.2.2.2.1 1 ζ.2.2.2.2.2.2.2.2.2.2.2.2.1 (XG 2 ζ.2.1).R.length ζ.2.2.2.2.2.2.2.2.2.2.2.2.2.1 (qAH (XG 2 ζ.2.1).R)∧Sl ζ.2.2.2.2.2.2.2.2.2.2.2.2.2.2.2.2.2.2.1 1 ζ.2.2.2.2.2.2.2.2.2.2.2.2.2.2.2.2.1 (XM ζ.2.2.1).R.length ζ.2.2.2.2.2.2.2.2.2.2.2.2.2.2.2.2.2.1 (qAH (XM ζ.2.2.1).R)∧qCF plK ζ.2.2.2.2.2.2.2.2.2.2.2.2.2.2.2.2.2.2.2.2.1 ζ.2.2.2.2.2.2.2.2.2.2.2.2.2.2.2.2.2.2.2.1 (mkV (msV ζ.2.2.1))∧Row ζ.2.2.2.2.2.2.2.2.2.2.2.2.2.2.2.2.2.2.2.2.2.2.2.2.2.1 52 7 ζ.2.2.2.2.2.2.2.2.2.2.2.2.2.2.2.2.2.2.2.2.2.2.2.1 ζ.2.2.2.2.2.2.2.2.2.2.2.2.2.2.2.2.2.2.2.2.2.2.1.length ζ.2.2.2.2.2.2.2.2.2.2.2.2.2.2.2.2.2.2.2.2.2.2.2.2.1 (qGO ζ.2.2.2.2.2.2.2.2.2.2.2.2.2.2.2.2.2.2.2.2.2.2.1)∧ζ.2.2.2.2.2.2.2.2.2.2.2.2.2.2.2.2.2.2.2.2.2.2.1.length≤ζ.1∧Row ζ.2.2.2.2.2.2.2.2.2.2.2.2.2.2.2.2.2.2.2.2.2.2.2.2.2.2.2.2.2 97 3 ζ.2.2.2.2.2.2.2.2.2.2.2.2.2.2.2.2.2.2.2.2.2.2.2.2.2.2.2.1 ζ.2.2.2.2.2.2.2.2.2.2.2.2.2.2.2.2.2.2.2.2.2.2.2.2.2.2.1.length ζ.2.2.2.2.2.2.2.2.2.2.2.2.2.2.2.2.2.2.2.2.2.2.2.2.2.2.2.2.1 (qCp ζ.2.2.2.2.2.2.2.2.2.2.2.2.2.2.2.2.2.2.2.2.2.2.2.2.2.2.1)∧ζ.2.2.2.2.2.2.2.2.2.2.2.2.2.2.2.2.2.2.2.2.2.2.2.2.2.2.1.length≤2*ζ.1∧qH9 ζ.2.2.2.2.2.2.2.2.2.2.2.2.2.2.2.2.2.2.2.2.2.2.2.2.2.2.1 ζ.2.2.1∧Tld ζ.2.1 ζ.2.2.1 ζ.2.2.2.2.2.2.2.2.2.2.2.2.2.2.2.2.2.2.2.2.2.2.1) (λζ=>14-ζ.1) (0,0,[],(Dk.new 40),none,0,md,(λ_=>none),gs,gk,mk,gb,Ab,cb,mb,gq,Aq,cq,mq,gm,mm,ga,[],none,0,(λ_=>none),[],none,0,(λ_=>none)) (⟨jF _,jF _,hAD0,V,hbD,Sl.nil,jF _,hk,hbr.sl,hqr.sl,hmm,qBc.nil,jF _,qBc.nil,jF _,λ_ _=>rfl,Tld.nil _ _⟩) ⟨V,V,V,V,V,V,V,V,V,V,trivial⟩ (λ_ h=>h.empty.empty.empty.pick [0,1,14,2,5,4,3,6,7,8,9,10,11,12,13,15,16] (by decide)) ?_
    rintro⟨i,v,ms,D,C,f,md,mkp,gs,gk,mk,gb,A,c,mb,gq,Aq,cq,mq,gm,mm,ga,T,At,ct,mt,M,Am,cm,mr⟩ ⟨hi,hv8,hAD,ho,hb,hkp,hkn,hk,hbs,hqs,hmm,hmt,hTl0,hmr,hMl0,hMI,hTd⟩ I0 hI0
    dsimp only at hi hv8 hAD ho hb hkp hkn hk hbs hqs hmm hmt hTl0 hmr hMl0 hMI hTd⊢
    refine J.k λK13 hK13=>J.g λK14 hK14=>J.j 2 V<|J.f (qAY qTJ V V) V<|J.f (qAT V V V) V<|J.b V<|J.c6 (d:=58) V (λh58=>?_) (λh58=>?_)
    ·
      refine J.b V<|J.T (qAT V V V) V<|J.b V<|J.c hK14<|J.e8 0 1 5 7 9 10 11 12 13 14 61 ?_
      refine J.a4 V (λh61=>?_) (λh61=>?_)
      ·
        refine J.W hK13<|J.f1 0 1 5 7 9 10 11 12 13 14 ?_
        refine J.k λK15 hK15=>J.a1<|J.k λK16 hK16=>?_
        obtain ⟨r,hrr⟩: ∃r,r=(acts.getD i qCg).r.toNat%3:=⟨_,rfl⟩
        obtain ⟨b,hbb⟩: ∃b,b=((acts.getD i qCg).b&&&1).toNat:=⟨_,rfl⟩
        have hr3:r<3:=by rw [hrr];exact Nat.mod_lt _ (by decide)
        have hb2:b<2:=Nat.lt_of_le_of_lt (by rw [hbb,UInt8.toNat_and];exact Nat.and_le_right:b≤1) (by decide)
        have R:=hrok.2 r (show r<hs.length by omega)
        have hlr:=R.len
        have htl:ts.length=3:=by rw [←hrok.1];exact hlen
        refine J.b7 [F,md,mkp,mk,blk gs [Ptr gk,Ptr gb,I ((v:Nat):Int)] 216,mb,blk gb (bkC gd 2 (8/2) (XG 2 v) A c false) 223,blk gq (bkC gd 10 15 (XM ms) Aq cq false) 223,mq,mm,blk ga [Ptr gs,I ((2^3:Nat):Int),Ptr gq,.map (some gm)] 145,mh,ma,G,blk g9 [N64 0,Str qAc,I 1,I 0,.slice An (qAN rv0 1).length cn] 39,mt,mr] [] (.y 0 (.y 1 (.y 2 (.y 3 (.y 4 (.y 5 (.y 6 (.y 7 (.y 8 (.y 9 (.y 10 (.y 11 (.y 12 (.y 13 (.y 14 (.y 15 .nil)))))))))))))))) Tryz.wide (by decide+kernel) (by simp) ?_
        refine J.L ?_
        refine J.L ?_
        refine J.p V (qAF (i:=i) V V V qTJ sizeOf92 hs0 (by omega)) V V<|J.p V (qAz (off:=0) V V qTI V z5_ hs0 (by omega) V) V V<|J.p V (qAL (v:=B8 ((acts.getD i qCg).r)) V V b5_ (m:=F) (by simp) (hs0.part (qCQ (by omega)) 0 1)) rfl rfl<|J.p rfl (qBO rfl rfl u5_ u3_) rfl rfl<|J.p rfl ((qKo rfl rfl rfl (by omega)).as (v':=I ((r:Nat):Int)) (congrArg I (by rw [hrr];omega))) rfl rfl<|J.L ?_
        refine J.L ?_
        refine J.p V (qAF (i:=i) V V V qTJ sizeOf92 hs0 (by omega)) V V<|J.p V (qAz (off:=1) V V qTI V z5_ hs0 (by omega) V) V V<|J.p V (qAL (v:=B8 ((acts.getD i qCg).b)) V V b5_ (m:=F) (by simp) (hs0.part (qCQ (by omega)) 1 1)) rfl rfl<|J.p rfl (qF2 (b:=1) rfl rfl rfl) rfl rfl<|J.p rfl ((qBO rfl rfl u5_ u3_).as (v':=I ((b:Nat):Int)) (congrArg I (by rw [hbb]))) rfl rfl<|J.c3 ?_
        refine J.c3 ?_
        refine J.b3<|J.u (J.M hK16 ?_)
        refine J.f0 0 1 5 7 9 10 11 12 13 14 15 16 ?_
        refine J.d9 (X:=Dk×Option Addr×Nat×Hp×Hp) (λζ=> [(0,.slice A0 n0 c0),(1,.slice A1 n1 c1),(5,Ptr gd),(7,Ptr ga),(9,Ptr g9),(10,.slice Ah 3 ch),(11,.slice Aa 3 ca),(12,.slice At T.length ct),(13,.slice Am M.length cm),(14,I ((i:Nat):Int)),(15,I ((r:Nat):Int)),(16,I ((b:Nat):Int))]) (λζ=> [blk gs [Ptr gk,Ptr gb,I ((v:Nat):Int)] 216,blk gb (bkC gd 2 (8/2) (XG 2 v) A c false) 223,blk gq (bkC gd 10 15 (XM ms) Aq cq false) 223,ζ.2.2.2.1,mm,mb,mq,F,ζ.2.2.2.2,mk,blk ga [Ptr gs,I ((2^3:Nat):Int),Ptr gq,.map (some gm)] 145,mh,ma,G,blk g9 [N64 0,Str qAc,I 1,I 0,.slice An (qAN rv0 1).length cn] 39,mt,mr]) (λζ=>AD ks ζ.1 v ms∧ζ.1.off=false∧Dsk ζ.2.2.2.1 gd ζ.1 ζ.2.1 ζ.2.2.1∧Sl ζ.2.2.2.2 1 ζ.2.1 ζ.1.keep.length ζ.2.2.1 (qAR ζ.1.keep)∧ζ.1.keep.length≤140737488351232) (λK17 hK17=>?_) ?_
        ·
          refine J.g λK18 hK18=>J.j 2 V<|J.f (qAF (i:=i) V V V qTJ sizeOf92 hs0 (by omega)) V<|J.f (qAz (off:=2) V V qTI V z5_ hs0 (by omega) V) V<|J.f (qAL (v:=B8 ((acts.getD i qCg).f)) V V b5_ (m:=F) (by simp) (hs0.part (qCQ (by omega)) 2 1)) rfl<|J.f (qF2 (b:=7) rfl rfl rfl) rfl<|J.f (qAS rfl rfl rfl) rfl<|J.c hK18<|J.e9 0 1 5 7 9 10 11 12 13 14 15 16 84 ?_
          refine J.a4 V (λh84=>?_) (λh84=>?_)
          ·
            obtain ⟨fz,hfz⟩: ∃fz,fz=(UInt8.ofNat (((acts.getD i qCg).f).toNat/2^min 3 8)&&&3).toNat:=⟨_,rfl⟩
            have hfz3:fz≤3:=by rw [hfz,UInt8.toNat_and];exact Nat.and_le_right
            refine J.H<|J.j 3 V<|J.f (qAF (i:=i) V V V qTJ sizeOf92 hs0 (by omega)) V<|J.f (qAz (off:=2) V V qTI V z5_ hs0 (by omega) V) V<|J.f (qAL (v:=B8 ((acts.getD i qCg).f)) V V b5_ (m:=F) (by simp) (hs0.part (qCQ (by omega)) 2 1)) rfl<|J.f (qJq (m:=3) rfl rfl rfl) rfl<|J.f (qF2 (b:=3) rfl rfl rfl) rfl<|J.f ((qBO rfl rfl u5_ u3_).as (v':=I ((fz:Nat):Int)) (congrArg I (by rw [hfz]))) rfl<|J.b rfl<|J.q (qAB rfl rfl ent23 (Ct.use1 1 (m':=λy:Hp×Option Addr×Nat×Hp=>y.1) (new:=λy=> [y.2.2.2]) rfl (λF' hF=>by have:=qSt F' md gd D C f hb hAD.ok ((fz:Nat):Int) ks A1 c1 (by rw [hl1];exact hs1.mono (hF F (by simp))) (by omega);rw [hl1] at this;exact this))) rfl ?_
            rintro⟨m95,C95,f95,k95⟩ ⟨h95,r95⟩
            change J _ _ _ [F,m95,mkp,mk,blk gs [Ptr gk,Ptr gb,I ((v:Nat):Int)] 216,mb,blk gb (bkC gd 2 (8/2) (XG 2 v) A c false) 223,blk gq (bkC gd 10 15 (XM ms) Aq cq false) 223,mq,mm,blk ga [Ptr gs,I ((2^3:Nat):Int),Ptr gq,.map (some gm)] 145,mh,ma,G,blk g9 [N64 0,Str qAc,I 1,I 0,.slice An (qAN rv0 1).length cn] 39,mt,mr,k95] _
            exact J.a8<|J.u<|J.a9 ((D.setFuse fz ks),C95,f95,m95,k95) hK17 (⟨hAD.fuse _ (by omega),ho,h95,by have h:=r95.sl;dsimp only at h⊢;rw [←hl1] at h;exact h,by show ks.length≤_;omega⟩) ⟨rfl,rfl,rfl,rfl,rfl,rfl,rfl,rfl,rfl,rfl,rfl,rfl,trivial⟩ (λ_ h=>h.pick [4,6,7,1,9,5,8,0,17,3,10,11,12,13,14,15,16] (by decide))
          exact J.c0<|J.u<|J.a9 (D,C,f,md,mkp) hK17 (⟨hAD,ho,hb,hkp,hkn⟩) ⟨V,V,V,V,V,V,V,V,V,V,V,V,trivial⟩ (λ_ h=>h.pick [4,6,7,1,9,5,8,0,2,3,10,11,12,13,14,15,16] (by decide))
        rintro⟨D1,C1,f1,md1,mkp1⟩ ⟨hAD1,ho1,hb1,hkp1,hkn1⟩
        dsimp only at hAD1 ho1 hb1 hkp1 hkn1⊢
        refine J.g λK19 hK19=>J.j 2 V<|J.q (qAB V V ent24 (Ct.use0 (λF' hF=>(by have:=qEV F' Am M.length cm M (hmr.sl.mono (hF mr (by simp))) (by omega) 1 ((b:Nat):Int);rw [hMI b hb2] at this;exact this)))) rfl λg99 _=>J.j 5 rfl<|J.c hK19<|J.e1 0 1 5 7 9 10 11 12 13 14 15 16 17 18 ?_
        refine J.g λK20 hK20=>J.b V<|J.q (qAB V V ent21 (Ct.use0 (λF' hF=>qDk F' ga gs gq (2^3) gm (qAP.blk0.mono (hF (blk ga [Ptr gs,I ((2^3:Nat):Int),Ptr gq,.map (some gm)] 145) (by simp))) gk gb v (qAP.blk0.mono (hF (blk gs [Ptr gk,Ptr gb,I ((v:Nat):Int)] 216) (by simp))) (by decide) (by omega)))) rfl λg103 _=>J.b rfl<|J.c hK20<|J.g0 0 1 5 7 9 10 11 12 13 14 15 16 17 18 19 ?_
        refine J.d9 (X:=ATR×Nat) (λζ=> [(0,.slice A0 n0 c0),(1,.slice A1 n1 c1),(5,Ptr gd),(7,Ptr ga),(9,Ptr g9),(10,.slice Ah 3 ch),(11,.slice Aa 3 ca),(12,.slice At T.length ct),(13,.slice Am M.length cm),(14,I ((i:Nat):Int)),(15,I ((r:Nat):Int)),(16,I ((b:Nat):Int)),(17,Str ((qBQ (msV ms) (1,((b:Nat):Int))).getD [])),(18,.bool ((qBQ (msV ms) (1,((b:Nat):Int))).isSome)),(19,I ((2^3-v:Nat):Int)),(20,Ptr ζ.2),(21,I (ζ.1.e))]) (λζ=> [blk gs [Ptr gk,Ptr gb,I ((ζ.1.z.nx:Nat):Int)] 216,blk gb (bkC gd 2 (8/2) ζ.1.z.X ζ.1.z.A ζ.1.z.c ζ.1.z.bad) 223,blk gq (bkC gd 10 15 ζ.1.x.X ζ.1.x.A ζ.1.x.c ζ.1.x.bad) 223,ζ.1.z.md,ζ.1.x.mm,ζ.1.z.N,ζ.1.x.N,F,mkp1,mk,blk ga [Ptr gs,I ((2^3:Nat):Int),Ptr gq,.map (some gm)] 145,mh,ma,G,blk g9 [N64 0,Str qAc,I 1,I 0,.slice An (qAN rv0 1).length cn] 39,mt,mr,ζ.1.z.u,ζ.1.z.w,blk ζ.2 [N64 ζ.1.ep,I ((ζ.1.b:Nat):Int),Str (ζ.1.h),I ((ζ.1.nm:Nat):Int),I ((ζ.1.idx:Nat):Int),.slice ζ.1.P ζ.1.n1 ζ.1.p,.slice ζ.1.Q ζ.1.n2 ζ.1.q] 52]) (λζ=>ATP [115,101,101,100] 3 v gd gm ks ms D1 C1 f1 b r ζ.1) (λK21 hK21=>?_) ?_
        ·
          refine J.b7 [mh,ma,G,blk g9 [N64 0,Str qAc,I 1,I 0,.slice An (qAN rv0 1).length cn] 39] [18,19,100016] (.y 0 (.y 1 (.y 2 (.y 3 (.y 4 (.y 5 (.y 6 (.y 7 (.y 8 (.y 9 (.y 10 (.y 11 (.y 12 (.br (.e 13 (.y 14 (.y 15 (.y 16 (.e 17 (.e 18 (.e 19 .nil))))))) (.e 17 (.e 13 (.y 14 (.y 15 (.y 16 (.e 18 (.e 19 .nil))))))))))))))))))))) Tryz.wide (by decide+kernel) (by simp) ?_
          refine J.L ?_
          refine J.p V (qAm 3 V V V qE0 qCj V) V V<|J.L ?_
          refine J.L ?_
          refine J.p V (qAF (i:=r) V V V qKV qCj hrh.sl (by omega)) V V<|J.p V (qAl (vs:= [N64 1,Str pH.dig,I ((1:Nat):Int),I ((0:Nat):Int),.slice (hs.getD r qBY).nsA (qAN (qBV (UInt8.ofNat r)) 1).length (hs.getD r qBY).nsc]) V V qE0 qCj (m:=mh) (by simp) (by have:=hrh.sl.elem (qC2 (l:=hs) (k:=r) (by omega));rw [R.cells] at this;exact this) rfl) rfl rfl<|J.L ?_
          refine J.L ?_
          refine J.p V (qAF (i:=r) V V V qTR sizeOf80 hra.sl (by omega)) V V<|J.p V (qAL (v:= .slice (ts.getD r qEt).lA (ts.getD r qEt).l.length (ts.getD r qEt).lc) V V isAgg80 (m:=ma) (by simp) (hra.sl.elem (qMu (l:=ts) (k:=r) (by omega)))) rfl rfl<|J.L ?_
          refine J.p V (qAF (i:=b) V V V qTQ qLZ R.tsl (by omega)) V V<|J.p V (qAl (vs:= [I ((b:Nat):Int),I ((1:Nat):Int),Str (rvO (UInt8.ofNat r) b),Str (rvN (UInt8.ofNat r) b),.slice ((ts.getD r qEt).l.getD b qCo).stA ((ts.getD r qEt).l.getD b qCo).st.length ((ts.getD r qEt).l.getD b qCo).stc]) V V isAgg79 qLZ (m:=G) (by simp) (by have:=R.tsl.elem (qIL (l:=(ts.getD r qEt).l) (k:=b) (by omega));rw [(R.trs b (by omega)).cells] at this;exact this) rfl) rfl rfl<|J.f4 ?_ ?_
          ·
            refine J.b2 V (qAB V V ent19 (Ct.useA [blk gs [Ptr gk,Ptr gb,I ((v:Nat):Int)] 216,blk gb (bkC gd 2 (8/2) (XG 2 v) A c false) 223,blk gq (bkC gd 10 15 (XM ms) Aq cq false) 223,md1,mm,mb,mq] [F,mkp1,mk,blk ga [Ptr gs,I ((2^3:Nat):Int),Ptr gq,.map (some gm)] 145,mh,ma,G,blk g9 [N64 0,Str qAc,I 1,I 0,.slice An (qAN rv0 1).length cn] 39,mt,mr] (A':=λr:ATR=> [blk gs [Ptr gk,Ptr gb,I ((r.z.nx:Nat):Int)] 216,blk gb (bkC gd 2 (8/2) r.z.X r.z.A r.z.c r.z.bad) 223,blk gq (bkC gd 10 15 r.x.X r.x.A r.x.c r.x.bad) 223,r.z.md,r.x.mm,r.z.N,r.x.N]) (new:=λr=> [r.z.u,r.z.w]) (λF' hF=>qLV F' md1 mm mb mq (hK.mo hF) r b hb2 hr3 An cn (hnod.mono (hF G (by simp))) (hs.getD r qBY).nsA (hs.getD r qBY).nsc (R.nsl2.mono (hF G (by simp))) ((ts.getD r qEt).l.getD b qCo) ((R.trs b (by omega)).mono (hF G (by simp))) ga gs gq (2^3) gm (qAP.blk0.mono (hF (blk ga [Ptr gs,I ((2^3:Nat):Int),Ptr gq,.map (some gm)] 145) (by simp))) gk gb [115,101,101,100] (by decide) 3 (by decide) (by decide) rfl (hk.mono (hF mk (by simp))) gd v ks D1 ms hAD1 ho1 C1 f1 hb1 (hkp1.mono (hF mkp1 (by simp))) (by omega) Aq cq hqs hmm hv8 A c hbs))) rfl (by simp) ?_
            rintro a ha
            change J _ ((118,.tuple #[.agg #[N64 a.ep,I ((a.b:Nat):Int),Str (a.h),I ((a.nm:Nat):Int),I ((a.idx:Nat):Int),.slice a.P a.n1 a.p,.slice a.Q a.n2 a.q],I a.e])::_) _ [blk gs [Ptr gk,Ptr gb,I ((a.z.nx:Nat):Int)] 216,blk gb (bkC gd 2 (8/2) a.z.X a.z.A a.z.c a.z.bad) 223,blk gq (bkC gd 10 15 a.x.X a.x.A a.x.c a.x.bad) 223,a.z.md,a.x.mm,a.z.N,a.x.N,F,mkp1,mk,blk ga [Ptr gs,I ((2^3:Nat):Int),Ptr gq,.map (some gm)] 145,mh,ma,G,blk g9 [N64 0,Str qAc,I 1,I 0,.slice An (qAN rv0 1).length cn] 39,mt,mr,a.z.u,a.z.w] _
            refine J.L ?_
            refine J.d3 (.agg #[N64 a.ep,I ((a.b:Nat):Int),Str (a.h),I ((a.nm:Nat):Int),I ((a.idx:Nat):Int),.slice a.P a.n1 a.p,.slice a.Q a.n2 a.q]) ?_
            refine J.e6 V (qAk (v:=I (a.e)) V V V) V V V ?_
            refine J.b2 V (qAO (l:= [.int .u64 0,I 0,Str [],I 0,I 0,.slice none 0 0,.slice none 0 0]) V qHu V) V (by simp) λg20 _=>?_
            change J _ _ _ [_,_,_,_,_,_,_,_,_,_,_,_,_,_,_,_,_,_,_,blk g20 [.int .u64 0,I 0,Str [],I 0,I 0,.slice none 0 0,.slice none 0 0] 52] _
            refine J.d2 V (qAG (i:=19) (l:= [.int .u64 0,I 0,Str [],I 0,I 0,.slice none 0 0,.slice none 0 0]) (vs:= [N64 a.ep,I ((a.b:Nat):Int),Str (a.h),I ((a.nm:Nat):Int),I ((a.idx:Nat):Int),.slice a.P a.n1 a.p,.slice a.Q a.n2 a.q]) V V V V V qCi V V) V V V λ_ _=>?_
            change J _ _ _ [_,_,_,_,_,_,_,_,_,_,_,_,_,_,_,_,_,_,_,blk g20 [N64 a.ep,I ((a.b:Nat):Int),Str (a.h),I ((a.nm:Nat):Int),I ((a.idx:Nat):Int),.slice a.P a.n1 a.p,.slice a.Q a.n2 a.q] 52] _
            refine J.e5 V (YOp.eop (qAy V V)) V V V V ?_
            intro _ _
            exact J.b3<|J.u<|J.a9 (a,g20) hK21 (ha) ⟨V,V,V,V,V,V,V,V,V,V,V,V,V,V,V,V,V,trivial⟩ (λ_ h=>h)
          refine J.b2 V (qAO (l:= [.int .u64 0,I 0,Str [],I 0,I 0,.slice none 0 0,.slice none 0 0]) V qHu V) V (by simp) λg20 _=>?_
          change J _ _ _ [blk gs [Ptr gk,Ptr gb,I ((v:Nat):Int)] 216,blk gb (bkC gd 2 (8/2) (XG 2 v) A c false) 223,blk gq (bkC gd 10 15 (XM ms) Aq cq false) 223,md1,mm,mb,mq,F,mkp1,mk,blk ga [Ptr gs,I ((2^3:Nat):Int),Ptr gq,.map (some gm)] 145,mh,ma,G,blk g9 [N64 0,Str qAc,I 1,I 0,.slice An (qAN rv0 1).length cn] 39,mt,mr,blk g20 [.int .u64 0,I 0,Str [],I 0,I 0,.slice none 0 0,.slice none 0 0] 52] _
          refine J.b2 V (qAB V V ent19 (Ct.useA [blk gs [Ptr gk,Ptr gb,I ((v:Nat):Int)] 216,blk gb (bkC gd 2 (8/2) (XG 2 v) A c false) 223,blk gq (bkC gd 10 15 (XM ms) Aq cq false) 223,md1,mm,mb,mq] [F,mkp1,mk,blk ga [Ptr gs,I ((2^3:Nat):Int),Ptr gq,.map (some gm)] 145,mh,ma,G,blk g9 [N64 0,Str qAc,I 1,I 0,.slice An (qAN rv0 1).length cn] 39,mt,mr,blk g20 [.int .u64 0,I 0,Str [],I 0,I 0,.slice none 0 0,.slice none 0 0] 52] (A':=λr:ATR=> [blk gs [Ptr gk,Ptr gb,I ((r.z.nx:Nat):Int)] 216,blk gb (bkC gd 2 (8/2) r.z.X r.z.A r.z.c r.z.bad) 223,blk gq (bkC gd 10 15 r.x.X r.x.A r.x.c r.x.bad) 223,r.z.md,r.x.mm,r.z.N,r.x.N]) (new:=λr=> [r.z.u,r.z.w]) (λF' hF=>qLV F' md1 mm mb mq (hK.mo hF) r b hb2 hr3 An cn (hnod.mono (hF G (by simp))) (hs.getD r qBY).nsA (hs.getD r qBY).nsc (R.nsl2.mono (hF G (by simp))) ((ts.getD r qEt).l.getD b qCo) ((R.trs b (by omega)).mono (hF G (by simp))) ga gs gq (2^3) gm (qAP.blk0.mono (hF (blk ga [Ptr gs,I ((2^3:Nat):Int),Ptr gq,.map (some gm)] 145) (by simp))) gk gb [115,101,101,100] (by decide) 3 (by decide) (by decide) rfl (hk.mono (hF mk (by simp))) gd v ks D1 ms hAD1 ho1 C1 f1 hb1 (hkp1.mono (hF mkp1 (by simp))) (by omega) Aq cq hqs hmm hv8 A c hbs))) rfl (by simp) ?_
          rintro a ha
          change J _ ((118,.tuple #[.agg #[N64 a.ep,I ((a.b:Nat):Int),Str (a.h),I ((a.nm:Nat):Int),I ((a.idx:Nat):Int),.slice a.P a.n1 a.p,.slice a.Q a.n2 a.q],I a.e])::_) _ [blk gs [Ptr gk,Ptr gb,I ((a.z.nx:Nat):Int)] 216,blk gb (bkC gd 2 (8/2) a.z.X a.z.A a.z.c a.z.bad) 223,blk gq (bkC gd 10 15 a.x.X a.x.A a.x.c a.x.bad) 223,a.z.md,a.x.mm,a.z.N,a.x.N,_,_,_,_,_,_,_,_,_,_,_,a.z.u,a.z.w] _
          refine J.L ?_
          refine J.d3 (.agg #[N64 a.ep,I ((a.b:Nat):Int),Str (a.h),I ((a.nm:Nat):Int),I ((a.idx:Nat):Int),.slice a.P a.n1 a.p,.slice a.Q a.n2 a.q]) ?_
          refine J.e6 V (qAk (v:=I (a.e)) V V V) V V V ?_
          refine J.d2 V (qAG (i:=17) (l:= [.int .u64 0,I 0,Str [],I 0,I 0,.slice none 0 0,.slice none 0 0]) (vs:= [N64 a.ep,I ((a.b:Nat):Int),Str (a.h),I ((a.nm:Nat):Int),I ((a.idx:Nat):Int),.slice a.P a.n1 a.p,.slice a.Q a.n2 a.q]) V V V V V qCi V V) V V V λ_ _=>?_
          change J _ _ _ [_,_,_,_,_,_,_,_,_,_,_,_,_,_,_,_,_,blk g20 [N64 a.ep,I ((a.b:Nat):Int),Str (a.h),I ((a.nm:Nat):Int),I ((a.idx:Nat):Int),.slice a.P a.n1 a.p,.slice a.Q a.n2 a.q] 52,_,_] _
          refine J.e5 V (YOp.eop (qAy V V)) V V V V ?_
          intro _ _
          exact J.b3<|J.u<|J.a9 (a,g20) hK21 (ha) ⟨V,V,V,V,V,V,V,V,V,V,V,V,V,V,V,V,V,trivial⟩ (λ_ h=>h.pick [0,1,2,3,4,5,6,7,8,9,10,11,12,13,14,15,16,18,19,17] (by decide))
        rintro⟨a,g20⟩ ha
        dsimp only at ha⊢
        obtain ⟨A4,c4,B4,e4,hc4,hL4,hW4⟩:=ha.dsk.see
        refine J.g λK22 hK22=>J.b V<|J.c hK22<|J.j0 0 1 5 7 9 10 11 12 13 14 15 16 17 18 19 20 21 22 ?_
        refine J.d9 (X:=Nat) (λζ=> [(0,.slice A0 n0 c0),(1,.slice A1 n1 c1),(5,Ptr gd),(7,Ptr ga),(9,Ptr g9),(10,.slice Ah 3 ch),(11,.slice Aa 3 ca),(12,.slice At T.length ct),(13,.slice Am M.length cm),(14,I ((i:Nat):Int)),(15,I ((r:Nat):Int)),(16,I ((b:Nat):Int)),(20,Ptr g20),(21,I (a.e)),(22,I ((ζ:Nat):Int))]) (λζ=> [blk gs [Ptr gk,Ptr gb,I ((a.z.nx:Nat):Int)] 216,blk gb (bkC gd 2 (8/2) a.z.X a.z.A a.z.c a.z.bad) 223,blk gq (bkC gd 10 15 a.x.X a.x.A a.x.c a.x.bad) 223,a.z.md,a.x.mm,a.z.N,a.x.N,F,mkp1,mk,blk ga [Ptr gs,I ((2^3:Nat):Int),Ptr gq,.map (some gm)] 145,mh,ma,G,blk g9 [N64 0,Str qAc,I 1,I 0,.slice An (qAN rv0 1).length cn] 39,mt,mr,a.z.u,a.z.w,blk g20 [N64 a.ep,I ((a.b:Nat):Int),Str (a.h),I ((a.nm:Nat):Int),I ((a.idx:Nat):Int),.slice a.P a.n1 a.p,.slice a.Q a.n2 a.q] 52]) (λζ=>Wnt ζ v ms b r) (λK23 hK23=>?_) ?_
        ·
          refine J.g λK24 hK24=>J.j 2 V<|J.f6 (d:=122) V (λh122=>?_) (λh122=>?_)
          ·
            refine J.j 3 V<|J.T (qAF (i:=r) V V V qKV qCj hrh.sl (by omega)) V<|J.T (qAl (vs:= [N64 1,Str pH.dig,I ((1:Nat):Int),I ((0:Nat):Int),.slice (hs.getD r qBY).nsA (qAN (qBV (UInt8.ofNat r)) 1).length (hs.getD r qBY).nsc]) V V qE0 qCj (m:=mh) (by simp) (by have:=hrh.sl.elem (qC2 (l:=hs) (k:=r) (by omega));rw [R.cells] at this;exact this) rfl) rfl<|J.e0 (qAB rfl rfl ent11 (Ct.use0 (λF' hF=>qA2 F' (hK.mo hF) (hH (UInt8.ofNat r)) (hs.getD r qBY).nsA (hs.getD r qBY).nsc (qBz _) (R.nsl2.mono (hF G (by simp)))))) rfl λg128 _=>J.T (qBv rfl rfl rfl) rfl<|J.b rfl<|J.c hK24<|J.i1 0 1 5 7 9 10 11 12 13 14 15 16 19 20 21 22 130 ?_
            refine J.a4 V (λh130=>?_) (λh130=>?_)
            ·
              exact J.H<|J.b V<|J.a8<|J.u<|J.a9 (19) hK23 (.inl ⟨V,h122,h130⟩) ⟨V,V,V,V,V,V,V,V,V,V,V,V,V,V,V,trivial⟩ (λ_ h=>h)
            refine J.g λK25 hK25=>J.b V<|J.f (qAS V V V) V<|J.c hK25<|J.g8 0 1 5 7 9 10 11 12 13 14 15 16 20 21 22 132 ?_
            refine J.a4 V (λh132=>?_) (λh132=>?_)
            ·
              exact J.H<|J.b V<|J.a8<|J.u<|J.a9 (11) hK23 (.inr (.inl ⟨V,λh=>h130 h.2,by omega⟩)) ⟨V,V,V,V,V,V,V,V,V,V,V,V,V,V,V,trivial⟩ (λ_ h=>h)
            exact J.c0<|J.u<|J.a9 (0) hK23 (.inr (.inr ⟨V,λh=>h130 h.2,by omega⟩)) ⟨V,V,V,V,V,V,V,V,V,V,V,V,V,V,V,trivial⟩ (λ_ h=>h)
          refine J.j 8 V<|J.c hK24<|J.i1 0 1 5 7 9 10 11 12 13 14 15 16 19 20 21 22 130 ?_
          refine J.a5 ?_
          refine J.g λK26 hK26=>J.b V<|J.f (qAS V V V) V<|J.c hK26<|J.g8 0 1 5 7 9 10 11 12 13 14 15 16 20 21 22 132 ?_
          refine J.a4 V (λh132=>?_) (λh132=>?_)
          ·
            exact J.H<|J.b V<|J.a8<|J.u<|J.a9 (11) hK23 (.inr (.inl ⟨V,λh=>absurd (h122.symm.trans h.1) (by decide),by omega⟩)) ⟨V,V,V,V,V,V,V,V,V,V,V,V,V,V,V,trivial⟩ (λ_ h=>h)
          exact J.c0<|J.u<|J.a9 (0) hK23 (.inr (.inr ⟨V,λh=>absurd (h122.symm.trans h.1) (by decide),by omega⟩)) ⟨V,V,V,V,V,V,V,V,V,V,V,V,V,V,V,trivial⟩ (λ_ h=>h)
        rintro w hw
        refine J.d9 (X:=Nat×Mks×List AtD×Option Addr×Nat×Hp×List MkD×Option Addr×Nat×Hp) (λζ=> [(0,.slice A0 n0 c0),(1,.slice A1 n1 c1),(5,Ptr gd),(7,Ptr ga),(9,Ptr g9),(10,.slice Ah 3 ch),(11,.slice Aa 3 ca),(12,.slice ζ.2.2.2.1 ζ.2.2.1.length ζ.2.2.2.2.1),(13,.slice ζ.2.2.2.2.2.2.2.1 ζ.2.2.2.2.2.2.1.length ζ.2.2.2.2.2.2.2.2.1),(14,I ((i:Nat):Int)),(15,I ((r:Nat):Int)),(16,I ((b:Nat):Int)),(22,I ((w:Nat):Int))]) (λζ=> [blk gs [Ptr gk,Ptr gb,I ((a.z.nx:Nat):Int)] 216,blk gb (bkC gd 2 (8/2) a.z.X a.z.A a.z.c a.z.bad) 223,blk gq (bkC gd 10 15 a.x.X a.x.A a.x.c a.x.bad) 223,a.z.md,a.x.mm,a.z.N,a.x.N,F,mkp1,mk,blk ga [Ptr gs,I ((2^3:Nat):Int),Ptr gq,.map (some gm)] 145,mh,ma,G,blk g9 [N64 0,Str qAc,I 1,I 0,.slice An (qAN rv0 1).length cn] 39,ζ.2.2.2.2.2.1,ζ.2.2.2.2.2.2.2.2.2]) (λζ=>ζ.1≤8∧AD ks a.z.D ζ.1 ζ.2.1∧(a.z.D.off=false→Liv ks gm ζ.1 ζ.2.1 a.x a.z)∧Pnd ζ.2.2.2.2.2.2.1 ζ.2.1 b r w a.z.D.off∧Row ζ.2.2.2.2.2.1 52 7 ζ.2.2.2.1 ζ.2.2.1.length ζ.2.2.2.2.1 (qGO ζ.2.2.1)∧ζ.2.2.1.length≤i+1∧Row ζ.2.2.2.2.2.2.2.2.2 97 3 ζ.2.2.2.2.2.2.2.1 ζ.2.2.2.2.2.2.1.length ζ.2.2.2.2.2.2.2.2.1 (qCp ζ.2.2.2.2.2.2.1)∧ζ.2.2.2.2.2.2.1.length≤2*i+1∧Tld ζ.1 ζ.2.1 ζ.2.2.1) (λK27 hK27=>?_) ?_
        ·
          refine J.g λK28 hK28=>J.b V<|J.f (qAS V V V) V<|J.b V<|J.c6 (d:=135) V (λh135=>?_) (λh135=>?_)
          ·
            refine J.b V<|J.T ((qAS V V V).yes (by have:=ha.w0 hw h135;omega)) V<|J.b V<|J.c hK28<|J.g8 0 1 5 7 9 10 11 12 13 14 15 16 20 21 22 138 ?_
            refine J.c7 ?_
            refine J.k λK29 hK29=>?_
            have hg:=ha.ok h135
            rw [hg.ep,hg.eb,hg.eh,hg.nm,hg.idx,hg.n1,hg.n2]
            obtain ⟨xt,hxt⟩: ∃x:AtD,x=⟨1,((b:Nat):Int),(hH (UInt8.ofNat r)).dig,((1:Nat):Int),((v:Nat):Int),a.P,a.p,(sgC [115,101,101,100] v (atM 1 b 1 (hH (UInt8.ofNat r)).dig)),a.Q,a.q,(sgP [115,101,101,100] 3 v)⟩:=⟨_,rfl⟩
            obtain ⟨xm,hxm⟩: ∃x:MkD,x=⟨1,((b:Nat):Int),(hH (UInt8.ofNat r)).dig⟩:=⟨_,rfl⟩
            refine J.H<|J.b V<|J.c8 19 qGM qCi V V V V V<|J.q (qAJ (l:= [.tmp 140]) (xs:= [[N64 1,I ((b:Nat):Int),Str ((hH (UInt8.ofNat r)).dig),I ((1:Nat):Int),I ((v:Nat):Int),.slice a.P (sgC [115,101,101,100] v (atM 1 b 1 (hH (UInt8.ofNat r)).dig)).length a.p,.slice a.Q (sgP [115,101,101,100] 3 v).length a.q]]) V V V V qQf el52 V (by decide) (by decide) (by simp)) rfl λg141 _=>?_
            change J _ _ _ [blk gs [Ptr gk,Ptr gb,I ((a.z.nx:Nat):Int)] 216,blk gb (bkC gd 2 (8/2) a.z.X a.z.A a.z.c a.z.bad) 223,blk gq (bkC gd 10 15 a.x.X a.x.A a.x.c a.x.bad) 223,a.z.md,a.x.mm,a.z.N,a.x.N,F,mkp1,mk,blk ga [Ptr gs,I ((2^3:Nat):Int),Ptr gq,.map (some gm)] 145,mh,ma,G,blk g9 [N64 0,Str qAc,I 1,I 0,.slice An (qAN rv0 1).length cn] 39,mt,mr,a.z.u,a.z.w,blk g20 [N64 1,I ((b:Nat):Int),Str ((hH (UInt8.ofNat r)).dig),I ((1:Nat):Int),I ((v:Nat):Int),.slice a.P (sgC [115,101,101,100] v (atM 1 b 1 (hH (UInt8.ofNat r)).dig)).length a.p,.slice a.Q (sgP [115,101,101,100] 3 v).length a.q] 52,blk g141 [N64 1,I ((b:Nat):Int),Str ((hH (UInt8.ofNat r)).dig),I ((1:Nat):Int),I ((v:Nat):Int),.slice a.P (sgC [115,101,101,100] v (atM 1 b 1 (hH (UInt8.ofNat r)).dig)).length a.p,.slice a.Q (sgP [115,101,101,100] 3 v).length a.q] 52] _
            refine J.q (qAa (i:=15) (xs:=qGO T) (m2:=blk g141 [N64 1,I ((b:Nat):Int),Str ((hH (UInt8.ofNat r)).dig),I ((1:Nat):Int),I ((v:Nat):Int),.slice a.P (sgC [115,101,101,100] v (atM 1 b 1 (hH (UInt8.ofNat r)).dig)).length a.p,.slice a.Q (sgP [115,101,101,100] 3 v).length a.q] 52) (ys:= [[N64 1,I ((b:Nat):Int),Str ((hH (UInt8.ofNat r)).dig),I ((1:Nat):Int),I ((v:Nat):Int),.slice a.P (sgC [115,101,101,100] v (atM 1 b 1 (hH (UInt8.ofNat r)).dig)).length a.p,.slice a.Q (sgP [115,101,101,100] 3 v).length a.q]]) V V V qQf qQf el52 V hmt (by simp) ((qAs (q:=True) (xs:=qGO [(⟨1,((b:Nat):Int),(hH (UInt8.ofNat r)).dig,((1:Nat):Int),((v:Nat):Int),a.P,a.p,(sgC [115,101,101,100] v (atM 1 b 1 (hH (UInt8.ofNat r)).dig)),a.Q,a.q,(sgP [115,101,101,100] 3 v)⟩:AtD)]) rfl (by intro x hx;rw [List.mem_singleton.1 hx];rfl)).sl) rfl (by omega) (by omega)) rfl ?_
            rintro⟨A142,c142,m142⟩ h142
            try dsimp only at h142
            change J _ ((142,.slice A142 (T.length+1) c142)::_) _ [_,_,_,_,_,_,_,_,_,_,_,_,_,_,_,m142,_,_,_,_,_] _
            replace h142:Row m142 52 7 A142 (T.length+1) c142 (qGO (T++ [xt])):=by rw [qMU,hxt];exact h142
            rw [show T.length+1=(T++ [xt]).length by rw [jA];rfl] at h142⊢
            refine J.b V<|J.c hK29<|J.e1 0 1 5 7 9 10 11 12 13 14 15 16 20 22 ?_
            refine J.g λK30 hK30=>J.j 4 V<|J.f (qAF (i:=r) V V V qKV qCj hrh.sl (by omega)) V<|J.f (qAl (vs:= [N64 1,Str pH.dig,I ((1:Nat):Int),I ((0:Nat):Int),.slice (hs.getD r qBY).nsA (qAN (qBV (UInt8.ofNat r)) 1).length (hs.getD r qBY).nsc]) V V qE0 qCj (m:=mh) (by simp) (by have:=hrh.sl.elem (qC2 (l:=hs) (k:=r) (by omega));rw [R.cells] at this;exact this) rfl) rfl<|J.q (qAB rfl rfl ent11 (Ct.use0 (λF' hF=>qA2 F' (hK.mo hF) (hH (UInt8.ofNat r)) (hs.getD r qBY).nsA (hs.getD r qBY).nsc (qBz _) (R.nsl2.mono (hF G (by simp)))))) rfl λg149 _=>J.f (qAK (l:= [(0,.const ((Value.int IntKind.u64 1))),(1,.tmp 144),(2,.tmp 149)]) (vs:= [N64 (1),I ((b:Nat):Int),Str ((hH (UInt8.ofNat r)).dig)]) (places:= [(0,1),(1,1),(2,1)]) (r:= [N64 (1),I ((b:Nat):Int),Str ((hH (UInt8.ofNat r)).dig)]) rfl rfl rfl qTH zeroValue97 (λ_=>by kernel_rfl) rfl) rfl<|J.q (qAJ (l:= [.tmp 150]) (xs:= [[N64 (1),I ((b:Nat):Int),Str ((hH (UInt8.ofNat r)).dig)]]) rfl rfl rfl rfl qLd el97 rfl (by decide) (by decide) (by simp)) rfl λg151 _=>?_
            change J _ _ _ [_,_,_,_,_,_,_,_,_,_,_,_,_,_,_,_,_,_,_,_,_,blk g151 [N64 (1),I ((b:Nat):Int),Str ((hH (UInt8.ofNat r)).dig)] 97] _
            refine J.q (qAa (i:=16) (xs:=qCp M) (m2:=blk g151 [N64 (1),I ((b:Nat):Int),Str ((hH (UInt8.ofNat r)).dig)] 97) (ys:= [[N64 (1),I ((b:Nat):Int),Str ((hH (UInt8.ofNat r)).dig)]]) V V V qLd qLd el97 V hmr (by simp) ((qAs (q:=True) (xs:=qCp [(⟨1,((b:Nat):Int),(hH (UInt8.ofNat r)).dig⟩:MkD)]) rfl (by intro x hx;rw [List.mem_singleton.1 hx];rfl)).sl) rfl (by omega) (by omega)) rfl ?_
            rintro⟨A152,c152,m152⟩ h152
            try dsimp only at h152
            change J _ ((152,.slice A152 (M.length+1) c152)::_) _ [_,_,_,_,_,_,_,_,_,_,_,_,_,_,_,_,m152,_,_,_,_,_] _
            replace h152:Row m152 97 3 A152 (M.length+1) c152 (qCp (M++ [xm])):=by rw [qEu,hxm];exact h152
            rw [show M.length+1=(M++ [xm]).length by rw [jA];rfl] at h152⊢
            refine J.b V<|J.c hK30<|J.e1 0 1 5 7 9 10 11 12 13 14 15 16 20 22 ?_
            refine J.k λK31 hK31=>J.b7 [blk gs [Ptr gk,Ptr gb,I ((a.z.nx:Nat):Int)] 216,blk gb (bkC gd 2 (8/2) a.z.X a.z.A a.z.c a.z.bad) 223,blk gq (bkC gd 10 15 a.x.X a.x.A a.x.c a.x.bad) 223,a.z.md,a.x.mm,a.z.N,a.x.N,F,mkp1,mk,blk ga [Ptr gs,I ((2^3:Nat):Int),Ptr gq,.map (some gm)] 145,mh,ma,G,blk g9 [N64 0,Str qAc,I 1,I 0,.slice An (qAN rv0 1).length cn] 39,m142,m152,a.z.u,a.z.w,blk g20 [N64 1,I ((b:Nat):Int),Str ((hH (UInt8.ofNat r)).dig),I ((1:Nat):Int),I ((v:Nat):Int),.slice a.P (sgC [115,101,101,100] v (atM 1 b 1 (hH (UInt8.ofNat r)).dig)).length a.p,.slice a.Q (sgP [115,101,101,100] 3 v).length a.q] 52,blk g141 [N64 1,I ((b:Nat):Int),Str ((hH (UInt8.ofNat r)).dig),I ((1:Nat):Int),I ((v:Nat):Int),.slice a.P (sgC [115,101,101,100] v (atM 1 b 1 (hH (UInt8.ofNat r)).dig)).length a.p,.slice a.Q (sgP [115,101,101,100] 3 v).length a.q] 52,blk g151 [N64 (1),I ((b:Nat):Int),Str ((hH (UInt8.ofNat r)).dig)] 97] [] (.y 0 (.y 1 (.y 2 (.y 3 (.y 4 (.e 5 (.e 6 (.y 7 (.y 8 (.y 9 (.y 10 (.y 11 (.y 12 (.y 13 (.y 14 (.y 15 (.e 16 (.y 17 (.y 18 (.y 19 (.y 20 (.y 21 (.y 22 (.y 23 (.y 24 (.y 25 (.y 26 (.y 27 (.y 28 (.y 29 .nil)))))))))))))))))))))))))))))) Tryz.wide (by decide+kernel) (by simp) ?_
            refine J.L ?_
            refine J.p V (qAT V V V) V V<|J.L ?_
            refine J.c6 (d:=155) V (λh155=>?_) (λh155=>?_)
            ·
              refine J.V V (qAm 19 V V V qGM qCi V) V V<|J.V V (qAb V V) V V<|J.e2 V (qAB V V ent26 (Ct.use0 (λF' hF=>qD8 F' ga gs gq (2^3) gm (qAP.blk0.mono (hF (blk ga [Ptr gs,I ((2^3:Nat):Int),Ptr gq,.map (some gm)] 145) (by simp))) gk gb (a.z.nx) (qAP.blk0.mono (hF (blk gs [Ptr gk,Ptr gb,I ((a.z.nx:Nat):Int)] 216) (by simp))) [115,101,101,100] 3 (hk.mono (hF mk (by simp))) (by decide) (by decide)))) (Wan.is rfl rfl rfl rfl rfl) rfl rfl (by simp) ?_
              intro g158 _
              refine J.e2 V (qAB V V ent25 (Ct.use0 (λF' hF=>qH7 F' (hK.mo hF) 1 b 1 (hH (UInt8.ofNat r)).dig (by decide) (by omega) (by decide) (qBs (qCN _)) [115,101,101,100] 3 v a.P (sgC [115,101,101,100] v (atM 1 b 1 (hH (UInt8.ofNat r)).dig)).length a.p (hg.u.mono (hF a.z.u (by simp))) a.Q (sgP [115,101,101,100] 3 v).length a.q (hg.w.mono (hF a.z.w (by simp))) (by decide) hg.vv))) (Wan.is rfl rfl rfl rfl rfl) rfl rfl (by simp) ?_
              intro g159 _
              refine J.V V (qAw V V) V V<|J.d1 ?_
              refine J.L ?_
              refine J.V V (qAA (j:=2) V V qCa V z9_ V) V V<|J.V V (qAD 19 (v:=Str ((hH (UInt8.ofNat r)).dig)) V V V b9_ V) V V<|J.V V (qAb V V) V V<|J.V V (qAb V V) V V<|J.V V (qAF (i:=r) V V V qKV qCj hrh.sl (by omega)) V V<|J.V V (qAl (vs:= [N64 1,Str pH.dig,I ((1:Nat):Int),I ((0:Nat):Int),.slice (hs.getD r qBY).nsA (qAN (qBV (UInt8.ofNat r)) 1).length (hs.getD r qBY).nsc]) V V qE0 qCj (m:=mh) (by simp) (by have:=hrh.sl.elem (qC2 (l:=hs) (k:=r) (by omega));rw [R.cells] at this;exact this) rfl) rfl rfl<|J.e2 rfl (qAB rfl rfl ent11 (Ct.use0 (λF' hF=>qA2 F' (hK.mo hF) (hH (UInt8.ofNat r)) (hs.getD r qBY).nsA (hs.getD r qBY).nsc (qBz _) (R.nsl2.mono (hF G (by simp)))))) (Wan.is rfl rfl rfl rfl rfl) rfl rfl (by simp) ?_
              intro g169 _
              refine J.V V ((qBv V V V).no (λh=>h V)) V V<|J.d5 ?_
              refine J.L ?_
              refine J.V V (qAA (j:=1) V V qCa V z3_ V) V V<|J.V V (qAD 19 (v:=I ((b:Nat):Int)) V V V b3_ V) V V<|J.V V (qAb V V) V V<|J.V V ((qAU V V V).no (λh=>h V)) V V<|J.d5 ?_
              refine J.L ?_
              refine J.V V (qAA (j:=0) V V qCa V qCG V) V V<|J.V V (qAD 19 (v:=N64 1) V V V qCZ V) V V<|J.V V ((qAU V V V).no (λh=>h V)) V V<|J.d5 ?_
              refine J.b3<|J.u (J.M hK31 ?_)
              refine J.e1 0 1 5 7 9 10 11 12 13 14 15 16 22 182 ?_
              refine J.a5 ?_
              exact J.c0<|J.u<|J.a9 ((v+1),a.x.ms,(T++ [xt]),A142,c142,m142,(M++ [xm]),A152,c152,m152) hK27 (⟨by have:=hg.vv;dsimp only;omega,hg.liv.ad,λ_=>hg.liv,.inl (by rw [hxm];exact hMI.grow hAD1.once hg.grow),h142,by rw [jA];show _+1≤_;omega,h152,by rw [jA];show _+1≤_;omega,(hTd.le (jJ v) hg.mem.2).snoc hg.mem.1 (by rw [hxt]) (by rw [hxt];rfl) (by rw [hxt]) (by rw [hxt]) (by rw [hxt])⟩) ⟨rfl,rfl,rfl,rfl,rfl,rfl,rfl,rfl,rfl,rfl,rfl,rfl,rfl,trivial⟩ (λ_ h=>h.pick [0,1,2,3,4,5,6,7,8,9,10,11,12,13,14,15,16] (by decide))
            refine J.a3 ?_
            refine J.a3 ?_
            refine J.h3 V (Wan.is V V V V V) V V (by simp)<|J.h3 rfl (Wan.is rfl rfl rfl rfl rfl) rfl rfl (by simp)<|J.a3 ?_
            refine J.d5 ?_
            refine J.L ?_
            refine J.V V (qAA (j:=2) V V qCa V z9_ V) V V<|J.V V (qAD 19 (v:=Str ((hH (UInt8.ofNat r)).dig)) V V V b9_ V) V V<|J.V V (qAb V V) V V<|J.V V (qAb V V) V V<|J.V V (qAF (i:=r) V V V qKV qCj hrh.sl (by omega)) V V<|J.V V (qAl (vs:= [N64 1,Str pH.dig,I ((1:Nat):Int),I ((0:Nat):Int),.slice (hs.getD r qBY).nsA (qAN (qBV (UInt8.ofNat r)) 1).length (hs.getD r qBY).nsc]) V V qE0 qCj (m:=mh) (by simp) (by have:=hrh.sl.elem (qC2 (l:=hs) (k:=r) (by omega));rw [R.cells] at this;exact this) rfl) rfl rfl<|J.e2 rfl (qAB rfl rfl ent11 (Ct.use0 (λF' hF=>qA2 F' (hK.mo hF) (hH (UInt8.ofNat r)) (hs.getD r qBY).nsA (hs.getD r qBY).nsc (qBz _) (R.nsl2.mono (hF G (by simp)))))) (Wan.is rfl rfl rfl rfl rfl) rfl rfl (by simp) ?_
            intro g169 _
            refine J.V V ((qBv V V V).no (λh=>h V)) V V<|J.d5 ?_
            refine J.L ?_
            refine J.V V (qAA (j:=1) V V qCa V z3_ V) V V<|J.V V (qAD 19 (v:=I ((b:Nat):Int)) V V V b3_ V) V V<|J.V V (qAb V V) V V<|J.V V ((qAU V V V).no (λh=>h V)) V V<|J.d5 ?_
            refine J.L ?_
            refine J.V V (qAA (j:=0) V V qCa V qCG V) V V<|J.V V (qAD 19 (v:=N64 1) V V V qCZ V) V V<|J.V V ((qAU V V V).no (λh=>h V)) V V<|J.d5 ?_
            refine J.b3<|J.u (J.M hK31 ?_)
            refine J.e1 0 1 5 7 9 10 11 12 13 14 15 16 22 182 ?_
            refine J.a5 ?_
            exact J.c0<|J.u<|J.a9 ((v+1),a.x.ms,(T++ [xt]),A142,c142,m142,(M++ [xm]),A152,c152,m152) hK27 (⟨by have:=hg.vv;dsimp only;omega,hg.liv.ad,λ_=>hg.liv,.inl (by rw [hxm];exact hMI.grow hAD1.once hg.grow),h142,by rw [jA];show _+1≤_;omega,h152,by rw [jA];show _+1≤_;omega,(hTd.le (jJ v) hg.mem.2).snoc hg.mem.1 (by rw [hxt]) (by rw [hxt];rfl) (by rw [hxt]) (by rw [hxt]) (by rw [hxt])⟩) ⟨rfl,rfl,rfl,rfl,rfl,rfl,rfl,rfl,rfl,rfl,rfl,rfl,rfl,trivial⟩ (λ_ h=>h.pick [0,1,2,3,4,5,6,7,8,9,10,11,12,13,14,15,16] (by decide))
          refine J.j 3 V<|J.c hK28<|J.g8 0 1 5 7 9 10 11 12 13 14 15 16 20 21 22 138 ?_
          refine J.a5 ?_
          refine J.g λK32 hK32=>J.j 2 V<|J.f (qAU V V V) V<|J.b V<|J.c6 (d:=186) V (λh186=>?_) (λh186=>?_)
          ·
            refine J.b V ?_
            obtain ⟨hv3,hw0,hoff,v4,ms4,hv4,hms4,hAD4⟩:=ha.bad hw h135 h186
            refine J.e0 (qAB V V ent27 (Ct.use0 (λF' hF=>(by have:=qTq F' gd a.z.D A4 c4 B4 e4 C1 f1 (hc4.mono (hF a.z.md (by simp)));rw [hoff] at this;exact this)))) rfl λg188 _=>J.b rfl<|J.c hK32<|J.e1 0 1 5 7 9 10 11 12 13 14 15 16 22 189 ?_
            refine J.a5 ?_
            exact J.c0<|J.u<|J.a9 (v4,ms4,T,At,ct,mt,M,Am,cm,mr) hK27 (⟨by dsimp only;omega,hAD4,λe=>by rw [hoff] at e;exact absurd e (by decide),qR8 hw0 hoff hMI hms4,hmt,by dsimp only;omega,hmr,by dsimp only;omega,hTd.le (by omega) (by rcases hms4 with e|⟨e,_⟩<;>rw [e];exact λ_ h=>h;exact λ_ h=>jf _ h)⟩) ⟨rfl,rfl,rfl,rfl,rfl,rfl,rfl,rfl,rfl,rfl,rfl,rfl,rfl,trivial⟩ (λ_ h=>h.pick [0,1,2,3,4,5,6,7,8,9,10,11,12,13,14,15,16] (by decide))
          refine J.j 3 V<|J.c hK32<|J.e1 0 1 5 7 9 10 11 12 13 14 15 16 22 189 ?_
          refine J.a5 ?_
          exact J.c0<|J.u<|J.a9 (v,ms,T,At,ct,mt,M,Am,cm,mr) hK27 (⟨hv8,(ha.same hw h135 h186).ad,λ_=>ha.same hw h135 h186,.inl hMI,hmt,by dsimp only;omega,hmr,by dsimp only;omega,hTd⟩) ⟨V,V,V,V,V,V,V,V,V,V,V,V,V,trivial⟩ (λ_ h=>h.pick [0,1,2,3,4,5,6,7,8,9,10,11,12,13,14,15,16] (by decide))
        rintro⟨v2,ms2,T2,At2,ct2,mt2,M2,Am2,cm2,mr2⟩ ⟨hv28,hAD2,hliv,hpd,hmt2,hTl2,hmr2,hMl2,hTd2⟩
        dsimp only at hv28 hAD2 hliv hpd hmt2 hTl2 hmr2 hMl2 hTd2⊢
        refine J.d9 (X:=Dk×Hp×Nat×Nat×Hp×Nat×Option Addr×Nat×Hp×Nat×Option Addr×Nat×Hp×Nat×Hp×Nat×List MkD×Option Addr×Nat×Hp) (λζ=> [(0,.slice A0 n0 c0),(1,.slice A1 n1 c1),(5,Ptr gd),(7,Ptr ζ.2.2.2.2.2.2.2.2.2.2.2.2.2.2.2.1),(9,Ptr g9),(10,.slice Ah 3 ch),(11,.slice Aa 3 ca),(12,.slice At2 T2.length ct2),(13,.slice ζ.2.2.2.2.2.2.2.2.2.2.2.2.2.2.2.2.2.1 ζ.2.2.2.2.2.2.2.2.2.2.2.2.2.2.2.2.1.length ζ.2.2.2.2.2.2.2.2.2.2.2.2.2.2.2.2.2.2.1),(14,I ((i:Nat):Int))]) (λζ=> [F,ζ.2.1,mkp1,ζ.2.2.2.2.1,blk ζ.2.2.1 [Ptr ζ.2.2.2.1,Ptr ζ.2.2.2.2.2.1,I ((v2:Nat):Int)] 216,ζ.2.2.2.2.2.2.2.2.1,blk ζ.2.2.2.2.2.1 (bkC gd 2 (8/2) (XG 2 v2) ζ.2.2.2.2.2.2.1 ζ.2.2.2.2.2.2.2.1 false) 223,blk ζ.2.2.2.2.2.2.2.2.2.1 (bkC gd 10 15 (XM ms2) ζ.2.2.2.2.2.2.2.2.2.2.1 ζ.2.2.2.2.2.2.2.2.2.2.2.1 false) 223,ζ.2.2.2.2.2.2.2.2.2.2.2.2.1,ζ.2.2.2.2.2.2.2.2.2.2.2.2.2.2.1,blk ζ.2.2.2.2.2.2.2.2.2.2.2.2.2.2.2.1 [Ptr ζ.2.2.1,I ((2^3:Nat):Int),Ptr ζ.2.2.2.2.2.2.2.2.2.1,.map (some ζ.2.2.2.2.2.2.2.2.2.2.2.2.2.1)] 145,mh,ma,G,blk g9 [N64 0,Str qAc,I 1,I 0,.slice An (qAN rv0 1).length cn] 39,mt2,ζ.2.2.2.2.2.2.2.2.2.2.2.2.2.2.2.2.2.2.2]) (λζ=>AD ks ζ.1 v2 ms2∧ζ.1.off=false∧Dsk ζ.2.1 gd ζ.1 C1 f1∧ζ.1.keep=D1.keep∧qGR ζ.2.2.2.2.1 ζ.2.2.2.1 [115,101,101,100] 3∧Sl ζ.2.2.2.2.2.2.2.2.1 1 ζ.2.2.2.2.2.2.1 (XG 2 v2).R.length ζ.2.2.2.2.2.2.2.1 (qAH (XG 2 v2).R)∧Sl ζ.2.2.2.2.2.2.2.2.2.2.2.2.1 1 ζ.2.2.2.2.2.2.2.2.2.2.1 (XM ms2).R.length ζ.2.2.2.2.2.2.2.2.2.2.2.1 (qAH (XM ms2).R)∧qCF plK ζ.2.2.2.2.2.2.2.2.2.2.2.2.2.2.1 ζ.2.2.2.2.2.2.2.2.2.2.2.2.2.1 (mkV (msV ms2))∧Row ζ.2.2.2.2.2.2.2.2.2.2.2.2.2.2.2.2.2.2.2 97 3 ζ.2.2.2.2.2.2.2.2.2.2.2.2.2.2.2.2.2.1 ζ.2.2.2.2.2.2.2.2.2.2.2.2.2.2.2.2.1.length ζ.2.2.2.2.2.2.2.2.2.2.2.2.2.2.2.2.2.2.1 (qCp ζ.2.2.2.2.2.2.2.2.2.2.2.2.2.2.2.2.1)∧ζ.2.2.2.2.2.2.2.2.2.2.2.2.2.2.2.2.1.length≤2*i+2∧qH9 ζ.2.2.2.2.2.2.2.2.2.2.2.2.2.2.2.2.1 ms2) (λK33 hK33=>?_) ?_
        ·
          refine J.g λK34 hK34=>J.b V<|J.q (qAB V V ent27 (Ct.use0 (λF' hF=>qTq F' gd a.z.D A4 c4 B4 e4 C1 f1 (hc4.mono (hF a.z.md (by simp)))))) rfl λg191 _=>J.f ((qAw rfl rfl).as (v':= .bool (decide (a.z.D.off=true))) (by simp)) rfl<|J.b rfl<|J.c6 (d:=193) rfl (λh193=>?_) (λh193=>?_)
          ·
            refine J.j 8 V<|J.c hK34<|J.e1 0 1 5 7 9 10 11 12 13 14 15 16 22 201 ?_
            refine J.c7 ?_
            refine J.g λK35 hK35=>J.b V<|J.q (qAB V V ent28 (Ct.use1 3 (m':=λx:Hp=>x) (new:=λ_=> []) V (λF' hF=>qOR F' a.z.md gd a.z.D C1 f1 ha.dsk hAD2.ok.1 (by rw [hAD2.wait];exact jF _) [] none 0 Sl.nil (jF _)))) rfl ?_
            rintro m203 h203
            change J _ _ _ [blk gs [Ptr gk,Ptr gb,I ((a.z.nx:Nat):Int)] 216,blk gb (bkC gd 2 (8/2) a.z.X a.z.A a.z.c a.z.bad) 223,blk gq (bkC gd 10 15 a.x.X a.x.A a.x.c a.x.bad) 223,m203,a.x.mm,a.z.N,a.x.N,F,mkp1,mk,blk ga [Ptr gs,I ((2^3:Nat):Int),Ptr gq,.map (some gm)] 145,mh,ma,G,blk g9 [N64 0,Str qAc,I 1,I 0,.slice An (qAN rv0 1).length cn] 39,mt2,mr2] _
            refine J.c hK35<|J.e9 0 1 5 7 9 10 11 12 13 14 15 16 22 ?_
            refine J.g λK36 hK36=>J.b V<|J.q (qAB V V ent29 (Ct.use1 3 (m':=λx:Hp=>x) (new:=λ_=> []) V (λF' hF=>qKZ F' m203 gd (a.z.D.cut []) C1 f1 h203 (hAD2.ok.cut [])))) V ?_
            rintro m205 h205
            change J _ _ _ [_,_,_,m205,_,_,_,_,_,_,_,_,_,_,_,_,_] _
            obtain ⟨D3,hD3e⟩: ∃D3,D3=(a.z.D.cut []).start:=⟨_,rfl⟩
            rw [←hD3e] at h205
            have hAD3:AD ks D3 v2 ms2:=hD3e▸hAD2.cutStart
            have ho3:D3.off=false:=by rw [hD3e];rfl
            have hk3e:D3.keep=D1.keep:=by rw [hD3e];exact ha.keep
            obtain ⟨A5,c5,B5,e5,hc5,hL5,hW5⟩:=h205.see
            obtain ⟨O3,hg3,_⟩:=hAD3.dg
            refine J.c hK36<|J.e9 0 1 5 7 9 10 11 12 13 14 15 16 22 ?_
            refine J.g λK37 hK37=>J.b V<|J.q (qAB V V ent17 (Ct.use (new:=λr:AoR×Hp=> [r.1.kk,blk r.1.gb (bkC gd 2 (8/2) (XG 2 v2) r.1.Ab r.1.cb false) 223,r.1.mb,blk r.1.gs [Ptr r.1.gk,Ptr r.1.gb,I ((v2:Nat):Int)] 216,blk r.1.gq (bkC gd 10 15 (XM ms2) r.1.Aq r.1.cq false) 223,r.1.mq,r.2,blk r.1.ga [Ptr r.1.gs,I ((2^3:Nat):Int),Ptr r.1.gq,.map (some r.1.gm)] 145]) (λF' hF=>qKJ F' (hK.mo hF) gd D3 2 40 v2 O3 hg3 hv28 ho3 (by decide) (by decide) A5 c5 B5 e5 C1 f1 (hc5.mono (hF m205 (by simp))) (hL5.mono (hF m205 (by simp))) (hW5.mono (hF m205 (by simp))) [115,101,101,100] (by decide) 3 (by decide) 38 (by decide) (by decide) (XM ms2) hAD3.half ms2 (XM_R _) hAD3.good hAD3.once hAD3.two))) rfl ?_
            rintro⟨⟨gk3,mk3,gb3,A3b,c3b,mb3,gs3,gq3,A3q,c3q,mq3,gm3,ga3⟩,mm3⟩ ⟨⟨hk3,hbr3,hqr3⟩,hmm3⟩
            change J _ ((208,.tuple #[Ptr ga3,I ((0:Nat):Int)])::_) _ [_,_,_,_,_,_,_,_,_,_,_,_,_,_,_,_,_,mk3,blk gb3 (bkC gd 2 (8/2) (XG 2 v2) A3b c3b false) 223,mb3,blk gs3 [Ptr gk3,Ptr gb3,I ((v2:Nat):Int)] 216,blk gq3 (bkC gd 10 15 (XM ms2) A3q c3q false) 223,mq3,mm3,blk ga3 [Ptr gs3,I ((2^3:Nat):Int),Ptr gq3,.map (some gm3)] 145] _
            dsimp only at hk3 hbr3 hqr3 hmm3
            refine J.j 5 V<|J.c hK37<|J.g0 0 1 5 7 9 10 11 12 13 14 15 16 22 23 24 ?_
            refine J.k λK38 hK38=>J.g λK39 hK39=>J.b V<|J.f ((qAU V V V).no (by decide)) V<|J.j 2 V<|J.e0 (qAB V V ent26 (Ct.use0 (λF' hF=>qD8 F' ga3 gs3 gq3 (2^3) gm3 (qAP.blk0.mono (hF (blk ga3 [Ptr gs3,I ((2^3:Nat):Int),Ptr gq3,.map (some gm3)] 145) (by simp))) gk3 gb3 (v2) (qAP.blk0.mono (hF (blk gs3 [Ptr gk3,Ptr gb3,I ((v2:Nat):Int)] 216) (by simp))) [115,101,101,100] 3 (hk3.mono (hF mk3 (by simp))) (by decide) (by decide)))) rfl λg215 _=>J.b rfl<|J.e0 (qAB rfl rfl ent26 (Ct.use0 (λF' hF=>qD8 F' ga gs gq (2^3) gm (qAP.blk0.mono (hF (blk ga [Ptr gs,I ((2^3:Nat):Int),Ptr gq,.map (some gm)] 145) (by simp))) gk gb (a.z.nx) (qAP.blk0.mono (hF (blk gs [Ptr gk,Ptr gb,I ((a.z.nx:Nat):Int)] 216) (by simp))) [115,101,101,100] 3 (hk.mono (hF mk (by simp))) (by decide) (by decide)))) rfl λg217 _=>J.T ((qQp rfl rfl rfl (by kernel_rfl) (λw=>qUG 9998 (Wo.opn [115,101,101,100]) (Xm.root [115,101,101,100] 3) (Wo.opn [115,101,101,100]) (Xm.root [115,101,101,100] 3) ((3:Nat):Int) ((3:Nat):Int) w)).as (v':= .bool false) (by rw [decide_eq_true ⟨rfl,rfl,rfl⟩];rfl)) rfl<|J.b rfl<|J.c hK39<|J.e1 0 1 5 9 10 11 12 13 14 15 16 22 23 219 ?_
            refine J.a5 ?_
            refine J.W hK38<|J.e9 0 1 5 9 10 11 12 13 14 15 16 22 23 ?_
            refine J.g λK40 hK40=>J.j 2 V<|J.c hK40<|J.e9 0 1 5 7 9 10 11 12 13 14 15 16 22 ?_
            refine J.g λK41 hK41=>J.j 2 V<|J.q (qAB V V ent20 (Ct.use0 (λF' hF=>qCs F' ga3 gs3 gq3 (2^3) gm3 (qAP.blk0.mono (hF (blk ga3 [Ptr gs3,I ((2^3:Nat):Int),Ptr gq3,.map (some gm3)] 145) (by simp))) (msV ms2) (hmm3.at.mono (hF mm3 (by simp))) 1 ((b:Nat):Int)))) rfl λg224 _=>J.j 5 rfl<|J.c hK41<|J.g0 0 1 5 7 9 10 11 12 13 14 15 16 22 25 26 ?_
            refine J.g λK42 hK42=>J.j 2 V<|J.f6 (d:=228) V (λh228=>?_) (λh228=>?_)
            ·
              refine J.b V<|J.T (qAS V V V) V<|J.b V<|J.c hK42<|J.e1 0 1 5 7 9 10 11 12 13 14 15 16 25 231 ?_
              refine J.a4 V (λh231=>?_) (λh231=>?_)
              ·
                refine J.g λK43 hK43=>J.j 2 V<|J.q (qAB V V ent24 (Ct.use0 (λF' hF=>qEV F' Am2 M2.length cm2 M2 (hmr2.sl.mono (hF mr2 (by simp))) (by omega) 1 ((b:Nat):Int)))) rfl λg235 _=>J.j 5 rfl<|J.c hK43<|J.e1 0 1 5 7 9 10 11 12 13 14 15 16 25 28 ?_
                refine J.g λK44 hK44=>J.b V<|J.f (qAw V V) V<|J.c hK44<|J.e1 0 1 5 7 9 10 11 12 13 14 15 16 25 239 ?_
                refine J.e3 V (λh239=>?_) (λh239=>?_)
                ·
                  refine J.k λK45 hK45=>J.k λK46 hK46=>?_
                  have hgm:=hpd.new hb2 h228 (by simpa using h239)
                  obtain ⟨xm,hxm⟩: ∃x:MkD,x=⟨1,((b:Nat):Int),(hH (UInt8.ofNat r)).dig⟩:=⟨_,rfl⟩
                  refine J.H<|J.j 3 V<|J.f (qAF (i:=r) V V V qKV qCj hrh.sl (by omega)) V<|J.f (qAl (vs:= [N64 1,Str pH.dig,I ((1:Nat):Int),I ((0:Nat):Int),.slice (hs.getD r qBY).nsA (qAN (qBV (UInt8.ofNat r)) 1).length (hs.getD r qBY).nsc]) V V qE0 qCj (m:=mh) (by simp) (by have:=hrh.sl.elem (qC2 (l:=hs) (k:=r) (by omega));rw [R.cells] at this;exact this) rfl) rfl<|J.q (qAB rfl rfl ent11 (Ct.use0 (λF' hF=>qA2 F' (hK.mo hF) (hH (UInt8.ofNat r)) (hs.getD r qBY).nsA (hs.getD r qBY).nsc (qBz _) (R.nsl2.mono (hF G (by simp)))))) rfl λg245 _=>J.f ((qBv rfl rfl rfl).no (λh=>h hgm.1)) rfl<|J.c hK46<|J.e9 0 1 5 7 9 10 11 12 13 14 16 25 246 ?_
                  refine J.a5 ?_
                  refine J.W hK45<|J.f0 0 1 5 7 9 10 11 12 13 14 16 25 ?_
                  rw [hgm.1]
                  refine J.H<|J.j 3 V<|J.f (qAK (l:= [(0,.const ((Value.int IntKind.u64 1))),(1,.tmp 248),(2,.tmp 249)]) (vs:= [N64 (1),I ((b:Nat):Int),Str ((hH (UInt8.ofNat r)).dig)]) (places:= [(0,1),(1,1),(2,1)]) (r:= [N64 (1),I ((b:Nat):Int),Str ((hH (UInt8.ofNat r)).dig)]) V V V qTH zeroValue97 (λ_=>by kernel_rfl) V) V<|J.q (qAJ (l:= [.tmp 250]) (xs:= [[N64 (1),I ((b:Nat):Int),Str ((hH (UInt8.ofNat r)).dig)]]) V V V V qLd el97 V (by decide) (by decide) (by simp)) rfl λg251 _=>?_
                  change J _ _ _ [_,_,_,_,_,_,_,_,_,_,_,_,_,_,_,_,_,_,_,_,_,_,_,_,_,blk g251 [N64 (1),I ((b:Nat):Int),Str ((hH (UInt8.ofNat r)).dig)] 97] _
                  refine J.q (qAa (i:=16) (xs:=qCp M2) (m2:=blk g251 [N64 (1),I ((b:Nat):Int),Str ((hH (UInt8.ofNat r)).dig)] 97) (ys:= [[N64 (1),I ((b:Nat):Int),Str ((hH (UInt8.ofNat r)).dig)]]) V V V qLd qLd el97 V hmr2 (by simp) ((qAs (q:=True) (xs:=qCp [(⟨1,((b:Nat):Int),(hH (UInt8.ofNat r)).dig⟩:MkD)]) rfl (by intro x hx;rw [List.mem_singleton.1 hx];rfl)).sl) rfl (by omega) (by omega)) rfl ?_
                  rintro⟨A252,c252,m252⟩ h252
                  try dsimp only at h252
                  change J _ ((252,.slice A252 (M2.length+1) c252)::_) _ [_,_,_,_,_,_,_,_,_,_,_,_,_,_,_,_,m252,_,_,_,_,_,_,_,_,_] _
                  replace h252:Row m252 97 3 A252 (M2.length+1) c252 (qCp (M2++ [xm])):=by rw [qEu,hxm];exact h252
                  rw [show M2.length+1=(M2++ [xm]).length by rw [jA];rfl] at h252⊢
                  exact J.b V<|J.a8<|J.u<|J.a9 (D3,m205,gs3,gk3,mk3,gb3,A3b,c3b,mb3,gq3,A3q,c3q,mq3,gm3,mm3,ga3,(M2++ [xm]),A252,c252,m252) hK33 (⟨hAD3,ho3,h205,hk3e,hk3,hbr3.sl,hqr3.sl,hmm3,h252,by rw [jA];show _+1≤_;omega,(by rw [hxm];exact hgm.2)⟩) ⟨rfl,rfl,rfl,rfl,rfl,rfl,rfl,rfl,rfl,rfl,trivial⟩ (λ_ h=>h.pick [7,3,8,17,20,19,18,21,22,23,24,11,12,13,14,15,16] (by decide))
                exact J.c0<|J.u<|J.a9 (D3,m205,gs3,gk3,mk3,gb3,A3b,c3b,mb3,gq3,A3q,c3q,mq3,gm3,mm3,ga3,M2,Am2,cm2,mr2) hK33 (⟨hAD3,ho3,h205,hk3e,hk3,hbr3.sl,hqr3.sl,hmm3,hmr2,by dsimp only;omega,hpd.there hb2 (by simpa using h239)⟩) ⟨V,V,V,V,V,V,V,V,V,V,trivial⟩ (λ_ h=>h.pick [7,3,8,17,20,19,18,21,22,23,24,11,12,13,14,15,16] (by decide))
              exact J.c0<|J.u<|J.a9 (D3,m205,gs3,gk3,mk3,gb3,A3b,c3b,mb3,gq3,A3q,c3q,mq3,gm3,mm3,ga3,M2,Am2,cm2,mr2) hK33 (⟨hAD3,ho3,h205,hk3e,hk3,hbr3.sl,hqr3.sl,hmm3,hmr2,by dsimp only;omega,hpd.w (by omega)⟩) ⟨V,V,V,V,V,V,V,V,V,V,trivial⟩ (λ_ h=>h.pick [7,3,8,17,20,19,18,21,22,23,24,11,12,13,14,15,16] (by decide))
            refine J.j 3 V<|J.c hK42<|J.e1 0 1 5 7 9 10 11 12 13 14 15 16 25 231 ?_
            refine J.a5 ?_
            exact J.c0<|J.u<|J.a9 (D3,m205,gs3,gk3,mk3,gb3,A3b,c3b,mb3,gq3,A3q,c3q,mq3,gm3,mm3,ga3,M2,Am2,cm2,mr2) hK33 (⟨hAD3,ho3,h205,hk3e,hk3,hbr3.sl,hqr3.sl,hmm3,hmr2,by dsimp only;omega,hpd.none h228⟩) ⟨V,V,V,V,V,V,V,V,V,V,trivial⟩ (λ_ h=>h.pick [7,3,8,17,20,19,18,21,22,23,24,11,12,13,14,15,16] (by decide))
          refine J.j 2 V<|J.T (qAF (i:=i) V V V qTJ sizeOf92 hs0 (by omega)) V<|J.T (qAz (off:=3) V V qTI V z5_ hs0 (by omega) V) V<|J.T (qAL (v:=B8 ((acts.getD i qCg).a)) V V b5_ (m:=F) (by simp) (hs0.part (qCQ (by omega)) 3 1)) rfl<|J.T (qF2 (b:=7) rfl rfl rfl) rfl<|J.T (qAS rfl rfl rfl) rfl<|J.b rfl<|J.c hK34<|J.e1 0 1 5 7 9 10 11 12 13 14 15 16 22 201 ?_
          refine J.a4 V (λh201=>?_) (λh201=>?_)
          ·
            refine J.g λK47 hK47=>J.b V<|J.q (qAB V V ent28 (Ct.use1 3 (m':=λx:Hp=>x) (new:=λ_=> []) V (λF' hF=>qOR F' a.z.md gd a.z.D C1 f1 ha.dsk hAD2.ok.1 (by rw [hAD2.wait];exact jF _) [] none 0 Sl.nil (jF _)))) rfl ?_
            rintro m203 h203
            change J _ _ _ [blk gs [Ptr gk,Ptr gb,I ((a.z.nx:Nat):Int)] 216,blk gb (bkC gd 2 (8/2) a.z.X a.z.A a.z.c a.z.bad) 223,blk gq (bkC gd 10 15 a.x.X a.x.A a.x.c a.x.bad) 223,m203,a.x.mm,a.z.N,a.x.N,F,mkp1,mk,blk ga [Ptr gs,I ((2^3:Nat):Int),Ptr gq,.map (some gm)] 145,mh,ma,G,blk g9 [N64 0,Str qAc,I 1,I 0,.slice An (qAN rv0 1).length cn] 39,mt2,mr2] _
            refine J.c hK47<|J.e9 0 1 5 7 9 10 11 12 13 14 15 16 22 ?_
            refine J.g λK48 hK48=>J.b V<|J.q (qAB V V ent29 (Ct.use1 3 (m':=λx:Hp=>x) (new:=λ_=> []) V (λF' hF=>qKZ F' m203 gd (a.z.D.cut []) C1 f1 h203 (hAD2.ok.cut [])))) V ?_
            rintro m205 h205
            change J _ _ _ [_,_,_,m205,_,_,_,_,_,_,_,_,_,_,_,_,_] _
            obtain ⟨D3,hD3e⟩: ∃D3,D3=(a.z.D.cut []).start:=⟨_,rfl⟩
            rw [←hD3e] at h205
            have hAD3:AD ks D3 v2 ms2:=hD3e▸hAD2.cutStart
            have ho3:D3.off=false:=by rw [hD3e];rfl
            have hk3e:D3.keep=D1.keep:=by rw [hD3e];exact ha.keep
            obtain ⟨A5,c5,B5,e5,hc5,hL5,hW5⟩:=h205.see
            obtain ⟨O3,hg3,_⟩:=hAD3.dg
            refine J.c hK48<|J.e9 0 1 5 7 9 10 11 12 13 14 15 16 22 ?_
            refine J.g λK49 hK49=>J.b V<|J.q (qAB V V ent17 (Ct.use (new:=λr:AoR×Hp=> [r.1.kk,blk r.1.gb (bkC gd 2 (8/2) (XG 2 v2) r.1.Ab r.1.cb false) 223,r.1.mb,blk r.1.gs [Ptr r.1.gk,Ptr r.1.gb,I ((v2:Nat):Int)] 216,blk r.1.gq (bkC gd 10 15 (XM ms2) r.1.Aq r.1.cq false) 223,r.1.mq,r.2,blk r.1.ga [Ptr r.1.gs,I ((2^3:Nat):Int),Ptr r.1.gq,.map (some r.1.gm)] 145]) (λF' hF=>qKJ F' (hK.mo hF) gd D3 2 40 v2 O3 hg3 hv28 ho3 (by decide) (by decide) A5 c5 B5 e5 C1 f1 (hc5.mono (hF m205 (by simp))) (hL5.mono (hF m205 (by simp))) (hW5.mono (hF m205 (by simp))) [115,101,101,100] (by decide) 3 (by decide) 38 (by decide) (by decide) (XM ms2) hAD3.half ms2 (XM_R _) hAD3.good hAD3.once hAD3.two))) rfl ?_
            rintro⟨⟨gk3,mk3,gb3,A3b,c3b,mb3,gs3,gq3,A3q,c3q,mq3,gm3,ga3⟩,mm3⟩ ⟨⟨hk3,hbr3,hqr3⟩,hmm3⟩
            change J _ ((208,.tuple #[Ptr ga3,I ((0:Nat):Int)])::_) _ [_,_,_,_,_,_,_,_,_,_,_,_,_,_,_,_,_,mk3,blk gb3 (bkC gd 2 (8/2) (XG 2 v2) A3b c3b false) 223,mb3,blk gs3 [Ptr gk3,Ptr gb3,I ((v2:Nat):Int)] 216,blk gq3 (bkC gd 10 15 (XM ms2) A3q c3q false) 223,mq3,mm3,blk ga3 [Ptr gs3,I ((2^3:Nat):Int),Ptr gq3,.map (some gm3)] 145] _
            dsimp only at hk3 hbr3 hqr3 hmm3
            refine J.j 5 V<|J.c hK49<|J.g0 0 1 5 7 9 10 11 12 13 14 15 16 22 23 24 ?_
            refine J.k λK50 hK50=>J.g λK51 hK51=>J.b V<|J.f ((qAU V V V).no (by decide)) V<|J.j 2 V<|J.e0 (qAB V V ent26 (Ct.use0 (λF' hF=>qD8 F' ga3 gs3 gq3 (2^3) gm3 (qAP.blk0.mono (hF (blk ga3 [Ptr gs3,I ((2^3:Nat):Int),Ptr gq3,.map (some gm3)] 145) (by simp))) gk3 gb3 (v2) (qAP.blk0.mono (hF (blk gs3 [Ptr gk3,Ptr gb3,I ((v2:Nat):Int)] 216) (by simp))) [115,101,101,100] 3 (hk3.mono (hF mk3 (by simp))) (by decide) (by decide)))) rfl λg215 _=>J.b rfl<|J.e0 (qAB rfl rfl ent26 (Ct.use0 (λF' hF=>qD8 F' ga gs gq (2^3) gm (qAP.blk0.mono (hF (blk ga [Ptr gs,I ((2^3:Nat):Int),Ptr gq,.map (some gm)] 145) (by simp))) gk gb (a.z.nx) (qAP.blk0.mono (hF (blk gs [Ptr gk,Ptr gb,I ((a.z.nx:Nat):Int)] 216) (by simp))) [115,101,101,100] 3 (hk.mono (hF mk (by simp))) (by decide) (by decide)))) rfl λg217 _=>J.T ((qQp rfl rfl rfl (by kernel_rfl) (λw=>qUG 9998 (Wo.opn [115,101,101,100]) (Xm.root [115,101,101,100] 3) (Wo.opn [115,101,101,100]) (Xm.root [115,101,101,100] 3) ((3:Nat):Int) ((3:Nat):Int) w)).as (v':= .bool false) (by rw [decide_eq_true ⟨rfl,rfl,rfl⟩];rfl)) rfl<|J.b rfl<|J.c hK51<|J.e1 0 1 5 9 10 11 12 13 14 15 16 22 23 219 ?_
            refine J.a5 ?_
            refine J.W hK50<|J.e9 0 1 5 9 10 11 12 13 14 15 16 22 23 ?_
            refine J.g λK52 hK52=>J.j 2 V<|J.c hK52<|J.e9 0 1 5 7 9 10 11 12 13 14 15 16 22 ?_
            refine J.g λK53 hK53=>J.j 2 V<|J.q (qAB V V ent20 (Ct.use0 (λF' hF=>qCs F' ga3 gs3 gq3 (2^3) gm3 (qAP.blk0.mono (hF (blk ga3 [Ptr gs3,I ((2^3:Nat):Int),Ptr gq3,.map (some gm3)] 145) (by simp))) (msV ms2) (hmm3.at.mono (hF mm3 (by simp))) 1 ((b:Nat):Int)))) rfl λg224 _=>J.j 5 rfl<|J.c hK53<|J.g0 0 1 5 7 9 10 11 12 13 14 15 16 22 25 26 ?_
            refine J.g λK54 hK54=>J.j 2 V<|J.f6 (d:=228) V (λh228=>?_) (λh228=>?_)
            ·
              refine J.b V<|J.T (qAS V V V) V<|J.b V<|J.c hK54<|J.e1 0 1 5 7 9 10 11 12 13 14 15 16 25 231 ?_
              refine J.a4 V (λh231=>?_) (λh231=>?_)
              ·
                refine J.g λK55 hK55=>J.j 2 V<|J.q (qAB V V ent24 (Ct.use0 (λF' hF=>qEV F' Am2 M2.length cm2 M2 (hmr2.sl.mono (hF mr2 (by simp))) (by omega) 1 ((b:Nat):Int)))) rfl λg235 _=>J.j 5 rfl<|J.c hK55<|J.e1 0 1 5 7 9 10 11 12 13 14 15 16 25 28 ?_
                refine J.g λK56 hK56=>J.b V<|J.f (qAw V V) V<|J.c hK56<|J.e1 0 1 5 7 9 10 11 12 13 14 15 16 25 239 ?_
                refine J.e3 V (λh239=>?_) (λh239=>?_)
                ·
                  refine J.k λK57 hK57=>J.k λK58 hK58=>?_
                  have hgm:=hpd.new hb2 h228 (by simpa using h239)
                  obtain ⟨xm,hxm⟩: ∃x:MkD,x=⟨1,((b:Nat):Int),(hH (UInt8.ofNat r)).dig⟩:=⟨_,rfl⟩
                  refine J.H<|J.j 3 V<|J.f (qAF (i:=r) V V V qKV qCj hrh.sl (by omega)) V<|J.f (qAl (vs:= [N64 1,Str pH.dig,I ((1:Nat):Int),I ((0:Nat):Int),.slice (hs.getD r qBY).nsA (qAN (qBV (UInt8.ofNat r)) 1).length (hs.getD r qBY).nsc]) V V qE0 qCj (m:=mh) (by simp) (by have:=hrh.sl.elem (qC2 (l:=hs) (k:=r) (by omega));rw [R.cells] at this;exact this) rfl) rfl<|J.q (qAB rfl rfl ent11 (Ct.use0 (λF' hF=>qA2 F' (hK.mo hF) (hH (UInt8.ofNat r)) (hs.getD r qBY).nsA (hs.getD r qBY).nsc (qBz _) (R.nsl2.mono (hF G (by simp)))))) rfl λg245 _=>J.f ((qBv rfl rfl rfl).no (λh=>h hgm.1)) rfl<|J.c hK58<|J.e9 0 1 5 7 9 10 11 12 13 14 16 25 246 ?_
                  refine J.a5 ?_
                  refine J.W hK57<|J.f0 0 1 5 7 9 10 11 12 13 14 16 25 ?_
                  rw [hgm.1]
                  refine J.H<|J.j 3 V<|J.f (qAK (l:= [(0,.const ((Value.int IntKind.u64 1))),(1,.tmp 248),(2,.tmp 249)]) (vs:= [N64 (1),I ((b:Nat):Int),Str ((hH (UInt8.ofNat r)).dig)]) (places:= [(0,1),(1,1),(2,1)]) (r:= [N64 (1),I ((b:Nat):Int),Str ((hH (UInt8.ofNat r)).dig)]) V V V qTH zeroValue97 (λ_=>by kernel_rfl) V) V<|J.q (qAJ (l:= [.tmp 250]) (xs:= [[N64 (1),I ((b:Nat):Int),Str ((hH (UInt8.ofNat r)).dig)]]) V V V V qLd el97 V (by decide) (by decide) (by simp)) rfl λg251 _=>?_
                  change J _ _ _ [_,_,_,_,_,_,_,_,_,_,_,_,_,_,_,_,_,_,_,_,_,_,_,_,_,blk g251 [N64 (1),I ((b:Nat):Int),Str ((hH (UInt8.ofNat r)).dig)] 97] _
                  refine J.q (qAa (i:=16) (xs:=qCp M2) (m2:=blk g251 [N64 (1),I ((b:Nat):Int),Str ((hH (UInt8.ofNat r)).dig)] 97) (ys:= [[N64 (1),I ((b:Nat):Int),Str ((hH (UInt8.ofNat r)).dig)]]) V V V qLd qLd el97 V hmr2 (by simp) ((qAs (q:=True) (xs:=qCp [(⟨1,((b:Nat):Int),(hH (UInt8.ofNat r)).dig⟩:MkD)]) rfl (by intro x hx;rw [List.mem_singleton.1 hx];rfl)).sl) rfl (by omega) (by omega)) rfl ?_
                  rintro⟨A252,c252,m252⟩ h252
                  try dsimp only at h252
                  change J _ ((252,.slice A252 (M2.length+1) c252)::_) _ [_,_,_,_,_,_,_,_,_,_,_,_,_,_,_,_,m252,_,_,_,_,_,_,_,_,_] _
                  replace h252:Row m252 97 3 A252 (M2.length+1) c252 (qCp (M2++ [xm])):=by rw [qEu,hxm];exact h252
                  rw [show M2.length+1=(M2++ [xm]).length by rw [jA];rfl] at h252⊢
                  exact J.b V<|J.a8<|J.u<|J.a9 (D3,m205,gs3,gk3,mk3,gb3,A3b,c3b,mb3,gq3,A3q,c3q,mq3,gm3,mm3,ga3,(M2++ [xm]),A252,c252,m252) hK33 (⟨hAD3,ho3,h205,hk3e,hk3,hbr3.sl,hqr3.sl,hmm3,h252,by rw [jA];show _+1≤_;omega,(by rw [hxm];exact hgm.2)⟩) ⟨rfl,rfl,rfl,rfl,rfl,rfl,rfl,rfl,rfl,rfl,trivial⟩ (λ_ h=>h.pick [7,3,8,17,20,19,18,21,22,23,24,11,12,13,14,15,16] (by decide))
                exact J.c0<|J.u<|J.a9 (D3,m205,gs3,gk3,mk3,gb3,A3b,c3b,mb3,gq3,A3q,c3q,mq3,gm3,mm3,ga3,M2,Am2,cm2,mr2) hK33 (⟨hAD3,ho3,h205,hk3e,hk3,hbr3.sl,hqr3.sl,hmm3,hmr2,by dsimp only;omega,hpd.there hb2 (by simpa using h239)⟩) ⟨V,V,V,V,V,V,V,V,V,V,trivial⟩ (λ_ h=>h.pick [7,3,8,17,20,19,18,21,22,23,24,11,12,13,14,15,16] (by decide))
              exact J.c0<|J.u<|J.a9 (D3,m205,gs3,gk3,mk3,gb3,A3b,c3b,mb3,gq3,A3q,c3q,mq3,gm3,mm3,ga3,M2,Am2,cm2,mr2) hK33 (⟨hAD3,ho3,h205,hk3e,hk3,hbr3.sl,hqr3.sl,hmm3,hmr2,by dsimp only;omega,hpd.w (by omega)⟩) ⟨V,V,V,V,V,V,V,V,V,V,trivial⟩ (λ_ h=>h.pick [7,3,8,17,20,19,18,21,22,23,24,11,12,13,14,15,16] (by decide))
            refine J.j 3 V<|J.c hK54<|J.e1 0 1 5 7 9 10 11 12 13 14 15 16 25 231 ?_
            refine J.a5 ?_
            exact J.c0<|J.u<|J.a9 (D3,m205,gs3,gk3,mk3,gb3,A3b,c3b,mb3,gq3,A3q,c3q,mq3,gm3,mm3,ga3,M2,Am2,cm2,mr2) hK33 (⟨hAD3,ho3,h205,hk3e,hk3,hbr3.sl,hqr3.sl,hmm3,hmr2,by dsimp only;omega,hpd.none h228⟩) ⟨V,V,V,V,V,V,V,V,V,V,trivial⟩ (λ_ h=>h.pick [7,3,8,17,20,19,18,21,22,23,24,11,12,13,14,15,16] (by decide))
          have hlv:=hliv (by simpa using h193)
          rw [hlv.nx,hlv.zX,hlv.zb,hlv.xX,hlv.xb]
          exact J.c0<|J.u<|J.a9 (a.z.D,a.z.md,gs,gk,mk,gb,a.z.A,a.z.c,a.z.N,gq,a.x.A,a.x.c,a.x.N,gm,a.x.mm,ga,M2,Am2,cm2,mr2) hK33 (⟨hAD2,hlv.on,ha.dsk,ha.keep,hk,hlv.rb,hlv.rq,hlv.mp,hmr2,by dsimp only;omega,hpd.on hlv.on⟩) ⟨V,V,V,V,V,V,V,V,V,V,trivial⟩ (λ_ h=>h.pick [7,3,8,9,0,5,1,2,6,4,10,11,12,13,14,15,16] (by decide))
        rintro⟨D3,md3,gs3,gk3,mk3,gb3,A3,c3,mb3,gq3,Aq3,cq3,mq3,gm3,mm3,ga3,M3,Am3,cm3,mr3⟩ ⟨hAD3,ho3,hb3,hk3e,hk3,hbs3,hqs3,hmm3,hmr3,hMl3,hMI3⟩
        dsimp only at hAD3 ho3 hb3 hk3e hk3 hbs3 hqs3 hmm3 hmr3 hMl3 hMI3⊢
        refine J.g λK59 hK59=>J.b V<|J.c hK59<|J.e8 0 1 5 7 9 10 11 12 13 14 29 ?_
        refine J.a1<|J.c1 (X:=Nat) (λζ=> [(0,.slice A0 n0 c0),(1,.slice A1 n1 c1),(5,Ptr gd),(7,Ptr ga3),(9,Ptr g9),(10,.slice Ah 3 ch),(11,.slice Aa 3 ca),(12,.slice At2 T2.length ct2),(13,.slice Am3 M3.length cm3),(14,I ((i:Nat):Int)),(29,I ((ζ:Nat):Int))]) (λζ=> [F,md3,mkp1,mk3,blk gs3 [Ptr gk3,Ptr gb3,I ((v2:Nat):Int)] 216,mb3,blk gb3 (bkC gd 2 (8/2) (XG 2 v2) A3 c3 false) 223,blk gq3 (bkC gd 10 15 (XM ms2) Aq3 cq3 false) 223,mq3,mm3,blk ga3 [Ptr gs3,I ((2^3:Nat):Int),Ptr gq3,.map (some gm3)] 145,mh,ma,G,blk g9 [N64 0,Str qAc,I 1,I 0,.slice An (qAN rv0 1).length cn] 39,mt2,mr3]) (λζ=>ζ≤2) (λζ=>2-ζ) 0 (jF 2) ⟨V,V,V,V,V,V,V,V,V,V,V,trivial⟩ (λ_ h=>h) ?_
        rintro k hk2 I2 hI2
        refine J.k λK60 hK60=>J.g λK61 hK61=>J.b V<|J.f (qAT V V V) V<|J.c hK61<|J.f0 0 1 5 7 9 10 11 12 13 14 29 254 ?_
        refine J.a4 V (λh254=>?_) (λh254=>?_)
        ·
          refine J.W hK60<|J.e8 0 1 5 7 9 10 11 12 13 14 29 ?_
          refine J.k λK62 hK62=>J.a1<|J.g λK63 hK63=>J.j 2 V<|J.q (qAB V V ent20 (Ct.use0 (λF' hF=>qCs F' ga3 gs3 gq3 (2^3) gm3 (qAP.blk0.mono (hF (blk ga3 [Ptr gs3,I ((2^3:Nat):Int),Ptr gq3,.map (some gm3)] 145) (by simp))) (msV ms2) (hmm3.at.mono (hF mm3 (by simp))) 1 ((k:Nat):Int)))) rfl λg260 _=>J.j 5 rfl<|J.c hK63<|J.e9 0 1 5 7 9 10 11 12 13 14 29 30 31 ?_
          refine J.g λK64 hK64=>J.j 2 V<|J.q (qAB V V ent24 (Ct.use0 (λF' hF=>(by have:=qEV F' Am3 M3.length cm3 M3 (hmr3.sl.mono (hF mr3 (by simp))) (by omega) 1 ((k:Nat):Int);rw [hMI3 k (by omega)] at this;exact this)))) rfl λg266 _=>J.j 5 rfl<|J.c hK64<|J.g0 0 1 5 7 9 10 11 12 13 14 29 30 31 32 33 ?_
          refine J.g λK65 hK65=>J.j 2 V<|J.f ((qSL underlying4 V V V).as (v':= .bool false) (by simp)) rfl<|J.j 3 rfl<|J.T ((qBv rfl rfl rfl).no (λh=>h rfl)) rfl<|J.b rfl<|J.c hK65<|J.f0 0 1 5 7 9 10 11 12 13 14 29 276 ?_
          refine J.a5 ?_
          refine J.c0<|J.b0<|J.u (J.M hK62 ?_)
          refine J.e8 0 1 5 7 9 10 11 12 13 14 29 ?_
          exact J.H<|J.b V<|J.f ((qAQ V V V (by omega)).nat (k+1) (by omega)) V<|J.b V<|J.a8<|J.u<|J.a9 (k+1) (λη (hη:_∧2-η<2-k)=>hI2 η hη.1 hη.2) ⟨by omega,by omega⟩ ⟨V,V,V,V,V,V,V,V,V,V,V,trivial⟩ (λ_ h=>h)
        refine J.b8<|J.a6<|J.a6<|J.b9 ?_
        refine J.b0<|J.u (J.M hK15 ?_)
        refine J.f1 0 1 5 7 9 10 11 12 13 14 ?_
        exact J.H<|J.b V<|J.f ((qAQ V V V (by omega)).nat (i+1) (by omega)) V<|J.b V<|J.a8<|J.u<|J.a9 (i+1,v2,ms2,D3,C1,f1,md3,mkp1,gs3,gk3,mk3,gb3,A3,c3,mb3,gq3,Aq3,cq3,mq3,gm3,mm3,ga3,T2,At2,ct2,mt2,M3,Am3,cm3,mr3) (λη (hη:_∧14-η.1<14-i)=>hI0 η hη.1 hη.2) ⟨⟨by dsimp only;omega,hv28,hAD3,ho3,hb3,by dsimp only;rw [hk3e];exact hkp1,by dsimp only;rw [hk3e];exact hkn1,hk3,hbs3,hqs3,hmm3,hmt2,by dsimp only;omega,hmr3,by dsimp only;omega,hMI3,hTd2⟩,by dsimp only;omega⟩ ⟨rfl,rfl,rfl,rfl,rfl,rfl,rfl,rfl,rfl,rfl,trivial⟩ (λ_ h=>h)
      refine J.b8<|J.a6<|J.a6<|J.b9 ?_
      exact J.u<|J.a9 (v,ms,D,T,At,ct,mt) hK11 (⟨hAD,hmt,by dsimp only;omega,hTd⟩) ⟨V,trivial⟩ (λ_ h=>h.pick [0,15] (by decide))
    refine J.j 3 V<|J.c hK14<|J.e8 0 1 5 7 9 10 11 12 13 14 61 ?_
    refine J.a5 ?_
    refine J.b8<|J.a6<|J.a6<|J.b9 ?_
    exact J.u<|J.a9 (v,ms,D,T,At,ct,mt) hK11 (⟨hAD,hmt,by dsimp only;omega,hTd⟩) ⟨V,trivial⟩ (λ_ h=>h.pick [0,15] (by decide))
  rintro⟨v,ms,D,T,At,ct,mt⟩ ⟨hAD,hmt,hT14,hTl⟩
  dsimp only at hAD hmt hT14 hTl⊢
  refine J.k λK66 hK66=>J.g λK67 hK67=>J.b V<|J.c hK67<|J.E 12 34 ?_
  refine J.a1<|J.c1 (X:=Nat) (λζ=> [(12,.slice At T.length ct),(34,I ((ζ:Nat):Int))]) (λζ=> [F,mt]) (λζ=>ζ≤T.length) (λζ=>T.length-ζ) 0 (jF _) ⟨V,V,trivial⟩ (λ_ h=>h) ?_
  rintro i hi I4 hI4
  refine J.k λK68 hK68=>J.g λK69 hK69=>J.j 2 V<|J.f (qAY qQf V V) V<|J.f (qAT V V V) V<|J.c hK69<|J.G 12 34 280 ?_
  refine J.a4 V (λh280=>?_) (λh280=>?_)
  ·
    refine J.W hK68<|J.E 12 34 ?_
    refine J.k λK70 hK70=>J.a1<|J.g λK71 hK71=>J.b V<|J.c hK71<|J.G 12 34 35 ?_
    refine J.a1<|J.c1 (X:=Nat) (λζ=> [(12,.slice At T.length ct),(34,I ((i:Nat):Int)),(35,I ((ζ:Nat):Int))]) (λζ=> [F,mt]) (λζ=>ζ≤i) (λζ=>i-ζ) 0 (jF _) ⟨V,V,V,trivial⟩ (λ_ h=>h) ?_
    rintro k hki I6 hI6
    refine J.k λK72 hK72=>J.g λK73 hK73=>J.j 2 V<|J.f (qAT V V V) V<|J.c hK73<|J.O 12 34 35 285 ?_
    refine J.a4 V (λh285=>?_) (λh285=>?_)
    ·
      refine J.W hK72<|J.G 12 34 35 ?_
      refine J.k λK74 hK74=>J.a1<|J.k λK75 hK75=>?_
      have hf:=hTl.fin hAD.once (show k<i by omega) (show i<T.length by omega)
      refine J.b7 [F,mt] [] (.y 0 (.y 1 (.y 2 (.y 3 (.y 4 (.y 5 (.y 6 (.y 7 (.e 8 (.y 9 (.y 10 (.y 11 (.y 12 (.y 13 (.y 14 (.y 15 (.y 16 (.y 17 (.y 18 (.y 19 (.y 20 (.y 21 (.y 22 (.y 23 .nil)))))))))))))))))))))))) Tryz.wide (by decide+kernel) (by simp) ?_
      refine J.L ?_
      refine J.L ?_
      refine J.p V (qAF (i:=i) V V V qQf qCi hmt.sl (by omega)) V V<|J.p V (qAl (vs:= [N64 ((T.getD i qBA).ep),I ((T.getD i qBA).b),Str ((T.getD i qBA).h),I ((T.getD i qBA).nm),I ((T.getD i qBA).ix),.slice (T.getD i qBA).chA (T.getD i qBA).ch.length (T.getD i qBA).chc,.slice (T.getD i qBA).ptA (T.getD i qBA).pt.length (T.getD i qBA).ptc]) V V qGM qCi (m:=mt) (by simp) (hmt.sl.elem (qEe (by omega))) rfl) rfl rfl<|J.L ?_
      refine J.L ?_
      refine J.p V (qAF (i:=k) V V V qQf qCi hmt.sl (by omega)) V V<|J.p V (qAl (vs:= [N64 ((T.getD k qBA).ep),I ((T.getD k qBA).b),Str ((T.getD k qBA).h),I ((T.getD k qBA).nm),I ((T.getD k qBA).ix),.slice (T.getD k qBA).chA (T.getD k qBA).ch.length (T.getD k qBA).chc,.slice (T.getD k qBA).ptA (T.getD k qBA).pt.length (T.getD k qBA).ptc]) V V qGM qCi (m:=mt) (by simp) (hmt.sl.elem (qEe (by omega))) rfl) rfl rfl<|J.b2 rfl (qAB rfl rfl ent30 (Ct.use0 (λF' hF=>qQI F' (T.getD i qBA) (T.getD k qBA) hf.1 hf.2.1 hf.2.2.1))) rfl (by simp) λg296 _=>J.L ?_
      refine J.V V (qAb V V) V V<|J.V V (qAb V V) V V<|J.V V (qAF (i:=i) V V V qQf qCi hmt.sl (by omega)) V V<|J.V V (qAz (off:=4) V V qCa V qE5 hmt.sl (by omega) V) V V<|J.V V (qDr V V qLe V z3_ hmt.sl (by omega) V) V V<|J.V V (qAL (v:=I ((T.getD i qBA).ix)) V V b3_ (m:=mt) (by simp) (hmt.sl.part (qEe (by omega)) 4 1)) rfl rfl<|J.V rfl (qAb rfl rfl) rfl rfl<|J.V rfl (qAb rfl rfl) rfl rfl<|J.V rfl (qAF (i:=k) rfl rfl rfl qQf qCi hmt.sl (by omega)) rfl rfl<|J.V rfl (qAz (off:=4) rfl rfl qCa rfl qE5 hmt.sl (by omega) rfl) rfl rfl<|J.V rfl (qDr rfl rfl qLe rfl z3_ hmt.sl (by omega) rfl) rfl rfl<|J.V rfl (qAL (v:=I ((T.getD k qBA).ix)) rfl rfl b3_ (m:=mt) (by simp) (hmt.sl.part (qEe (by omega)) 4 1)) rfl rfl<|J.V rfl ((qAS rfl rfl rfl).no (hf.2.2.2)) rfl rfl<|J.d5 ?_
      refine J.b3<|J.u (J.M hK75 ?_)
      refine J.O 12 34 35 311 ?_
      refine J.a5 ?_
      refine J.c0<|J.b0<|J.u (J.M hK74 ?_)
      refine J.G 12 34 35 ?_
      exact J.H<|J.b V<|J.f ((qAQ V V V (by omega)).nat (k+1) (by omega)) V<|J.b V<|J.a8<|J.u<|J.a9 (k+1) (λη (hη:_∧i-η<i-k)=>hI6 η hη.1 hη.2) ⟨by omega,by omega⟩ ⟨V,V,V,trivial⟩ (λ_ h=>h)
    refine J.b8<|J.a6<|J.a6<|J.b9 ?_
    refine J.b0<|J.u (J.M hK70 ?_)
    refine J.E 12 34 ?_
    exact J.H<|J.b V<|J.f ((qAQ V V V (by omega)).nat (i+1) (by omega)) V<|J.b V<|J.a8<|J.u<|J.a9 (i+1) (λη (hη:_∧T.length-η<T.length-i)=>hI4 η hη.1 hη.2) ⟨by omega,by omega⟩ ⟨V,V,trivial⟩ (λ_ h=>h)
  refine J.b8<|J.a6<|J.a6<|J.b9 ?_
  refine J.u (J.M hK66 ?_)
  refine J.d0 [] trivial<|J.g λK76 hK76=>J.b V<|J.c hK76<|J.A 4 ?_
  exact J.D<|J.Z hw0 V () V trivial [0] V (by decide)
end Go.Proofs.YtfldiegfenndjaaGreatDoor
