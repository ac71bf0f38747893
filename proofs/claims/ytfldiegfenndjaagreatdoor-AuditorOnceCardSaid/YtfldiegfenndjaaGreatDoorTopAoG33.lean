/- A part of the proof. -/
import Derived.Test.YtfldiegfenndjaaGreatDoorTopAoG31
import Derived.Test.YtfldiegfenndjaaGreatDoorTopAoG32
set_option linter.unusedSimpArgs false
set_option linter.unusedVariables false
namespace Go.Proofs.YtfldiegfenndjaaGreatDoor
open Go Go.Fw Go.Proofs.Tryz
set_option maxRecDepth 100000
set_option maxHeartbeats 1000000
attribute [local irreducible] Sha.tagged Wo.pub Wo.publicOf Wo.signs Wo.ends Wo.digs Wo.walk Wo.opn Mk.root Mk.path Mk.climb Xm.root sgC sgP prt
theorem qOn{f0 v:Nat}:(XG f0 v).R.length=if v=0 then 0 else if v≤4 then v else v-4:=by
 unfold XG;split
 · rfl
 · split<;>exact qBd _ _
theorem XG_e{f0 v:Nat}:(XG f0 v).e=(XG f0 v).R.length:=by
 rw [qOn];unfold XG;split
 · rfl
 · split<;>rfl
theorem qTD{f0 v:Nat}:(XG f0 v).at_=if v≤4 then f0 else f0+4:=by
 unfold XG
 by_cases h0:v=0
 · subst h0;rfl
 · rw [if_neg h0];split<;>rfl
theorem XG_t{f0 v:Nat}:(XG f0 v).t.toNat<2^(8*4):=by
  unfold XG;split
  · show(0:UInt64).toNat<_;decide
  · split
    · show(1:UInt64).toNat<_;decide
    · show(2:UInt64).toNat<_;decide
theorem qRI{f0 v:Nat}(h8:v<8)(h4:v≠4):qFH (XG f0 v) (qBL v)=XG f0 (v+1)∧(XG f0 v).at_+(XG f0 v).e=f0+v∧(prt (qHo (XG f0 v).t) (UInt64.ofNat (XG f0 v).R.length) (qBL v) 1 0).text=txt v:=by
  unfold txt T1 tnO nrO qFH
  rw [qAv (qDD v)]
  by_cases hv0:v=0
  · subst hv0;exact⟨rfl,rfl,rfl⟩
  · by_cases hv4:v<4
    · have e:XG f0 v=⟨f0,1,qCf 0 v,v⟩:=by unfold XG;rw [if_neg hv0,if_pos (by omega)]
      have e2:XG f0 (v+1)=⟨f0,1,qCf 0 (v+1),v+1⟩:=by unfold XG;rw [if_neg (by omega),if_pos (by omega)]
      rw [e,e2,if_pos hv4,if_pos hv4,qBd,qGz,jn]
      exact⟨rfl,rfl,rfl⟩
    · have e:XG f0 v=⟨f0+4,2,qCf 4 (v-4),v-4⟩:=by unfold XG;rw [if_neg hv0,if_neg (by omega)]
      have e2:XG f0 (v+1)=⟨f0+4,2,qCf 4 (v-4+1),v-4+1⟩:=by unfold XG;rw [if_neg (by omega),if_neg (by omega),show v+1-4=v-4+1 by omega]
      rw [e,e2,if_neg hv4,if_neg hv4,qBd,qGz,show 4+(v-4)=v by omega]
      exact⟨rfl,by show f0+4+(v-4)=_;omega,rfl⟩
theorem qTC{f0 v:Nat}(h0:0<v)(h8:v≤8):0<(XG f0 v).R.length∧(XG f0 v).R.getD ((XG f0 v).R.length-1) []=qBL (v-1):=by
  by_cases hv4:v≤4
  · have e:XG f0 v=⟨f0,1,qCf 0 v,v⟩:=by unfold XG;rw [if_neg (by omega),if_pos (by omega)]
    rw [e];dsimp only
    rw [qBd]
    refine⟨h0,?_⟩
    unfold qCf
    rw [jB,jN,jv (by omega),zQ,jn];rfl
  · have e:XG f0 v=⟨f0+4,2,qCf 4 (v-4),v-4⟩:=by unfold XG;rw [if_neg (by omega),if_neg (by omega)]
    rw [e];dsimp only
    rw [qBd]
    refine⟨by omega,?_⟩
    unfold qCf
    rw [jB,jN,jv (by omega),zQ,show 4+(v-4-1)=v-1 by omega];rfl
def qB3(f0:Nat)(d:Dk)(v:Nat):Dk×Int:=if v=4 then qBM d (2*f0+8/2-f0+0) (λi=>(prt (1+1) (UInt64.ofNat 0) (qBL v) (qAx (qBL v).length) i).text) (qAx (qBL v).length) else qAt d (XG f0 v) (qBL v)
theorem qFh{f0 n:Nat}{O:Nat→List UInt8}{d:Dk}{v:Nat}(h:DG f0 n O d v)(hv:v<8)(ho:d.off=false):((qB3 f0 d v).2=0→(qB3 f0 d v).1.off=false∧DG f0 n O (qB3 f0 d v).1 (v+1))∧((qB3 f0 d v).2≠0→(qB3 f0 d v).2=8∧(qB3 f0 d v).1.off=true∧(DG f0 n O (qB3 f0 d v).1 v∨DG f0 n O (qB3 f0 d v).1 (v+1)))∧(qB3 f0 d v).1.keep=d.keep:=by
  have hfit:=h.fits
  have key: ∀(p:Nat) (t:Nat→List UInt8),p=f0+v→t 0=txt v→((qBM d p t 1).2=0→(qBM d p t 1).1.off=false∧DG f0 n O (qBM d p t 1).1 (v+1))∧((qBM d p t 1).2≠0→(qBM d p t 1).2=8∧(qBM d p t 1).1.off=true∧(DG f0 n O (qBM d p t 1).1 v∨DG f0 n O (qBM d p t 1).1 (v+1)))∧(qBM d p t 1).1.keep=d.keep:=λp t hp hT=>by
    have hr:=qIG (d:=d) (p:=p) (t:=t) (by rw [hT];exact qDw hv) ho h.wait (by rw [h.len];omega) h.ok
    have:=h.put hv ho hp hT (qMl h.ok p t 1) hr.1
    exact⟨this.1,this.2,hr.2⟩
  unfold qB3
  by_cases h4:v=4
  · rw [if_pos h4,qAv (qDD v)]
    exact key _ _ (by omega) (by subst h4;rfl)
  · rw [if_neg h4]
    unfold qAt
    rw [qAv (qDD v)]
    obtain ⟨_,h2,h3⟩:=qRI (f0:=f0) hv h4
    exact key _ _ h2 h3
theorem qRJ{f0 v:Nat}(hf:f0≤900)(hv:v<8)(h4:v≠4):(XG f0 v).e+qAx (qBL v).length≤8/2∧(XG f0 v).R.length<65536∧(XG f0 v).at_+8/2≤1048576:=by
 have h1:=qOn (f0:=f0) (v:=v)
 have h2:=XG_e (f0:=f0) (v:=v)
 have h3:=qTD (f0:=f0) (v:=v)
 rw [qAv (qDD v)]
 split at h1<;>split at h3<;>(try split at h1)<;>omega
theorem qEx{f0 n:Nat}{O:Nat→List UInt8}{d:Dk}{v:Nat}(h:DG f0 n O d v):d.wait.length≤1048576:=by rw [h.wait];exact jF _
theorem qHT(F md:Hp)(hK:KF F)(gs gk gb gd f0 n v:Nat)(hf0:f0≤900)(O:Nat→List UInt8)(hS:qAP F ⟨gs,0,none⟩ [Ptr gk,Ptr gb,I ((v:Nat):Int)])(hv:v<8)(d:Dk)(h:DG f0 n O d v)(ho:d.off=false)(C:Option Addr)(f:Nat)(hb:Dsk md gd d C f)(hKp:Sl F 1 C d.keep.length f (qAR d.keep))(hn3:d.keep.length≤9223372036854775807)(A:Option Addr)(c:Nat)(hRs:Sl F 1 A (XG f0 v).R.length c (qAH (XG f0 v).R))(he:(qB3 f0 d v).2=0):Ct prog 122 [Ptr gs] [blk gb (bkC gd f0 (8/2) (XG f0 v) A c false) 223,md,F] (λ_:Hp×Option Addr×Nat×Hp=>I 0) (λx:Hp×Option Addr×Nat×Hp=>Dsk x.1 gd (qB3 f0 d v).1 C f∧Row x.2.2.2 9 1 x.2.1 (XG f0 (v+1)).R.length x.2.2.1 (qAH (XG f0 (v+1)).R)) (λx=> [blk gb (bkC gd f0 (8/2) (XG f0 (v+1)) x.2.1 x.2.2.1 false) 223,x.1,F,x.2.2.2]):=by
  by_cases h4:v=4
  · have e:qB3 f0 d v=qBM d (2*f0+8/2-f0+0) (λi=>(prt (1+1) (UInt64.ofNat 0) (qBL v) (qAx (qBL v).length) i).text) (qAx (qBL v).length):=if_pos h4
    have e5:XG f0 (v+1)=⟨2*f0+8/2-f0,1+1,[]++ [qBL v],0+qAx (qBL v).length⟩:=by
      rw [qAv (qDD v),show 2*f0+8/2-f0=f0+4 by omega];subst h4;rfl
    have e1:(XG f0 v).at_=f0∧(XG f0 v).t=1:=by subst h4;exact⟨rfl,rfl⟩
    rw [e] at he
    rw [e,e5]
    exact qFr F _ md gs gk gb v hS (by omega) 0 (λF' hF=>qNR F' gb gd ((f0:Nat):Int) (8/2) (((XG f0 v).at_:Nat):Int) (XG f0 v).t (((XG f0 v).e:Nat):Int) A (XG f0 v).R.length c (qAP.blk0.mono hF) (qBL v) (qMA v) (by decide) (by subst h4;exact⟨Int.natCast_nonneg _,by show((4:Nat):Int)≤1048576;decide⟩) (by rw [qAv (qDD v)];subst h4;show((8/2:Nat):Int)-((4:Nat):Int)<((1:Nat):Int);decide)) _ _ _ _
      (λF' hF=>by
        have:=qH5 F' md (hK.mono hF) gb gd f0 (8/2) (XG f0 v).at_ (XG f0 v).t (XG f0 v).e A (XG f0 v).R.length c d C f hb h.ok (qEx h) (hKp.mono hF) hn3 (qBL v) (qMA v) (qAx (qBL v).length) rfl (by subst h4;show(1:UInt64).toNat+1<_;decide) (by omega) (by decide) (by rw [qTD];split<;>omega) (by rw [qAv (qDD v)];decide)
        rw [e1.1,e1.2] at this
        show Ct _ _ _ [blk gb [Ptr gd,I ((f0:Nat):Int),I ((8/2:Nat):Int),I (((XG f0 v).at_:Nat):Int),W64 (XG f0 v).t,I (((XG f0 v).e:Nat):Int),.slice A (XG f0 v).R.length c,.bool false] 223,md,F'] _ _ _
        rw [e1.1,e1.2]
        exact this he)
  · have e:qB3 f0 d v=qAt d (XG f0 v) (qBL v):=if_neg h4
    rw [e] at he
    obtain ⟨h1,h2,h3⟩:=qRJ hf0 hv h4
    rw [e,←(qRI (f0:=f0) hv h4).1]
    exact qEm F _ md gs gk gb v hS (by omega) 0 (by decide) _ _ _ _
      (λF' hF=>qEK F' md (hK.mono hF) gb gd f0 (8/2) (XG f0 v) A c (hRs.mono hF) d C f hb h.ok (qEx h) (hKp.mono hF) hn3 (qBL v) (qMA v) XG_t h2 h3 h1 he)
theorem qIa(F md:Hp)(hK:KF F)(gs gk gb gd f0 n v:Nat)(hf0:f0≤900)(O:Nat→List UInt8)(hS:qAP F ⟨gs,0,none⟩ [Ptr gk,Ptr gb,I ((v:Nat):Int)])(hv:v<8)(d:Dk)(h:DG f0 n O d v)(ho:d.off=false)(C:Option Addr)(f:Nat)(hb:Dsk md gd d C f)(hKp:Sl F 1 C d.keep.length f (qAR d.keep))(hn3:d.keep.length≤9223372036854775807)(A:Option Addr)(c:Nat)(hRs:Sl F 1 A (XG f0 v).R.length c (qAH (XG f0 v).R))(he:(qB3 f0 d v).2≠0):Ct prog 122 [Ptr gs] [blk gb (bkC gd f0 (8/2) (XG f0 v) A c false) 223,md,F] (λ_:Hp=>I (qB3 f0 d v).2) (λx:Hp=>Dsk x gd (qB3 f0 d v).1 C f) (λx=> [blk gb (bkC gd f0 (8/2) (XG f0 v) A c true) 223,x,F,λ_=>none]):=by
  have h9:(qB3 f0 d v).2≠9:=by rw [((qFh h hv ho).2.1 he).1];decide
  by_cases h4:v=4
  · have e:qB3 f0 d v=qBM d (2*f0+8/2-f0+0) (λi=>(prt (1+1) (UInt64.ofNat 0) (qBL v) (qAx (qBL v).length) i).text) (qAx (qBL v).length):=if_pos h4
    have e1:(XG f0 v).at_=f0∧(XG f0 v).t=1:=by subst h4;exact⟨rfl,rfl⟩
    rw [e] at he
    rw [e]
    exact qFr F _ md gs gk gb v hS (by omega) _ (λF' hF=>qNR F' gb gd ((f0:Nat):Int) (8/2) (((XG f0 v).at_:Nat):Int) (XG f0 v).t (((XG f0 v).e:Nat):Int) A (XG f0 v).R.length c (qAP.blk0.mono hF) (qBL v) (qMA v) (by decide) (by subst h4;exact⟨Int.natCast_nonneg _,by show((4:Nat):Int)≤1048576;decide⟩) (by rw [qAv (qDD v)];subst h4;show((8/2:Nat):Int)-((4:Nat):Int)<((1:Nat):Int);decide)) _ _ _ _
      (λF' hF=>by
        have:=qJI F' md (hK.mono hF) gb gd f0 (8/2) (XG f0 v).at_ (XG f0 v).t (XG f0 v).e A (XG f0 v).R.length c d C f hb h.ok (qEx h) (hKp.mono hF) hn3 (qBL v) (qMA v) (qAx (qBL v).length) rfl (by subst h4;show(1:UInt64).toNat+1<_;decide) (by omega) (by decide) (by rw [qTD];split<;>omega) (by rw [qAv (qDD v)];decide)
        rw [e1.1,e1.2] at this
        have h5:=(this he).addE
        show Ct _ _ _ [blk gb [Ptr gd,I ((f0:Nat):Int),I ((8/2:Nat):Int),I (((XG f0 v).at_:Nat):Int),W64 (XG f0 v).t,I (((XG f0 v).e:Nat):Int),.slice A (XG f0 v).R.length c,.bool false] 223,md,F'] _ _ (λx=> [blk gb [Ptr gd,I ((f0:Nat):Int),I ((8/2:Nat):Int),I (((XG f0 v).at_:Nat):Int),W64 (XG f0 v).t,I (((XG f0 v).e:Nat):Int),.slice A (XG f0 v).R.length c,.bool true] 223,x,F',λ_=>none])
        rw [e1.1,e1.2]
        exact h5)
  · have e:qB3 f0 d v=qAt d (XG f0 v) (qBL v):=if_neg h4
    rw [e] at he h9
    obtain ⟨h1,h2,h3⟩:=qRJ hf0 hv h4
    rw [e]
    exact qEm F _ md gs gk gb v hS (by omega) _ h9 _ _ _ _
      (λF' hF=>(qKk F' md (hK.mono hF) gb gd f0 (8/2) (XG f0 v) A c (hRs.mono hF) d C f hb h.ok (qEx h) (hKp.mono hF) hn3 (qBL v) (qMA v) XG_t h2 h3 h1 he).addE)
end Go.Proofs.YtfldiegfenndjaaGreatDoor
namespace Go.Proofs.YtfldiegfenndjaaGreatDoor
open Go Go.Fw Go.Proofs.Tryz
set_option maxRecDepth 100000
set_option maxHeartbeats 1000000
attribute [local irreducible] Sha.tagged Wo.pub Wo.publicOf Wo.signs Wo.ends Wo.digs Wo.walk Wo.opn Mk.root Mk.path Mk.climb Xm.root sgC sgP prt
structure qUP (seed:List UInt8) (kh f0 n:Nat) (O:Nat→List UInt8) (v gd:Nat) (d:Dk) (C:Option Addr) (f:Nat) (A:Option Addr) (c:Nat) (mg:List UInt8) (r:qGf):Prop where
 dsk:Dsk r.md gd r.D C f
 keep:r.D.keep=d.keep
 u:Row r.u 9 1 r.P r.Cl.length r.p (qAH r.Cl)
 w:Row r.w 9 1 r.Q r.Pl.length r.q (qAH r.Pl)
 three:(2^kh≤v∧r.e=11∧r.Cl= []∧r.Pl= []∧r.idx=0∧r.nx=v∧r.X=XG f0 v∧r.A=A∧r.c=c∧r.bad=false∧r.D=d)∨
  (v<2^kh∧r.e=0∧r.idx=v∧r.Cl=sgC seed v mg∧r.Pl=sgP seed kh v∧r.nx=v+1∧r.X=XG f0 (v+1)∧r.bad=false∧r.D.off=false∧DG f0 n O r.D (v+1)∧Row r.N 9 1 r.A r.X.R.length r.c (qAH r.X.R))∨
  (v<2^kh∧r.e=8∧r.Cl= []∧r.Pl= []∧r.idx=0∧r.nx=v∧r.D.off=true∧(DG f0 n O r.D v∨DG f0 n O r.D (v+1)))
theorem signG(F md:Hp)(hK:KF F)(gs gk gb gd f0 n v:Nat)(hf0:f0≤900)(O:Nat→List UInt8)(seed:List UInt8)(hsd:seed.length≤1048576)(kh:Nat)(h8:2^kh≤8)(h6:kh≤6)(hk:qGR F gk seed kh)(mg:List UInt8)(hm:mg.length≤1048576)(d:Dk)(h:DG f0 n O d v)(ho:d.off=false)(C:Option Addr)(f:Nat)(hb:Dsk md gd d C f)(hKp:Sl F 1 C d.keep.length f (qAR d.keep))(hn3:d.keep.length≤9223372036854775807)(A:Option Addr)(c:Nat)(hRs:Sl F 1 A (XG f0 v).R.length c (qAH (XG f0 v).R)):
    Ct prog 61 [Ptr gs,Str mg] [blk gs [Ptr gk,Ptr gb,I ((v:Nat):Int)] 216,blk gb (bkC gd f0 (8/2) (XG f0 v) A c false) 223,md,F] (λr:qGf=> .tuple #[.agg #[I ((r.idx:Nat):Int),.slice r.P r.Cl.length r.p,.slice r.Q r.Pl.length r.q],I r.e]) (qUP seed kh f0 n O v gd d C f A c mg) (λr=> [blk gs [Ptr gk,Ptr gb,I ((r.nx:Nat):Int)] 216,blk gb (bkC gd f0 (8/2) r.X r.A r.c r.bad) 223,r.md,F,r.N,r.u,r.w]):=by
  by_cases hp:v<2^kh
  · have hv:v<8:=jx hp h8
    have hw:=qFh h hv ho
    by_cases he:(qB3 f0 d v).2=0
    · refine(qM5 F _ md gs gk gb v hK seed kh hk hsd h6 hp mg hm _ _ _ _ (λF' hF hS=>qHT F' md (hK.mono hF) gs gk gb gd f0 n v hf0 O hS hv d h ho C f hb (hKp.mono hF) hn3 A c (hRs.mono hF) he)).mono
        (λx=>(⟨v,0,sgC seed v mg,x.2.1.1,x.2.1.2.1,sgP seed kh v,x.2.2.1,x.2.2.2.1,v+1,XG f0 (v+1),x.1.2.1,x.1.2.2.1,false,(qB3 f0 d v).1,x.1.1,x.1.2.2.2,x.2.1.2.2,x.2.2.2.2⟩:qGf)) (λ_ _=>rfl) (λx hx=>?_) (λ_ _ _ _ hs=>hs)
      exact⟨hx.1.1,hw.2.2,hx.2.1,hx.2.2,Or.inr (Or.inl ⟨hp,rfl,rfl,rfl,rfl,rfl,rfl,rfl,(hw.1 he).1,(hw.1 he).2,hx.1.2⟩)⟩
    · have h8:=(hw.2.1 he)
      refine((qLq F _ md gs gk gb v hK seed kh hk hsd h6 hp mg hm _ he _ _ _ _ (λF' hF hS=>qIa F' md (hK.mono hF) gs gk gb gd f0 n v hf0 O hS hv d h ho C f hb (hKp.mono hF) hn3 A c (hRs.mono hF) he)).addE.addE).mono
        (λx=>(⟨0,(qB3 f0 d v).2,[],none,0,[],none,0,v,XG f0 v,A,c,true,(qB3 f0 d v).1,x,λ_=>none,λ_=>none,λ_=>none⟩:qGf)) (λ_ _=>rfl) (λx hx=>?_) (λ_ _ _ _ hs=>hs)
      exact⟨hx,hw.2.2,qBc.nil,qBc.nil,Or.inr (Or.inr ⟨hp,h8.1,rfl,rfl,rfl,rfl,h8.2.1,h8.2.2⟩)⟩
  · refine((Ct.use0 (ms:= [blk gs [Ptr gk,Ptr gb,I ((v:Nat):Int)] 216,blk gb (bkC gd f0 (8/2) (XG f0 v) A c false) 223,md,F]) (λF' hF=>qJf F' gs gk gb v (qAP.blk0.mono (hF (blk gs [Ptr gk,Ptr gb,I ((v:Nat):Int)] 216) (by simp))) seed kh (hk.mono (hF F (by simp))) hsd h6 (Nat.le_of_not_lt hp) mg)).addE.addE.addE).mono
      (λ_=>(⟨0,11,[],none,0,[],none,0,v,XG f0 v,A,c,false,d,md,λ_=>none,λ_=>none,λ_=>none⟩:qGf)) (λ_ _=>rfl) (λ_ _=>?_) (λ_ _ _ _ hs=>hs)
    exact⟨hb,rfl,qBc.nil,qBc.nil,Or.inl ⟨Nat.le_of_not_lt hp,rfl,rfl,rfl,rfl,rfl,rfl,rfl,rfl,rfl,rfl⟩⟩
theorem qQi(F:Hp)(hK:KF F)(gd:Nat)(d:Dk)(f0 n v:Nat)(O:Nat→List UInt8)(h:DG f0 n O d v)(h8:v≤8)(ho:d.off=false)(seed:List UInt8)(hsd:seed.length≤1048576)(kh:Nat)(h6:kh≤6)(A:Option Addr)(c:Nat)(B:Option Addr)(e:Nat)(C:Option Addr)(f:Nat)(hc:qAP F ⟨gd,0,none⟩ (d.cells A c B e C f))(hL:Sl F 1 A d.last.length c (qAH d.last))(hW:Sl F 2 B d.wait.length e (qCC d.wait)):Ct prog 52 [Ptr gd,I ((f0:Nat):Int),I ((8:Nat):Int),Str seed,I ((kh:Nat):Int)] [F] (λx:(Nat×Hp)×(Nat×Option Addr×Nat×Hp)×Nat=> .tuple #[Ptr x.2.2,I ((0:Nat):Int)]) (λx=>qGR x.1.2 x.1.1 seed kh∧Row x.2.1.2.2.2 9 1 x.2.1.2.1 (XG f0 v).R.length x.2.1.2.2.1 (qAH (XG f0 v).R)) (λx=> [F,x.1.2,blk x.2.1.1 (bkC gd f0 (8/2) (XG f0 v) x.2.1.2.1 x.2.1.2.2.1 false) 223,x.2.1.2.2.2,blk x.2.2 [Ptr x.1.1,Ptr x.2.1.1,I ((v:Nat):Int)] 216]):=by
  have hX:=h.half h8
  have hfit:=h.fits
  have hlen:f0+8≤d.last.length:=by rw [h.len];exact hfit
  have hn2:d.wait.length≤1073741824:=by rw [h.wait];exact jF _
  have hXn:(XG f0 v).R.length≤1048576:=by
    have:=qOn (f0:=f0) (v:=v)
    split at this
    · omega
    · split at this<;>omega
  by_cases h0:v=0
  · have:=qRg F hK gd d h.ok A c B e C f hc hL hW hn2 f0 8 (by decide) hlen ho seed hsd kh h6 (XG f0 v) hX hXn (by subst h0;rfl)
    rw [show((0:Nat):Int)=((v:Nat):Int) by rw [h0]] at this
    subst h0
    exact this
  · have hl:=qTC (f0:=f0) (v:=v) (by omega) h8
    have:=qRf F hK gd d h.ok A c B e C f hc hL hW hn2 f0 8 (by decide) hlen ho seed hsd kh h6 (XG f0 v) hX hXn hl.1 (qBL (v-1)) hl.2.symm (qBi _)
    rw [qPj (by omega) (by omega)] at this
    exact this
end Go.Proofs.YtfldiegfenndjaaGreatDoor
