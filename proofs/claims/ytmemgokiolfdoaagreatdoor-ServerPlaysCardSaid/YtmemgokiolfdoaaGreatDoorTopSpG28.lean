/- A part of the proof. -/
import Derived.Test.YtmemgokiolfdoaaGreatDoorTopSpG25
import Derived.Test.YtmemgokiolfdoaaGreatDoorTopSpG27
set_option maxRecDepth 100000
set_option maxHeartbeats 8000000
set_option linter.unusedSimpArgs false
set_option linter.unusedVariables false
namespace Go.Proofs.YtmemgokiolfdoaaGreatDoor
open Go Go.Fw Go.Proofs.Tryz
theorem el59:qCx prog 59 [.int .i64 0,.int .i64 0,Str [],Str [],.slice none 0 0] 72:=qCx.of xH O
def qDf(cl:List Chg)(d b:Nat):List Chg:=cl.filter λx=>decide (ofV x.k d=b)
def kvT(l:List Sm.PR)(cl:List Chg)(d:Nat):Nat->List Sm.PR
 |0=>l
 |b+1=>kvC (kvT l cl d b) (qDf cl d b)
structure qPw (cl:List Chg):Prop where
 len:cl.length<=256
 k16: ∀x∈cl,x.k.length=16
 val: ∀x∈cl,x.v.length<=1000000
theorem qPw.band{cl:List Chg}(h:qPw cl)(d b:Nat):qL4 b d (qDf cl d b) where
 len:=jf (yI _ _) h.len
 k16:=λx hx=>h.k16 x (List.mem_filter.1 hx).1
 bnd:=λx hx=>by
  have h1:=yc (List.mem_filter.1 hx).2
  unfold ofV at h1
  rwa [yX (h.k16 x (List.mem_filter.1 hx).1)] at h1
 val:=λx hx=>h.val x (List.mem_filter.1 hx).1
theorem qFj(cl:List Chg)(d b:Nat):(qDf cl d b).length<=cl.length:=yI _ _
theorem qMl(l:List Sm.PR)(cl:List Chg)(d:Nat): ∀b,(kvT l cl d b).length<=l.length+b*cl.length
 |0=>by show l.length<=_;omega
 |b+1=>by
  have h1:=qMl l cl d b
  have h2:=qSH (kvT l cl d b) (qDf cl d b)
  have h3:=qFj cl d b
  show(kvC _ _).length<=_
  rw [Nat.succ_mul];omega
theorem qFb{l:List Sm.PR}{cl:List Chg}(h:qPw cl)(hl:l.length<=80000)(d:Nat){b:Nat}(hb:b<=16):(kvT l cl d b).length<=90000:=by
 have h1:=qMl l cl d b
 have h2:b*cl.length<=16*256:=Nat.mul_le_mul hb h.len
 omega
theorem qDx{l:List Sm.PR}{cl:List Chg}(hf:qCD l)(h:qPw cl)(hl:l.length<=80000)(d:Nat): ∀{b:Nat},b<=16->qCD (kvT l cl d b)
 |0,_=>hf
 |b+1,hb=>by
  have h2:=qFb h hl d (b:=b) xB
  have h3:=qFj cl d b
  have h4:=h.len
  exact qOF (qDx hf h hl d (b:=b) xB) (h.band d b).k16 (h.band d b).val xB
theorem qJH{cl:List Chg}{i d b:Nat}(h:i<cl.length):qDf (cl.take (i+1)) d b=if ofV (cl.getD i qAy).k d=b then qDf (cl.take i) d b++ [cl.getD i qAy] else qDf (cl.take i) d b:=by
 unfold qDf
 rw [qDq cl i qAy h,zG]
 generalize cl.getD i qAy=x
 by_cases hc:ofV x.k d=b
 . rw [yX hc];simp [List.filter,hc]
 . rw [yW hc];simp [List.filter,hc]
structure qM9 (G:Hp) (l:List Sm.PR) (cl:List Chg) (d b:Nat) (x:TrD):Prop where
 eb:x.b=b
 ed:x.d=d
 eo:x.old=Sm.ndB (kvT l cl d b) (kF b d) d
 en:x.nw=Sm.ndB (kvT l cl d (b+1)) (kF b d) d
 chg:x.st.map qBA.chg=qDf cl d b
 ok:qCe (kvT l cl d b) d x.st
 sl:Sl G 6 x.stA x.st.length x.stc (qGZ x.st)
 bs:qPh G x.st
theorem qM9.mono{G G':Hp}{l:List Sm.PR}{cl:List Chg}{d b:Nat}{x:TrD}(h:qM9 G l cl d b x)(hl:Le G G'):qM9 G' l cl d b x:=⟨h.eb,h.ed,h.eo,h.en,h.chg,h.ok,h.sl.mono hl,h.bs.mono hl⟩
def qPv(G:Hp)(l:List Sm.PR)(cl:List Chg)(d:Nat)(tl:List TrD):Prop:= ∀j,j<tl.length->qM9 G l cl d j (tl.getD j qRq)
theorem qPv.nil(G:Hp)(l:List Sm.PR)(cl:List Chg)(d:Nat):qPv G l cl d []:=λj h=>absurd h (jz j)
theorem qPv.mono{G G':Hp}{l:List Sm.PR}{cl:List Chg}{d:Nat}{tl:List TrD}(h:qPv G l cl d tl)(hl:Le G G'):qPv G' l cl d tl:=λj hj=>(h j hj).mono hl
theorem qPv.snoc{G:Hp}{l:List Sm.PR}{cl:List Chg}{d:Nat}{tl:List TrD}{x:TrD}(h:qPv G l cl d tl)(hx:qM9 G l cl d tl.length x):qPv G l cl d (tl++ [x]):=λj hj=>by
  rw [jA,jI] at hj
  by_cases hlt:j<tl.length
  . rw [jB,jk hlt,<-jB];exact h j hlt
  . obtain rfl:j=tl.length:=by omega
    rw [jB,ja (jL _),zK];exact hx
def qCp(x:RhD):Hd:=⟨x.ep,x.par,x.dep,x.aud,x.ns⟩
structure StR where
 tA:yS
 tc:Nat
 mT:Hp
 hA:yS
 hc:Nat
 mH:Hp
 nA:yS
 nc:Nat
 gu:Nat
 tl:List TrD
 At:yS
 ct:Nat
 mo:Hp
 cg:Nat
 cr:Nat
 cl:List Lb
 G:Hp
structure StP (kv:List Sm.PR) (cl:List Chg) (nxt:List Lb) (au:List Aud) (par:xA) (dp rn:Nat) (tg:yT) (hd:List RhD) (x:StR):Prop where
 nr:Sl x.G 1 x.nA (qAl (kvT kv cl dp (2^dp)) dp).length x.nc (qAG (qAl (kvT kv cl dp (2^dp)) dp))
 rt:Row x.mT 130 1 x.tA (tg++ [x.gu]).length x.tc (qEM (tg++ [x.gu]))
 rh:Row x.mH 52 5 x.hA (hd++ [adH par dp rn hd (kvT kv cl dp (2^dp)) x.nA x.nc]).length x.hc (qGr (hd++ [adH par dp rn hd (kvT kv cl dp (2^dp)) x.nA x.nc]))
 tu:qCo x.G x.gu (kvT kv cl dp (2^dp))
 len:x.tl.length=2^dp
 ro:Row x.mo 59 5 x.At x.tl.length x.ct (qIK x.tl)
 ok:qPv x.G kv cl dp x.tl
 mp:Fw.MapAt x.G x.cg (lbV x.cl)
 lb:LbA x.G x.cl
 pm:(lbE x.cl).Perm (lbE nxt)
 au: ∃RA rn rc,qAI x.G ⟨x.cr,0,none⟩ [.slice RA rn rc]/\Sl x.G 4 RA rn rc (qBn au)
theorem qIe(F mT mH:Hp)(hK:yf F)(gs dp nA rA nB rB:Nat)(v1 v2:Value)(tA:yS)(tc:Nat)(tg:yT)(hrt:Row mT 130 1 tA tg.length tc (qEM tg))(htg:tg.length<=100000)(hA:yS)(hc:Nat)(hd:List RhD)(hrh:Row mH 52 5 hA hd.length hc (qGr hd))(hhd:hd.length<=100000)(hdp:dp<=4)(cA:yS)(cc:Nat)(cl:List Chg)(hsC:Sl F 2 cA cl.length cc (qDI cl))(hcl:qPw cl)(oA:yS)(oc:Nat)(no:List xA)(nxt:List Lb)(hm:Fw.MapAt F nB (lbV nxt))(hl:LbA F nxt)(hun:qKO (lbE nxt))(hln: ∀x∈nxt,x.l.length<=1000000)(RA:yS)(rn rc:Nat)(au:List Aud)(hR:qAI F ⟨rB,0,none⟩ [.slice RA rn rc])(hRs:Sl F 4 RA rn rc (qBn au))(hrn:rn<=1000000)(ht0:0<tg.length)(hh0:0<hd.length)(kv:List Sm.PR)(hT:qCo F (tg.getD (tg.length-1) 0) kv)(hf:qCD kv)(hkl:kv.length<=80000)(hgd:(qCp (hd.getD (hd.length-1) qBE)).good)(hns:Sl F 1 (hd.getD (hd.length-1) qBE).nsA (hd.getD (hd.length-1) qBE).ns.length (hd.getD (hd.length-1) qBE).nsc (qAG (hd.getD (hd.length-1) qBE).ns)):Ct prog 67 [Ptr gs] [blk gs [I (dp:Nat),v1,v2,.map (some nA),Ptr rA,.map (some nB),Ptr rB,.slice cA cl.length cc,.slice oA no.length oc,.slice tA tg.length tc,.slice hA hd.length hc] 129,mT,mH,F] (λx:StR=> .slice x.At x.tl.length x.ct) (StP kv cl nxt au ((qCp (hd.getD (hd.length-1) qBE)).dig) dp rn tg hd) (λx=> [blk gs [I (dp:Nat),v1,v2,.map (some x.cg),Ptr x.cr,.map (some nB),Ptr rB,.slice none 0 0,.slice none 0 0,.slice x.tA (tg++ [x.gu]).length x.tc,.slice x.hA (hd++ [adH ((qCp (hd.getD (hd.length-1) qBE)).dig) dp rn hd (kvT kv cl dp (2^dp)) x.nA x.nc]).length x.hc] 129,x.mT,x.mH,F,x.mo,x.G]):=by
 obtain ⟨hp1,hp16⟩:=qK1 hdp
 have hcnt:cnt ((dp:Nat):Int)=2^dp:=qD2 hdp
 have hcll:=hcl.len
 refine y7 func67 O ntmps67 O (λw0 hw0=>?_)
 refine yl λ_ C1=>yh O<|yi C1<|yl λ_ C2=>yh O<|yj (qAB O O) O<|vA 9 qBR sizeOf127 O O O O O<|vF 0 isAgg127 O O O O O<|yp (qAZ O O (λF' hF=>qNS F' tA tg.length tc tg (hrt.sl.mono (Fa hF)) ht0 xB)) O λg18 _=>yh O<|yi C2<|yl λ_ C3=>yh O<|yi C3<|ym λ_ C4=>yl λ_ C5=>yh O<|yj (qAB O O) O<|vA 0 qBR z3_ O O O O O<|vF 0 b3_ O O O O O<|yp (qAZ O O (λF' hF=>by have:=qDB F' ((dp:Nat):Int);rw [hcnt] at this;exact this)) O λg23 _=>yh O<|yi C5<|yz<|vN (X:=Nat×Nat×List TrD×yS×Nat×Hp×Hp) (λζ=> [(0,Ptr gs),(3,Ptr ζ.2.1),(4,.slice ζ.2.2.2.1 ζ.2.2.1.length ζ.2.2.2.2.1),(23,I (2^dp:Nat)),(24,I (ζ.1:Nat))]) (λζ=> [ζ.2.2.2.2.2.2,ζ.2.2.2.2.2.1,blk gs [I (dp:Nat),v1,v2,.map (some nA),Ptr rA,.map (some nB),Ptr rB,.slice cA cl.length cc,.slice oA no.length oc,.slice tA tg.length tc,.slice hA hd.length hc] 129,mT,mH,F]) (λζ=>ζ.1<=2^dp/\ζ.2.2.1.length=ζ.1/\Row ζ.2.2.2.2.2.1 59 5 ζ.2.2.2.1 ζ.2.2.1.length ζ.2.2.2.2.1 (qIK ζ.2.2.1)/\(∀F',Le F F'->Le ζ.2.2.2.2.2.2 F'->qCo F' ζ.2.1 (kvT kv cl dp ζ.1))/\(0<ζ.1->qCo ζ.2.2.2.2.2.2 ζ.2.1 (kvT kv cl dp ζ.1))/\qPv ζ.2.2.2.2.2.2 kv cl dp ζ.2.2.1) (λζ=>2^dp-ζ.1) (0,tg.getD (tg.length-1) 0,[],none,0,(λ_=>none),(λ_=>none)) (⟨jH _,O,qBf.nil,λF' h1 _=>hT.mono h1,λh=>absurd h (Nat.lt_irrefl 0),qPv.nil _ _ _ _⟩) (Sub.of O) (λ_ h=>h.empty.empty.pick [4,5,0,1,2,3] xC) ?_
 rintro⟨b,gu,tl,At,ct,mt,H⟩ ⟨hb,htl,hro,hu,hu1,hok⟩ I0 hI0
 dsimp only at hb htl hro hu hu1 hok⊢
 refine yl λ_ C6=>yj (qAP O O O) O<|yi C6<|ym λ_ C7=>y1 O (λh25=>?_) (λh25=>?_)
 .
  refine yy C7<|ym λ_ C8=>yz<|yl λ_ C9=>yn 2 O<|yi C9<|yl λ_ C10=>yh O<|yi C10<|ym λ_ C11=>yl λ_ C12=>yh O<|yj (qAB O O) O<|vA 7 qBR sizeOf126 O O O O O<|vF 2 isAgg126 O O O O O<|yj (qAN qGY O O) O<|yh O<|yi C12<|yz<|vN (X:=Nat×yS×Nat×Hp×List Chg) (λζ=> [(0,Ptr gs),(3,Ptr gu),(4,.slice At tl.length ct),(5,I (b:Nat)),(6,.slice ζ.2.1 ζ.2.2.2.2.length ζ.2.2.1),(23,I (2^dp:Nat)),(24,I (b:Nat)),(30,.slice cA cl.length cc),(31,I (cl.length:Nat)),(32,I (ζ.1:Nat))]) (λζ=> [H,mt,blk gs [I (dp:Nat),v1,v2,.map (some nA),Ptr rA,.map (some nB),Ptr rB,.slice cA cl.length cc,.slice oA no.length oc,.slice tA tg.length tc,.slice hA hd.length hc] 129,mT,mH,F,ζ.2.2.2.1]) (λζ=>ζ.1<=cl.length/\Row ζ.2.2.2.1 155 2 ζ.2.1 ζ.2.2.2.2.length ζ.2.2.1 (qDI ζ.2.2.2.2)/\ζ.2.2.2.2=qDf (cl.take ζ.1) dp b) (λζ=>cl.length-ζ.1) (0,none,0,(λ_=>none),[]) (⟨jH _,qBf.nil,O⟩) (Sub.of O) (λ_ h=>h.empty.pick [0,1,2,3,4,5,6] xC) ?_
  rintro⟨i,A6,c6,m6,l6⟩ ⟨hi,hr6,hl6⟩ I2 hI2
  dsimp only at hi hr6 hl6⊢
  refine yl λ_ C13=>yj (qAP O O O) O<|yi C13<|ym λ_ C14=>y1 O (λh33=>?_) (λh33=>?_)
  .
   refine yy C14<|ym λ_ C15=>yz<|ym λ_ C16=>?_
   have hik:(cl.getD i qAy).k.length<=1000000:=by
    have:cl.getD i qAy∈cl:=by
     rw [jB,jD (show i<cl.length by omega)];exact jU _
    rw [hcl.k16 _ this];decide
   refine yt<|yj (qAC O O O qGY qEE hsC xB) O<|yj (qAb O O isAgg155 qEE (m:=F) xD (hsC.elem (qH7 xB)) O) O<|yp (qAO O qPf O) O λg8 _=>vG (qAF (i:=7) (l:= [Str [],Str []]) (vs:= [Str ((cl.getD i qAy).k),Str ((cl.getD i qAy).v)]) O O O O O qEE O O) O O λ_ _=>yi C16<|ym λ_ C17=>vQ [blk gs [I (dp:Nat),v1,v2,.map (some nA),Ptr rA,.map (some nB),Ptr rB,.slice cA cl.length cc,.slice oA no.length oc,.slice tA tg.length tc,.slice hA hd.length hc] 129,blk g8 [Str ((cl.getD i qAy).k),Str ((cl.getD i qAy).v)] 155] [] (.y 0 (.y 1 (.y 2 (.y 3 (.y 4 (.y 5 (.e 6 (.y 7 (.y 8 (.y 9 (.y 10 (.y 11 .nil)))))))))))) ye xF xD ?_
   refine yo O (qAA O O qFo O z9_ O) O O<|yo O (qAD 1 O O O b9_ O) O O<|yx ?_
   refine yo O (qAB O O) O O<|yo O (qAA O O qBR O z3_ O) O O<|yo O (qAD 0 O O O b3_ O) O O<|vD O (qAZ O O (λF' hF=>qW3 F' ((cl.getD i qAy).k) (by first|omega|exact hsm _|exact jW O) dp xB)) O xD λg43 _=>yx ?_
   refine vm (I (ofV ((cl.getD i qAy).k) dp:Nat)) ?_
   refine vm (I (ofE ((cl.getD i qAy).k):Nat)) ?_
   refine vU ?_
   refine vU ?_
   refine vM<|yq (yu C17 ?_)
   refine yl λ_ C18=>yn 2 O<|yj (qAR O O O) O<|yi C18<|y1 O (λh48=>?_) (λh48=>?_)
   .
    have hl6l:l6.length<=cl.length:=by rw [hl6];exact jf (qFj _ _ _) (by rw [jF];omega)
    refine yt<|yh O<|vT 7 isAgg155 qEE O O O O O<|yp (qAE (l:= [.tmp 50]) (xs:= [[Str ((cl.getD i qAy).k),Str ((cl.getD i qAy).v)]]) O O O O qGY el155 O xC xC xD) O λg51 _=>yp (qAV (i:=6) (m2:=blk g51 [Str ((cl.getD i qAy).k),Str ((cl.getD i qAy).v)] 155) O O O qGY qGY el155 O hr6 xD ((qAj (q:=True) (xs:=qDI [(cl.getD i qAy)]) O (by intro x hx;rw [List.mem_singleton.1 hx];rfl)).sl) O xB xB) O ?_
    rintro⟨A52,c52,m52⟩ h52
    try dsimp only at h52
    replace h52:Row m52 155 2 A52 (l6.length+1) c52 (qDI (l6++ [(cl.getD i qAy)])):=by rw [qJD];exact h52
    rw [show l6.length+1=(l6++ [(cl.getD i qAy)]).length by rw [jA];rfl] at h52⊢
    refine yh O<|y8<|vB<|yq (yu C15 ?_)
    exact yt<|yj ((qAM O O O xB).nat (i+1) xB) O<|yh O<|y8<|yq<|vE (i+1,A52,c52,m52,l6++ [cl.getD i qAy]) hI2 ⟨by dsimp only;omega,h52,by dsimp only;rw [qJH xB,yX xB,<-hl6]⟩ (Sub.of O) (λ_ h=>h.pick [0,1,2,3,4,5,6] xC)
   refine vP<|vB<|yq (yu C15 ?_)
   exact yt<|yj ((qAM O O O xB).nat (i+1) xB) O<|yh O<|y8<|yq<|vE (i+1,A6,c6,m6,l6) hI2 ⟨by dsimp only;omega,hr6,by dsimp only;rw [qJH xB,yW xB];exact hl6⟩ (Sub.of O) (λ_ h=>h.pick [0,1,2,3,4,5,6] xC)
  refine vK<|y6<|y6<|vL ?_
  refine yq (yu C11 ?_)
  refine ym λ_ C19=>?_
  obtain rfl:i=cl.length:=by omega
  rw [jn] at hl6
  subst hl6
  refine yt<|yn 3 O<|yj (qAB O O) O<|vA 0 qBR z3_ O O O O O<|vF 2 b3_ O O O O O<|yh O<|yp (qBx O O (λF' hF=>qTk F' (hK.mo hF) gu (kvT kv cl dp b) (hu F' (Fa hF) (Fa hF)) (qDx hf hcl hkl dp xB) (qFb hcl hkl dp xB) b dp xB xB A6 (qDf cl dp b).length c6 (qDf cl dp b) (hr6.sl.mono (Fa hF)) (hcl.band dp b))) O ?_
  rintro r62 hp62
  refine yn 4 O<|yp (qAO O zeroValue59 O) O λg11 _=>vG (qAF (i:=10) (l:= [I 0,I 0,Str [],Str [],.slice none 0 0]) (vs:= [I (b:Nat),I (dp:Nat),Str (Sm.ndB (kvT kv cl dp b) (kF b dp) dp),Str (Sm.ndB (kvC (kvT kv cl dp b) (qDf cl dp b)) (kF b dp) dp),.slice r62.A r62.L.length r62.c]) O O O O O qTL O O) O O λ_ _=>yn 2 O<|yi C19 ?_
  obtain ⟨x,hx⟩: ∃x:TrD,x=⟨b,dp,Sm.ndB (kvT kv cl dp b) (kF b dp) dp,Sm.ndB (kvT kv cl dp (b+1)) (kF b dp) dp,r62.A,r62.c,r62.L⟩:=⟨_,rfl⟩
  refine yt<|yh O<|vT 10 isAgg59 qTL O O O O O<|yp (qAE (l:= [.tmp 67]) (xs:= [[I (b:Nat),I (dp:Nat),Str (Sm.ndB (kvT kv cl dp b) (kF b dp) dp),Str (Sm.ndB (kvC (kvT kv cl dp b) (qDf cl dp b)) (kF b dp) dp),.slice r62.A r62.L.length r62.c]]) O O O O qTf el59 O xC xC xD) O λg68 _=>yp (qAV (i:=1) (m2:=blk g68 [I (b:Nat),I (dp:Nat),Str (Sm.ndB (kvT kv cl dp b) (kF b dp) dp),Str (Sm.ndB (kvC (kvT kv cl dp b) (qDf cl dp b)) (kF b dp) dp),.slice r62.A r62.L.length r62.c] 59) O O O qTf qTf el59 O hro xD ((qAj (q:=True) (xs:=qIK [(⟨b,dp,Sm.ndB (kvT kv cl dp b) (kF b dp) dp,Sm.ndB (kvC (kvT kv cl dp b) (qDf cl dp b)) (kF b dp) dp,r62.A,r62.c,r62.L⟩:TrD)]) O (by intro x hx;rw [List.mem_singleton.1 hx];rfl)).sl) O xB xB) O ?_
  rintro⟨A69,c69,m69⟩ h69
  try dsimp only at h69
  replace h69:Row m69 59 5 A69 (tl.length+1) c69 (qIK (tl++ [x])):=by rw [qOs,hx];exact h69
  rw [show tl.length+1=(tl++ [x]).length by rw [jA];rfl] at h69⊢
  refine yn 3 O<|vW [0,7,8,9,1,2,3,4,5] [H,r62.mt,r62.ms,r62.M,m69,blk gs [I (dp:Nat),v1,v2,.map (some nA),Ptr rA,.map (some nB),Ptr rB,.slice cA cl.length cc,.slice oA no.length oc,.slice tA tg.length tc,.slice hA hd.length hc] 129,mT,mH,F] O xC<|vk (λhj1=>?_)
  refine vk (λhj2=>?_)
  refine vk (λhj3=>?_)
  refine y8<|vB<|yq (yu C8 ?_)
  exact yt<|yj ((qAM O O O xB).nat (b+1) xB) O<|yh O<|y8<|yq<|vE (b+1,r62.g,tl++ [x],A69,c69,m69,U [U [U [H,r62.mt],r62.ms],r62.M]) hI0 ⟨by dsimp only;omega,by dsimp only;rw [jA,htl];rfl,h69,λF' _ h2=>hp62.tree.at.mono ((qIE hj1).trans ((qEC hj2).trans ((qEC hj3).trans h2))),λ_=>hp62.tree.at.mono ((qIE hj1).trans ((qEC hj2).trans (qEC hj3))),(hok.mono ((qEC hj1).trans ((qEC hj2).trans (qEC hj3)))).snoc (by rw [htl,hx];exact⟨O,O,O,O,hp62.chg,hp62.ok,hp62.row.sl.mono ((qIE hj2).trans (qEC hj3)),hp62.bs.mono (qIE hj3)⟩)⟩ (Sub.of O) (λ_ h=>h)
 refine vK<|y6<|y6<|vL ?_
 refine yq (yu C4 ?_)
 refine ym λ_ C20=>?_
 obtain rfl:b=2^dp:=by omega
 refine vW [2,3,4,5,0,1] [blk gs [I (dp:Nat),v1,v2,.map (some nA),Ptr rA,.map (some nB),Ptr rB,.slice cA cl.length cc,.slice oA no.length oc,.slice tA tg.length tc,.slice hA hd.length hc] 129,mT,mH,F,H,mt] O xC<|yt<|yn 3 O<|yp (qAZ O O (λF' hF=>qKl F' gs (I (dp:Nat)) v1 v2 (.map (some nA)) (Ptr rA) (.map (some nB)) (Ptr rB) (.slice cA cl.length cc) (.slice oA no.length oc) (.slice tA tg.length tc) hA hd.length hc hd (hrh.sl.mono (Fa hF)) xB xB (qAI.blk0.mono (hF (blk gs [I (dp:Nat),v1,v2,.map (some nA),Ptr rA,.map (some nB),Ptr rB,.slice cA cl.length cc,.slice oA no.length oc,.slice tA tg.length tc,.slice hA hd.length hc] 129) xD)))) O λg75 _=>yp (qAZ O O (λF' hF=>qI7 F' (hK.mo hF) (qCp (hd.getD (hd.length-1) qBE)) (hd.getD (hd.length-1) qBE).nsA (hd.getD (hd.length-1) qBE).nsc hgd (hns.mono (Fa hF)))) O λg76 _=>yp (qAJ O O ent (vi [blk gs [I (dp:Nat),v1,v2,.map (some nA),Ptr rA,.map (some nB),Ptr rB,.slice cA cl.length cc,.slice oA no.length oc,.slice tA tg.length tc,.slice hA hd.length hc] 129,mT,mH] [F,H,mt] (A':=λx:AdR=> [blk gs [I (dp:Nat),v1,v2,.map (some nA),Ptr rA,.map (some nB),Ptr rB,.slice cA cl.length cc,.slice oA no.length oc,.slice x.tA (tg++ [gu]).length x.tc,.slice x.hA (hd++ [adH ((qCp (hd.getD (hd.length-1) qBE)).dig) dp rn hd (kvT kv cl dp (2^dp)) x.nA x.nc]).length x.hc] 129,x.mT,x.mH]) (new:=λx=> [x.mN]) (λF' hF=>qQm F' mT mH (hK.mo hF) gs dp rB v1 v2 (.map (some nA)) (Ptr rA) (.map (some nB)) (.slice cA cl.length cc) (.slice oA no.length oc) tA tc tg hrt htg hA hc hd hrh hhd hdp gu (kvT kv cl dp (2^dp)) (hu F' (Fa hF) (Fa hF)) (qDx hf hcl hkl dp xB) RA rn rc au (hR.mono (Fa hF)) (hRs.mono (Fa hF)) ((qCp (hd.getD (hd.length-1) qBE)).dig)))) O ?_
 rintro r77 hp77
 refine yi C20<|ym λ_ C21=>?_
 have hu0:qKO (lbE nxt):=hun
 refine yt<|yn 2 O<|yj (qAB O O) O<|vA 5 qBR qCM O O O O O<|yj (qAb O O isAgg124 qCM (m:=blk gs [I (dp:Nat),v1,v2,.map (some nA),Ptr rA,.map (some nB),Ptr rB,.slice cA cl.length cc,.slice oA no.length oc,.slice r77.tA (tg++ [gu]).length r77.tc,.slice r77.hA (hd++ [adH ((qCp (hd.getD (hd.length-1) qBE)).dig) dp rn hd (kvT kv cl dp (2^dp)) r77.nA r77.nc]).length r77.hc] 129) xD (qAI.blk0.sub 5 2) O) O<|yp (qBx O O (λF' hF=>qNY F' nB rB nxt (hm.mono (Fa hF)) (hl.mono (Fa hF)) hu0 hln RA rn rc au (hR.mono (Fa hF)) (hRs.mono (Fa hF)) hrn)) O ?_
 rintro r83 hp83
 refine yj (qAB O O) O<|vA 3 qBR qCM O O O O O<|vG (qAU (i:=0) O O O O O qCM O xD) O O λ_ _=>yi C21<|yl λ_ C22=>yn 2 O<|yj (qAB O O) O<|vA 7 qBR sizeOf126 O O O O O<|vG (qAU (i:=0) (l:= [I (dp:Nat),v1,v2,.map (some r83.g),Ptr r83.r,.map (some nB),Ptr rB,.slice cA cl.length cc,.slice oA no.length oc,.slice r77.tA (tg++ [gu]).length r77.tc,.slice r77.hA (hd++ [adH ((qCp (hd.getD (hd.length-1) qBE)).dig) dp rn hd (kvT kv cl dp (2^dp)) r77.nA r77.nc]).length r77.hc]) (vs:= [.slice none 0 0]) O O O O O sizeOf126 O xD) O O λ_ _=>yj (qAB O O) O<|vA 8 qBR qBs O O O O O<|vG (qAU (i:=0) (l:= [I (dp:Nat),v1,v2,.map (some r83.g),Ptr r83.r,.map (some nB),Ptr rB,.slice none 0 0,.slice oA no.length oc,.slice r77.tA (tg++ [gu]).length r77.tc,.slice r77.hA (hd++ [adH ((qCp (hd.getD (hd.length-1) qBE)).dig) dp rn hd (kvT kv cl dp (2^dp)) r77.nA r77.nc]).length r77.hc]) (vs:= [.slice none 0 0]) O O O O O qBs O xD) O O λ_ _=>yi C22<|yl λ_ C23=>yn 2 O<|vW [4,6,7,8,9,5,0,1,2,3] [H,r77.mN,r83.mm,r83.M,r83.mr,mt,blk gs [I (dp:Nat),v1,v2,.map (some r83.g),Ptr r83.r,.map (some nB),Ptr rB,.slice none 0 0,.slice none 0 0,.slice r77.tA (tg++ [gu]).length r77.tc,.slice r77.hA (hd++ [adH ((qCp (hd.getD (hd.length-1) qBE)).dig) dp rn hd (kvT kv cl dp (2^dp)) r77.nA r77.nc]).length r77.hc] 129,r77.mT,r77.mH,F] O xC<|vk (λhj1=>?_)
 refine vk (λhj2=>?_)
 refine vk (λhj3=>?_)
 refine vk (λhj4=>?_)
 exact yi C23<|yr<|yw hw0 O (⟨r77.tA,r77.tc,r77.mT,r77.hA,r77.hc,r77.mH,r77.nA,r77.nc,gu,tl,At,ct,mt,r83.g,r83.r,r83.ls,U [U [U [U [H,r77.mN],r83.mm],r83.M],r83.mr]⟩:StR) O ⟨hp77.nd.sl.mono ((qIE hj1).trans ((qEC hj2).trans ((qEC hj3).trans (qEC hj4)))),hp77.rt,hp77.rh,(hu1 xB).mono ((qEC hj1).trans ((qEC hj2).trans ((qEC hj3).trans (qEC hj4)))),htl,hro,hok.mono ((qEC hj1).trans ((qEC hj2).trans ((qEC hj3).trans (qEC hj4)))),hp83.mp.at.mono ((qIE hj2).trans ((qEC hj3).trans (qEC hj4))),hp83.nx.at.mono ((qIE hj3).trans (qEC hj4)),hp83.pm,by obtain ⟨A3,n3,c3,q1,q2,_⟩:=hp83.ro.see;exact⟨A3,n3,c3,q1.mono (qIE hj4),q2.mono (qIE hj4)⟩⟩ [2,3,4,5,1,0] O xC
structure SvR where
 gs:Nat
 dp:Nat
 nA:Nat
 rA:Nat
 nB:Nat
 rB:Nat
 gb:Nat
 nxt:List Lb
 now:List Lb
 cA:yS
 cc:Nat
 cl:List Chg
 oA:yS
 oc:Nat
 no:List xA
 tA:yS
 tc:Nat
 tg:yT
 hA:yS
 hc:Nat
 hd:List RhD
 mX:Hp
 NX:Hp
 mC:Hp
 mO:Hp
 mT:Hp
 mH:Hp
 md:Hp
 N:Hp
 bk:CbR
 kv:List (List Sm.PR)
 aud:List Aud
 audN:List Aud
abbrev SvR.sb(x:SvR):Hp:=blk x.gs [I (x.dp:Nat),Ptr x.gb,.bool false,.map (some x.nA),Ptr x.rA,.map (some x.nB),Ptr x.rB,.slice x.cA x.cl.length x.cc,.slice x.oA x.no.length x.oc,.slice x.tA x.tg.length x.tc,.slice x.hA x.hd.length x.hc] 129
def SvR.hs(x:SvR):List Hp:= [x.sb,x.mX,x.NX,x.mC,x.mO,x.mT,x.mH,x.bk.blk x.gb,x.md,x.N]
abbrev SvR.kvL(x:SvR):List Sm.PR:=x.kv.getD (x.tg.length-1) []
abbrev SvR.hdL(x:SvR):RhD:=x.hd.getD (x.hd.length-1) qBE
def qTK(G:Hp)(g:Nat)(au:List Aud):Prop:= ∃RA rn rc,qAI G ⟨g,0,none⟩ [.slice RA rn rc]/\Sl G 4 RA rn rc (qBn au)
theorem qTK.mono{G G':Hp}{g:Nat}{au:List Aud}(h:qTK G g au)(hl:Le G G'):qTK G' g au:=by
 obtain ⟨A,n,c,h1,h2⟩:=h
 exact⟨A,n,c,h1.mono hl,h2.mono hl⟩
abbrev nsl(G:Hp)(h:RhD):Prop:=Sl G 1 h.nsA h.ns.length h.nsc (qAG h.ns)
structure SvP (G:Hp) (x:SvR):Prop where
 mx:Fw.MapS x.mX x.nB (lbV x.nxt)
 nx:NxS x.NX x.nxt
 rc:Row x.mC 155 2 x.cA x.cl.length x.cc (qDI x.cl)
 ro:Row x.mO 9 1 x.oA x.no.length x.oc (qAG x.no)
 rt:Row x.mT 130 1 x.tA x.tg.length x.tc (qEM x.tg)
 rh:Row x.mH 52 5 x.hA x.hd.length x.hc (qGr x.hd)
 bk:CbP x.N x.md x.bk
 nw:Fw.MapAt G x.nA (lbV x.now)
 nl:LbA G x.now
 ra:qTK G x.rA x.aud
 rb:qTK G x.rB x.audN
 tr: ∀i,i<x.tg.length->qCo G (x.tg.getD i 0) (x.kv.getD i [])
 hn: ∀i,i<x.hd.length->nsl G (x.hd.getD i qBE)
theorem SvP.mono{G G':Hp}{x:SvR}(h:SvP G x)(hl:Le G G'):SvP G' x:=
 {h with nw:=h.nw.mono hl,nl:=h.nl.mono hl,ra:=h.ra.mono hl,rb:=h.rb.mono hl,tr:=λi hi=>(h.tr i hi).mono hl,hn:=λi hi=>(h.hn i hi).mono hl}
structure SvI (x:SvR):Prop where
 dp:x.dp<=4
 un:qKO (lbE x.nxt)
 uw:qKO (lbE x.now)
 ln: ∀y∈x.nxt,y.l.length<=1000
 lw: ∀y∈x.now,y.l.length<=1000
 cl:qPw x.cl
 n9: ∀s∈x.no,s.length<=900
 nc:x.no.length=x.cl.length
 t0:0<x.tg.length
 t1:x.tg.length<=15
 th:x.hd.length=x.tg.length
 tk:x.kv.length=x.tg.length
 kf:qCD x.kvL
 kl:x.kvL.length<=5000*x.tg.length
 hg:(qCp x.hdL).good
 al:x.aud.length<=64
 an:x.audN.length<=64
 sz:x.bk.size<=1000
 re:x.bk.R.length<=x.bk.e
theorem lastD(l:List RhD)(x:RhD):(l++ [x]).getD ((l++ [x]).length-1) qBE=x:=by
 rw [jA,jI,Nat.add_sub_cancel,jB,ja (jL _),zK];rfl
theorem qNd{x:RhD}(h1:x.ep<=1000)(h2:x.par.length<=16)(h3:x.ns.length<=16):(qCp x).good:=⟨by show x.ep<_;omega,by show x.par.length<=_;omega,by show x.ns.length<=_;omega⟩
theorem qXT(F:Hp)(hK:yf F)(x:SvR)(hI:SvI x)(hP:SvP F x)(h1:Le x.mX F)(h2:Le x.NX F)(h3:Le x.mC F)(h4:Le x.mO F)(hfit:x.bk.e+qBU (x.no++ [cmB x.no.length x.hd.length])<=x.bk.size):Ct prog 14 [Ptr x.gs] [x.sb,x.mT,x.mH,x.bk.blk x.gb,x.md,x.N,F] (λr:StR×WrR=> .tuple #[.agg #[N64 x.hd.length,Str (qCp x.hdL).dig,I (x.dp:Nat),I (x.audN.length:Nat),.slice r.1.nA (qAl (kvT x.kvL x.cl x.dp (2^x.dp)) x.dp).length r.1.nc],.slice r.1.At r.1.tl.length r.1.ct,I (0:Nat)]) (λr=>StP x.kvL x.cl x.nxt x.audN (qCp x.hdL).dig x.dp x.audN.length x.tg x.hd r.1/\CbP r.2.N r.2.md r.2.x/\CbL x.bk r.2.x (x.no++ [cmB x.no.length x.hd.length])) (λr=> [blk x.gs [I (x.dp:Nat),Ptr x.gb,.bool false,.map (some r.1.cg),Ptr r.1.cr,.map (some x.nB),Ptr x.rB,.slice none 0 0,.slice none 0 0,.slice r.1.tA (x.tg++ [r.1.gu]).length r.1.tc,.slice r.1.hA (x.hd++ [adH ((qCp x.hdL).dig) x.dp x.audN.length x.hd (kvT x.kvL x.cl x.dp (2^x.dp)) r.1.nA r.1.nc]).length r.1.hc] 129,r.1.mT,r.1.mH,r.2.x.blk x.gb,r.2.md,r.2.N,F,r.1.G,r.1.mo]):=by
 obtain ⟨RA,rn,rc,hR,hRs⟩:=hP.rb
 obtain rfl:x.audN.length=rn:=by have:=hRs.1;rw [qDh] at this;exact this
 have hef:=hP.bk.ef
 have i1:=hI.sz
 have i2:=hI.re
 have i3:=hI.nc
 have i4:=hI.cl.len
 have i5:=hI.t1
 have i6:=hI.th
 have i7:=hI.t0
 have i8:=hI.kl
 have i9:=hI.an
 refine y7 func14 O ntmps14 O (λw0 hw0=>?_)
 refine yl λ_ C1=>yp (qAO O qYw O) O λg2 _=>yn 2 O<|yi C1<|ym λ_ C2=>yz<|yl λ_ C3=>yh O<|yj (qBL qWN O O O) O<|yh O<|yi C3<|vC ?_
 refine yl λ_ C4=>yh O<|yj (qAB O O) O<|vA 2 qBR z4_ O O O O O<|vF 0 b4_ O O O O O<|yh O<|yi C4<|vC ?_
 refine vP<|vB<|yq (yu C2 ?_)
 refine ym λ_ C5=>ym λ_ C6=>vW [3,4,5,0,1,2,6,7] [(x.bk.blk x.gb),x.md,x.N,blk x.gs [I (x.dp:Nat),Ptr x.gb,.bool false,.map (some x.nA),Ptr x.rA,.map (some x.nB),Ptr x.rB,.slice x.cA x.cl.length x.cc,.slice x.oA x.no.length x.oc,.slice x.tA x.tg.length x.tc,.slice x.hA x.hd.length x.hc] 129,x.mT,x.mH,F,blk g2 [.int .u64 0,Str [],I 0,I 0,.slice none 0 0] 52] O xC<|yt<|yh O<|yp (qAJ O O ent (vi [x.bk.blk x.gb,x.md,x.N] [blk x.gs [I (x.dp:Nat),Ptr x.gb,.bool false,.map (some x.nA),Ptr x.rA,.map (some x.nB),Ptr x.rB,.slice x.cA x.cl.length x.cc,.slice x.oA x.no.length x.oc,.slice x.tA x.tg.length x.tc,.slice x.hA x.hd.length x.hc] 129,x.mT,x.mH,F,blk g2 [.int .u64 0,Str [],I 0,I 0,.slice none 0 0] 52] (A':=λy:WrR=> [y.x.blk x.gb,y.md,y.N]) (new:=λ_=> []) (λF' hF=>qQR F' x.md x.N (hK.mo hF) x.gs x.gb _ _ _ _ _ _ _ _ x.oA x.oc x.no (hP.ro.sl.mono (h4.trans (Fa hF))) xB hI.n9 x.hA x.hd.length x.hc xB (qAI.blk0.mono (hF (blk x.gs [I (x.dp:Nat),Ptr x.gb,.bool false,.map (some x.nA),Ptr x.rA,.map (some x.nB),Ptr x.rB,.slice x.cA x.cl.length x.cc,.slice x.oA x.no.length x.oc,.slice x.tA x.tg.length x.tc,.slice x.hA x.hd.length x.hc] 129) xD)) x.bk hP.bk hfit xB xB))) O ?_
 rintro r18 ⟨hb18,hL18⟩
 refine yh O<|yi C6<|yl λ_ C7=>yh O<|yj ((qAQ O O O).no xC) O<|yi C7<|vC ?_
 refine yy C5<|ym λ_ C8=>vW [3,4,5,6,7,0,1,2] [blk x.gs [I (x.dp:Nat),Ptr x.gb,.bool false,.map (some x.nA),Ptr x.rA,.map (some x.nB),Ptr x.rB,.slice x.cA x.cl.length x.cc,.slice x.oA x.no.length x.oc,.slice x.tA x.tg.length x.tc,.slice x.hA x.hd.length x.hc] 129,x.mT,x.mH,F,blk g2 [.int .u64 0,Str [],I 0,I 0,.slice none 0 0] 52,(r18.x.blk x.gb),r18.md,r18.N] O xC<|yt<|yh O<|yp (qAJ O O ent (vi [blk x.gs [I (x.dp:Nat),Ptr x.gb,.bool false,.map (some x.nA),Ptr x.rA,.map (some x.nB),Ptr x.rB,.slice x.cA x.cl.length x.cc,.slice x.oA x.no.length x.oc,.slice x.tA x.tg.length x.tc,.slice x.hA x.hd.length x.hc] 129,x.mT,x.mH] [F,blk g2 [.int .u64 0,Str [],I 0,I 0,.slice none 0 0] 52,(r18.x.blk x.gb),r18.md,r18.N] (A':=λr:StR=> [blk x.gs [I (x.dp:Nat),Ptr x.gb,.bool false,.map (some r.cg),Ptr r.cr,.map (some x.nB),Ptr x.rB,.slice none 0 0,.slice none 0 0,.slice r.tA (x.tg++ [r.gu]).length r.tc,.slice r.hA (x.hd++ [adH ((qCp x.hdL).dig) x.dp x.audN.length x.hd (kvT x.kvL x.cl x.dp (2^x.dp)) r.nA r.nc]).length r.hc] 129,r.mT,r.mH]) (new:=λr=> [r.mo,r.G]) (λF' hF=>qIe F' x.mT x.mH (hK.mo hF) x.gs x.dp x.nA x.rA x.nB x.rB (Ptr x.gb) (.bool false) x.tA x.tc x.tg hP.rt xB x.hA x.hc x.hd hP.rh xB hI.dp x.cA x.cc x.cl (hP.rc.sl.mono (h3.trans (Fa hF))) hI.cl x.oA x.oc x.no x.nxt (hP.mx.at.mono (h1.trans (Fa hF))) (hP.nx.at.mono (h2.trans (Fa hF))) hI.un (λy hy=>jf (hI.ln y hy) xC) RA _ rc x.audN (hR.mono (Fa hF)) (hRs.mono (Fa hF)) xB hI.t0 xB x.kvL ((hP.tr _ xB).mono (Fa hF)) hI.kf xB hI.hg ((hP.hn _ xB).mono (Fa hF))))) O ?_
 rintro r24 hp24
 refine yh O<|yi C8<|yl λ_ C9=>yh O<|yp (qAZ O O (λF' hF=>qKl F' x.gs _ _ _ _ _ _ _ _ _ _ r24.hA (x.hd++ [(adH ((qCp x.hdL).dig) x.dp x.audN.length x.hd (kvT x.kvL x.cl x.dp (2^x.dp)) r24.nA r24.nc)]).length r24.hc (x.hd++ [(adH ((qCp x.hdL).dig) x.dp x.audN.length x.hd (kvT x.kvL x.cl x.dp (2^x.dp)) r24.nA r24.nc)]) (hp24.rh.sl.mono (Fa hF)) (by rw [jA];exact zy _) (by rw [jA,jI];omega) (qAI.blk0.mono (hF (blk x.gs [I (x.dp:Nat),Ptr x.gb,.bool false,.map (some r24.cg),Ptr r24.cr,.map (some x.nB),Ptr x.rB,.slice none 0 0,.slice none 0 0,.slice r24.tA (x.tg++ [r24.gu]).length r24.tc,.slice r24.hA (x.hd++ [adH ((qCp x.hdL).dig) x.dp x.audN.length x.hd (kvT x.kvL x.cl x.dp (2^x.dp)) r24.nA r24.nc]).length r24.hc] 129) xD)))) O λg26 _=>?_
 rw [lastD]
 exact yh O<|vG (qAF (i:=4) (l:= [.int .u64 0,Str [],I 0,I 0,.slice none 0 0]) (vs:= [N64 (x.hd.length),Str ((qCp x.hdL).dig),I (x.dp:Nat),I (x.audN.length:Nat),.slice r24.nA (qAl (kvT x.kvL x.cl x.dp (2^x.dp)) x.dp).length r24.nc]) O O O O O qGV O O) O O λ_ _=>yn 2 O<|yi C9<|yr<|vH hw0 (λ_ _ h=>h) (rv3 O (RV.blkA 4 O O qM2 qGV) O O) (qAf (r24,r18) O ⟨hp24,hb18,hL18⟩ [0,1,2,5,6,7,3,9,8] O xC)
structure Srv (m G:Hp) (x:SvR):Prop where
 eq:m=U x.hs
 dj:Djs x.hs
 p:SvP G x
 i:SvI x
theorem Srv.mono{m G G':Hp}{x:SvR}(h:Srv m G x)(hl:Le G G'):Srv m G' x:={h with p:=h.p.mono hl}
theorem Srv.le{m G:Hp}{x:SvR}(h:Srv m G x){a:Hp}(ha:a∈x.hs):Le a m:=by rw [h.eq];exact qG2 h.dj ha
def SvR.sub(x:SvR)(s:xA)(en:En)(nt:xA)(ch:Chg)(r:SbR):SvR:=
 {x with nxt:=qDt x.nxt ⟨s,r.A,r.c,qA2 (lbE x.nxt) s++ [en],r.mE⟩,cl:=x.cl++ [ch],no:=x.no++ [nt],mX:=r.mX,NX:=U [r.mr,r.mE],mC:=r.w.mC,cA:=r.w.cA,cc:=r.w.cc,mO:=r.w.mO,oA:=r.w.oA,oc:=r.w.oc}
theorem SvR.sub_nxt(x:SvR)(s:xA)(en:En)(nt:xA)(ch:Chg)(r:SbR):lbE (x.sub s en nt ch r).nxt=qFD (lbE x.nxt) s (qA2 (lbE x.nxt) s++ [en]):=qYb _ _
theorem SvI.sub2{x:SvR}(h:SvI x){s:xA}{A:yS}{c:Nat}{e:En}{m:Hp}(hn:(qA2 (lbE x.nxt) s).length<1000): ∀y∈qDt x.nxt (⟨s,A,c,qA2 (lbE x.nxt) s++ [e],m⟩:Lb),y.l.length<=1000:=λy hy=>by
 rcases qKx hy with hy|rfl
 . exact h.ln y hy
 . show(_++ [e]).length<=_;rw [jA,jI];omega
theorem SvI.sub3{x:SvR}(h:SvI x){ch:Chg}(hc:x.cl.length<256)(hk:ch.k.length=16)(hv:ch.v.length<=1000000):qPw (x.cl++ [ch]):=by
  refine⟨?_,λy hy=>?_,λy hy=>?_⟩
  . rw [jA,jI];omega
  . rcases List.mem_append.1 hy with hy|hy
    . exact h.cl.k16 y hy
    . rw [List.mem_singleton.1 hy];exact hk
  . rcases List.mem_append.1 hy with hy|hy
    . exact h.cl.val y hy
    . rw [List.mem_singleton.1 hy];exact hv
theorem SvI.sub4{x:SvR}(h:SvI x){nt:xA}(hn:nt.length<=900): ∀s∈x.no++ [nt],s.length<=900:=λy hy=>by
 rcases List.mem_append.1 hy with hy|hy
 . exact h.n9 y hy
 . rw [List.mem_singleton.1 hy];exact hn
theorem SvI.sub5{x:SvR}(h:SvI x){nt:xA}{ch:Chg}:(x.no++ [nt]).length=(x.cl++ [ch]).length:=by
 rw [jA,jA,h.nc];rfl
theorem SvI.sub{x:SvR}(h:SvI x){s:xA}{en:En}{nt:xA}{ch:Chg}{r:SbR}(hg:(qA2 (lbE x.nxt) s).length<1000)(hc:x.cl.length<256)(hk:ch.k.length=16)(hv:ch.v.length<=1000000)(hn:nt.length<=900):SvI (x.sub s en nt ch r):=
 {dp:=h.dp,uw:=h.uw,lw:=h.lw,t0:=h.t0,t1:=h.t1,th:=h.th,tk:=h.tk,kf:=h.kf,kl:=h.kl,hg:=h.hg,al:=h.al,an:=h.an,sz:=h.sz,re:=h.re,un:=(by rw [SvR.sub_nxt];exact qKy h.un),ln:=SvI.sub2 h hg,cl:=SvI.sub3 h hc hk hv,n9:=SvI.sub4 h hn,nc:=SvI.sub5 h}
theorem qNT{w0:Wd}{w:World}{a b:Hp}{r:List Hp}(h:St w0 (a::b::r) w):Dj a b/\St w0 (U [a,b]::r) w:=⟨h.dj2,h.joinU⟩
abbrev SvR.e1(x:SvR):xA->Nat->xA->xA->Int->xA->Nat->List xA->List xA->SbR->SvR:=λs v o r h p i ch pt y=>
 x.sub s ⟨v,o,r,h,p⟩ (117::upB s (qA6 v o r h p) (sgB i ch pt)) ⟨Sha.tagged 11 [s],qCl v o r h p⟩ y
theorem qPS{a b F:Hp}(h1:Le a F)(h2:Le b F):Le (U [a,b]) F:=λg o h=>by
 obtain ⟨m,hm,hg⟩:=qCa h
 rcases List.mem_cons.1 hm with rfl|hm
 . exact h1 g o hg
 . rw [List.mem_singleton.1 hm] at hg;exact h2 g o hg
def qWI(x:SvR)(s:xA)(had:Bool)(z:En):Prop:= ∀F':Hp,Fw.MapAt F' x.nB (lbV x.nxt)->LbA F' x.nxt->Cz prog 102 [.agg #[.map (some x.nB),Ptr x.rB],Str s] F' (.tuple #[.agg #[N64 z.v,Str z.o,Str z.r,I z.h,Str z.p],.bool had])
theorem qVI{x:SvR}{s:xA}(h:qA2 (lbE x.nxt) s= []):qWI x s false qCv:=λF' h1 h2=>qT4 F' x.nB _ x.nxt h1 h2 s (by rw [h];exact jH _) h
theorem qXS(F m G:Hp)(hK:yf F)(hGF:Le G F)(x:SvR)(hS:Srv m G x)(s:xA)(hs2:s.length<=200)(v:Nat)(o r:xA)(h:Int)(p:xA)(hE:qBK v o r h p=0)(i:Nat)(A1:yS)(n1 c1:Nat)(ch:List xA)(hch:Sl F 1 A1 n1 c1 (qAG ch))(A2:yS)(n2 c2:Nat)(pt:List xA)(hpt:Sl F 1 A2 n2 c2 (qAG pt))(hi:i<=63)(h35:ch.length=35)(hn6:pt.length<=6)(hc16: ∀s∈ch,s.length=16)(hp16: ∀s∈pt,s.length=16)(hp3:pt.length<=3)(hno2:x.no.length<256)(hon:(qA2 (lbE x.nxt) s).length<1000)(had:Bool)(z:En)(hL:qWI x s had z)
    (hJ: ∀F':Hp,Le F F'->Cz prog 103 [.agg #[Str s,N64 (v),Str (o),Str (r),I (h),Str (p),I (i:Nat),.slice A1 n1 c1,.slice A2 n2 c2],.bool had,.agg #[N64 z.v,Str z.o,Str z.r,I z.h,Str z.p]] F' (I (0:Nat))):
    Ct prog 36 [Ptr x.gs,.agg #[Str s,N64 (v),Str (o),Str (r),I (h),Str (p),I (i:Nat),.slice A1 n1 c1,.slice A2 n2 c2]] [m,F] (λ_:Hp×SbR=>I (0:Nat)) (λy=>Srv y.1 G (x.e1 s v o r h p i ch pt y.2)) (λy=> [y.1,F]):=λw0 w hw=>by
  have hP:=hS.p
  have hI:=hS.i
  have hcl:=hI.cl.len
  have hnc:=hI.nc
  obtain ⟨mr,mo,hM,hjm,hro,hf⟩:=hP.nx.split s
  rw [hS.eq] at hw
  have h0:=(hw.splitUs hS.dj).pick [2,0,1,3,4,5,6,7,8,9,10] xC
  have h0':St w0 (U [mr,mo]:: [x.sb,x.mX,x.mC,x.mO,x.mT,x.mH,x.bk.blk x.gb,x.md,x.N,F]) w:=hM▸h0
  have h1:=(h0'.splitUs (A:= [mr,mo]) ⟨Dj.U_right.2 (by simpa using hjm),λ_=> .inr O,yd⟩).pick [2,3,0,1,4,5,6,7,8,9,10,11] xC
  refine(vi [x.sb,x.mX,mr,mo,x.mC,x.mO] [x.mT,x.mH,x.bk.blk x.gb,x.md,x.N,F] (A':=λy:SbR=> [blk x.gs [I (x.dp:Nat),Ptr x.gb,.bool false,.map (some x.nA),Ptr x.rA,.map (some x.nB),Ptr x.rB,.slice y.w.cA (x.cl++ [(⟨Sha.tagged 11 [s],qCl v o r h p⟩:Chg)]).length y.w.cc,.slice y.w.oA (x.no++ [117::(upB s (qA6 v o r h p) (sgB i ch pt))]).length y.w.oc,.slice x.tA x.tg.length x.tc,.slice x.hA x.hd.length x.hc] 129,y.mX,mr,y.w.mC,y.w.mO]) (new:=λy=> [y.mE]) (λF' hF=>qTv F' x.mX mr mo x.mC x.mO s (hK.mo hF) x.gs x.nB _ _ _ _ _ _ _ _ x.cA x.cc x.cl hP.rc xB x.oA x.oc x.no hP.ro xB x.nxt hP.mx hro (Nat.le_of_lt hon) hs2 v o r h p hE i A1 n1 c1 ch (hch.mono (Fa hF)) A2 n2 c2 pt (hpt.mono (Fa hF)) hi h35 hn6 hc16 hp16 hp3 hno2 z had (λF2 _ g1 g2 g3=>hL F2 (hP.mx.at.mono g1) ((hM▸hP.nx.at:LbA (U [mr,mo]) x.nxt).mono (qPS g2 g3))) (λF2 h2=>hJ F2 ((hF F xD).trans h2))) w0 w h1).mono λe w' ⟨y,he,⟨q1,q2,q3,q4⟩,hst⟩=>?_
  have h2:=qNT (hst.pick [2,11,0,1,3,4,5,6,7,8,9,10] xC)
  have h3:=St.joinUs (A:=(x.e1 s v o r h p i ch pt {y with mr:=mr}).hs) (r:= [F]) (h2.2.pick [1,2,0,3,4,5,6,7,8,9,10] xC)
  have hsg:=qFs (i:=i) hc16 hp16 h35
  have hul:=qHL s (qA6 v o r h p) (sgB i ch pt)
  have hel:=qB4 hE
  refine⟨(U (x.e1 s v o r h p i ch pt {y with mr:=mr}).hs,{y with mr:=mr}),he,⟨O,h3.1,⟨q1,hf _ _ _ _ q2 h2.1,q3,q4,hP.rt,hP.rh,hP.bk,hP.nw,hP.nl,hP.ra,hP.rb,hP.tr,hP.hn⟩,hI.sub hon xB (Sha.tagged_length _ _) ?_ ?_⟩,h3.2⟩
  . show(qCl v o r h p).length<=_
    unfold qCl;rw [yX hE,Sha.tagged_length];decide
  . show(_::_).length<=900
    rw [jC];omega
def SvR.pub(x:SvR)(r:StR×WrR):SvR:=
 {x with nA:=r.1.cg,rA:=r.1.cr,now:=r.1.cl,aud:=x.audN,cA:=none,cc:=0,cl:= [],oA:=none,oc:=0,no:= [],tA:=r.1.tA,tc:=r.1.tc,tg:=x.tg++ [r.1.gu],hA:=r.1.hA,hc:=r.1.hc,hd:=x.hd++ [adH (qCp x.hdL).dig x.dp x.audN.length x.hd (kvT x.kvL x.cl x.dp (2^x.dp)) r.1.nA r.1.nc],mC:=λ_=>none,mO:=λ_=>none,mT:=r.1.mT,mH:=r.1.mH,md:=r.2.md,N:=r.2.N,bk:=r.2.x,kv:=x.kv++ [(kvT x.kvL x.cl x.dp (2^x.dp))]}
theorem qLY{α:Type}(l:List α)(x no:α):(l++ [x]).getD ((l++ [x]).length-1) no=x:=by
 rw [jA,jI,Nat.add_sub_cancel,jB,ja (jL _),zK];rfl
theorem qEl{α:Type}(l:List α)(x no:α){i:Nat}(h:i<l.length):(l++ [x]).getD i no=l.getD i no:=by
 rw [jB,jk h,<-jB]
theorem qDz{α:Type}(l:List α)(x no:α){i:Nat}(h:i=l.length):(l++ [x]).getD i no=x:=by
 rw [h,jB,ja (jL _),zK];rfl
theorem SvR.pub_kvL(x:SvR)(r:StR×WrR)(h:x.kv.length=x.tg.length):(x.pub r).kvL=(kvT x.kvL x.cl x.dp (2^x.dp)):=by
 show(x.kv++ [_]).getD ((x.tg++ [_]).length-1) []=_
 refine qDz _ _ _ ?_
 rw [jA,jI,h];omega
theorem SvR.pub_hdL(x:SvR)(r:StR×WrR):(x.pub r).hdL=adH (qCp x.hdL).dig x.dp x.audN.length x.hd (kvT x.kvL x.cl x.dp (2^x.dp)) r.1.nA r.1.nc:=qLY _ _ _
theorem SvI.pub{x:SvR}(h:SvI x)(r:StR×WrR)(ht:x.tg.length<15)(hp:StP x.kvL x.cl x.nxt x.audN (qCp x.hdL).dig x.dp x.audN.length x.tg x.hd r.1)(hz:r.2.x.size<=1000)(hre:r.2.x.R.length<=r.2.x.e):SvI (x.pub r):=by
  have h4:=h.dp
  have h5:=h.cl.len
  obtain ⟨_,h16⟩:=qK1 h4
  have hkl:=h.kl
  have hth:=h.th
  have htk:=h.tk
  refine{dp:=h.dp,un:=h.un,ln:=h.ln,cl:=⟨jH _,(λy hy=>by cases hy),(λy hy=>by cases hy)⟩,n9:=(λy hy=>by cases hy),nc:=rfl,al:=h.an,an:=h.an,uw:=?_,lw:=?_,t0:=?_,t1:=?_,th:=?_,tk:=?_,kf:=?_,kl:=?_,hg:=?_,sz:=?_,re:=?_}
  . exact(hp.pm.map _).nodup_iff.2 h.un
  . intro y hy
    have:(y.nm,y.l)∈lbE x.nxt:=hp.pm.subset (List.mem_map.2 ⟨y,hy,O⟩)
    obtain ⟨z,hz,e⟩:=List.mem_map.1 this
    have:=h.ln z hz
    rw [show y.l=z.l from(yY Prod.snd e).symm];exact this
  . show 0<(x.tg++ [_]).length
    rw [jA];exact zy _
  . show(x.tg++ [_]).length<=15
    rw [jA,jI];omega
  . show(x.hd++ [_]).length=(x.tg++ [_]).length
    rw [jA,jA,hth];rfl
  . show(x.kv++ [_]).length=(x.tg++ [_]).length
    rw [jA,jA,htk];rfl
  . rw [x.pub_kvL r htk]
    exact qDx h.kf h.cl xB _ h16
  . rw [x.pub_kvL r htk]
    show _<=5000*(x.tg++ [_]).length
    rw [jA,jI]
    have:=qMl x.kvL x.cl x.dp (2^x.dp)
    have h6:2^x.dp*x.cl.length<=16*256:=Nat.mul_le_mul h16 h5
    omega
  . rw [x.pub_hdL r]
    refine qNd ?_ (qLj _) ?_
    . show x.hd.length<=_;omega
    . show(qAl _ x.dp).length<=16
      unfold qAl;rw [qBk];exact h16
  . exact hz
  . exact hre
theorem CbL.re{x y:CbR}{l:List xA}(hL:CbL x y l)(h:x.R.length<=x.e):y.R.length<=y.e:=by
 rw [hL.R,hL.e,jA]
 have h7: ∀l:List xA,l.length<=qBU l:=λl=>by
  induction l with
  |nil=>exact jH _
  |cons a l ih=>
   have h8:=qCs a.length
   unfold qBU at ih⊢
   rw [jY,zE,jC];omega
 have:=h7 l
 omega
structure PbP (m' G G2:Hp) (x:SvR) (r:StR×WrR):Prop where
 s: ∀G3,Le G G3->Le G2 G3->Srv m' G3 (x.pub r)
 ns:nsl G2 (x.pub r).hdL
 len:r.1.tl.length=2^x.dp
 ro:Row r.1.mo 59 5 r.1.At r.1.tl.length r.1.ct (qIK r.1.tl)
 ok:qPv G2 x.kvL x.cl x.dp r.1.tl
 bk:CbL x.bk r.2.x (x.no++ [cmB x.no.length x.hd.length])
 pm:(lbE r.1.cl).Perm (lbE x.nxt)
theorem qQ7(F m G:Hp)(hK:yf F)(hGF:Le G F)(x:SvR)(hS:Srv m G x)(ht:x.tg.length<15)(hfit:x.bk.e+qBU (x.no++ [cmB x.no.length x.hd.length])<=x.bk.size):
    Ct prog 14 [Ptr x.gs] [m,F] (λy:Hp×StR×WrR=> .tuple #[.agg #[N64 x.hd.length,Str (qCp x.hdL).dig,I (x.dp:Nat),I (x.audN.length:Nat),.slice y.2.1.nA (qAl (kvT x.kvL x.cl x.dp (2^x.dp)) x.dp).length y.2.1.nc],.slice y.2.1.At y.2.1.tl.length y.2.1.ct,I (0:Nat)]) (λy=>PbP y.1 G y.2.1.G x y.2) (λy=> [y.1,F,y.2.1.G,y.2.1.mo]):=λw0 w hw=>by
  have hP:=hS.p
  have hI:=hS.i
  have hth:=hI.th
  have htk:=hI.tk
  rw [hS.eq] at hw
  have h1:=(hw.splitUs hS.dj).pick [0,5,6,7,8,9,1,2,3,4,10] xC
  refine(vi [x.sb,x.mT,x.mH,x.bk.blk x.gb,x.md,x.N] [x.mX,x.NX,x.mC,x.mO,F] (A':=λy:StR×WrR=> [blk x.gs [I (x.dp:Nat),Ptr x.gb,.bool false,.map (some y.1.cg),Ptr y.1.cr,.map (some x.nB),Ptr x.rB,.slice none 0 0,.slice none 0 0,.slice y.1.tA (x.tg++ [y.1.gu]).length y.1.tc,.slice y.1.hA (x.hd++ [adH ((qCp x.hdL).dig) x.dp x.audN.length x.hd (kvT x.kvL x.cl x.dp (2^x.dp)) y.1.nA y.1.nc]).length y.1.hc] 129,y.1.mT,y.1.mH,y.2.x.blk x.gb,y.2.md,y.2.N]) (new:=λy=> [y.1.G,y.1.mo]) (λF' hF=>qXT F' (hK.mo hF) x hI (hP.mono (hGF.trans (Fa hF))) (Fa hF) (Fa hF) (Fa hF) (Fa hF) hfit) w0 w h1).mono λe w' ⟨y,he,⟨q1,q2,q3⟩,hst⟩=>?_
  have h2:=hst.empty.empty
  have h3:=St.joinUs (A:=(x.pub y).hs) (r:= [F,y.1.G,y.1.mo]) (h2.pick [0,6,7,13,14,1,2,3,4,5,10,11,12] xC)
  have hI2:=hI.pub y ht q1 (by rw [q3.sz];exact hI.sz) (q3.re hI.re)
  refine⟨(U (x.pub y).hs,y),he,⟨λG3 g1 g2=>⟨O,h3.1,⟨hP.mx,hP.nx,qBf.nil,qBf.nil,q1.rt,q1.rh,q2,q1.mp.mono g2,q1.lb.mono g2,qTK.mono q1.au g2,hP.rb.mono g1,λj hj=>?_,λj hj=>?_⟩,hI2⟩,?_,q1.len,q1.ro,q1.ok,q3,q1.pm⟩,h3.2⟩
  . have hj2:j<x.tg.length+1:=by have:=hj;rw [show(x.pub y).tg=x.tg++ [y.1.gu] from rfl,jA,jI] at this;exact this
    show qCo G3 ((x.tg++ [_]).getD j 0) ((x.kv++ [_]).getD j [])
    by_cases hlt:j<x.tg.length
    . rw [qEl _ _ _ hlt,qEl _ _ _ xB];exact(hP.tr j hlt).mono g1
    . rw [qDz _ _ _ xB,qDz _ _ _ xB];exact q1.tu.mono g2
  . have hj2:j<x.hd.length+1:=by have:=hj;rw [show(x.pub y).hd=x.hd++ [_] from rfl,jA,jI] at this;exact this
    show nsl G3 ((x.hd++ [_]).getD j qBE)
    by_cases hlt:j<x.hd.length
    . rw [qEl _ _ _ hlt];exact(hP.hn j hlt).mono g1
    . rw [qDz _ _ _ xB];exact q1.nr.mono g2
  . rw [x.pub_hdL y];exact q1.nr
def SvR.reg(x:SvR)(a:Aud)(r:RgS):SvR:=
 {x with rB:=r.r,audN:=x.audN++ [a],cl:=x.cl++ [⟨qAv x.audN.length,Sha.tagged 16 [a.nm,qAo a.op a.rt a.ht]⟩],no:=x.no++ [qTS a.nm a.op a.rt a.ht],mC:=r.w.mC,cA:=r.w.cA,cc:=r.w.cc,mO:=r.w.mO,oA:=r.w.oA,oc:=r.w.oc}
theorem qWD{l:List Aud}{nm op rt:xA}{ht:Int}(h:qIB l nm op rt ht=0):l.length<64:=by
  unfold qIB at h
  split at h
  . rename_i h1;exact absurd h h1
  . split at h
    . cases h
    . split at h
      . cases h
      . omega
theorem qQv(F m G:Hp)(hK:yf F)(hA:yg F)(hT:qBl F)(hGF:Le G F)(x:SvR)(hS:Srv m G x)(nm op rt:xA)(ht:Int)(hn2:nm.length<=200)(ho2:op.length<=1000)(hr2:rt.length<=1000)(hE:qIB x.audN nm op rt ht=0)(hP:qBT op rt ht=0)(hno2:x.no.length<256):
    Ct prog 12 [Ptr x.gs,.agg #[Str nm,Str op,Str rt,I ht]] [m,F] (λ_:Hp×RgS=> .tuple #[I (x.audN.length:Nat),I (0:Nat)]) (λy=> ∀G2,Le G G2->Le y.2.mR G2->Srv y.1 G2 (x.reg ⟨nm,op,rt,ht⟩ y.2)) (λy=> [y.1,F,y.2.mR]):=λw0 w hw=>by
  have hQ:=hS.p
  have hI:=hS.i
  have hcl:=hI.cl.len
  have hnc:=hI.nc
  have han:=hI.an
  have h64:=qWD hE
  have hpl:=qCP hP
  obtain ⟨RA,rn,rc,hR,hRs⟩:=hQ.rb
  obtain rfl:x.audN.length=rn:=by have:=hRs.1;rw [qDh] at this;exact this
  rw [hS.eq] at hw
  have h1:=(hw.splitUs hS.dj).pick [0,3,4,1,2,5,6,7,8,9,10] xC
  refine(vi [x.sb,x.mC,x.mO] [x.mX,x.NX,x.mT,x.mH,x.bk.blk x.gb,x.md,x.N,F] (A':=λy:RgS=> [blk x.gs [I (x.dp:Nat),Ptr x.gb,.bool false,.map (some x.nA),Ptr x.rA,.map (some x.nB),Ptr y.r,.slice y.w.cA (x.cl++ [(⟨qAv x.audN.length,Sha.tagged 16 [nm,qAo op rt ht]⟩:Chg)]).length y.w.cc,.slice y.w.oA (x.no++ [qTS nm op rt ht]).length y.w.oc,.slice x.tA x.tg.length x.tc,.slice x.hA x.hd.length x.hc] 129,y.w.mC,y.w.mO]) (new:=λy=> [y.mR]) (λF' hF=>qTx F' x.mC x.mO (hK.mo hF) (hA.mono (Fa hF)) (hT.mono (Fa hF)) x.gs x.rB _ _ _ _ _ _ _ _ x.cA x.cc x.cl hQ.rc xB x.oA x.oc x.no hQ.ro xB RA rc x.audN (hR.mono (hGF.trans (Fa hF))) (hRs.mono (hGF.trans (Fa hF))) xB nm op rt ht hn2 ho2 hr2 hE hP hno2) w0 w h1).mono λe w' ⟨y,he,⟨q1,q2,q3⟩,hst⟩=>?_
  have h3:=St.joinUs (A:=(x.reg ⟨nm,op,rt,ht⟩ y).hs) (r:= [F,y.mR]) (hst.pick [0,3,4,1,2,5,6,7,8,9,10,11] xC)
  refine⟨(U (x.reg ⟨nm,op,rt,ht⟩ y).hs,y),he,λG2 g1 g2=>⟨O,h3.1,⟨hQ.mx,hQ.nx,q2,q3,hQ.rt,hQ.rh,hQ.bk.mono (Le.refl _),hQ.nw.mono g1,hQ.nl.mono g1,hQ.ra.mono g1,?_,λi hi=>(hQ.tr i hi).mono g1,λi hi=>(hQ.hn i hi).mono g1⟩,?_⟩,h3.2⟩
  . obtain ⟨A3,n3,c3,z1,z2,_⟩:=q1.see
    exact⟨A3,n3,c3,z1.mono g2,z2.mono g2⟩
  . refine{dp:=hI.dp,uw:=hI.uw,lw:=hI.lw,t0:=hI.t0,t1:=hI.t1,th:=hI.th,tk:=hI.tk,kf:=hI.kf,kl:=hI.kl,hg:=hI.hg,al:=hI.al,sz:=hI.sz,re:=hI.re,un:=hI.un,ln:=hI.ln,an:=?_,cl:=SvI.sub3 hI xB (qGA _) (by rw [Sha.tagged_length];decide),n9:=SvI.sub4 hI ?_,nc:=SvI.sub5 hI}
    . show(qTS nm op rt ht).length<=900
      unfold qTS
      rw [jC,jA,qDK];omega
    . show(x.audN++ [_]).length<=64
      rw [jA,jI];omega
theorem qXu(F m G:Hp)(hK:yf F)(hA:yg F)(hT:qBl F)(hGF:Le G F)(x:SvR)(hS:Srv m G x)(nm op rt:xA)(ht:Int)(hn2:nm.length<=200)(ho2:op.length<=1000)(hr2:rt.length<=1000)(e:Int)(hE:qIB x.audN nm op rt ht=e)(he0:e≠0):
    Ct prog 12 [Ptr x.gs,.agg #[Str nm,Str op,Str rt,I ht]] [m,F] (λ_:Unit=> .tuple #[I (0:Nat),I e]) (λ_=>True) (λ_=> [m,F]):=λw0 w hw=>by
  have hQ:=hS.p
  have hI:=hS.i
  have hcl:=hI.cl.len
  have hnc:=hI.nc
  have han:=hI.an
  obtain ⟨RA,rn,rc,hR,hRs⟩:=hQ.rb
  obtain rfl:x.audN.length=rn:=by have:=hRs.1;rw [qDh] at this;exact this
  rw [hS.eq] at hw
  have h1:=(hw.splitUs hS.dj).pick [0,3,4,1,2,5,6,7,8,9,10] xC
  refine(vi [x.sb,x.mC,x.mO] [x.mX,x.NX,x.mT,x.mH,x.bk.blk x.gb,x.md,x.N,F] (A':=λ_:Unit=> [x.sb,x.mC,x.mO]) (new:=λ_=> []) (λF' hF=>qTy F' x.mC x.mO (hK.mo hF) (hA.mono (Fa hF)) (hT.mono (Fa hF)) x.gs x.rB _ _ _ _ _ _ _ _ x.cA x.cc x.cl hQ.rc xB x.oA x.oc x.no hQ.ro xB RA rc x.audN (hR.mono (hGF.trans (Fa hF))) (hRs.mono (hGF.trans (Fa hF))) xB nm op rt ht hn2 ho2 hr2 e hE he0) w0 w h1).mono λv w' ⟨y,he,_,hst⟩=>?_
  have h3:=St.joinUs (A:=x.hs) (r:= [F]) (hst.pick [0,3,4,1,2,5,6,7,8,9,10] xC)
  exact⟨y,he,yd,hS.eq▸h3.2⟩
theorem qQS(F m G:Hp)(hK:yf F)(hGF:Le G F)(x:SvR)(hS:Srv m G x)(s:xA)(hs2:s.length<=200)(v:Nat)(o r:xA)(h:Int)(p:xA)(i:Nat)(A1:yS)(n1 c1:Nat)(ch:List xA)(hch:Sl F 1 A1 n1 c1 (qAG ch))(A2:yS)(n2 c2:Nat)(pt:List xA)(hpt:Sl F 1 A2 n2 c2 (qAG pt))(hon:(qA2 (lbE x.nxt) s).length<1000)(had:Bool)(z:En)(hL:qWI x s had z)(e:Int)(he0:e≠0)
    (hJ: ∀F':Hp,Le F F'->Cz prog 103 [.agg #[Str s,N64 (v),Str (o),Str (r),I (h),Str (p),I (i:Nat),.slice A1 n1 c1,.slice A2 n2 c2],.bool had,.agg #[N64 z.v,Str z.o,Str z.r,I z.h,Str z.p]] F' (I e)):
    Ct prog 36 [Ptr x.gs,.agg #[Str s,N64 (v),Str (o),Str (r),I (h),Str (p),I (i:Nat),.slice A1 n1 c1,.slice A2 n2 c2]] [m,F] (λ_:Unit=>I e) (λ_=>True) (λ_=> [m,F]):=λw0 w hw=>by
  have hQ:=hS.p
  have hI:=hS.i
  have hcl:=hI.cl.len
  have hnc:=hI.nc
  obtain ⟨mr,mo,hM,hjm,hro,hf⟩:=hQ.nx.split s
  rw [hS.eq] at hw
  have h0:=(hw.splitUs hS.dj).pick [2,0,1,3,4,5,6,7,8,9,10] xC
  have h0':St w0 (U [mr,mo]:: [x.sb,x.mX,x.mC,x.mO,x.mT,x.mH,x.bk.blk x.gb,x.md,x.N,F]) w:=hM▸h0
  have h1:=(h0'.splitUs (A:= [mr,mo]) ⟨Dj.U_right.2 (by simpa using hjm),λ_=> .inr O,yd⟩).pick [2,3,0,1,4,5,6,7,8,9,10,11] xC
  refine(vi [x.sb,x.mX,mr,mo,x.mC,x.mO] [x.mT,x.mH,x.bk.blk x.gb,x.md,x.N,F] (A':=λ_:Unit=> [x.sb,x.mX,mr,mo,x.mC,x.mO]) (new:=λ_=> []) (λF' hF=>qTw F' x.mX mr mo x.mC x.mO s (hK.mo hF) x.gs x.nB _ _ _ _ _ _ _ _ x.cA x.cc x.cl hQ.rc xB x.oA x.oc x.no hQ.ro xB x.nxt hQ.mx hro (Nat.le_of_lt hon) hs2 v o r h p i A1 n1 c1 ch (hch.mono (Fa hF)) A2 n2 c2 pt (hpt.mono (Fa hF)) z had (λF2 _ g1 g2 g3=>hL F2 (hQ.mx.at.mono g1) ((hM▸hQ.nx.at:LbA (U [mr,mo]) x.nxt).mono (qPS g2 g3))) e he0 (λF2 h2=>hJ F2 ((hF F xD).trans h2))) w0 w h1).mono λv w' ⟨y,he,_,hst⟩=>?_
  have h2:=qNT (hst.pick [2,3,0,1,4,5,6,7,8,9,10,11] xC)
  have h2':St w0 (x.NX:: [x.sb,x.mX,x.mC,x.mO,x.mT,x.mH,x.bk.blk x.gb,x.md,x.N,F]) w':=hM▸h2.2
  have h3:=St.joinUs (A:=x.hs) (r:= [F]) (h2'.pick [1,2,0,3,4,5,6,7,8,9,10] xC)
  exact⟨y,he,yd,hS.eq▸h3.2⟩
structure SeP (m' G G2:Hp) (x:SvR) (r:StR):Prop where
 s: ∀G3,Le G G3->Le G2 G3->Srv m' G3 (x.pub (r,⟨x.bk,x.md,x.N⟩))
 pm:(lbE r.cl).Perm (lbE x.nxt)
theorem qXb(F m G:Hp)(hK:yf F)(hGF:Le G F)(x:SvR)(hS:Srv m G x)(ht:x.tg.length<15):
    Ct prog 67 [Ptr x.gs] [m,F] (λy:Hp×StR=> .slice y.2.At y.2.tl.length y.2.ct) (λy=>SeP y.1 G y.2.G x y.2) (λy=> [y.1,F,y.2.G,y.2.mo]):=λw0 w hw=>by
  have hQ:=hS.p
  have hI:=hS.i
  have hth:=hI.th
  have htk:=hI.tk
  have h5:=hI.t1
  have h7:=hI.t0
  have h8:=hI.kl
  have h9:=hI.an
  obtain ⟨RA,rn,rc,hR,hRs⟩:=hQ.rb
  obtain rfl:x.audN.length=rn:=by have:=hRs.1;rw [qDh] at this;exact this
  rw [hS.eq] at hw
  have h1:=(hw.splitUs hS.dj).pick [0,5,6,7,8,9,1,2,3,4,10] xC
  refine(vi [x.sb,x.mT,x.mH] [x.bk.blk x.gb,x.md,x.N,x.mX,x.NX,x.mC,x.mO,F] (A':=λy:StR=> [blk x.gs [I (x.dp:Nat),Ptr x.gb,.bool false,.map (some y.cg),Ptr y.cr,.map (some x.nB),Ptr x.rB,.slice none 0 0,.slice none 0 0,.slice y.tA (x.tg++ [y.gu]).length y.tc,.slice y.hA (x.hd++ [adH ((qCp x.hdL).dig) x.dp x.audN.length x.hd (kvT x.kvL x.cl x.dp (2^x.dp)) y.nA y.nc]).length y.hc] 129,y.mT,y.mH]) (new:=λy=> [y.mo,y.G]) (λF' hF=>qIe F' x.mT x.mH (hK.mo hF) x.gs x.dp x.nA x.rA x.nB x.rB (Ptr x.gb) (.bool false) x.tA x.tc x.tg hQ.rt xB x.hA x.hc x.hd hQ.rh xB hI.dp x.cA x.cc x.cl (hQ.rc.sl.mono (Fa hF)) hI.cl x.oA x.oc x.no x.nxt (hQ.mx.at.mono (Fa hF)) (hQ.nx.at.mono (Fa hF)) hI.un (λy hy=>jf (hI.ln y hy) xC) RA _ rc x.audN (hR.mono (hGF.trans (Fa hF))) (hRs.mono (hGF.trans (Fa hF))) xB hI.t0 xB x.kvL ((hQ.tr _ xB).mono (hGF.trans (Fa hF))) hI.kf xB hI.hg ((hQ.hn _ xB).mono (hGF.trans (Fa hF)))) w0 w h1).mono λe w' ⟨y,he,q1,hst⟩=>?_
  have h2:=hst.empty.empty
  have h3:=St.joinUs (A:=(x.pub (y,⟨x.bk,x.md,x.N⟩)).hs) (r:= [F,y.G,y.mo]) (h2.pick [0,6,7,13,14,1,2,3,4,5,10,12,11] xC)
  have hI2:=hI.pub (y,⟨x.bk,x.md,x.N⟩) ht q1 hI.sz hI.re
  refine⟨(U (x.pub (y,⟨x.bk,x.md,x.N⟩)).hs,y),he,⟨λG3 g1 g2=>⟨O,h3.1,⟨hQ.mx,hQ.nx,qBf.nil,qBf.nil,q1.rt,q1.rh,hQ.bk,q1.mp.mono g2,q1.lb.mono g2,qTK.mono q1.au g2,hQ.rb.mono g1,λj hj=>?_,λj hj=>?_⟩,hI2⟩,q1.pm⟩,h3.2⟩
  . have hj2:j<x.tg.length+1:=by have:=hj;rw [show(x.pub (y,⟨x.bk,x.md,x.N⟩)).tg=x.tg++ [y.gu] from rfl,jA,jI] at this;exact this
    show qCo G3 ((x.tg++ [_]).getD j 0) ((x.kv++ [_]).getD j [])
    by_cases hlt:j<x.tg.length
    . rw [qEl _ _ _ hlt,qEl _ _ _ xB];exact(hQ.tr j hlt).mono g1
    . rw [qDz _ _ _ xB,qDz _ _ _ xB];exact q1.tu.mono g2
  . have hj2:j<x.hd.length+1:=by have:=hj;rw [show(x.pub (y,⟨x.bk,x.md,x.N⟩)).hd=x.hd++ [_] from rfl,jA,jI] at this;exact this
    show nsl G3 ((x.hd++ [_]).getD j qBE)
    by_cases hlt:j<x.hd.length
    . rw [qEl _ _ _ hlt];exact(hQ.hn j hlt).mono g1
    . rw [qDz _ _ _ xB];exact q1.nr.mono g2
attribute [local irreducible] Sha.tagged Wo.pub Wo.publicOf Wo.signs Wo.ends Wo.digs Wo.walk Wo.opn Mk.root Mk.path Mk.climb Xm.root sgC sgP qA6 qBK sgB normal qAv
theorem qWx{v:Nat}{seed:xA}{kh:Nat}{p:xA}(h1:1<=v)(h2:v<=4294967295)(h3:kh<=6)(hp:p.length=16):qBK v (Wo.opn seed) (Xm.root seed kh) ((kh:Nat):Int) p=0:=(en_0 xB xB xB xB (Wo.opn_length _) (Mk.root_16 _ _) hp).1
def nmK(k:Nat):xA:=([[97,108,105,99,101],[98,111,98],[208,182,209,131,208,186],[67,97,114,111,108]]:List xA).getD (k%4) []
theorem qGD(k:Nat):(nmK k).length<=6:=by
 unfold nmK
 rcases(show k%4=0\/k%4=1\/k%4=2\/k%4=3 by omega) with h|h|h|h<;>rw [h]<;>decide
def qaF(k:Nat):xA:=Sha.tagged 11 [nmK k]
theorem qEj{k:Nat}(hk:k<3):normal (nmK k)=(nmK k,0):=by
 match k,hk with
 |0,_=>exact qDY (l:= [97,108,105,99,101]) xC xC xC
 |1,_=>exact qDY (l:= [98,111,98]) xC xC xC
 |2,_=>exact qDY (l:= [1078,1091,1082]) xC xC xC
def OWN:xA:= [111,119,110,101,114]
abbrev qEh:xA:=Wo.opn OWN
abbrev qEA:xA:=Xm.root OWN 0
def qAL(n:Nat):Aud:=⟨[120,UInt8.ofNat (97+n%26)],qYf (UInt8.ofNat n),z16,1⟩
abbrev eK(v:Nat)(p:xA):En:=⟨v,qEh,qEA,((0:Nat):Int),p⟩
abbrev okK(v:Nat)(p:xA):Prop:=qBK v qEh qEA ((0:Nat):Int) p=0
abbrev zL(l:List En):En:=l.getD (l.length-1) qCv
abbrev qSW(l:List En):Bool:=decide (0<l.length)
def qFd(l:List En)(e:En):Int:=if l.length=0 then En.hist [e] else(zL l).next e
def jc(l:List En)(e:En)(ok:Bool):Int:=if qFd l e≠0 then qFd l e else if ok=true then 0 else 12
theorem jc_ok{l:List En}{e:En}{ok:Bool}(h:jc l e ok=0):qFd l e=0/\ok=true:=by
  unfold jc at h
  split at h
  . rename_i h1;exact absurd h h1
  . rename_i h1
    split at h
    . rename_i h2;exact⟨Decidable.not_not.1 h1,h2⟩
    . cases h
def qGU(l:List En):Prop:= ∀e∈l,∃v p,e=eK v p/\okK v p
theorem qGU.last{l:List En}(h:qGU l)(h0:0<l.length): ∃v p,zL l=eK v p/\okK v p/\l=l.take (l.length-1)++ [eK v p]:=by
 obtain ⟨v,p,e1,e2⟩:=h (zL l) (by
  show l.getD _ _∈l
  rw [jB,jD (show l.length-1<l.length by omega)];exact jU _)
 refine⟨v,p,e1,e2,?_⟩
 have e3:=jP (l:=l) (i:=l.length-1) xB
 have e4:l.take (l.length-1+1)=l:=jV xB
 have e5:l[l.length-1]' xB=eK v p:=by
  rw [<-e1];show _=l.getD _ _
  rw [jB,jD xB];rfl
 rw [e5] at e3
 exact e4.symm.trans e3
abbrev SGA(A1:yS)(n1 c1:Nat)(A2:yS)(n2 c2:Nat):Value:= .agg #[I (0:Nat),.slice A1 n1 c1,.slice A2 n2 c2]
def VerO(F:Hp)(mg:xA)(A1:yS)(n1 c1:Nat)(A2:yS)(n2 c2:Nat)(ok:Bool):Prop:= ∀F':Hp,Le F F'->Cz prog 185 [.agg #[Str qEh,Str qEA,I (0:Nat)],Str mg,SGA A1 n1 c1 A2 n2 c2] F' (.bool ok)
theorem qNM{F:Hp}(hK:yf F){mg:xA}(hm:mg.length<=1048576){A1:yS}{n1 c1:Nat}(hch:Sl F 1 A1 n1 c1 (qAG (sgC OWN 0 mg))){A2:yS}{n2 c2:Nat}(hpt:Sl F 1 A2 n2 c2 (qAG (sgP OWN 0 0))):VerO F mg A1 n1 c1 A2 n2 c2 true:=
 λF' hF=>qTV F' (hK.mono hF) OWN 0 0 mg A1 n1 c1 (hch.mono hF) A2 n2 c2 (hpt.mono hF) hm xC xC
abbrev pmO(s:xA)(v:Nat)(p:xA):xA:=qK2 s v qEh qEA ((0:Nat):Int) p
abbrev UPO(s:xA)(v:Nat)(p:xA)(A1:yS)(n1 c1:Nat)(A2:yS)(n2 c2:Nat):Value:= .agg #[Str s,N64 v,Str qEh,Str qEA,I (0:Nat),Str p,I (0:Nat),.slice A1 n1 c1,.slice A2 n2 c2]
theorem qWs(F:Hp)(hK:yf F)(hA:yg F)(hT:qBl F)(s:xA)(hsl:s.length<=1000000)(hN:normal s=(s,0))(v:Nat)(p:xA)(hE:okK v p)(A1:yS)(n1 c1:Nat)(A2:yS)(n2 c2:Nat)(l:List En)(hl:qGU l)(ok:Bool)(hV:VerO F (pmO s v p) A1 n1 c1 A2 n2 c2 ok):
    Cz prog 103 [UPO s v p A1 n1 c1 A2 n2 c2,.bool (qSW l),.agg #[N64 (zL l).v,Str (zL l).o,Str (zL l).r,I (zL l).h,Str (zL l).p]] F (I (jc l (eK v p) ok)):=by
  have e:(if qSW l=true then(zL l).next (eK v p) else En.hist [eK v p])=qFd l (eK v p):=by
    unfold qFd qSW
    by_cases h0:l.length=0
    . rw [yX h0,yW (by rw [h0];decide)]
    . rw [yW h0,yX (ya xB)]
  unfold jc
  rw [<-e]
  refine qSQ F hK hA hT s hsl hN v qEh qEA ((0:Nat):Int) p hE 0 A1 n1 c1 A2 n2 c2 (qSW l) (zL l) (λh=>?_) ok hV
  obtain ⟨v2,p2,e1,e2,_⟩:=hl.last (yc h)
  obtain ⟨a1,a2,_,a4,a5,a6⟩:=qEV e2
  rw [e1]
  exact⟨⟨by show v2<_;omega,by show qEh.length<=_;omega,by show qEA.length<=_;omega,by show p2.length<=_;omega⟩,O,O,O⟩
theorem qYd{x:SvR}{s:xA}(hn:(qA2 (lbE x.nxt) s).length<1000):qWI x s (qSW (qA2 (lbE x.nxt) s)) (zL (qA2 (lbE x.nxt) s)):=by
  by_cases h0:(qA2 (lbE x.nxt) s).length=0
  . have e2:qA2 (lbE x.nxt) s= []:=jT h0
    have:=qVI e2
    rw [e2]
    exact this
  . have e3:qSW (qA2 (lbE x.nxt) s)=true:=ya xB
    rw [e3]
    refine λF' h1 h2=>qQZ F' x.nB (Ptr x.rB) x.nxt h1 h2 s xB xB
def SvR.upd(x:SvR)(s:xA)(v:Nat)(p:xA)(y:SbR):SvR:=x.e1 s v qEh qEA ((0:Nat):Int) p 0 (sgC OWN 0 (pmO s v p)) (sgP OWN 0 0) y
theorem qJb(F m G:Hp)(hK:yf F)(hA:yg F)(hT:qBl F)(hGF:Le G F)(x:SvR)(hS:Srv m G x)(s:xA)(hs2:s.length<=200)(hN:normal s=(s,0))(v:Nat)(p:xA)(hE:okK v p)(A1:yS)(n1 c1:Nat)(hch:Sl F 1 A1 n1 c1 (qAG (sgC OWN 0 (pmO s v p))))(A2:yS)(n2 c2:Nat)(hpt:Sl F 1 A2 n2 c2 (qAG (sgP OWN 0 0)))(hno2:x.no.length<256)(hon:(qA2 (lbE x.nxt) s).length<1000)(hl:qGU (qA2 (lbE x.nxt) s))(hj:qFd (qA2 (lbE x.nxt) s) (eK v p)=0):
    Ct prog 36 [Ptr x.gs,UPO s v p A1 n1 c1 A2 n2 c2] [m,F] (λ_:Hp×SbR=>I (0:Nat)) (λy=>Srv y.1 G (x.upd s v p y.2)) (λy=> [y.1,F]):=by
  refine qXS F m G hK hGF x hS s hs2 v qEh qEA ((0:Nat):Int) p hE 0 A1 n1 c1 _ hch A2 n2 c2 _ hpt xC (qFr _ _ _) (by rw [qFq];decide) (qKo _ _ _) (qKn _ xC) (by rw [qFq];decide) hno2 hon _ _ (qYd hon) (λF' hF=>?_)
  have h:=qWs F' (hK.mono hF) (hA.mono hF) (hT.mono hF) s xB hN v p hE A1 n1 c1 A2 n2 c2 _ hl true (qNM (hK.mono hF) (by rw [qGu];decide) (hch.mono hF) (hpt.mono hF))
  rw [show jc _ (eK v p) true=0 by unfold jc;rw [yW (λe=>e hj),yX rfl]] at h
  exact h
theorem qTs(F m G:Hp)(hK:yf F)(hA:yg F)(hT:qBl F)(hGF:Le G F)(x:SvR)(hS:Srv m G x)(s:xA)(hs2:s.length<=200)(hN:normal s=(s,0))(v:Nat)(p:xA)(hE:okK v p)(A1:yS)(n1 c1:Nat)(ch:List xA)(hch:Sl F 1 A1 n1 c1 (qAG ch))(A2:yS)(n2 c2:Nat)(pt:List xA)(hpt:Sl F 1 A2 n2 c2 (qAG pt))(ok:Bool)(hV:VerO F (pmO s v p) A1 n1 c1 A2 n2 c2 ok)(hon:(qA2 (lbE x.nxt) s).length<1000)(hl:qGU (qA2 (lbE x.nxt) s))(hj:jc (qA2 (lbE x.nxt) s) (eK v p) ok≠0):
    Ct prog 36 [Ptr x.gs,UPO s v p A1 n1 c1 A2 n2 c2] [m,F] (λ_:Unit=>I (jc (qA2 (lbE x.nxt) s) (eK v p) ok)) (λ_=>True) (λ_=> [m,F]):=
  qQS F m G hK hGF x hS s hs2 v qEh qEA ((0:Nat):Int) p 0 A1 n1 c1 ch hch A2 n2 c2 pt hpt hon _ _ (qYd hon) _ hj (λF' hF=>qWs F' (hK.mono hF) (hA.mono hF) (hT.mono hF) s xB hN v p hE A1 n1 c1 A2 n2 c2 _ hl ok (λF2 h2=>hV F2 (hF.trans h2)))
end Go.Proofs.YtmemgokiolfdoaaGreatDoor
namespace Go.Proofs.YtmemgokiolfdoaaGreatDoor
open Go Go.Fw Go.Proofs.Tryz
theorem qMm:((List.range 4).map qaF++(List.range 20).map qAv).Nodup:=by decide+kernel
theorem qWa{i j:Nat}(hi:i<20)(hj:j<20)(h:i≠j):qAv i≠qAv j:=qMf (List.nodup_append.1 qMm).2.1 hi hj h
theorem qMn{i j:Nat}(hi:i<4)(hj:j<4)(h:i≠j):qaF i≠qaF j:=qMf (List.nodup_append.1 qMm).1 hi hj h
theorem qSD{i j:Nat}(hi:i<4)(hj:j<20):qaF i≠qAv j:=(List.nodup_append.1 qMm).2.2 _ (List.mem_map.2 ⟨i,List.mem_range.2 hi,O⟩) _ (List.mem_map.2 ⟨j,List.mem_range.2 hj,O⟩)
attribute [local irreducible] Sha.tagged Wo.pub Wo.publicOf Wo.signs Wo.ends Wo.digs Wo.walk Wo.opn Mk.root Mk.path Mk.climb Xm.root sgC sgP qA6 qBK sgB normal qAv
inductive Nt where
 |u (k v:Nat) (p:xA)
 |a (n:Nat)
structure JS where
 l:LE
 n:Nat
def JS.step(s:JS):Nt->JS
 | .u k v p=>⟨qFD s.l (nmK k) (qA2 s.l (nmK k)++ [eK v p]),s.n⟩
 | .a _=>⟨s.l,s.n+1⟩
def JS.run(s:JS)(ns:List Nt):JS:=ns.foldl JS.step s
theorem JS.run_snoc(s:JS)(ns:List Nt)(x:Nt):s.run (ns++ [x])=(s.run ns).step x:=by unfold JS.run;rw [z6];rfl
def Nt.bts:Nt->xA
 | .u k v p=>117::upB (nmK k) (qA6 v qEh qEA ((0:Nat):Int) p) (sgB 0 (sgC OWN 0 (pmO (nmK k) v p)) (sgP OWN 0 0))
 | .a n=>114::(tb (qAL n).nm++qAo (qAL n).op (qAL n).rt ((1:Nat):Int))
def JS.ok(s:JS):Nt->Prop
 | .u k v p=>k<3/\okK v p/\qFd (qA2 s.l (nmK k)) (eK v p)=0
 | .a n=>n=s.n/\n<20
def JS.oks:JS->List Nt->Prop
 |_,[]=>True
 |s,x::r=>s.ok x/\(s.step x).oks r
theorem JS.oks_snoc: ∀(ns:List Nt) (s:JS) {x:Nt},s.oks ns->(s.run ns).ok x->s.oks (ns++ [x])
 | [],_,_,_,h=>⟨h,yd⟩
 |y::r,s,_,h,h2=>⟨h.1,JS.oks_snoc r (s.step y) h.2 h2⟩
theorem JS.oks_at: ∀(ns:List Nt) (s:JS),s.oks ns-> ∀k,(h:k<ns.length)->(s.run (ns.take k)).ok ns[k]
 | [],_,_,k,h=>absurd h (jz k)
 |y::r,s,h,0,_=>h.1
 |y::r,s,h,k+1,hk=>JS.oks_at r (s.step y) h.2 k (by rw [jC] at hk;omega)
structure JW (s:JS) (c:Nat):Prop where
 un:qKO s.l
 ow: ∀k,qGU (qA2 s.l k)
 nm: ∀x∈s.l,∃k,k<3/\x.1=nmK k
 ne: ∀x∈s.l,0<x.2.length
 ln: ∀k,(qA2 s.l k).length<=c
 n20:s.n<=20
theorem qNl{l:LE}{k:xA}{v:List En}{y:xA×List En}(h:y∈qFD l k v):y∈l\/y=(k,v):=by
  induction l with
  |nil=>exact .inr (List.mem_singleton.1 h)
  |cons x r ih=>
    rw [qFD] at h
    split at h
    . rcases List.mem_cons.1 h with h|h
      . exact .inr h
      . exact .inl (.tail _ h)
    . rcases List.mem_cons.1 h with h|h
      . exact .inl (h▸ .head _)
      . exact(ih h).imp (.tail _) id
theorem JW.step{s:JS}{c:Nat}(h:JW s c){x:Nt}(hx:s.ok x):JW (s.step x) (c+1):=by
  cases x with
  |a n=>exact⟨h.un,h.ow,h.nm,h.ne,λk=>Nat.le_succ_of_le (h.ln k),by have:=hx.1;have:=hx.2;show s.n+1<=20;omega⟩
  |u k v p=>
    refine⟨qKy h.un,λj=>?_,λy hy=>?_,λy hy=>?_,λj=>?_,h.n20⟩
    . show qGU (qA2 (qFD s.l _ _) j)
      rw [qJ8]
      split
      . intro e he
        rcases List.mem_append.1 he with he|he
        . exact h.ow _ e he
        . exact⟨v,p,List.mem_singleton.1 he,hx.2.1⟩
      . exact h.ow j
    . rcases qNl hy with hy|rfl
      . exact h.nm y hy
      . exact⟨k,hx.1,O⟩
    . rcases qNl hy with hy|rfl
      . exact h.ne y hy
      . show 0<(_++ [_]).length;rw [jA];exact zy _
    . show(qA2 (qFD s.l _ _) j).length<=c+1
      rw [qJ8]
      split
      . have:=h.ln (nmK k);rw [jA,jI];omega
      . exact Nat.le_succ_of_le (h.ln j)
theorem JW.run: ∀(ns:List Nt) {s:JS} {c:Nat},JW s c->s.oks ns->JW (s.run ns) (c+ns.length)
 | [],_,_,h,_=>h
 |x::r,s,c,h,h2=>by
  have:=JW.run r (h.step h2.1) h2.2
  rw [jC,show c+(r.length+1)=c+1+r.length by omega]
  exact this
abbrev tN(nm:xA):xA:=Sha.tagged 11 [nm]
def qMk(l:LE):List Sm.PR:=l.map λx=>(tN x.1,(zL x.2).val)
def qPn(n:Nat):List Sm.PR:=(List.range n).map λi=>(qAv i,qL3 (qAL i))
def prJ(s:JS):List Sm.PR:=qMk s.l++qPn s.n
def qTQ(s:JS)(k:xA):Option xA:=Sm.getP (prJ s) k
theorem qDy: ∀(a b:List Sm.PR) (k:xA),Sm.getP (a++b) k=(Sm.getP a k).or (Sm.getP b k)
 | [],_,_=>rfl
 |p::r,b,k=>by
  show(if p.1=k then some p.2 else Sm.getP (r++b) k)=Option.or (if p.1=k then some p.2 else Sm.getP r k) _
  split
  . rfl
  . exact qDy r b k
theorem qVW{l:LE}{nm:xA}(v:List En)(hi: ∀x∈l,tN x.1=tN nm->x.1=nm)(k:xA):Sm.getP (qMk (qFD l nm v)) k=if tN nm=k then some (zL v).val else Sm.getP (qMk l) k:=by
  induction l with
  |nil=>rfl
  |cons x r ih=>
    have ih:=ih λy hy=>hi y (.tail _ hy)
    rw [qFD]
    by_cases h:x.1=nm
    . rw [yX h]
      show(if tN nm=k then some (zL v).val else Sm.getP (qMk r) k)=if tN nm=k then some (zL v).val else(if tN x.1=k then _ else Sm.getP (qMk r) k)
      by_cases h2:tN nm=k
      . rw [yX h2,yX h2]
      . rw [yW h2,yW h2,yW (by rw [h];exact h2)]
    . rw [yW h]
      show(if tN x.1=k then _ else Sm.getP (qMk (qFD r nm v)) k)=if tN nm=k then some (zL v).val else(if tN x.1=k then _ else Sm.getP (qMk r) k)
      rw [ih]
      by_cases h2:tN nm=k
      . rw [yX h2,yX h2,yW (λe=>h (hi x (.head _) (e.trans h2.symm)))]
      . rw [yW h2,yW h2]
def chG(cl:List Chg)(o:Option xA)(k:xA):Option xA:=cl.foldl (λo c=>if c.k=k then some c.v else o) o
theorem qOX(cl:List Chg)(c:Chg)(o:Option xA)(k:xA):chG (cl++ [c]) o k=if c.k=k then some c.v else chG cl o k:=by unfold chG;rw [z6];rfl
def Nt.chg(x:Nt)(s:JS):Chg:=match x with
 | .u k v p=>⟨tN (nmK k),(eK v p).val⟩
 | .a _=>⟨qAv s.n,qL3 (qAL s.n)⟩
theorem JW.inj{s:JS}{c:Nat}(h:JW s c){k:Nat}(hk:k<3): ∀x∈s.l,tN x.1=tN (nmK k)->x.1=nmK k:=λx hx e=>by
 obtain ⟨j,hj,e2⟩:=h.nm x hx
 rw [e2] at e⊢
 by_cases hjk:j=k
 . rw [hjk]
 . exact absurd e (qMn xB xB hjk)
theorem qW6(l:List En)(x:En):zL (l++ [x])=x:=qLY l x qCv
theorem qLV{s:JS}{c:Nat}(h:JW s c){x:Nt}(hx:s.ok x)(k:xA):qTQ (s.step x) k=if(x.chg s).k=k then some (x.chg s).v else qTQ s k:=by
  cases x with
  |u j v p=>
    show Sm.getP (qMk (qFD s.l _ _)++qPn s.n) k=if tN (nmK j)=k then some (eK v p).val else Sm.getP (qMk s.l++qPn s.n) k
    rw [qDy,qVW _ (h.inj hx.1),qDy,qW6]
    split<;>rfl
  |a n=>
    show Sm.getP (qMk s.l++qPn (s.n+1)) k=if qAv s.n=k then some (qL3 (qAL s.n)) else Sm.getP (qMk s.l++qPn s.n) k
    have hn:s.n<20:=by have:=hx.1;have:=hx.2;omega
    have e:qPn (s.n+1)=qPn s.n++ [(qAv s.n,qL3 (qAL s.n))]:=by unfold qPn;rw [jt,jN];rfl
    rw [e,qDy,qDy,qDy]
    by_cases hk:qAv s.n=k
    . subst hk
      rw [yX rfl,Sm.getP_none (l:=qMk s.l) (λp hp=>?_),Sm.getP_none (l:=qPn s.n) (λp hp=>?_)]
      . show(none:Option _).or (Option.or none (if qAv s.n=qAv s.n then _ else _))=_
        rw [yX rfl];rfl
      . obtain ⟨i,hi,rfl⟩:=List.mem_map.1 hp
        have:=List.mem_range.1 hi
        exact qWa xB hn xB
      . obtain ⟨y,hy,rfl⟩:=List.mem_map.1 hp
        obtain ⟨j,hj,e2⟩:=h.nm y hy
        rw [e2]
        exact qSD xB hn
    . rw [yW hk]
      show _=Option.or _ _
      rw [show Sm.getP [(qAv s.n,qL3 (qAL s.n))] k=none by show(if qAv s.n=k then _ else _)=_;rw [yW hk];rfl,Option.or_none]
theorem hdOk{l:List Sm.PR}(hf:qCD l){ep:Nat}(he:ep<=4294967295){par:xA}(hp:par.length=16){d:Nat}(hd:d<=4){a:Nat}(ha:a<=64):(⟨ep,par,((d:Nat):Int),((a:Nat):Int),qAl l d⟩:Hd).err=0:=by
  refine qaR ?_ ?_ λs hs=>?_
  . unfold Hd.out
    dsimp only
    rw [qD2 hd]
    have:=qTO hd
    omega
  . show¬(qAl l d).length≠cnt (d:Int)
    rw [qBk,qD2 hd];exact λh=>h O
  . unfold qAl qC4 at hs
    obtain ⟨j,_,rfl⟩:=List.mem_map.1 hs
    rcases qJ2 (Sm.bel_wf hf.once hf.k16 (qFc j d) (d:=d) xB) with h|⟨h1,h2⟩
    . exact .inl h
    . exact .inr ⟨h1,h2.imp (λh=>UInt8.toNat_inj.1 h) (λh=>UInt8.toNat_inj.1 h)⟩
theorem qOM: ∀(l:List Sm.PR) (a v k:xA),Sm.getP (Sm.putP l a v) k=if a=k then some v else Sm.getP l k
  | [],a,v,k=>rfl
  |p::r,a,v,k=>by
    rw [Sm.putP]
    by_cases h:p.1=a
    . rw [yX h]
      show(if a=k then _ else Sm.getP r k)=if a=k then _ else(if p.1=k then _ else Sm.getP r k)
      by_cases h2:a=k
      . rw [yX h2,yX h2]
      . rw [yW h2,yW h2,yW (by rw [h];exact h2)]
    . rw [yW h]
      show(if p.1=k then _ else Sm.getP (Sm.putP r a v) k)=if a=k then _ else(if p.1=k then _ else Sm.getP r k)
      rw [qOM r a v k]
      by_cases h2:a=k
      . rw [yX h2,yX h2,yW (λe=>h (e.trans h2.symm))]
      . rw [yW h2,yW h2]
theorem qOO: ∀(cl:List Chg) (l:List Sm.PR) (k:xA),Sm.getP (kvC l cl) k=chG cl (Sm.getP l k) k
 | [],_,_=>rfl
 |c::cl,l,k=>by
  show Sm.getP (kvC (Sm.putP l c.k c.v) cl) k=chG cl (if c.k=k then some c.v else Sm.getP l k) k
  rw [qOO cl,qOM]
theorem qOY(d b:Nat)(k:xA): ∀(cl:List Chg) (o:Option xA),chG (qDf cl d b) o k=if ofV k d=b then chG cl o k else o
  | [],o=>by show o=if _ then o else o;split<;>rfl
  |c::cl,o=>by
    have ih:=qOY d b k cl
    unfold qDf at ih⊢
    by_cases h:ofV c.k d=b
    . rw [List.filter_cons_of_pos (by simpa using h)]
      show chG (cl.filter _) (if c.k=k then some c.v else o) k=if ofV k d=b then chG cl (if c.k=k then some c.v else o) k else o
      rw [ih]
      by_cases h2:ofV k d=b
      . rw [yX h2,yX h2]
      . rw [yW h2,yW h2,yW (show¬c.k=k from λe=>h2 (e▸h))]
    . rw [List.filter_cons_of_neg (by simpa using h),ih]
      show _=if ofV k d=b then chG cl (if c.k=k then some c.v else o) k else o
      by_cases h2:ofV k d=b
      . rw [yX h2,yX h2,yW (show¬c.k=k from λe=>h (e▸h2))]
      . rw [yW h2,yW h2]
theorem qON(l:List Sm.PR)(cl:List Chg)(d:Nat)(k:xA): ∀b,Sm.getP (kvT l cl d b) k=if ofV k d<b then chG cl (Sm.getP l k) k else Sm.getP l k
  |0=>by rw [yW (jz _)];rfl
  |b+1=>by
    show Sm.getP (kvC (kvT l cl d b) (qDf cl d b)) k=_
    rw [qOO,qOY,qON l cl d k b]
    by_cases h:ofV k d=b
    . rw [yX h,yW xB,yX xB]
    . rw [yW h]
      by_cases h2:ofV k d<b
      . rw [yX h2,yX xB]
      . rw [yW h2,yW xB]
theorem qZx(k:xA)(d:Nat):ofV k d<2^d:=by
 unfold ofV
 split
 . exact qHC k d
 . exact jy d
theorem qVX(l:List Sm.PR)(cl:List Chg)(d:Nat)(k:xA):Sm.getP (kvT l cl d (2^d)) k=chG cl (Sm.getP l k) k:=by rw [qON,yX (qZx k d)]
def qEZ(n:Nat):List Aud:=(List.range n).map qAL
theorem qTC(n:Nat):qEZ (n+1)=qEZ n++ [qAL n]:=by unfold qEZ;rw [jt,jN];rfl
theorem qCn(n:Nat):(qEZ n).length=n:=by unfold qEZ;rw [jJ,zF]
theorem qOg{n i:Nat}(h:i<n):(qEZ n).getD i qBc=qAL i:=by unfold qEZ;rw [jB,jO,zD h];rfl
structure SI (dp e:Nat) (s0 s:JS) (x:SvR):Prop where
 ed:x.dp=dp
 nx:lbE x.nxt=s.l
 nw:(lbE x.now).Perm s0.l
 au:x.aud=qEZ s0.n
 an:x.audN=qEZ s.n
 hl:x.hd.length=e+1
 tl:x.tg.length=e+1
 kv: ∀k,Sm.getP x.kvL k=qTQ s0 k
 cv: ∀k,chG x.cl (Sm.getP x.kvL k) k=qTQ s k
 hd: ∃par,par.length=16/\qCp x.hdL=⟨e,par,((dp:Nat):Int),((s0.n:Nat):Int),qAl x.kvL dp⟩
theorem SI.upd{dp e:Nat}{s0 s:JS}{x:SvR}(h:SI dp e s0 s x){c:Nat}(hW:JW s c){k v:Nat}{p:xA}(hx:s.ok (.u k v p))(y:SbR):SI dp e s0 (s.step (.u k v p)) (x.upd (nmK k) v p y):=by
  refine⟨h.ed,?_,h.nw,h.au,h.an,h.hl,h.tl,h.kv,λj=>?_,h.hd⟩
  . unfold SvR.upd
    rw [SvR.sub_nxt,h.nx];rfl
  . show chG (x.cl++ [_]) (Sm.getP x.kvL j) j=_
    rw [qOX,h.cv,qLV hW hx];rfl
theorem SI.reg{dp e:Nat}{s0 s:JS}{x:SvR}(h:SI dp e s0 s x){c:Nat}(hW:JW s c){n:Nat}(hx:s.ok (.a n))(y:RgS):SI dp e s0 (s.step (.a n)) (x.reg (qAL n) y):=by
  obtain rfl:n=s.n:=hx.1
  refine⟨h.ed,h.nx,h.nw,h.au,?_,h.hl,h.tl,h.kv,λj=>?_,h.hd⟩
  . show x.audN++ [_]=qEZ (s.n+1)
    rw [h.an,qTC]
  . show chG (x.cl++ [_]) (Sm.getP x.kvL j) j=_
    rw [qOX,h.cv,qLV hW hx,h.an,qCn]
    have e1:qL3 (qAL s.n)=Sha.tagged 16 [(qAL s.n).nm,qAo (qAL s.n).op (qAL s.n).rt (qAL s.n).ht]:=yX (yX ⟨by show(0:Int)<=1;decide,by show(1:Int)<=6;decide,O,O⟩)
    show(if qAv s.n=j then _ else _)=if qAv s.n=j then some (qL3 (qAL s.n)) else _
    rw [e1]
theorem SI.pub{dp e:Nat}{s0 s:JS}{x:SvR}(h:SI dp e s0 s x)(he:e<=1000)(hd4:dp<=4)(hI:SvI x)(hs0:s0.n<=64)(r:StR×WrR)(hp:(lbE r.1.cl).Perm (lbE x.nxt)):SI dp (e+1) s s (x.pub r):=by
  have hk:(x.pub r).kvL=kvT x.kvL x.cl x.dp (2^x.dp):=SvR.pub_kvL _ r hI.tk
  have hg: ∀k,Sm.getP (x.pub r).kvL k=qTQ s k:=λk=>by rw [hk,qVX,h.cv]
  obtain ⟨par,hpl,hh⟩:=h.hd
  refine⟨h.ed,h.nx,?_,h.an,h.an,?_,?_,hg,hg,⟨(qCp x.hdL).dig,?_,?_⟩⟩
  . rw [<-h.nx];exact hp
  . show(x.hd++ [_]).length=_;rw [jA,h.hl];rfl
  . show(x.tg++ [_]).length=_;rw [jA,h.tl];rfl
  . rw [hh];exact qSl (hdOk hI.kf xB hpl hd4 hs0)
  . rw [SvR.pub_hdL,hk]
    unfold qCp adH
    dsimp only
    rw [h.hl,h.an,qCn,h.ed]
theorem qYy{o r:xA}{h:Nat}(ho:o.length=16)(hr:r.length=16)(hh:h<=6):dpV (qAo o r ((h:Nat):Int))= .tuple #[.agg #[Str o,Str r,I (h:Nat)],I (0:Nat)]:=by
 have e1:qAo o r ((h:Nat):Int)=o++r++ [UInt8.ofNat h]:=yX ⟨xB,xB,ho,hr⟩
 have e2:(o++r++ [UInt8.ofNat h]).length=33:=by simp only [jA,ho,hr,jI]
 have e3:(o++r++ [UInt8.ofNat h]).getD 32 0=UInt8.ofNat h:=by
  rw [jB,ja (by simp only [jA,ho,hr];omega)]
  simp only [jA,ho,hr];rfl
 have e4:(UInt8.ofNat h).toNat=h:=by rw [jm];omega
 have e5:dpE (o++r++ [UInt8.ofNat h])=0:=by
  unfold dpE
  rw [e2,yW xB,yW xB,e3,e4,yW xB]
 rw [e1]
 unfold dpV dpO dpR dpH
 rw [e5,yX rfl,yX rfl,yX rfl,e3,e4,jM,zJ ho,zW ho,zJ hr];rfl
theorem qV3{nm op rt:xA}{h:Nat}(hn:nm.length<=200)(ho:op.length=16)(hr:rt.length=16)(hh:h<=6):(⟨tb nm++qAo op rt ((h:Nat):Int),0⟩:RS).textS=nm/\((⟨tb nm++qAo op rt ((h:Nat):Int),0⟩:RS).textR).out 33=qAo op rt ((h:Nat):Int)/\(((⟨tb nm++qAo op rt ((h:Nat):Int),0⟩:RS).textR).take 33).last=0:=by
 have f:=qGj (x:=nm) (qAo op rt ((h:Nat):Int)) xB
 have hl:(qAo op rt ((h:Nat):Int)).length=33:=qCP (yX ⟨xB,xB,ho,hr⟩)
 have h2:=qEw (qAo op rt ((h:Nat):Int)) [] (n:=33) hl
 rw [jS] at h2
 exact⟨f.1,by rw [f.2];exact h2.1,by rw [f.2,h2.2];rfl⟩
theorem qUO(F m G:Hp)(hK:yf F)(hA:yg F)(hT:qBl F)(hGF:Le G F)(x:SvR)(hS:Srv m G x)(s:xA)(hs2:s.length<=200)(hN:normal s=(s,0))(v:Nat)(p:xA)(hE:okK v p)(hno2:x.no.length<256)(hon:(qA2 (lbE x.nxt) s).length<1000)(hl:qGU (qA2 (lbE x.nxt) s))(hj:qFd (qA2 (lbE x.nxt) s) (eK v p)=0):Ct prog 125 [Ptr x.gs,Str (117::(upB s (qA6 v qEh qEA ((0:Nat):Int) p) (sgB 0 (sgC OWN 0 (pmO s v p)) (sgP OWN 0 0))))] [m,F] (λ_:Hp×SbR=> .bool true) (λy=>Srv y.1 G (x.upd s v p y.2)) (λy=> [y.1,F]):=by
 have hel:=qB4 hE
 have hsg:=qFs (i:=0) (qKo OWN 0 (pmO s v p)) (qKn OWN (h:=0) (i:=0) xC) (qFr OWN 0 (pmO s v p))
 have hpl:(sgP OWN 0 0).length=0:=qFq _ _ _
 have hul:=qHL s (qA6 v qEh qEA ((0:Nat):Int) p) (sgB 0 (sgC OWN 0 (pmO s v p)) (sgP OWN 0 0))
 obtain ⟨f1,f2,f3,f4⟩:=qXF (a:=s) (b:=(qA6 v qEh qEA ((0:Nat):Int) p)) (c:=(sgB 0 (sgC OWN 0 (pmO s v p)) (sgP OWN 0 0))) xB xB xB
 refine y7 func125 O ntmps125 O (λw0 hw0=>?_)
 refine yl λ_ C1=>yh O<|yi C1<|ym λ_ C2=>yz<|yl λ_ C3=>yh O<|yj ((qBP O O O).no (za _ _)) O<|yh O<|yi C3<|vC ?_
 refine yl λ_ C4=>yh O<|yj ((qA0 u9_ O O O O ⟨by first|omega|(simp only [jA,jC,jG,jF,jE] at*;omega),by first|omega|(simp only [jA,jC,jG,jF,jE] at*;omega)⟩).as (v':=Str ((117::(upB s (qA6 v qEh qEA ((0:Nat):Int) p) (sgB 0 (sgC OWN 0 (pmO s v p)) (sgP OWN 0 0)))).take 1)) (yY Str zI)) O<|yj ((qBP O O O).yes (O)) O<|yh O<|yi C4<|vV ?_
 refine yl λ_ C5=>yh O<|yj ((qA0 u9_ O O O O ⟨by first|omega|(simp only [jA,jC,jG,jF,jE] at*;omega),by first|omega|(simp only [jA,jC,jG,jF,jE] at*;omega)⟩).as (v':=Str ((117::(upB s (qA6 v qEh qEA ((0:Nat):Int) p) (sgB 0 (sgC OWN 0 (pmO s v p)) (sgP OWN 0 0)))).drop 1)) (by rw [jn])) O<|yp (qBx O O (λF' hF=>qRM F' (upB s (qA6 v qEh qEA ((0:Nat):Int) p) (sgB 0 (sgC OWN 0 (pmO s v p)) (sgP OWN 0 0))) s v qEh qEA ((0:Nat):Int) p hE 0 (sgC OWN 0 (pmO s v p)) (sgP OWN 0 0) xC (qFr _ _ _) xB (qKo _ _ _) (qKn _ xC) f1 f2 f3 f4)) O ?_
 rintro⟨⟨A22,c22,m22⟩,⟨B22,d22,n22⟩⟩ ⟨h22,k22⟩
 refine yn 3 O<|yp (qAO O qLg O) O λg5 _=>vG (qAF (i:=4) (l:= [Str [],.int .u64 0,Str [],Str [],I 0,Str [],I 0,.slice none 0 0,.slice none 0 0]) (vs:= [Str (s),N64 (v),Str (qEh),Str (qEA),I (0:Nat),Str (p),I (0:Nat),.slice A22 (sgC OWN 0 (pmO s v p)).length c22,.slice B22 (sgP OWN 0 0).length d22]) O O O O O qD6 O O) O O λ_ _=>yh O<|yi C5<|yl λ_ C6=>yh O<|yj ((qAR O O O).yes xC) O<|yn 2 O<|yv (qAx 4 O O O qGd qD6 O) O<|vg (qAJ O O ent (vR 0 O (λF' hF=>qJb F' m G (hK.mo hF) (hA.mono (Fa hF)) (hT.mono (Fa hF)) (hGF.trans (Fa hF)) x hS s hs2 hN v p hE A22 _ c22 (h22.sl.mono (Fa hF)) B22 _ d22 (k22.sl.mono (Fa hF)) hno2 hon hl hj))) O ?_
 rintro⟨m30,y30⟩ hS30
 try dsimp only at hS30
 exact yv ((qAR O O O).yes xC) O<|yn 2 O<|yi C6<|yr<|vI<|y5<|yw hw0 O (m30,y30) O hS30 [0,1] O xC
theorem qUQ(F m G:Hp)(hK:yf F)(hA:yg F)(hT:qBl F)(hGF:Le G F)(x:SvR)(hS:Srv m G x)(nm op rt:xA)(ht:Nat)(hn2:nm.length<=200)(ho2:op.length=16)(hr2:rt.length=16)(h6:ht<=6)(hE:qIB x.audN nm op rt ((ht:Nat):Int)=0)(hno2:x.no.length<256):Ct prog 125 [Ptr x.gs,Str (114::(tb nm++(qAo op rt ((ht:Nat):Int))))] [m,F] (λ_:Hp×RgS=> .bool true) (λy=> ∀G2,Le G G2->Le y.2.mR G2->Srv y.1 G2 (x.reg ⟨nm,op,rt,((ht:Nat):Int)⟩ y.2)) (λy=> [y.1,F,y.2.mR]):=by
 have hPE:qBT op rt ((ht:Nat):Int)=0:=yX ⟨xB,xB,ho2,hr2⟩
 have hpl:=qCP hPE
 obtain ⟨f1,f3,f4⟩:=qV3 hn2 ho2 hr2 h6
 refine y7 func125 O ntmps125 O (λw0 hw0=>?_)
 refine yl λ_ C1=>yh O<|yi C1<|ym λ_ C2=>yz<|yl λ_ C3=>yh O<|yj ((qBP O O O).no (za _ _)) O<|yh O<|yi C3<|vC ?_
 refine yl λ_ C4=>yh O<|yj ((qA0 u9_ O O O O ⟨by first|omega|(simp only [jA,jC,jG,jF,jE] at*;omega),by first|omega|(simp only [jA,jC,jG,jF,jE] at*;omega)⟩).as (v':=Str ((114::(tb nm++(qAo op rt ((ht:Nat):Int)))).take 1)) (yY Str zI)) O<|yj ((qBP O O O).no (by show¬ [114]= [117];decide)) O<|yh O<|yi C4<|vC ?_
 refine yl λ_ C5=>yh O<|yj ((qA0 u9_ O O O O ⟨by first|omega|(simp only [jA,jC,jG,jF,jE] at*;omega),by first|omega|(simp only [jA,jC,jG,jF,jE] at*;omega)⟩).as (v':=Str ((114::(tb nm++(qAo op rt ((ht:Nat):Int)))).take 1)) (yY Str zI)) O<|yj ((qBP O O O).yes (O)) O<|yh O<|yi C5<|vV ?_
 refine yl λ_ C6=>yh O<|yj ((qA0 u9_ O O O O ⟨by first|omega|(simp only [jA,jC,jG,jF,jE] at*;omega),by first|omega|(simp only [jA,jC,jG,jF,jE] at*;omega)⟩).as (v':=Str ((114::(tb nm++(qAo op rt ((ht:Nat):Int)))).drop 1)) (by rw [jn])) O<|yp (qBx O O (λF' _=>(qE2 F' (tb nm++(qAo op rt ((ht:Nat):Int)))).mono (φ2:=λ_=>True) (val2:=Ptr) (ms2:=λg=>F':: [RSb g (⟨(tb nm++(qAo op rt ((ht:Nat):Int))),0⟩:RS)]) id (λ_ _=>rfl) (λ_ h=>h) (λx w0 w _ h=>h.pick [1,0] xC))) O ?_
 rintro g39 _
 refine yh O<|yi C6<|yl λ_ C7=>yh O<|yp (qAJ O O ent (vR 2 O (λF' _=>qGo F' g39 (⟨(tb nm++(qAo op rt ((ht:Nat):Int))),0⟩:RS)))) O λg41 _=>?_
 rw [f1]
 refine yh O<|yp (qAJ O O ent (vR 2 O (λF' _=>qB1 F' g39 ((⟨(tb nm++(qAo op rt ((ht:Nat):Int))),0⟩:RS).textR) 33))) O λg43 _=>?_
 rw [f3]
 refine yn 2 O<|yi C7<|yl λ_ C8=>yh O<|yp (qAZ O O (λF' hF=>by have:=qIp F' (qAo op rt ((ht:Nat):Int));rw [qYy ho2 hr2 h6] at this;exact this)) O λg46 _=>yn 3 O<|yp (qAO O qOR O) O λg10 _=>vG (qAF (i:=3) (l:= [Str [],Str [],I 0]) (vs:= [Str (op),Str (rt),I (ht:Nat)]) O O O O O qDF O O) O O λ_ _=>yh O<|yi C8<|ym λ_ C9=>yl λ_ C10=>yh O<|yp (qAJ O O ent (vR 2 O (λF' _=>qJA F' g39 (((⟨(tb nm++(qAo op rt ((ht:Nat):Int))),0⟩:RS).textR).take 33)))) O λg50 _=>?_
 rw [f4]
 refine yj ((qAQ O O O).no xC) O<|yn 2 O<|yv ((qAQ O O O).no xC) O<|yh O<|yi C10<|vC ?_
 refine yy C9<|yl λ_ C11=>yn 2 O<|vT 3 qKM qDF O O O O O<|yj (qAK (places:= [(0,1),(1,3)]) (r:= [Str (nm),Str (op),Str (rt),I (ht:Nat)]) O O O qKd qYx (λ_=>xH) O) O<|yp (qAJ O O ent (vR 0 O (λF' hF=>qQv F' m G (hK.mo hF) (hA.mono (Fa hF)) (hT.mono (Fa hF)) (hGF.trans (Fa hF)) x hS nm op rt ((ht:Nat):Int) hn2 xB xB hE hPE hno2))) O ?_
 rintro⟨m61,y61⟩ hS61
 try dsimp only at hS61
 exact yn 4 O<|yi C11<|yl λ_ C12=>yh O<|yj ((qAR O O O).yes xC) O<|yh O<|yi C12<|yr<|vI<|y5<|yw hw0 O (m61,y61) O hS61 [0,1,4] O xC
theorem qZA: ∀i:Fin 20,(qAL i.val).nm=unr [120,97+i.val]/\ [120,97+i.val].all (λr=>decide (r<55296))=true/\(if [120,97+i.val].length<=64 then(if qTa 0 0 false [120,97+i.val]=true then(unr ([120,97+i.val].map small),0) else([],5)) else([],2))=((qAL i.val).nm,0):=by decide+kernel
theorem qW0{n:Nat}(hn:n<20):qLl (qAL n).nm=0:=by
 obtain ⟨h1,h2,h3⟩:=qZA ⟨n,hn⟩
 unfold qLl
 rw [qDY h1 h2 h3]
 simp
theorem qVM{a b:Nat}(ha:a<256)(hb:b<256)(h:qYf (UInt8.ofNat a)=qYf (UInt8.ofNat b)):a=b:=qLA ha hb (List.cons.inj h).1
theorem qWQ{i n:Nat}(hi:i<20)(hn:n<20):same (qAL n).nm (qAL n).op (qAL n).rt (qAL n).ht (qAL i)=decide (i=n):=by
  by_cases e:i=n
  . subst e
    unfold same
    rw [ya rfl,ya (rfl:i=i)];rfl
  . rw [yb e]
    unfold same
    rw [Bool.or_eq_false_iff,decide_eq_false_iff_not,decide_eq_false_iff_not]
    refine⟨λh=>e ?_,λh=>e (qVM xB xB h.1)⟩
    have:=qLA xB xB (List.cons.inj (List.cons.inj h).2).1
    omega
theorem qKN{n:Nat}(hn:n<20):qIB (qEZ n) (qAL n).nm (qAL n).op (qAL n).rt (qAL n).ht=0:=by
 unfold qIB
 rw [show qR0 (qAL n).nm (qAL n).op (qAL n).rt (qAL n).ht=0 from qZ7 (qW0 hn) _,yW xC,yW,yW (by rw [qCn];omega)]
 intro h
 obtain ⟨x,hx,hs⟩:=List.any_eq_true.1 h
 obtain ⟨j,hj,rfl⟩:=List.mem_map.1 hx
 have hji:=List.mem_range.1 hj
 rw [qWQ xB hn,yZ] at hs
 omega
theorem qWC{n i:Nat}(hi:i<n)(hn:n<=20):qIB (qEZ n) (qAL i).nm (qAL i).op (qAL i).rt (qAL i).ht=19:=by
 unfold qIB
 rw [show qR0 (qAL i).nm (qAL i).op (qAL i).rt (qAL i).ht=0 from qZ7 (qW0 xB) _,yW xC,yX]
 refine List.any_eq_true.2 ⟨qAL i,List.mem_map.2 ⟨i,List.mem_range.2 hi,O⟩,?_⟩
 rw [qWQ xB xB,ya rfl]
structure RdR where
 m:Hp
 N:Hp
 x:SvR
structure RdP (dp e:Nat) (G:Hp) (s0 s:JS) (x:SvR) (r:RdR):Prop where
 sv: ∀G2,Le G G2->Le r.N G2->Srv r.m G2 r.x
 i:SI dp e s0 s r.x
 gs:r.x.gs=x.gs
 no:r.x.no.length=x.no.length+1
 bk:r.x.bk=x.bk/\r.x.gb=x.gb
theorem qUP(F m G:Hp)(hK:yf F)(hA:yg F)(hT_:qBl F)(hGF:Le G F)(x:SvR)(hS:Srv m G x){dp e:Nat}{s0 s:JS}(h:SI dp e s0 s x){c:Nat}(hW:JW s c)(hc:c<900)(nt:Nt)(hx:s.ok nt)(hno:x.no.length<256):
    Ct prog 125 [Ptr x.gs,Str nt.bts] [m,F] (λ_:RdR=> .bool true) (RdP dp e G s0 (s.step nt) x) (λr=> [r.m,F,r.N]):=λw0 w hw=>by
  cases nt with
  |u k v p=>
    have hl:=qGD k
    have hln:=hW.ln (nmK k)
    refine(qUO F m G hK hA hT_ hGF x hS (nmK k) xB (qEj hx.1) v p hx.2.1 hno (by rw [h.nx];omega) (by rw [h.nx];exact hW.ow _) (by rw [h.nx];exact hx.2.2) w0 w hw).mono λvv w' ⟨y,he,hS',hst⟩=>?_
    exact⟨⟨y.1,(λ_=>none),x.upd (nmK k) v p y.2⟩,he,⟨λG2 g1 _=>hS'.mono g1,h.upd hW hx y.2,O,by show(x.no++ [_]).length=_;rw [jA];rfl,O,O⟩,hst.empty⟩
  |a n=>
    have hn:=hx.2
    have hns:n=s.n:=hx.1
    refine(qUQ F m G hK hA hT_ hGF x hS (qAL n).nm (qAL n).op (qAL n).rt 1 (by show 2<=200;decide) O O xC (by rw [h.an,<-hns];exact qKN hn) hno w0 w hw).mono λvv w' ⟨y,he,hS',hst⟩=>?_
    exact⟨⟨y.1,y.2.mR,x.reg (qAL n) y.2⟩,he,⟨hS',h.reg hW hx y.2,O,by show(x.no++ [_]).length=_;rw [jA];rfl,O,O⟩,hst⟩
def qCC:Nat->List (List Nt)->List xA
 |_,[]=> []
 |e,ns::r=>ns.map Nt.bts++cmB ns.length e::qCC (e+1) r
def JS.runs(s:JS)(J:List (List Nt)):JS:=J.foldl JS.run s
def JS.okss:JS->List (List Nt)->Prop
 |_,[]=>True
 |s,ns::r=>s.oks ns/\(s.run ns).okss r
theorem qF6(ns:List Nt): ∀(J:List (List Nt)) (e:Nat),qCC e (J++ [ns])=qCC e J++(ns.map Nt.bts++ [cmB ns.length (e+J.length)])
 | [],e=>by rfl
 |a::r,e=>by
  show a.map Nt.bts++cmB a.length e::qCC (e+1) (r++ [ns])=(a.map Nt.bts++cmB a.length e::qCC (e+1) r)++_
  rw [qF6 ns r (e+1),jC,show e+1+r.length=e+(r.length+1) by omega,jM];rfl
theorem JS.runs_snoc(s:JS)(J:List (List Nt))(ns:List Nt):s.runs (J++ [ns])=(s.runs J).run ns:=by unfold JS.runs;rw [z6];rfl
theorem JS.okss_snoc: ∀(J:List (List Nt)) (s:JS) {ns:List Nt},s.okss J->(s.runs J).oks ns->s.okss (J++ [ns])
 | [],_,_,_,h=>⟨h,yd⟩
 |a::r,s,_,h,h2=>⟨h.1,JS.okss_snoc r (s.run a) h.2 h2⟩
end Go.Proofs.YtmemgokiolfdoaaGreatDoor
namespace Go.Proofs.YtmemgokiolfdoaaGreatDoor
open Go Go.Fw Go.Proofs.Tryz
def nwS(gd n first count dp:Nat)(gl:List Aud)(md:Hp)(r:NwR):SvR:=
 {gs:=r.gs,dp:=dp,nA:=r.gA,rA:=r.gR,nB:=r.cp.g,rB:=r.cp.r,gb:=r.gb,nxt:= [],now:= [],cA:=none,cc:=0,cl:= [],oA:=none,oc:=0,no:= [],tA:=r.ad.tA,tc:=r.ad.tc,tg:= [r.gt],hA:=r.ad.hA,hc:=r.ad.hc,hd:= [adH qAX dp gl.length [] (qGQ [] gl gl.length) r.ad.nA r.ad.nc],mX:=r.cp.mm,NX:=r.cp.M,mC:=λ_=>none,mO:=λ_=>none,mT:=r.ad.mT,mH:=r.ad.mH,md:=md,N:=λ_=>none,bk:=⟨gd,first,count/2,first,0,0,none,0,[],Dk.new n⟩,kv:= [qGQ [] gl gl.length],aud:=gl,audN:=gl}
theorem qR1{α:Type}{a no:α}{i:Nat}(h:i< [a].length): [a].getD i no=a:=by
 match i,h with
 |0,_=>rfl
theorem Srv.cells{m G:Hp}{x:SvR}(h:Srv m G x):qAI m ⟨x.gs,0,none⟩ [I (x.dp:Nat),Ptr x.gb,.bool false,.map (some x.nA),Ptr x.rA,.map (some x.nB),Ptr x.rB,.slice x.cA x.cl.length x.cc,.slice x.oA x.no.length x.oc,.slice x.tA x.tg.length x.tc,.slice x.hA x.hd.length x.hc]:=qAI.blk0.mono (h.le (.head _))
theorem Srv.tsl{m G:Hp}{x:SvR}(h:Srv m G x):Sl m 1 x.tA x.tg.length x.tc (qEM x.tg):=h.p.rt.sl.mono (h.le (by simp [SvR.hs]))
theorem Srv.hsl{m G:Hp}{x:SvR}(h:Srv m G x):Sl m 5 x.hA x.hd.length x.hc (qGr x.hd):=h.p.rh.sl.mono (h.le (by simp [SvR.hs]))
theorem Srv.tree{m G:Hp}{x:SvR}(h:Srv m G x):qCo G (x.tg.getD (x.tg.length-1) 0) x.kvL:=h.p.tr _ (by have:=h.i.t0;omega)
theorem qGp(F:Hp)(hK:yf F){kv:List Sm.PR}(hf:qCD kv){d:Nat}(hd:d<=4)(ep:Nat)(par:xA)(au:Nat)(he:ep<=1000)(hp:par.length<=16)(A:yS)(c:Nat)(hs:Sl F 1 A (qAl kv d).length c (qAG (qAl kv d))):
    Cz prog 40 [.agg #[N64 ep,Str par,I (d:Nat),I (au:Nat),.slice A (qAl kv d).length c]] F (Str (Sm.nd 128 kv)):=by
  obtain ⟨_,h16⟩:=qK1 hd
  have hl:(qAl kv d).length=2^d:=by unfold qAl;rw [qBk]
  have h:=qVS F hK ⟨ep,par,((d:Nat):Int),((au:Nat):Int),qAl kv d⟩ A c ⟨by show ep<_;omega,by show par.length<=_;omega,by show(qAl kv d).length<=_;omega⟩ hs (λs hs=>by
    unfold qAl qC4 at hs
    obtain ⟨j,_,rfl⟩:=List.mem_map.1 hs
    exact jf (Sm.nd_small _ _) xC)
  rw [show qLs (qAl kv d) ((d:Nat):Int)=Sm.nd 128 kv from(qUy hf hd).2] at h
  exact h
theorem PbP.root{F:Hp}(hK:yf F){m G G2:Hp}{x:SvR}{r:StR×WrR}(h:PbP m G G2 x r)(hI:SvI x)(hS:Srv m F (x.pub r))(hl:Le G2 F):
    Cz prog 40 [.agg #[N64 x.hd.length,Str (qCp x.hdL).dig,I (x.dp:Nat),I (x.audN.length:Nat),.slice r.1.nA (qAl (kvT x.kvL x.cl x.dp (2^x.dp)) x.dp).length r.1.nc]] F (Str (Sm.nd 128 (x.pub r).kvL)):=by
  have e:=x.pub_kvL r hI.tk
  have hf:=hS.i.kf
  have h1:=hI.th
  have h2:=hI.t1
  have hn:=h.ns
  rw [x.pub_hdL] at hn
  rw [e] at hf⊢
  exact qGp F hK hf hI.dp _ _ _ xB (qLj _) _ _ (hn.mono hl)
theorem qNU(F:Hp)(x:SvR)(hc:qAI F ⟨x.gs,0,none⟩ [I (x.dp:Nat),Ptr x.gb,.bool false,.map (some x.nA),Ptr x.rA,.map (some x.nB),Ptr x.rB,.slice x.cA x.cl.length x.cc,.slice x.oA x.no.length x.oc,.slice x.tA x.tg.length x.tc,.slice x.hA x.hd.length x.hc]):Cz prog 38 [Ptr x.gs] F (I (x.no.length:Nat)):=by
 refine y7 func38 O ntmps38 O (λw0 hw0=>?_)
 refine yl λ_ C1=>yh O<|yi C1<|ym λ_ C2=>yl λ_ C3=>yh O<|yj ((qBL qWN O O O).as (v':= .bool false) O) O<|yi C3<|vC ?_
 exact yy C2<|yl λ_ C4=>yh O<|yj (qAB O O) O<|vA 8 qBR qBs O O O O O<|yj (qAH O O qB7 (m:=F) xD (hc.at (i:=8) O)) O<|yj (qAN qAg O O) O<|yh O<|yi C4<|yr<|yw hw0 O () O yd [0] O xC
structure LkR where
 A:yS
 c:Nat
 m:Hp
 s:Nat
 bA:yS
 bc:Nat
 mb:Hp
structure LkP (x:SvR) (s:xA) (r:LkR):Prop where
 ro:Row r.m 102 5 r.A (qA2 (lbE x.now) s).length r.c (qD1 (qA2 (lbE x.now) s))
 st:qNA x.kvL (Sha.tagged 11 [s]) 0 r.s
 rb:Row r.mb 9 1 r.bA (bsd x.kvL (Sha.tagged 11 [s]) 0 (r.s-0)).length r.bc (qAG (bsd x.kvL (Sha.tagged 11 [s]) 0 (r.s-0)))
theorem LbA.small{F:Hp}{ls:List Lb}(h: ∀y∈ls,y.l.length<=1000)(k:xA):(qA2 (lbE ls) k).length<=1000:=by
 rw [qGF]
 cases hg:qDc ls k with
 |none=>exact jH _
 |some x=>exact h x (qLU hg).1
theorem qNW(F:Hp)(hK:yf F)(x:SvR)(hI:SvI x)(hc:qAI F ⟨x.gs,0,none⟩ [I (x.dp:Nat),Ptr x.gb,.bool false,.map (some x.nA),Ptr x.rA,.map (some x.nB),Ptr x.rB,.slice x.cA x.cl.length x.cc,.slice x.oA x.no.length x.oc,.slice x.tA x.tg.length x.tc,.slice x.hA x.hd.length x.hc])(hts:Sl F 1 x.tA x.tg.length x.tc (qEM x.tg))(hT:qCo F (x.tg.getD (x.tg.length-1) 0) x.kvL)(hw:Fw.MapAt F x.nA (lbV x.now))(hl:LbA F x.now)(s:xA)(hs:s.length<=1000):Ct prog 31 [Ptr x.gs,Str s] [F] (λr:LkR=> .tuple #[.agg #[Str s,.slice r.A (qA2 (lbE x.now) s).length r.c,.slice r.bA (bsd x.kvL (Sha.tagged 11 [s]) 0 (r.s-0)).length r.bc,.bool (qBB x.kvL (Sha.tagged 11 [s]) r.s),Str (qC0 x.kvL (Sha.tagged 11 [s]) r.s),Str (qDL x.kvL (Sha.tagged 11 [s]) r.s)],I (0:Nat)]) (LkP x s) (λr=> [F,r.mb,r.m]):=by
 have i7:=hI.t0
 have i8:=hI.t1
 have hel:=LbA.small (F:=F) hI.lw s
 refine y7 func31 O ntmps31 O (λw0 hw0=>?_)
 refine yl λ_ C1=>yp (qAO O zeroValue89 O) O λg4 _=>yh O<|yi C1<|ym λ_ C2=>yl λ_ C3=>yh O<|yj ((qBL qWN O O O).as (v':= .bool false) O) O<|yi C3<|vC ?_
 refine yy C2<|yl λ_ C4=>yh O<|yj (qAB O O) O<|vA 9 qBR sizeOf127 O O O O O<|yj (qAH O O isAgg127 (m:=F) xD (hc.at (i:=9) O)) O<|yp (qAZ O O (λF' hF=>qNS F' x.tA x.tg.length x.tc x.tg (hts.mono (Fa hF)) i7 xB)) O λg16 _=>yh O<|yp (qAZ O O (λF' hF=>qEm F' (hK.mo hF) s xB)) O λg18 _=>yp (qBx O O (λF' hF=>qNp F' (hK.mo hF) (x.tg.getD (x.tg.length-1) 0) x.kvL (hT.mono (Fa hF)) hI.kf (Sha.tagged 11 [s]) (Sha.tagged_length _ _) 0 xB)) O ?_
 rintro⟨s19,A19,c19,m19⟩ ⟨hst19,hr19⟩
 refine yn 3 O<|yp (qAO O zeroValue87 O) O λg6 _=>vG (qAF (i:=3) (l:= [.slice none 0 0,.bool false,Str [],Str []]) (vs:= [.slice A19 ((bsd x.kvL (Sha.tagged 11 [s]) 0 (s19-0)).length) c19,.bool (qBB x.kvL (Sha.tagged 11 [s]) s19),Str (qC0 x.kvL (Sha.tagged 11 [s]) s19),Str (qDL x.kvL (Sha.tagged 11 [s]) s19)]) O O O O O qEa O O) O O λ_ _=>yh O<|yi C4<|ym λ_ C5=>vQ [F,blk g6 [.slice A19 ((bsd x.kvL (Sha.tagged 11 [s]) 0 (s19-0)).length) c19,.bool (qBB x.kvL (Sha.tagged 11 [s]) s19),Str (qC0 x.kvL (Sha.tagged 11 [s]) s19),Str (qDL x.kvL (Sha.tagged 11 [s]) s19)] 87] [12,13,100011] (.y 0 (.y 1 (.y 2 (.y 3 (.y 4 (.y 5 (.y 6 (.y 7 (.y 9 (.y 11 (.e 8 (.y 10 (.e 12 (.e 13 .nil)))))))))))))) ye xF xD ?_
 refine yx ?_
 refine yx ?_
 refine yo O (qAB O O) O O<|yo O (qAA O O qBR O qCM O) O O<|yo O (qAA O O qD9 O qJM O) O O<|yo O (qAH O O isAgg120 (m:=F) xD (hc.at (i:=3) O)) O O<|yx ?_
 refine yo O ((qCt O O O qJW u9_ qaU (m:=F) xD hw).as (v':= .slice (qIz x.now s) (qA2 (lbE x.now) s).length (qIy x.now s)) (qLL x.now s)) O O<|yo O (qAx 1 O O O qHD qEa O) O O<|vq O (qAT O O) O O O ?_
 refine vD O (qBx O O (λF' hF=>qLn F' (qIz x.now s) ((qA2 (lbE x.now) s).length) (qIy x.now s) (qA2 (lbE x.now) s) ((hl.at s).mono (Fa hF)) xP)) O xD ?_
 rintro⟨A30,c30,m30⟩ h30
 try dsimp only at h30
 refine yo O (qAK (places:= [(0,1),(1,1),(2,4)]) (r:= [Str (s),.slice A30 (((qA2 (lbE x.now) s)).length) c30,.slice A19 ((bsd x.kvL (Sha.tagged 11 [s]) 0 (s19-0)).length) c19,.bool (qBB x.kvL (Sha.tagged 11 [s]) s19),Str (qC0 x.kvL (Sha.tagged 11 [s]) s19),Str (qDL x.kvL (Sha.tagged 11 [s]) s19)]) O O O qTe zeroValue89 (λ_=>xH) O) O O<|vZ O (qAF (i:=1) (l:= [Str [],.slice none 0 0,.slice none 0 0,.bool false,Str [],Str []]) (vs:= [Str (s),.slice A30 (((qA2 (lbE x.now) s)).length) c30,.slice A19 ((bsd x.kvL (Sha.tagged 11 [s]) 0 (s19-0)).length) c19,.bool (qBB x.kvL (Sha.tagged 11 [s]) s19),Str (qC0 x.kvL (Sha.tagged 11 [s]) s19),Str (qDL x.kvL (Sha.tagged 11 [s]) s19)]) O O O O O sizeOf89 O O) O O O λ_ _=>vp O (YOp.eop (qBH O O)) O O O O ?_
 intro _ _
 refine vM<|yq (yu C5 ?_)
 exact yr<|vH hw0 (λ_ _ h=>h) (rv2 O (RV.blkA 1 O O isAgg89 sizeOf89) O) (qAf (⟨A30,c30,m30,s19,A19,c19,m19⟩:LkR) O ⟨h30,hst19,hr19⟩ [0,2,4] O xC)
theorem qSV(F:Hp)(hK:yf F){x:SvR}(hf:qCD x.kvL){s:xA}{r:LkR}(hr:LkP x s r)(hb:Le r.mb F){v:xA}(hg:Sm.getP x.kvL (Sha.tagged 11 [s])=some v):Cz prog 39 [.agg #[.slice r.bA (bsd x.kvL (Sha.tagged 11 [s]) 0 (r.s-0)).length r.bc,.bool (qBB x.kvL (Sha.tagged 11 [s]) r.s),Str (qC0 x.kvL (Sha.tagged 11 [s]) r.s),Str (qDL x.kvL (Sha.tagged 11 [s]) r.s)],Str (Sm.nd 128 x.kvL),Str (Sha.tagged 11 [s]),Str v,I (0:Nat)] F (.bool true):=by
 have h16:(Sha.tagged 11 [s]).length=16:=Sha.tagged_length _ _
 have h:=qVV F hK r.bA r.bc _ (hr.rb.sl.mono hb) (qBB x.kvL (Sha.tagged 11 [s]) r.s) (qC0 x.kvL (Sha.tagged 11 [s]) r.s) (qDL x.kvL (Sha.tagged 11 [s]) r.s) (Sha.tagged 11 [s]) 0 (qF9 hf h16 hr.st) (Sm.nd 128 x.kvL) v (qGB hf _ _)
 have e:=qRG hf h16 hr.st
 rw [hg,Sm.ndB_zero,show(some v).getD []=v from rfl,show(some v).isSome=true from rfl] at e
 rw [e] at h
 exact h
attribute [local irreducible] Sha.tagged Wo.pub Wo.publicOf Wo.signs Wo.ends Wo.digs Wo.walk Wo.opn Mk.root Mk.path Mk.climb Xm.root sgC sgP qA6 qBK sgB normal qAv
theorem qHU: ∀(A B:List (List Nt)) (e:Nat),qCC e (A++B)=qCC e A++qCC (e+A.length) B
 | [],B,e=>rfl
 |a::r,B,e=>by
  show a.map Nt.bts++cmB a.length e::qCC (e+1) (r++B)=(a.map Nt.bts++cmB a.length e::qCC (e+1) r)++_
  rw [qHU r B (e+1),jC,show e+1+r.length=e+(r.length+1) by omega,jM];rfl
theorem qXw(J1:List (List Nt))(ns:List Nt)(e:Nat):(qCC e (J1++ [ns])).length=(qCC e J1).length+ns.length+1:=by
 rw [qF6,jA,jA,jJ,jI,z7]
theorem qZl{J1 J2:List (List Nt)}{ns:List Nt}{k:Nat}(hk:k<=ns.length):(qCC 1 (J1++ns::J2)).getD ((qCC 1 J1).length+k) []=if h:k<ns.length then ns[k].bts else cmB ns.length (1+J1.length):=by
  rw [qHU,jB,ja (Nat.le_add_right _ _),Nat.add_sub_cancel_left]
  show((ns.map Nt.bts++cmB ns.length (1+J1.length)::_)[k]?).getD []=_
  by_cases h:k<ns.length
  . rw [dif_pos h,jk (by rw [jJ];exact h),jO,jD h];rfl
  . obtain rfl:k=ns.length:=by omega
    rw [dif_neg h,ja (by rw [jJ];exact jL _),jJ,zK];rfl
theorem qLr(x:Nt):x.bts≠ []/\x.bts.take 1≠ [99]:=by
 cases x with
 |u k v p=>exact⟨za _ _,by show [(117:UInt8)]≠ [99];decide⟩
 |a n=>exact⟨za _ _,by show [(114:UInt8)]≠ [99];decide⟩
theorem qH6(n e:Nat):cmB n e≠ []/\(cmB n e).take 1= [99]/\(cmB n e).drop 1=Sha.numB (UInt64.ofNat n) 2++Sha.numB (UInt64.ofNat e) 4:=⟨za _ _,rfl,rfl⟩
theorem qVi{n e:Nat}(hn:n<65536)(he:e<4294967296):qBd ((⟨Sha.numB (UInt64.ofNat n) 2++Sha.numB (UInt64.ofNat e) 4,0⟩:RS).out 2)=n/\qBd (((⟨Sha.numB (UInt64.ofNat n) 2++Sha.numB (UInt64.ofNat e) 4,0⟩:RS).take 2).out 4)=e/\(((⟨Sha.numB (UInt64.ofNat n) 2++Sha.numB (UInt64.ofNat e) 4,0⟩:RS).take 2).take 4).last=0:=by
 have h1:=qEw (Sha.numB (UInt64.ofNat n) 2) (Sha.numB (UInt64.ofNat e) 4) (n:=2) (Sha.numB_length _ _)
 have h2:=qEw (Sha.numB (UInt64.ofNat e) 4) [] (n:=4) (Sha.numB_length _ _)
 rw [jS] at h2
 rw [h1.1,h1.2,h2.1,h2.2]
 exact⟨qLJ _ 2 xC hn,qLJ _ 4 xC he,O⟩
def qS5(ns:List Nt)(k:Nat):List xA:=(ns.take k).map Nt.bts
theorem qVp{ns:List Nt}{k:Nat}(h:k<=ns.length):(qS5 ns k).length=k:=by unfold qS5;rw [jJ,jF];omega
theorem qS4{ns:List Nt}{k:Nat}(h:k<ns.length):qS5 ns k++ [ns[k].bts]=qS5 ns (k+1):=by
 unfold qS5
 rw [jP h,jN];rfl
theorem qT5(A:yS)(c:Nat):(if c=0 then A else A.map (·.add (0*1)))=A:=by
  split
  . rfl
  . cases A with
    |none=>rfl
    |some a=>simp [Addr.add]
def qHm(J:List (List Nt)):Nat:=(J.map List.length).sum
theorem JW.runs: ∀(J:List (List Nt)) {s:JS} {c:Nat},JW s c->s.okss J->JW (s.runs J) (c+qHm J)
 | [],_,_,h,_=>h
 |a::r,s,c,h,h2=>by
  have:=JW.runs r (h.run a h2.1) h2.2
  show JW _ (c+qHm (a::r))
  unfold qHm at this⊢
  rw [jY,zE,<-z7]
  exact this
theorem qU7(A:List (List Nt))(ns:List Nt)(B:List (List Nt)):qHm (A++ns::B)=qHm A+ns.length+qHm B:=by
 unfold qHm;rw [jN,yH,jY,zE];omega
theorem qNw: ∀(A:List (List Nt)) {s:JS} {ns:List Nt} {B:List (List Nt)},s.okss (A++ns::B)->s.okss A/\(s.runs A).oks ns
 | [],_,_,_,h=>⟨yd,h.1⟩
 |a::r,s,_,_,h=>by
  have:=qNw r h.2
  exact⟨⟨h.1,this.1⟩,this.2⟩
structure RpI (dp:Nat) (G:Hp) (s:JS) (J:List (List Nt)) (x0:SvR) (J1 JR:List (List Nt)) (k i:Nat) (x:SvR) (m N:Hp):Prop where
 eq:J=J1++JR
 kl:k<=(JR.headD []).length
 ie:i=(qCC 1 J1).length+k
 sv: ∀G2,Le G G2->Le N G2->Srv m G2 x
 si:SI dp J1.length (s.runs J1) (s.runs J1) x
 gs:x.gs=x0.gs
 bk:x.bk=x0.bk/\x.gb=x0.gb
 no:x.no= []
 cl:x.cl= []
structure RpR where
 m:Hp
 N:Hp
 x:SvR
theorem wS{n:Nat}{env:Env}{w0:Wd}{ms:List Hp}{φ:Act->World->Prop}(h:Djs ms->J n env w0 ms φ):J n env w0 ms φ:=λa w hk hs=>h hs.dj a w hk hs
theorem qaW{G N F:Hp}(h:Dj N F)(hl:Le G F):Dj G N:=λg=>by
  rcases h g with h|h
  . exact .inr h
  . refine .inl ?_
    cases e:G g with
    |none=>rfl
    |some o=>rw [hl g o e] at h;cases h
theorem qNx: ∀(ns:List Nt) (s:JS),s.oks ns-> ∀k,s.oks (ns.take k)
 | [],_,_,k=>by rw [List.take_nil];trivial
 |y::r,s,h,0=>yd
 |y::r,s,h,k+1=>⟨h.1,qNx r (s.step y) h.2 k⟩
theorem qVq{ns:List Nt}{k j:Nat}(hk:k<=ns.length)(hj:j<k):(qS5 ns k).getD j []=(ns[j]' xB).bts:=by
 unfold qS5
 rw [jB,jO,List.getElem?_take_of_lt hj,jD xB];rfl
theorem qO0(F m G:Hp)(hK:yf F)(hA:yg F)(hT:qBl F)(hGF:Le G F)(x0:SvR)(hS:Srv m G x0)(dp:Nat)(hd4:dp<=4)(s:JS)(JJ:List (List Nt))(h0:SI dp 0 s s x0)(hno0:x0.no= [])(hcl0:x0.cl= [])(hW:JW s 0)(hok:s.okss JJ)(hJ:JJ.length<=14)(hJn:qHm JJ<=100)(A:yS)(n c:Nat)(l:List xA)(hl:Sl F 1 A n c (qAG l))(hlJ:l=qCC 1 JJ)(hnb:n<=1000):Ct prog 52 [Ptr x0.gs,.slice A n c] [m,F] (λ_:RpR=> .bool true) (λr=>RpI dp G s JJ x0 JJ [] 0 n r.x r.m r.N) (λr=> [r.m,F,r.N]):=by
 have hln:l.length=n:=by have:=hl.1;simpa [qAG] using this
 have hrl:n=(qCC 1 JJ).length:=by rw [<-hln,hlJ]
 refine y7 func52 O ntmps52 O (λw0 hw0=>?_)
 refine yl λ_ C1=>yh O<|yi C1<|yl λ_ C2=>yh O<|yi C2<|ym λ_ C3=>yl λ_ C4=>yh O<|yj (qAN qAg O O) O<|yh O<|yi C4<|yz<|vN (X:=Nat×List (List Nt)×List (List Nt)×Nat×SvR×yS×Nat×Hp×Hp×Hp) (λζ=> [(0,Ptr x0.gs),(5,.slice ζ.2.2.2.2.2.1 ζ.2.2.2.1 ζ.2.2.2.2.2.2.1),(13,.slice A n c),(14,I (n:Nat)),(15,I (ζ.1:Nat))]) (λζ=> [ζ.2.2.2.2.2.2.2.1,ζ.2.2.2.2.2.2.2.2.1,ζ.2.2.2.2.2.2.2.2.2,F]) (λζ=>ζ.1<=n/\RpI dp G s JJ x0 ζ.2.1 ζ.2.2.1 ζ.2.2.2.1 ζ.1 ζ.2.2.2.2.1 ζ.2.2.2.2.2.2.2.2.1 ζ.2.2.2.2.2.2.2.2.2/\Row ζ.2.2.2.2.2.2.2.1 9 1 ζ.2.2.2.2.2.1 ζ.2.2.2.1 ζ.2.2.2.2.2.2.1 (qAG (qS5 (ζ.2.2.1.headD []) ζ.2.2.2.1))) (λζ=>n-ζ.1) (0,[],JJ,0,x0,none,0,(λ_=>none),m,(λ_=>none)) (⟨jH _,⟨O,jH _,O,λG2 g1 _=>hS.mono g1,h0,O,⟨O,O⟩,hno0,hcl0⟩,qBf.nil⟩) (Sub.of O) (λ_ h=>h.empty.empty.pick [2,0,3,1] xC) ?_
 rintro⟨i,J1,JR,k,x,A5,c5,mo,m1,N⟩ ⟨hi,hI,hro⟩ I0 hI0
 dsimp only at hi hI hro⊢
 refine ym λ_ C5=>wS λhdd=>?_
 have hdj:Dj N F:=qDE hdd (i:=2) (j:=3) O O xC
 have hdj1:Dj G N:=qaW hdj hGF
 have hcap:=hro.sl.2.1
 refine yt<|yj (qAP O O O) O<|yi C5<|ym λ_ C6=>y1 O (λh16=>?_) (λh16=>?_)
 .
  refine yy C6<|ym λ_ C7=>yz<|ym λ_ C8=>?_
  have hJR: ∃ns J2,JR=ns::J2:=by
   cases JR with
   |nil=>
    have h1:=hI.eq
    have h2:=hI.ie
    have h3:=hI.kl
    rw [jS] at h1
    have h4:k<=0:=h3
    rw [<-h1] at h2
    omega
   |cons a b=>exact⟨a,b,O⟩
  obtain ⟨ns,J2,hJR⟩:=hJR
  have hhd:JR.headD []=ns:=by rw [hJR];rfl
  have hIeq:JJ=J1++ns::J2:=by rw [<-hJR];exact hI.eq
  have hkl:k<=ns.length:=by rw [<-hhd];exact hI.kl
  have hrec:l.getD i []=if h:k<ns.length then ns[k].bts else cmB ns.length (1+J1.length):=by
   rw [hlJ,hI.ie,hIeq];exact qZl hkl
  obtain ⟨R,hR⟩: ∃q,q=l.getD i []:=⟨_,rfl⟩
  rw [<-hR] at hrec
  have hil:i<l.length:=xB
  have hRne: ¬R= []:=by
   rw [hrec]
   split
   . exact(qLr _).1
   . exact(qH6 _ _).1
  have hlen:=qU7 J1 ns J2
  rw [<-hIeq] at hlen
  have hbl:(qS5 (JR.headD []) k).length=k:=by rw [hhd];exact qVp hkl
  have hRl:1<=R.length:=Nat.pos_of_ne_zero (λh=>hRne (jT h))
  have hJl:J1.length+1+J2.length=JJ.length:=by rw [hIeq,jA,jC];omega
  refine yt<|yj (qAC O O O qAg z9_ hl xB) O<|yj (qAH O O b9_ (m:=F) xD (hl.elem (qAa (qAc [] xB)))) O ?_
  rw [<-hR]
  refine yh O<|yi C8<|ym λ_ C9=>yl λ_ C10=>yh O<|yj ((qBP O O O).no (hRne)) O<|yn 2 O<|yv ((qA0 u9_ O O O O ⟨by first|omega|(simp only [jA,jC,jG,jF,jE] at*;omega),by first|omega|(simp only [jA,jC,jG,jF,jE] at*;omega)⟩).as (v':=Str (R.take 1)) (yY Str zI)) O<|yv (qB9 O O O) O<|yh O<|yi C10<|y1 O (λh25=>?_) (λh25=>?_)
  .
   have hkn:k<ns.length:=by
    refine Decidable.byContradiction λhn=>?_
    rw [dif_neg hn] at hrec
    have hc:=qH6 ns.length (1+J1.length)
    rw [hrec] at h25
    simp [hc.1,hc.2.1] at h25
   refine yl λ_ C11=>yn 2 O<|yp (qAE (l:= [.tmp 27]) (xs:= [[Str (R)]]) O O O O qAg el9 O xC xC xD) O λg28 _=>yp (qAV (i:=0) (m2:=blk g28 [Str (R)] 9) O O O qAg qAg el9 O hro xD ((qAz (q:=True) (qAG [R]) O (by simp [qAG]) O).sl) O xB xB) O ?_
   rintro⟨A29,c29,m29⟩ h29
   try dsimp only at h29
   replace h29:Row m29 9 1 A29 (k+1) c29 (qAG (qS5 (JR.headD []) (k+1))):=by rw [hhd,<-qS4 hkn,qBh];rw [hhd,hrec,dif_pos hkn] at h29;exact h29
   refine yh O<|yi C11<|vK<|y6<|vL ?_
   refine yq (yu C7 ?_)
   exact yt<|yj ((qAM O O O xB).nat (i+1) xB) O<|yh O<|y8<|yq<|vE (i+1,J1,JR,k+1,x,A29,c29,m29,m1,N) hI0 ⟨by dsimp only;omega,⟨hI.eq,by rw [hhd];exact hkn,by have h:=hI.ie;show i+1=(qCC 1 J1).length+(k+1);omega,hI.sv,hI.si,hI.gs,hI.bk,hI.no,hI.cl⟩,h29⟩ (Sub.of O) (λ_ h=>h.pick [0,1,2,3] xC)
  have hkn:k=ns.length:=by
   refine Decidable.byContradiction λhn=>?_
   rw [dif_pos (show k<ns.length by omega)] at hrec
   have hc:=qLr (ns[k]' xB)
   rw [hrec] at h25
   simp [hc.1,hc.2] at h25
  rw [dif_neg xB] at hrec
  have hcm:=qH6 ns.length (1+J1.length)
  obtain ⟨hks,hns⟩:=qNw J1 (hIeq▸hok)
  obtain ⟨q1,q2,q3⟩:=qVi (n:=ns.length) (e:=1+J1.length) xB xB
  have hWJ:=JW.runs J1 hW hks
  have hxh:=hI.si.hl
  refine yy C9<|yl λ_ C12=>yh O<|yj ((qA0 u9_ O O O O ⟨by first|omega|(simp only [jA,jC,jG,jF,jE] at*;omega),by first|omega|(simp only [jA,jC,jG,jF,jE] at*;omega)⟩).as (v':=Str (R.drop 1)) (by rw [jn])) O ?_
  rw [show R.drop 1=(Sha.numB (UInt64.ofNat ns.length) 2++Sha.numB (UInt64.ofNat (1+J1.length)) 4) by rw [hrec];exact hcm.2.2]
  refine yp (qBx O O (λF' _=>(qE2 F' (Sha.numB (UInt64.ofNat ns.length) 2++Sha.numB (UInt64.ofNat (1+J1.length)) 4)).mono (φ2:=λ_=>True) (val2:=Ptr) (ms2:=λg=>F':: [RSb g (⟨(Sha.numB (UInt64.ofNat ns.length) 2++Sha.numB (UInt64.ofNat (1+J1.length)) 4),0⟩:RS)]) id (λ_ _=>rfl) (λ_ h=>h) (λx w0 w _ h=>h.pick [1,0] xC))) O ?_
  rintro g32 _
  refine yh O<|yi C12<|yl λ_ C13=>yh O<|yp (qAJ O O ent (vR 4 O (λF' _=>qCb F' g32 (⟨(Sha.numB (UInt64.ofNat ns.length) 2++Sha.numB (UInt64.ofNat (1+J1.length)) 4),0⟩:RS) 2 xC xC))) O λg34 _=>?_
  rw [q1]
  refine yj (qBv O O qDJ u3_ xB) O<|yh O<|yp (qAJ O O ent (vR 4 O (λF' _=>qCb F' g32 ((⟨(Sha.numB (UInt64.ofNat ns.length) 2++Sha.numB (UInt64.ofNat (1+J1.length)) 4),0⟩:RS).take 2) 4 xC xC))) O λg37 _=>?_
  rw [q2]
  refine yn 2 O<|yi C13<|ym λ_ C14=>yl λ_ C15=>yh O<|yp (qAJ O O ent (vR 4 O (λF' _=>qJA F' g32 (((⟨(Sha.numB (UInt64.ofNat ns.length) 2++Sha.numB (UInt64.ofNat (1+J1.length)) 4),0⟩:RS).take 2).take 4)))) O λg39 _=>?_
  rw [q3]
  refine yj ((qAQ O O O).no xC) O<|yn 3 O<|yv (qAN qAg O O) O<|yv ((qAs O O O).no xB) O<|yn 4 O<|yv (qAB O O) O<|yv (qAA O O qBR O qWM O) O<|yv (qAH O O isAgg47 (m:=m1) xD (by have h:=(hI.sv (U [G,N]) (qIv _ _) (qHn hdj1)).cells;rw [hI.gs] at h;exact h.at (i:=10) O)) O<|yv (qAN qKR O O) O<|yv (qBj O O u3_ qDJ xB) O<|yv ((qAQ O O O).no (by rw [hI.si.hl];omega)) O<|yh O<|yi C15<|vC ?_
  refine yy C14<|ym λ_ C16=>yl λ_ C17=>yn 2 O<|yj (qAN qAg O O) O<|yh O<|yj ((qAm O O O xB).nat (0) xB) O<|yj ((qCi O O qAg z9_ O O xB).as (v':= .slice A5 k c5) (by rw [qT5,zw,zw])) O<|yj (qAN qAg O O) O<|yh O<|yi C17<|yz<|vN (X:=Nat×SvR×Hp×Hp) (λζ=> [(0,Ptr x0.gs),(13,.slice A n c),(14,I (n:Nat)),(15,I (i:Nat)),(62,.slice A5 k c5),(63,I (k:Nat)),(64,I (ζ.1:Nat))]) (λζ=> [mo,ζ.2.2.1,ζ.2.2.2,F]) (λζ=>ζ.1<=ns.length/\(∀G2,Le G G2->Le ζ.2.2.2 G2->Srv ζ.2.2.1 G2 ζ.2.1)/\SI dp J1.length (s.runs J1) ((s.runs J1).run (ns.take ζ.1)) ζ.2.1/\ζ.2.1.gs=x0.gs/\(ζ.2.1.bk=x0.bk/\ζ.2.1.gb=x0.gb)/\ζ.2.1.no.length=ζ.1) (λζ=>ns.length-ζ.1) (0,x,m1,N) (⟨jH _,hI.sv,hI.si,hI.gs,hI.bk,by rw [hI.no];rfl⟩) (Sub.of O) (λ_ h=>h.pick [0,1,2,3] xC) ?_
  rintro⟨j,y,m2,N2⟩ ⟨hj,hSy,hSi,hyg,hyb,hyn⟩ I2 hI2
  dsimp only at hj hSy hSi hyg hyb hyn⊢
  refine ym λ_ C18=>wS λhdd=>?_
  have hdj:Dj N2 F:=qDE hdd (i:=2) (j:=3) O O xC
  have hdj2:Dj G N2:=qaW hdj hGF
  refine yt<|yj (qAP O O O) O<|yi C18<|ym λ_ C19=>y1 O (λh65=>?_) (λh65=>?_)
  .
   refine yy C19<|ym λ_ C20=>yz<|ym λ_ C21=>?_
   have hjn:j<ns.length:=xB
   have hoj:=JS.oks_at ns _ hns j hjn
   have hWj:=JW.run (ns.take j) hWJ (qNx ns _ hns j)
   have htl:(ns.take j).length=j:=by rw [jF];omega
   refine yt<|yj (qAC O O O qAg z9_ hro.sl xB) O<|yj (qAH O O b9_ (m:=mo) xD (hro.sl.elem (qAa (qAc [] xB)))) O ?_
   rw [show(qS5 (JR.headD []) k).getD j []=(ns[j]'hjn).bts by rw [hhd];exact qVq hkl xB]
   refine yh O<|yi C21<|yl λ_ C22=>yn 2 O<|yp (qAJ O O ent (vR 1 O (λF' hF=>by have:=qUP F' m2 (U [G,N2]) (hK.mo hF) (hA.mono (Fa hF)) (hT.mono (Fa hF)) (qPS (hGF.trans (Fa hF)) (Fa hF)) y (hSy _ (qIv _ _) (qHn hdj2)) hSi hWj xB (ns[j]'hjn) hoj xB;rw [hyg] at this;exact this))) O ?_
   rintro r70 hp70
   refine yj (qA5 O O) O<|vW [2,4,0,1,3] [N2,r70.N,mo,r70.m,F] O xC<|vk (λhj70=>?_)
   refine yi C22<|vC ?_
   refine vP<|vB<|yq (yu C20 ?_)
   exact yt<|yj ((qAM O O O xB).nat (j+1) xB) O<|yh O<|y8<|yq<|vE (j+1,r70.x,r70.m,U [N2,r70.N]) hI2 ⟨by dsimp only;omega,λG2 g1 g2=>hp70.sv G2 (qPS g1 ((qEC hj70).trans g2)) ((qIE hj70).trans g2),by dsimp only;rw [jP hjn,JS.run_snoc];exact hp70.i,hp70.gs.trans hyg,⟨hp70.bk.1.trans hyb.1,hp70.bk.2.trans hyb.2⟩,by dsimp only;rw [hp70.no,hyn]⟩ (Sub.of O) (λ_ h=>h.pick [1,2,0,3] xC)
  refine vK<|y6<|y6<|vL ?_
  refine yq (yu C16 ?_)
  refine ym λ_ C23=>?_
  obtain rfl:j=ns.length:=by omega
  rw [jn] at hSi
  refine yt<|yh O<|yp (qAJ O O ent (vR 1 O (λF' hF=>by have:=qXb F' m2 (U [G,N2]) (hK.mo hF) (qPS (hGF.trans (Fa hF)) (Fa hF)) y (hSy _ (qIv _ _) (qHn hdj2)) (by rw [hSi.tl];omega);rw [hyg] at this;exact this))) O ?_
  rintro⟨m74,r74⟩ hS74
  try dsimp only at hS74
  refine vW [2,4,0,1,3] [N2,r74.G,mo,m74,F] O xC<|vk (λhj74=>?_)
  refine yi C23 ?_
  have hI2:RpI dp G s JJ x0 (J1++ [ns]) J2 0 (i+1) (y.pub (r74,⟨y.bk,y.md,y.N⟩)) m74 (U [N2,r74.G]):={
   eq:=by rw [hIeq,jM];rfl
   kl:=jH _
   ie:=by rw [qXw,hI.ie,hkn]
   sv:=λG2 g1 g2=>hS74.s G2 (qPS g1 ((qEC hj74).trans g2)) ((qIE hj74).trans g2)
   si:=by
    rw [JS.runs_snoc,jA,jI]
    have hS2:Srv m2 (U [G,N2]) y:=hSy _ (qIv _ _) (qHn hdj2)
    exact hSi.pub xB hd4 hS2.i (by have:=hWJ.n20;omega) _ hS74.pm
   gs:=hyg
   bk:=hyb
   no:=rfl
   cl:=rfl}
  refine ve [0,2,3,4] [U [N2,r74.G],m74,F,(λ_=>none)] O xC<|yt<|yh O<|y8<|vB<|yq (yu C7 ?_)
  exact yt<|yj ((qAM O O O xB).nat (i+1) xB) O<|yh O<|y8<|yq<|vE (i+1,(J1++ [ns]),J2,0,(y.pub (r74,⟨y.bk,y.md,y.N⟩)),none,0,(λ_=>none),m74,(U [N2,r74.G])) hI0 ⟨by dsimp only;omega,hI2,qBf.nil⟩ (Sub.of O) (λ_ h=>h.pick [3,1,0,2] xC)
 refine vK<|y6<|y6<|vL ?_
 refine yq (yu C3 ?_)
 refine ym λ_ C24=>?_
 have hJ0:JR= []:=by
  cases JR with
  |nil=>rfl
  |cons a b=>
   have h2:=hI.ie
   have h3:k<=a.length:=hI.kl
   have h4:=hrl
   rw [hI.eq,qHU,jA] at h4
   have h5:(qCC (1+J1.length) (a::b)).length=a.length+1+(qCC (1+J1.length+1) b).length:=by
    show(a.map Nt.bts++cmB a.length _::qCC _ b).length=_
    rw [jA,jJ,jC];omega
   omega
 subst hJ0
 have hk0:k=0:=Nat.le_zero.1 hI.kl
 subst hk0
 have hJe:=hI.eq
 rw [jS] at hJe
 subst hJe
 obtain rfl:i=n:=by omega
 exact yt<|yh O<|yi C24<|yr<|yw hw0 O (⟨m1,N,x⟩:RpR) O hI [1,3,2] O xC
def nwJ(gd n first count dp:Nat)(gl:List Aud)(md:Hp)(r:NwR)(A:yS)(c:Nat)(mb:Hp)(R:List xA)(d:Dk):SvR:=
 {nwS gd n first count dp gl md r with N:=mb,bk:=⟨gd,first,count/2,first,if R= [] then 0 else 1,qBU R,A,c,R,d⟩}
structure DkJ (d:Dk) (first count:Nat) (R:List xA):Prop where
 ok:d.ok
 on:d.off=false
 ar:d.armed=false
 wt:d.wait= []
 kp:d.keep= []
 ln:d.last.length<=1000
 fit:first+2*(count/2)<=d.last.length
 fit2:first+count<=d.last.length
 r9: ∀s∈R,s.length<=900
 es:qBU R<=count/2
 one: ∀i,i<count/2->d.last.getD (first+i) []=(alS 0 R).getD i zS
 two: ∀i,i<count/2->d.last.getD (first+count/2+i) []=zS
abbrev gl5(r:NwR):List Hp:= [qAd r.gA (.map #[] 0),r.mR,r.mt,r.cp.mr,r.ad.mN]
theorem qZz{gd n first count dp:Nat}{gl:List Aud}{md:Hp}{r:NwR}{A:yS}{c:Nat}{mb:Hp}{R:List xA}{d:Dk}(hb:Dsk md gd d none 0)(hd:DkJ d first count R)(hc:count<=2000)(hdp:dp<=4)(hg:qZR gl)(hp:NwP gl dp r)(h5:Djs (gl5 r))(hrs:Row mb 9 1 A R.length c (qAG R)):
    SvP (U (gl5 r)) (nwJ gd n first count dp gl md r A c mb R d)/\SvI (nwJ gd n first count dp gl md r A c mb R d):=by
  have hl: ∀a∈gl5 r,Le a (U (gl5 r)):=λa ha=>qG2 h5 ha
  have hls:r.cp.ls= []:=List.map_eq_nil_iff.1 hp.cp.pm.eq_nil
  have hll:=qJ5 gl (n:=gl.length) hg.len
  obtain ⟨_,h16⟩:=qK1 hdp
  have hg15:=hg.len
  have hro:qTK (U (gl5 r)) r.gR gl:=by
    obtain ⟨a,b,c,q1,q2,_⟩:=hp.ro.see
    exact qTK.mono ⟨a,b,c,q1,q2⟩ (hl _ xD)
  have hrb:qTK (U (gl5 r)) r.cp.r gl:=by
    obtain ⟨a,b,c,q1,q2,_⟩:=hp.cp.ro.see
    exact qTK.mono ⟨a,b,c,q1,q2⟩ (hl _ xD)
  have hmx:=hp.cp.mp
  have hnx:=hp.cp.nx
  rw [hls] at hmx hnx
  have hRe:=qJ1 R
  refine⟨⟨hmx,hnx,qBf.nil,qBf.nil,hp.ad.rt,hp.ad.rh,?_,(MapS.nil r.gA).at.mono (hl _ xD),(λy hy=>by cases hy),hro,hrb,λi hi=>?_,λi hi=>?_⟩,?_⟩
  . have h1:=hd.fit
    have h2:=hd.es
    exact⟨hb,hd.ok,hd.on,hd.ar,hd.wt,hd.kp,hrs.sl,by show first+count/2<=d.last.length;omega,hd.ln,by show(if R= [] then(0:UInt64) else 1).toNat<=1;split<;>decide,h2⟩
  . show qCo _ ([r.gt].getD i 0) ([qGQ [] gl gl.length].getD i [])
    rw [qR1 hi,qR1 (show i< [qGQ [] gl gl.length].length from hi)]
    exact hp.tr.at.mono (hl _ xD)
  . show nsl _ ([adH qAX dp gl.length [] (qGQ [] gl gl.length) r.ad.nA r.ad.nc].getD i qBE)
    rw [qR1 hi]
    exact hp.ad.nd.sl.mono (hl _ xD)
  . exact{dp:=hdp,un:=List.nodup_nil,uw:=List.nodup_nil,ln:=(λy hy=>by cases hy),lw:=(λy hy=>by cases hy),cl:=⟨jH _,(λy hy=>by cases hy),(λy hy=>by cases hy)⟩,n9:=(λy hy=>by cases hy),nc:=rfl,t0:=zy _,t1:=(by show 1<=15;decide),th:=rfl,tk:=rfl,kf:=qHo gl hg15,kl:=(by show(qGQ [] gl gl.length).length<=5000*1;omega),hg:=qNd (jH _) (jL _) (by show(qAl _ dp).length<=16;unfold qAl;rw [qBk];exact h16),al:=(by show gl.length<=64;omega),an:=(by show gl.length<=64;omega),sz:=(by show count/2<=1000;omega),re:=hRe}
theorem qZy{gd n first count dp:Nat}{n0:Nat}(h2:n0<=2){gl:List Aud}(hgl:gl=qEZ n0){md:Hp}{r:NwR}{A:yS}{c:Nat}{mb:Hp}{R:List xA}{d:Dk}(hp:NwP gl dp r):SI dp 0 ⟨[],n0⟩ ⟨[],n0⟩ (nwJ gd n first count dp gl md r A c mb R d):=by
 subst hgl
 have hlp:qGQ [] (qEZ n0) (qEZ n0).length=qPn n0:=by
  rw [qCn,qMj _ n0 xB];unfold qPn;refine yA λi hi=>?_;rw [qOg (List.mem_range.1 hi)]
 have hk: ∀k,Sm.getP (qGQ [] (qEZ n0) (qEZ n0).length) k=qTQ ⟨[],n0⟩ k:=λk=>by rw [hlp];rfl
 refine⟨O,O,List.Perm.refl _,O,O,O,O,hk,hk,⟨qAX,O,?_⟩⟩
 show(⟨0,qAX,((dp:Nat):Int),(((qEZ n0).length:Nat):Int),qAl (qGQ [] (qEZ n0) (qEZ n0).length) dp⟩:Hd)=⟨0,qAX,((dp:Nat):Int),((n0:Nat):Int),qAl (qGQ [] (qEZ n0) (qEZ n0).length) dp⟩
 rw [qCn]
theorem qaD{l:List Hp}{F:Hp}(h: ∀m∈l,Le m F):Le (U l) F:=λg o hg=>by
 obtain ⟨m,hm,ho⟩:=qCa hg
 exact h m hm g o ho
theorem qOz(F G:Hp)(hK:yf F)(hA:yg F)(hT_:qBl F)(hGF:Le G F)(x0:SvR)(hP:SvP G x0)(hI:SvI x0)(hC:x0.mC=λ_=>none)(hO:x0.mO=λ_=>none)(dp:Nat)(hd4:dp<=4)(s:JS)(JJ:List (List Nt))(h0:SI dp 0 s s x0)(hno0:x0.no= [])(hcl0:x0.cl= [])(hW:JW s 0)(hok:s.okss JJ)(hJ:JJ.length<=14)(hJn:qHm JJ<=100)(A:yS)(n c:Nat)(l:List xA)(hl:Sl F 1 A n c (qAG l))(hlJ:l=qCC 1 JJ)(hnb:n<=1000):
    Ct prog 52 [Ptr x0.gs,.slice A n c] [x0.sb,x0.mX,x0.NX,x0.mT,x0.mH,x0.bk.blk x0.gb,x0.md,x0.N,F] (λ_:RpR=> .bool true) (λr=>RpI dp G s JJ x0 JJ [] 0 n r.x r.m r.N) (λr=> [r.m,F,r.N]):=λw0 w hw=>by
  have h1:St w0 ([x0.sb,x0.mX,x0.NX,x0.mC,x0.mO,x0.mT,x0.mH,x0.bk.blk x0.gb,x0.md,x0.N]++ [F]) w:=by
    rw [hC,hO]
    exact hw.empty.empty.pick [0,1,2,9,10,3,4,5,6,7,8] xC
  have h2:=St.joinUs (A:=x0.hs) (r:= [F]) h1
  exact qO0 F (U x0.hs) G hK hA hT_ hGF x0 ⟨O,h2.1,hP,hI⟩ dp hd4 s JJ h0 hno0 hcl0 hW hok hJ hJn A n c l hl hlJ hnb w0 w h2.2
structure NjR where
 m:Hp
 G:Hp
 x:SvR
structure NjP (dp first count n0:Nat) (JJ:List (List Nt)) (gd:Nat) (r:NjR):Prop where
 sv:Srv r.m r.G r.x
 si:SI dp JJ.length ((⟨[],n0⟩:JS).runs JJ) ((⟨[],n0⟩:JS).runs JJ) r.x
 no:r.x.no= []
 cl:r.x.cl= []
 bk:CbC r.x.bk/\r.x.bk.R=qCC 1 JJ/\r.x.bk.size=count/2/\r.x.bk.f0=first/\r.x.bk.gd=gd
theorem DkJ.cc{d:Dk}{first count:Nat}{R:List xA}(h:DkJ d first count R)(hc:count<=2000)(gd:Nat)(A:yS)(c:Nat):CbC ⟨gd,first,count/2,first,if R= [] then 0 else 1,qBU R,A,c,R,d⟩:=
 ⟨rfl,rfl,h.r9,by show count/2<=1000;omega,h.es,h.fit,O,h.one,h.two⟩
theorem qMd(F md:Hp)(hK:yf F)(hA:yg F)(hT:qBl F)(gd:Nat)(d:Dk)(hb:Dsk md gd d none 0)(first count:Nat)(h8:8<=count)(hc2:count<=2000)(dp:Nat)(hdp:dp<=4)(n0:Nat)(hn2:n0<=2)(GA:yS)(gc:Nat)(gl:List Aud)(hglK:gl=qEZ n0)(hgl:Sl F 4 GA gl.length gc (qBn gl))(hg:qZR gl)(JJ:List (List Nt))(hd:DkJ d first count (qCC 1 JJ))(hW:JW ⟨[],n0⟩ 0)(hokJ:(⟨[],n0⟩:JS).okss JJ)(hJ:JJ.length<=14)(hJn:qHm JJ<=100):Ct prog 9 [Ptr gd,I (first:Nat),I (count:Nat),I (dp:Nat),.slice GA gl.length gc] [md,F] (λr:NjR=> .tuple #[Ptr r.x.gs,I (0:Nat)]) (NjP dp first count n0 JJ gd) (λr=> [r.m,F,r.G]):=by
 obtain ⟨hp1,hp16⟩:=qK1 hdp
 have hcnt:cnt ((dp:Nat):Int)=2^dp:=qD2 hdp
 have hg15:=hg.len
 obtain ⟨dA,dc,dB,de,hdc,hdL,hdW⟩:=hb.see
 have hll:=qJ5 gl (n:=gl.length) hg15
 obtain ⟨R,hR⟩: ∃q,q=qCC 1 JJ:=⟨_,rfl⟩
 rw [<-hR] at hd
 have hRe:=qJ1 R
 have hes:=hd.es
 have hln:=hd.ln
 have hfit:=hd.fit
 have hh:hst d first (count/2) 2=⟨first,(if R= [] then 0 else 1),R,qBU R⟩:=qaM hd.wt hd.r9 xB hd.es hd.one hd.two
 refine y7 func9 O ntmps9 O (λw0 hw0=>?_)
 refine yl λ_ C1=>yn 2 O<|yi C1<|ym λ_ C2=>yl λ_ C3=>yh O<|yp (qAZ O O (λF' hF=>by have:=qDB F' ((dp:Nat):Int);rw [hcnt] at this;exact this)) O λg21 _=>yj ((qAR O O O).no xB) O<|yi C3<|vC ?_
 refine yy C2<|yl λ_ C4=>yh O<|yp (qGC O) O ?_
 rintro g24 _
 refine yp (qBx O O (λF' hF=>Ct.swap2 (qXl F'))) O ?_
 rintro⟨g25,m25⟩ h25
 try dsimp only at h25
 refine yj (qAK (places:= [(0,1),(1,1)]) (r:= [.map (some g24),Ptr g25]) O O O qD9 zeroValue124 (λ_=>xH) O) O<|yj (qAK (places:= [(0,1),(1,1),(2,1),(3,2),(5,2),(7,1),(8,1),(9,1),(10,1)]) (r:= [I (dp:Nat),.pointer none,.bool false,.map (some g24),Ptr g25,.map none,.pointer none,.slice none 0 0,.slice none 0 0,.slice none 0 0,.slice none 0 0]) O O O qBR zeroValue129 (λ_=>xH) xH) O<|yp (qAi O O O) O λg28 _=>yh O<|yi C4<|ym λ_ C5=>yl λ_ C6=>yh O<|yj (qAN qDl O O) O<|yh O<|yi C6<|yz<|vN (X:=Nat×Hp) (λζ=> [(0,Ptr gd),(1,I (first:Nat)),(2,I (count:Nat)),(12,Ptr g28),(29,.slice GA gl.length gc),(30,I (gl.length:Nat)),(31,I (ζ.1:Nat))]) (λζ=> [ζ.2,md,F,qAd g24 (.map #[] 0),blk g28 [I (dp:Nat),.pointer none,.bool false,.map (some g24),Ptr g25,.map none,.pointer none,.slice none 0 0,.slice none 0 0,.slice none 0 0,.slice none 0 0] 129]) (λζ=>ζ.1<=gl.length/\qTJ ζ.2 g25 (gl.take ζ.1)) (λζ=>gl.length-ζ.1) (0,m25) (⟨jH _,h25⟩) (Sub.of O) (λ_ h=>h.pick [3,0,1,2,4] xC) ?_
 rintro⟨i,mo⟩ ⟨hi,hro⟩ I0 hI0
 dsimp only at hi hro⊢
 refine yl λ_ C7=>yj (qAP O O O) O<|yi C7<|ym λ_ C8=>y1 O (λh32=>?_) (λh32=>?_)
 .
  refine yy C8<|ym λ_ C9=>yz<|ym λ_ C10=>?_
  obtain ⟨hx1,hx2,hx3⟩:=hg.at (i:=i) xB
  have htk:(gl.take i).length<=1000000:=by rw [jF];omega
  refine yt<|yj (qAC O O O qDl qIV hgl xB) O<|yj (qAb O O qPu qIV (m:=F) xD (hgl.elem (qIA xB)) O) O<|yp (qAO O qYx O) O λg14 _=>vG (qAF (i:=5) (l:= [Str [],Str [],Str [],I 0]) (vs:= [Str ((gl.getD i qBc).nm),Str ((gl.getD i qBc).op),Str ((gl.getD i qBc).rt),I ((gl.getD i qBc).ht)]) O O O O O qIV O O) O O λ_ _=>yi C10<|ym λ_ C11=>vQ [blk g28 [I (dp:Nat),.pointer none,.bool false,.map (some g24),Ptr g25,.map none,.pointer none,.slice none 0 0,.slice none 0 0,.slice none 0 0,.slice none 0 0] 129,blk g14 [Str ((gl.getD i qBc).nm),Str ((gl.getD i qBc).op),Str ((gl.getD i qBc).rt),I ((gl.getD i qBc).ht)] 34] [] (.y 0 (.y 1 (.y 2 (.y 3 (.y 4 (.y 5 (.e 6 (.y 7 (.y 8 (.y 9 (.y 10 (.y 11 .nil)))))))))))) ye xF xD ?_
  refine yx ?_
  refine yo O (qAB O O) O O<|yo O (qAA O O qBR O qCM O) O O<|yo O (qAA O O qD9 O sizeOf121 O) O O<|yo O (qAD 0 O O O isAgg121 O) O O<|yo O (qAx 1 O O O qPu qIV O) O O<|vD O (qAJ O O ent (vR 0 O (λF' hF=>qMR F' mo g25 (gl.take i) hro (hA.mono (Fa hF)) (hT.mono (Fa hF)) ((gl.getD i qBc).nm) ((gl.getD i qBc).op) ((gl.getD i qBc).rt) ((gl.getD i qBc).ht) (by first|omega|exact jW O|(rw [jJ];omega)) (by first|omega|exact jW O|(rw [jJ];omega)) (by first|omega|exact jW O|(rw [jJ];omega)) (by first|omega|exact jW O|(rw [jJ];omega))))) O xD ?_
  rintro m42 h42
  rw [hg.ok i xB]
  replace h42:=(yY (qTJ m42 g25) (hg.step (i:=i) xB)).mp h42
  refine yx ?_
  refine vm (I (qGf (gl.take i) (aX gl i).nm (aX gl i).op (aX gl i).rt (aX gl i).ht)) ?_
  refine vm (I (0:Nat)) ?_
  refine vU ?_
  refine vU ?_
  refine vM<|yq (yu C11 ?_)
  refine yl λ_ C12=>yh O<|yj ((qAQ O O O).no xC) O<|yi C12<|vC ?_
  refine vP<|vB<|yq (yu C9 ?_)
  exact yt<|yj ((qAM O O O xB).nat (i+1) xB) O<|yh O<|y8<|yq<|vE (i+1,m42) hI0 ⟨by dsimp only;omega,h42⟩ (Sub.of O) (λ_ h=>h.pick [0,1,2,3,4] xC)
 refine vK<|y6<|y6<|vL ?_
 refine yq (yu C5 ?_)
 refine ym λ_ C13=>?_
 obtain rfl:i=gl.length:=by omega
 rw [jn] at hro
 obtain ⟨A3,n3,c3,hcA,hsA,_⟩:=hro.see
 obtain rfl:gl.length=n3:=by have:=hsA.1;rw [qDh] at this;exact this
 refine yt<|yp (qBx O O (λF' hF=>Ct.swap2 (qXK F'))) O ?_
 rintro⟨g49,m49⟩ h49
 try dsimp only at h49
 refine yh O<|yi C13<|yl λ_ C14=>yh O<|yj (qAB O O) O<|vA 3 qBR qCM O O O O O<|vA 4 qD9 sizeOf121 O O O O O<|vF 4 isAgg121 O O O O O<|yh O<|yp (qAJ O O ent (vR 5 O (λF' hF=>qXn F' m49 (hK.mo hF) g25 A3 gl.length c3 gl (hsA.mono (Fa hF)) xB (hcA.mono (Fa hF)) g49 [] h49 hg.sm xB))) O ?_
 rintro m56 h56
 refine yi C14<|yl λ_ C15=>yn 2 O<|yj (qAB O O) O<|vA 3 qBR qCM O O O O O<|yj (qAb O O isAgg124 qCM (m:=blk g28 [I (dp:Nat),.pointer none,.bool false,.map (some g24),Ptr g25,.map none,.pointer none,.slice none 0 0,.slice none 0 0,.slice none 0 0,.slice none 0 0] 129) xD (qAI.blk0.sub 3 2) O) O<|yp (qBx O O (λF' hF=>qNY F' g24 g25 [] ((MapS.nil g24).at.mono (hF (qAd g24 (.map #[] 0)) xD)) (λ_ h=>by cases h) List.nodup_nil (λ_ h=>by cases h) A3 gl.length c3 gl (hcA.mono (Fa hF)) (hsA.mono (Fa hF)) xB)) O ?_
 rintro r62 hp62
 refine yj (qAB O O) O<|vA 5 qBR qCM O O O O O<|vG (qAU (i:=4) O O O O O qCM O xD) O O λ_ _=>yi C15<|ym λ_ C16=>?_
 obtain ⟨A4,n4,c4,hcB,hsB,_⟩:=hp62.ro.see
 obtain rfl:gl.length=n4:=by have:=hsB.1;rw [qDh] at this;exact this
 refine ve [0,1,2,3,4,5,6,7,8,9] [mo,md,F,qAd g24 (.map #[] 0),blk g28 [I (dp:Nat),.pointer none,.bool false,.map (some g24),Ptr g25,.map (some r62.g),Ptr r62.r,.slice none 0 0,.slice none 0 0,.slice none 0 0,.slice none 0 0] 129,m56,r62.mm,r62.M,r62.mr,(λ_=>none)] O xC<|ve [0,1,2,3,4,5,6,7,8,9,10] [mo,md,F,qAd g24 (.map #[] 0),blk g28 [I (dp:Nat),.pointer none,.bool false,.map (some g24),Ptr g25,.map (some r62.g),Ptr r62.r,.slice none 0 0,.slice none 0 0,.slice none 0 0,.slice none 0 0] 129,m56,r62.mm,r62.M,r62.mr,(λ_=>none),(λ_=>none)] O xC<|vW [4,9,10,1,2,3,0,5,6,7,8] [blk g28 [I (dp:Nat),.pointer none,.bool false,.map (some g24),Ptr g25,.map (some r62.g),Ptr r62.r,.slice none 0 0,.slice none 0 0,.slice none 0 0,.slice none 0 0] 129,(λ_=>none),(λ_=>none),md,F,qAd g24 (.map #[] 0),mo,m56,r62.mm,r62.M,r62.mr] O xC<|yt<|yn 2 O<|yp (qAJ O O ent (vi [blk g28 [I (dp:Nat),.pointer none,.bool false,.map (some g24),Ptr g25,.map (some r62.g),Ptr r62.r,.slice none 0 0,.slice none 0 0,.slice none 0 0,.slice none 0 0] 129,(λ_=>none),(λ_=>none)] [md,F,qAd g24 (.map #[] 0),mo,m56,r62.mm,r62.M,r62.mr] (A':=λx:AdR=> [blk g28 [I (dp:Nat),.pointer none,.bool false,.map (some g24),Ptr g25,.map (some r62.g),Ptr r62.r,.slice none 0 0,.slice none 0 0,.slice x.tA (([]:yT)++ [g49]).length x.tc,.slice x.hA (([]:List RhD)++ [adH qAX dp gl.length [] (qGQ [] gl gl.length) x.nA x.nc]).length x.hc] 129,x.mT,x.mH]) (new:=λx=> [x.mN]) (λF' hF=>qQm F' (λ_=>none) (λ_=>none) (hK.mo hF) g28 dp r62.r (.pointer none) (.bool false) (.map (some g24)) (Ptr g25) (.map (some r62.g)) (.slice none 0 0) (.slice none 0 0) none 0 [] qBf.nil (jH _) none 0 [] qBf.nil (jH _) hdp g49 (qGQ [] gl gl.length) (h56.at.mono (Fa hF)) (qHo gl hg15) A4 gl.length c4 gl (hcB.mono (Fa hF)) (hsB.mono (Fa hF)) qAX))) O ?_
 rintro r67 hp67
 refine yi C16<|yl λ_ C17=>yn 3 O<|yp (qBx O O (λF' hF=>by have:=qVv F' (hK.mo hF) gd d hd.ok dA dc dB de none 0 (hdc.mono (Fa hF)) (hdL.mono (Fa hF)) (hdW.mono (Fa hF)) (by rw [hd.wt];exact jH _) first count h8 hd.fit2 hd.on;rw [hh] at this;exact this)) O ?_
 rintro⟨g72,Ab,cb,mb⟩ hb72
 try dsimp only at hb72
 change J _ ((72,.tuple #[Ptr g72,I (0:Nat)])::_) _ [_,_,_,_,_,_,_,_,_,_,_,_,(CbR.blk g72 ⟨gd,first,count/2,first,(if R= [] then 0 else 1),qBU R,Ab,cb,R,d⟩),mb] _
 refine yn 5 O<|yi C17<|ym λ_ C18=>yl λ_ C19=>yh O<|yj ((qAQ O O O).no xC) O<|yi C19<|vC ?_
 refine yy C18<|yl λ_ C20=>yn 2 O<|yj (qAB O O) O<|vA 1 qBR sizeOf125 O O O O O<|vG (qAU (i:=0) (l:= [I (dp:Nat),.pointer none,.bool false,.map (some g24),Ptr g25,.map (some r62.g),Ptr r62.r,.slice none 0 0,.slice none 0 0,.slice r67.tA (([]:yT)++ [g49]).length r67.tc,.slice r67.hA (([]:List RhD)++ [adH qAX dp gl.length [] (qGQ [] gl gl.length) r67.nA r67.nc]).length r67.hc]) (vs:= [Ptr g72]) O O O O O sizeOf125 O xD) O O λ_ _=>?_
 change J _ _ _ [blk g28 [I (dp:Nat),Ptr g72,.bool false,.map (some g24),Ptr g25,.map (some r62.g),Ptr r62.r,.slice none 0 0,.slice none 0 0,.slice r67.tA (([]:yT)++ [g49]).length r67.tc,.slice r67.hA (([]:List RhD)++ [adH qAX dp gl.length [] (qGQ [] gl gl.length) r67.nA r67.nc]).length r67.hc] 129,_,_,_,_,_,_,_,_,_,_,_,_,_] _
 refine yi C20<|ym λ_ C21=>ym λ_ C22=>wS λhdd=>?_
 have h5:Djs [qAd g24 (.map #[] 0),mo,m56,r62.mr,r67.mN]:=qKP hdd (ix:= [5,6,7,10,11]) xC
 have hp5:NwP gl dp ⟨g28,g24,g25,mo,g49,m56,r62,r67,g72⟩:=⟨hro,h56,hp62,hp67⟩
 obtain ⟨hPx,hIx⟩:=qZz (n:=0) hb hd hc2 hdp hg hp5 h5 hb72
 have hSx:SI dp 0 ⟨[],n0⟩ ⟨[],n0⟩ (nwJ gd 0 first count dp gl md ⟨g28,g24,g25,mo,g49,m56,r62,r67,g72⟩ Ab cb mb R d):=qZy hn2 hglK hp5
 refine yt<|yn 2 O<|yp (qAJ O O ent (Ct.use (new:=λx:yS×Nat×Hp=> [x.2.2]) (λF' hF=>qO2 F' g72 gd ((first:Nat):Int) (count/2) ((first:Nat):Int) (if R= [] then 0 else 1) ((qBU R:Nat):Int) Ab R.length cb false (qAI.blk0.mono (hF (CbR.blk g72 ⟨gd,first,count/2,first,(if R= [] then 0 else 1),qBU R,Ab,cb,R,d⟩) xD)) R O (hb72.sl.mono (Fa hF)) xB))) O ?_
 rintro⟨A84,c84,m84⟩ h84
 try dsimp only at h84
 refine vW [0,8,9,1,2,12,3,13,4,5,6,7,10,11,14] [blk g28 [I (dp:Nat),Ptr g72,.bool false,.map (some g24),Ptr g25,.map (some r62.g),Ptr r62.r,.slice none 0 0,.slice none 0 0,.slice r67.tA (([]:yT)++ [g49]).length r67.tc,.slice r67.hA (([]:List RhD)++ [adH qAX dp gl.length [] (qGQ [] gl gl.length) r67.nA r67.nc]).length r67.hc] 129,r62.mm,r62.M,r67.mT,r67.mH,(CbR.blk g72 ⟨gd,first,count/2,first,(if R= [] then 0 else 1),qBU R,Ab,cb,R,d⟩),md,mb,F,qAd g24 (.map #[] 0),mo,m56,r62.mr,r67.mN,m84] O xC<|yp (qAJ O O ent (vi [blk g28 [I (dp:Nat),Ptr g72,.bool false,.map (some g24),Ptr g25,.map (some r62.g),Ptr r62.r,.slice none 0 0,.slice none 0 0,.slice r67.tA (([]:yT)++ [g49]).length r67.tc,.slice r67.hA (([]:List RhD)++ [adH qAX dp gl.length [] (qGQ [] gl gl.length) r67.nA r67.nc]).length r67.hc] 129,r62.mm,r62.M,r67.mT,r67.mH,(CbR.blk g72 ⟨gd,first,count/2,first,(if R= [] then 0 else 1),qBU R,Ab,cb,R,d⟩),md,mb] [F,qAd g24 (.map #[] 0),mo,m56,r62.mr,r67.mN,m84] (A':=λr:RpR=> [r.m]) (new:=λr=> [r.N]) (λF' hF=>qOz F' (U [qAd g24 (.map #[] 0),mo,m56,r62.mr,r67.mN]) (hK.mo hF) (hA.mono (Fa hF)) (hT.mono (Fa hF)) (qaD (λa ha=>hF a (by simp only [j5,jr,or_false] at ha⊢;rcases ha with rfl|rfl|rfl|rfl|rfl<;>simp))) (nwJ gd 0 first count dp gl md ⟨g28,g24,g25,mo,g49,m56,r62,r67,g72⟩ Ab cb mb R d) hPx hIx O O dp hdp ⟨[],n0⟩ JJ hSx O O hW hokJ hJ hJn A84 R.length c84 R (h84.sl.mono (Fa hF)) hR xB))) O ?_
 rintro r85 hr85
 refine yj ((qA5 O O).as (v':= .bool false) O) O<|vW [2,3,4,5,6,8,0,1] [qAd g24 (.map #[] 0),mo,m56,r62.mr,r67.mN,r85.N,r85.m,F] O xC<|vk (λhj1=>?_)
 refine vk (λhj2=>?_)
 refine vk (λhj3=>?_)
 refine vk (λhj4=>?_)
 refine vk (λhj5=>?_)
 refine yi C22<|vC ?_
 refine yy C21<|ym λ_ C23=>?_
 have hsv:Srv r85.m (U [U [U [U [U [qAd g24 (.map #[] 0),mo],m56],r62.mr],r67.mN],r85.N]) r85.x:=hr85.sv _ (qaD (λa ha=>by
  simp only [j5,jr,or_false] at ha
  have k5:=qEC hj5
  have k4:=(qEC hj4).trans k5
  have k3:=(qEC hj3).trans k4
  have k2:=(qEC hj2).trans k3
  rcases ha with rfl|rfl|rfl|rfl|rfl
  . exact(qEC hj1).trans k2
  . exact(qIE hj1).trans k2
  . exact(qIE hj2).trans k3
  . exact(qIE hj3).trans k4
  . exact(qIE hj4).trans k5)) (qIE hj5)
 have hgs:r85.x.gs=g28:=hr85.gs
 have hbk:r85.x.bk=(nwJ gd 0 first count dp gl md ⟨g28,g24,g25,mo,g49,m56,r62,r67,g72⟩ Ab cb mb R d).bk:=hr85.bk.1
 exact yt<|yn 3 O<|yi C23<|yr<|vH hw0 (λ_ _ h=>h) (qB5 O O O) (qAf (⟨r85.m,(U [U [U [U [U [qAd g24 (.map #[] 0),mo],m56],r62.mr],r67.mN],r85.N]),r85.x⟩:NjR) (by rw [hgs];rfl) ⟨hsv,hr85.si,hr85.no,hr85.cl,by rw [hbk];exact⟨hd.cc hc2 _ _ _,hR,O,O,O⟩⟩ [1,2,0] O xC)
end Go.Proofs.YtmemgokiolfdoaaGreatDoor
namespace Go.Proofs.YtmemgokiolfdoaaGreatDoor
open Go Go.Fw Go.Proofs.Tryz
structure MlD where
 nm:xA
 esA:yS
 esc:Nat
 es:List En
def MlD.cells(x:MlD):yU:= [Str (x.nm),.slice x.esA x.es.length x.esc]
def qA4:MlD:=⟨[],none,0,[]⟩
def qIO(l:List MlD):List yU:=l.map MlD.cells
theorem qEk{l:List MlD}{k:Nat}(h:k<l.length):(qIO l)[k]?=some (l.getD k qA4).cells:=by
 unfold qIO
 rw [jO,qAc qA4 h];rfl
theorem qLK(a:List MlD)(x:MlD):qIO (a++ [x])=qIO a++ [x.cells]:=by simp [qIO]
def mlE(ls:List MlD):LE:=ls.map λx=>(x.nm,x.es)
def MlA(F:Hp)(ls:List MlD):Prop:= ∀x∈ls,Sl F 5 x.esA x.es.length x.esc (qD1 x.es)
theorem MlA.mono{F F':Hp}{ls:List MlD}(h:MlA F ls)(hl:Le F F'):MlA F' ls:=λx hx=>(h x hx).mono hl
theorem MlA.get{F:Hp}{ls:List MlD}(h:MlA F ls){i:Nat}(hi:i<ls.length):Sl F 5 (ls.getD i qA4).esA (ls.getD i qA4).es.length (ls.getD i qA4).esc (qD1 (ls.getD i qA4).es):=h _ (by
 rw [jB,jD hi];exact jU hi)
def mlG:List MlD->xA->MlD
 | [],_=>qA4
 |x::r,k=>if x.nm=k then x else mlG r k
theorem qJ3(ls:List MlD)(k:xA):(mlG ls k).es=qA2 (mlE ls) k:=by
 induction ls with
 |nil=>rfl
 |cons x r ih=>
  show(if x.nm=k then x else mlG r k).es=if x.nm=k then x.es else qA2 (mlE r) k
  split
  . rfl
  . exact ih
theorem qWn: ∀(ls:List MlD) (k:xA) (i:Nat),i<ls.length->(∀j<i,(ls.getD j qA4).nm≠k)->(ls.getD i qA4).nm=k->mlG ls k=ls.getD i qA4
 | [],_,_,h,_,_=>absurd h (jz _)
 |x::r,k,0,_,_,h=>by
  have h:x.nm=k:=h
  show(if x.nm=k then x else mlG r k)=x
  rw [yX h]
 |x::r,k,i+1,h,hn,he=>by
  have h0:x.nm≠k:=hn 0 (zy _)
  show(if x.nm=k then x else mlG r k)=r.getD i qA4
  rw [yW h0]
  exact qWn r k i (by rw [jC] at h;omega) (λj hj=>hn (j+1) xB) he
theorem qWm: ∀(ls:List MlD) (k:xA),(∀j<ls.length,(ls.getD j qA4).nm≠k)->mlG ls k=qA4
 | [],_,_=>rfl
 |x::r,k,hn=>by
  have h0:x.nm≠k:=hn 0 (by rw [jC];omega)
  show(if x.nm=k then x else mlG r k)=qA4
  rw [yW h0]
  exact qWm r k (λj hj=>hn (j+1) (by rw [jC];omega))
theorem qLb(F:Hp)(A:yS)(n c:Nat)(ls:List MlD)(hs:Sl F 2 A n c (qIO ls))(hn:n<=1000)(nm:xA):Cz prog 76 [.slice A n c,Str nm] F (.slice (mlG ls nm).esA (mlG ls nm).es.length (mlG ls nm).esc):=by
 have hln:ls.length=n:=by have:=hs.1;simpa [qIO] using this
 refine y7 func76 O ntmps76 O (λw0 hw0=>?_)
 refine yl λ_ C1=>yh O<|yi C1<|ym λ_ C2=>yl λ_ C3=>yh O<|yi C3<|yz<|vN (X:=Nat) (λζ=> [(0,.slice A n c),(1,Str (nm)),(5,I (ζ:Nat))]) (λζ=> [F]) (λζ=>ζ<=n/\ ∀j<ζ,(ls.getD j qA4).nm≠nm) (λζ=>n-ζ) 0 (⟨jH _,λj h=>absurd h (jz j)⟩) (Sub.of O) (λ_ h=>h) ?_
 rintro i ⟨hi,hne⟩ I0 hI0
 refine ym λ_ C4=>yl λ_ C5=>yn 2 O<|yj (qAN qMI O O) O<|yj (qAP O O O) O<|yi C5<|y1 O (λh9=>?_) (λh9=>?_)
 .
  refine yy C4<|ym λ_ C6=>yz<|yl λ_ C7=>yn 2 O<|yj (qAC O O O qMI qIG hs xB) O<|yj (qBM O O qFn O z9_ hs xB O) O<|yj (qAH O O b9_ (m:=F) xD (hs.part (qEk xB) 0 1)) O<|yh O<|yj (qBP O O O) O<|yi C7<|y1 O (λh18=>?_) (λh18=>?_)
  .
   refine yl λ_ C8=>yn 2 O<|yj (qAC O O O qMI qIG hs xB) O<|yj (qBM O O qFn O sizeOf165 hs xB O) O<|yj (qAH O O isAgg165 (m:=F) xD (hs.part (qEk xB) 1 1)) O<|yh O<|yi C8<|yr<|vI<|y5<|y5<|vI<|y5 ?_
   have hg:=qWn ls nm i xB hne h18
   exact yw hw0 O () (by rw [hg]) yd [0] O xC
  refine vP<|vB<|yq (yu C6 ?_)
  exact yt<|yh O<|yj ((qAM O O O xB).nat (i+1) xB) O<|yh O<|y8<|yq<|vE (i+1) hI0 ⟨xB,λj hj=>by rcases Nat.lt_succ_iff_lt_or_eq.1 hj with h|rfl;exact hne j h;exact h18⟩ (Sub.of O) (λ_ h=>h)
 refine vK<|y6<|y6<|vL ?_
 refine yq (yu C2 ?_)
 refine yl λ_ C9=>yh O<|yi C9<|yr ?_
 obtain rfl:i=n:=by omega
 have hg:=qWm ls nm (by rw [hln];exact hne)
 exact yw hw0 O () (by rw [hg];rfl) yd [0] O xC
theorem el168:qCx prog 168 [.int .u64 0,Str [],Str [],.int .i64 0,Str []] 64:=qCx.of xH O
theorem el268:qCx prog 268 [Str [],.slice none 0 0] 40:=qCx.of xH O
def puF(nm:xA)(x:En)(y:xA×List En):xA×List En:=if y.1=nm then(y.1,y.2++ [x]) else y
theorem qUW{l:LE}{nm:xA}{x:En}(h:nm∉l.map Prod.fst):l.map (puF nm x)=l/\qA2 l nm= []/\qFD l nm [x]=l++ [(nm,[x])]:=by
 induction l with
 |nil=>exact⟨O,O,O⟩
 |cons y r ih=>
  rw [jY,j5,not_or] at h
  have hy: ¬y.1=nm:=λe=>h.1 e.symm
  obtain ⟨i1,i2,i3⟩:=ih h.2
  refine⟨?_,?_,?_⟩
  . rw [jY,i1];unfold puF;rw [yW hy]
  . rw [qA2,yW hy,i2]
  . rw [qFD,yW hy,i3];rfl
theorem qZn{l:LE}{nm:xA}{x:En}(hu:qKO l)(h:nm∈l.map Prod.fst):l.map (puF nm x)=qFD l nm (qA2 l nm++ [x]):=by
  induction l with
  |nil=>cases h
  |cons y r ih=>
    obtain ⟨h1,h2⟩:=List.nodup_cons.1 (show(y.1::r.map Prod.fst).Nodup from hu)
    rw [jY,qFD,qA2]
    by_cases hy:y.1=nm
    . subst hy
      rw [yX rfl,yX rfl,(qUW h1).1]
      unfold puF;rw [yX rfl]
    . rw [yW hy,yW hy,ih h2 (by
        rw [jY,j5] at h
        exact h.resolve_left (λe=>hy e.symm))]
      unfold puF;rw [yW hy]
theorem qRy(a b:List MlD):mlE (a++b)=mlE a++mlE b:=by unfold mlE;rw [jN]
theorem qU4(a:List MlD){i:Nat}(h:i<a.length):(mlE a).take (i+1)=(mlE a).take i++ [((a.getD i qA4).nm,(a.getD i qA4).es)]:=by
 unfold mlE
 rw [List.take_add_one,jO,jD h,jB,jD h];rfl
theorem qN4(a:List MlD):(mlE a).map Prod.fst=a.map MlD.nm:=by unfold mlE;rw [ze];rfl
theorem qZ4{a:List MlD}{nm:xA}(h:nm∈(mlE a).map Prod.fst): ∃j,j<a.length/\(a.getD j qA4).nm=nm:=by
 rw [qN4] at h
 obtain ⟨x,hx,rfl⟩:=List.mem_map.1 h
 obtain ⟨j,hj,rfl⟩:=zp hx
 exact⟨j,hj,by rw [jB,jD hj];rfl⟩
theorem qYT{a:List MlD}{j:Nat}(h:j<a.length):(a.getD j qA4).nm∈(mlE a).map Prod.fst:=by
 rw [qN4]
 refine List.mem_map.2 ⟨a.getD j qA4,?_,O⟩
 rw [jB,jD h];exact jU h
structure P24R where
 A:yS
 c:Nat
 m:Hp
 l:List MlD
 N:Hp
theorem MlA.snoc{N m:Hp}{o:List MlD}(h:MlA N o)(hd:Dj N m){y:MlD}(hy:Sl m 5 y.esA y.es.length y.esc (qD1 y.es)):MlA (U [N,m]) (o++ [y]):=λz hz=>by
 rcases List.mem_append.1 hz with hz|hz
 . exact(h z hz).mono (qEC hd)
 . rw [List.mem_singleton.1 hz];exact hy.mono (qIE hd)
theorem qUV(F:Hp)(A:yS)(n c:Nat)(ls:List MlD)(hs:Sl F 2 A n c (qIO ls))(hn:n<=1000)(ha:MlA F ls)(hb: ∀y∈ls,y.es.length<=1000)(hun:qKO (mlE ls))(nm:xA)(v:Nat)(o r:xA)(h:Int)(p:xA):Ct prog 79 [.slice A n c,Str nm,.agg #[N64 (v),Str (o),Str (r),I (h),Str (p)]] [F] (λx:P24R=> .slice x.A x.l.length x.c) (λx=>Row x.m 268 2 x.A x.l.length x.c (qIO x.l)/\MlA x.N x.l/\mlE x.l=qFD (mlE ls) nm (qA2 (mlE ls) nm++ [(⟨v,o,r,h,p⟩:En)])) (λx=> [F,x.m,x.N]):=by
 have hln:ls.length=n:=by have:=hs.1;simpa [qIO] using this
 refine y7 func79 O ntmps79 O (λw0 hw0=>?_)
 refine yl λ_ C1=>yp (qAi O O O) O λg5 _=>yh O<|yi C1<|yl λ_ C2=>yh O<|yi C2<|yl λ_ C3=>yh O<|yi C3<|ym λ_ C4=>yl λ_ C5=>yh O<|yi C5<|yz<|vN (X:=Nat×List MlD×yS×Nat×Hp×Bool×Hp) (λζ=> [(0,.slice A n c),(1,Str (nm)),(5,Ptr g5),(7,.slice ζ.2.2.1 ζ.1 ζ.2.2.2.1),(8,.bool (ζ.2.2.2.2.2.1)),(9,I (ζ.1:Nat))]) (λζ=> [ζ.2.2.2.2.1,ζ.2.2.2.2.2.2,F,blk g5 [N64 (v),Str (o),Str (r),I (h),Str (p)] 168]) (λζ=>ζ.1<=n/\Row ζ.2.2.2.2.1 268 2 ζ.2.2.1 ζ.1 ζ.2.2.2.1 (qIO ζ.2.1)/\ζ.2.1.length=ζ.1/\MlA ζ.2.2.2.2.2.2 ζ.2.1/\mlE ζ.2.1=((mlE ls).take ζ.1).map (puF nm (⟨v,o,r,h,p⟩:En))/\(ζ.2.2.2.2.2.1=true↔ ∃j,j<ζ.1/\(ls.getD j qA4).nm=nm)) (λζ=>n-ζ.1) (0,[],none,0,(λ_=>none),false,(λ_=>none)) (⟨jH _,qBf.nil,O,(λx h=>by cases h),O,⟨λh=>(by cases h),λ⟨j,h,_⟩=>absurd h (jz j)⟩⟩) (Sub.of O) (λ_ h=>h.empty.empty.pick [2,3,0,1] xC) ?_
 rintro⟨i,out,Ao,co,mo,dn,N⟩ ⟨hi,hro,hol,hoa,hoe,hdn⟩ I0 hI0
 dsimp only at hi hro hol hoa hoe hdn⊢
 refine ym λ_ C6=>yl λ_ C7=>yn 2 O<|yj (qAN qMI O O) O<|yj (qAP O O O) O<|yi C7<|y1 O (λh14=>?_) (λh14=>?_)
 .
  refine yy C6<|ym λ_ C8=>yz<|vl (X:=Nat×yS×Nat×Hp) (λζ=> [(0,.slice A n c),(1,Str (nm)),(5,Ptr g5),(7,.slice Ao i co),(8,.bool (dn)),(9,I (i:Nat)),(10,Ptr ζ.1)]) (λζ=> [mo,N,F,blk g5 [N64 (v),Str (o),Str (r),I (h),Str (p)] 168,ζ.2.2.2,blk ζ.1 [Str ((ls.getD i qA4).nm),.slice ζ.2.1 ((ls.getD i qA4).es.length) ζ.2.2.1] 268]) (λζ=>Row ζ.2.2.2 168 5 ζ.2.1 (ls.getD i qA4).es.length ζ.2.2.1 (qD1 (ls.getD i qA4).es)) (λ_ C9=>?_) ?_
  .
   have hai:=ha.get (i:=i) xB
   have hbi:(ls.getD i qA4).es.length<=1000:=hb _ (by rw [jB,jD (show i<ls.length by omega)];exact jU _)
   refine vQ [F] [14] (.y 0 (.y 1 (.y 2 (.y 3 (.y 4 (.y 6 (.y 7 (.y 8 (.y 9 (.y 10 (.br (.e 5 (.br (.e 11 (.y 12 (.e 13 (.e 14 .nil)))) (.e 13 (.e 11 (.y 12 (.e 14 .nil)))))) (.e 13 (.e 5 (.e 11 (.y 12 (.e 14 .nil)))))))))))))))) ye xF xD ?_
   refine yx ?_
   refine yx ?_
   refine yo O (qAC O O O qMI qIG hs xB) O O<|yo O (qBM O O qFn O z9_ hs xB O) O O<|yo O (qAH O O b9_ (m:=F) xD (hs.part (qEk xB) 0 1)) O O<|yx ?_
   refine yx ?_
   refine yo O (qAC O O O qMI qIG hs xB) O O<|yo O (qBM O O qFn O sizeOf165 hs xB O) O O<|yo O (qAH O O isAgg165 (m:=F) xD (hs.part (qEk xB) 1 1)) O O<|vx ?_ ?_
   .
    refine vD O (qBN O qCX el168) O xD λg22 _=>vx ?_ ?_
    .
     refine vD O (qAV (i:=4) (m2:=F) O O O qCX qCX el168 O (qAj (q:=True) (xs:=qD1 ([])) O (by intro x hx;first|exact absurd hx (jr)|(rw [List.mem_singleton.1 hx];rfl))) xD (hai) (qJx _) xB xB) O xD ?_
     rintro⟨A28,c28,m28⟩ h28
     try dsimp only at h28
     rw [jl] at h28⊢
     exact yo O (qAK (places:= [(0,1),(1,1)]) (r:= [Str ((ls.getD i qA4).nm),.slice A28 ((ls.getD i qA4).es.length) c28]) O O O qFn qMv (λ_=>xH) O) O O<|vD O (qAO O qMv O) O xD λg10 _=>vZ O (qAF (i:=5) (l:= [Str [],.slice none 0 0]) (vs:= [Str ((ls.getD i qA4).nm),.slice A28 ((ls.getD i qA4).es.length) c28]) O O O O O qIG O O) O O O λ_ _=>vM<|yq<|vY (g10,A28,c28,m28) C9 (h28) (Sub.of O) (λ_ h=>h)
    refine vD O (qAO O qMv O) O xD λg10 _=>vD O (qAV (i:=4) (m2:=F) O O O qCX qCX el168 O (qAj (q:=True) (xs:=qD1 ([])) O (by intro x hx;first|exact absurd hx (jr)|(rw [List.mem_singleton.1 hx];rfl))) xD (hai) (qJx _) xB xB) O xD ?_
    rintro⟨A28,c28,m28⟩ h28
    try dsimp only at h28
    rw [jl] at h28⊢
    exact yo O (qAK (places:= [(0,1),(1,1)]) (r:= [Str ((ls.getD i qA4).nm),.slice A28 ((ls.getD i qA4).es.length) c28]) O O O qFn qMv (λ_=>xH) O) O O<|vZ O (qAF (i:=5) (l:= [Str [],.slice none 0 0]) (vs:= [Str ((ls.getD i qA4).nm),.slice A28 ((ls.getD i qA4).es.length) c28]) O O O O O qIG O O) O O O λ_ _=>vM<|yq<|vY (g10,A28,c28,m28) C9 (h28) (Sub.of O) (λ_ h=>h)
   refine vD O (qAO O qMv O) O xD λg10 _=>vD O (qBN O qCX el168) O xD λg22 _=>vD O (qAV (i:=5) (m2:=F) O O O qCX qCX el168 O (qAj (q:=True) (xs:=qD1 ([])) O (by intro x hx;first|exact absurd hx (jr)|(rw [List.mem_singleton.1 hx];rfl))) xD (hai) (qJx _) xB xB) O xD ?_
   rintro⟨A28,c28,m28⟩ h28
   try dsimp only at h28
   rw [jl] at h28⊢
   exact yo O (qAK (places:= [(0,1),(1,1)]) (r:= [Str ((ls.getD i qA4).nm),.slice A28 ((ls.getD i qA4).es.length) c28]) O O O qFn qMv (λ_=>xH) O) O O<|vZ O (qAF (i:=4) (l:= [Str [],.slice none 0 0]) (vs:= [Str ((ls.getD i qA4).nm),.slice A28 ((ls.getD i qA4).es.length) c28]) O O O O O qIG O O) O O O λ_ _=>vM<|yq<|vY (g10,A28,c28,m28) C9 (h28) (Sub.of O) (λ_ h=>h.pick [0,1,2,3,5,4] xC)
  rintro⟨g10,A28,c28,m28⟩ h28
  dsimp only at h28⊢
  refine vl (X:=yS×Nat×Hp×List En×Bool) (λζ=> [(0,.slice A n c),(1,Str (nm)),(5,Ptr g5),(7,.slice Ao i co),(8,.bool (ζ.2.2.2.2)),(9,I (i:Nat)),(10,Ptr g10)]) (λζ=> [mo,N,F,blk g5 [N64 (v),Str (o),Str (r),I (h),Str (p)] 168,blk g10 [Str ((ls.getD i qA4).nm),.slice ζ.1 (ζ.2.2.2.1.length) ζ.2.1] 268,ζ.2.2.1]) (λζ=>Row ζ.2.2.1 168 5 ζ.1 ζ.2.2.2.1.length ζ.2.1 (qD1 ζ.2.2.2.1)/\ζ.2.2.2.1=(if(ls.getD i qA4).nm=nm then(ls.getD i qA4).es++ [(⟨v,o,r,h,p⟩:En)] else(ls.getD i qA4).es)/\(ζ.2.2.2.2=true↔ ∃j,j<i+1/\(ls.getD j qA4).nm=nm)) (λ_ C10=>?_) ?_
  .
   refine ym λ_ C11=>?_
   have hai:=ha.get (i:=i) xB
   have hbi:(ls.getD i qA4).es.length<=1000:=hb _ (by rw [jB,jD (show i<ls.length by omega)];exact jU _)
   refine yt<|vA 0 qFn z9_ O O O O O<|vF 5 b9_ O O O O O<|yh O<|yj (qBP O O O) O<|yi C11<|y1 O (λh33=>?_) (λh33=>?_)
   .
    refine yl λ_ C12=>vA 1 qFn sizeOf165 O O O O O<|vF 5 isAgg165 O O O O O<|vT 3 qGc qED O O O O O<|yp (qAE (l:= [.tmp 36]) (xs:= [[N64 (v),Str (o),Str (r),I (h),Str (p)]]) O O O O qCX el168 O xC xC xD) O λg37 _=>yp (qAV (i:=4) (m2:=blk g37 [N64 (v),Str (o),Str (r),I (h),Str (p)] 168) O O O qCX qCX el168 O h28 xD ((qAj (q:=True) (xs:=qD1 [(⟨v,o,r,h,p⟩:En)]) O (by intro x hx;rw [List.mem_singleton.1 hx];rfl)).sl) O xB xB) O ?_
    rintro⟨A38,c38,m38⟩ h38
    try dsimp only at h38
    rw [show(ls.getD i qA4).es.length+1=((ls.getD i qA4).es++ [(⟨v,o,r,h,p⟩:En)]).length from by rw [jA];rfl] at h38⊢
    exact vA 1 qFn sizeOf165 O O O O O<|vG (qAU (i:=5) O O O O O sizeOf165 O xD) O O λ_ _=>yi C12<|yt<|yh O<|y8<|yq<|vY (A38,c38,m38,((ls.getD i qA4).es++ [(⟨v,o,r,h,p⟩:En)]),true) C10 (⟨by dsimp only;rw [qHy];exact h38,by rw [yX h33],⟨λ_=>⟨i,Nat.lt_succ_self i,h33⟩,λ_=>rfl⟩⟩) (Sub.of O) (λ_ h=>h.pick [0,1,2,3,5,4] xC)
   exact vP<|yq<|vY (A28,c28,m28,(ls.getD i qA4).es,dn) C10 (⟨h28,by rw [yW h33],⟨λh=>by obtain ⟨j,h1,h2⟩:=hdn.1 h;exact⟨j,xB,h2⟩,λ⟨j,h1,h2⟩=>hdn.2 ⟨j,by rcases Nat.lt_succ_iff_lt_or_eq.1 h1 with q|rfl;exact q;exact absurd h2 h33,h2⟩⟩⟩) (Sub.of O) (λ_ h=>h.pick [0,1,2,3,5,4] xC)
  rintro⟨Ae,ce,me,es2,dn2⟩ ⟨hre,he2,hdn2⟩
  dsimp only at hre he2 hdn2⊢
  refine yt<|yh O<|vT 4 isAgg268 qIG O O O O O<|yp (qAE (l:= [.tmp 41]) (xs:= [[Str ((ls.getD i qA4).nm),.slice Ae (es2.length) ce]]) O O O O qMI el268 O xC xC xD) O λg42 _=>yp (qAV (i:=0) (m2:=blk g42 [Str ((ls.getD i qA4).nm),.slice Ae (es2.length) ce] 268) O O O qMI qMI el268 O hro xD ((qAj (q:=True) (xs:=qIO [(⟨(ls.getD i qA4).nm,Ae,ce,es2⟩:MlD)]) O (by intro x hx;rw [List.mem_singleton.1 hx];rfl)).sl) O xB xB) O ?_
  rintro⟨A43,c43,m43⟩ h43
  try dsimp only at h43
  replace h43:Row m43 268 2 A43 (i+1) c43 (qIO (out++([(⟨(ls.getD i qA4).nm,Ae,ce,es2⟩:MlD)]))):=by rw [qLK];exact h43
  refine yh O<|vW [1,5,0,2,3] [N,me,m43,F,blk g5 [N64 (v),Str (o),Str (r),I (h),Str (p)] 168] O xC<|vk (λhj=>?_)
  refine y8<|vB<|yq (yu C8 ?_)
  exact yt<|yh O<|yj ((qAM O O O xB).nat (i+1) xB) O<|yh O<|y8<|yq<|vE (i+1,(out++ [(⟨(ls.getD i qA4).nm,Ae,ce,es2⟩:MlD)]),A43,c43,m43,dn2,U [N,me]) hI0 ⟨by dsimp only;omega,h43,by rw [jA,hol];rfl,hoa.snoc hj hre.sl,by dsimp only;rw [qRy,hoe,qU4 ls xB,jN,he2];show _=_++ [puF nm _ _];unfold puF;split<;>rfl,hdn2⟩ (Sub.of O) (λ_ h=>h.pick [1,0,2,3] xC)
 refine vK<|y6<|y6<|vL ?_
 refine yq (yu C4 ?_)
 refine ym λ_ C13=>ym λ_ C14=>?_
 obtain rfl:i=n:=by omega
 have hti:(mlE ls).take i=mlE ls:=by rw [jV];unfold mlE;rw [jJ];omega
 refine yt<|yh O<|yj (qA5 O O) O<|yi C14<|vf O (λh45=>?_) (λh45=>?_)
 .
  refine yt<|yn 2 O<|vT 3 qGc qED O O O O O<|yp (qAE (l:= [.tmp 48]) (xs:= [[N64 (v),Str (o),Str (r),I (h),Str (p)]]) O O O O qCX el168 O xC xC xD) O λg49 _=>yj (qAK (places:= [(0,1),(1,1)]) (r:= [Str (nm),.slice (some ⟨g49,0,none⟩) 1 1]) O O O qFn qMv (λ_=>xH) O) O<|yp (qAE (l:= [.tmp 50]) (xs:= [[Str (nm),.slice (some ⟨g49,0,none⟩) 1 1]]) O O O O qMI el268 O xC xC xD) O λg51 _=>yp (qAV (i:=0) (m2:=blk g51 [Str (nm),.slice (some ⟨g49,0,none⟩) 1 1] 268) O O O qMI qMI el268 O hro xD ((qAj (q:=True) (xs:=qIO [(⟨nm,(some ⟨g49,0,none⟩),1,([(⟨v,o,r,h,p⟩:En)])⟩:MlD)]) O (by intro x hx;rw [List.mem_singleton.1 hx];rfl)).sl) O xB xB) O ?_
  rintro⟨A52,c52,m52⟩ h52
  try dsimp only at h52
  replace h52:Row m52 268 2 A52 (i+1) c52 (qIO (out++([(⟨nm,(some ⟨g49,0,none⟩),1,([(⟨v,o,r,h,p⟩:En)])⟩:MlD)]))):=by rw [qLK];exact h52
  refine yh O<|vW [1,4,0,2] [N,blk g49 [N64 (v),Str (o),Str (r),I (h),Str (p)] 168,m52,F] O xC<|vk (λhj9=>?_)
  refine yi C13<|yl λ_ C15=>yn 2 O<|yi C15<|yr ?_
  have hq:nm∉(mlE ls).map Prod.fst:=λh=>by
   obtain ⟨j,h1,h2⟩:=qZ4 h
   rw [hdn.2 ⟨j,xB,h2⟩] at h45
   cases h45
  exact yw hw0 O (⟨A52,c52,m52,out++ [(⟨nm,some ⟨g49,0,none⟩,1,[(⟨v,o,r,h,p⟩:En)]⟩:MlD)],U [N,blk g49 [N64 (v),Str (o),Str (r),I (h),Str (p)] 168]⟩:P24R) (by dsimp only;rw [jA,hol];rfl) ⟨(by rw [jA,hol];exact h52),hoa.snoc hj9 (qAj (q:=True) (xs:=qD1 [(⟨v,o,r,h,p⟩:En)]) O (λx hx=>by rw [List.mem_singleton.1 hx];rfl):Row _ 168 5 _ 1 1 _).sl,(by dsimp only;rw [qRy,hoe,hti,(qUW (x:=(⟨v,o,r,h,p⟩:En)) hq).1,(qUW (x:=(⟨v,o,r,h,p⟩:En)) hq).2.1];exact(qUW hq).2.2.symm)⟩ [2,1,0] O xC
 exact yy C13<|yl λ_ C16=>yn 2 O<|yi C16<|yr<|yw hw0 O (⟨Ao,co,mo,out,N⟩:P24R) (by rw [hol]) ⟨(by rw [hol];exact hro),hoa,(by dsimp only;rw [hoe,hti];exact qZn hun (by obtain ⟨j,h1,h2⟩:=hdn.1 (by simpa using h45);rw [<-h2];exact qYT xB))⟩ [2,0,1] O xC
def en2(r:Nat):xA:=if r<128 then [UInt8.ofNat r] else [UInt8.ofNat (192+r/64),UInt8.ofNat (128+r%64)]
def qIP:yT->xA
 | []=> []
 |r::l=>en2 r++qIP l
theorem qSh{r:Nat}(hr:r<2048)(t:xA):r<128/\((en2 r++t).getD 0 0).toNat=r/\(en2 r).length=1/\(en2 r++t).length=1+t.length\/128<=r/\((en2 r++t).getD 0 0).toNat=192+r/64/\((en2 r++t).getD 1 0).toNat=128+r%64/\(en2 r).length=2/\(en2 r++t).length=2+t.length:=by
  unfold en2
  by_cases h:r<128
  . rw [yX h]
    exact .inl ⟨h,(by show(UInt8.ofNat r).toNat=r;rw [jm];omega),O,yO _ _⟩
  . rw [yW h]
    refine .inr ⟨xB,?_,?_,O,by rw [jA];rfl⟩
    . show(UInt8.ofNat (192+r/64)).toNat=_;rw [jm];omega
    . show(UInt8.ofNat (128+r%64)).toNat=_;rw [jm];omega
theorem qVc{l:yT}(h:0<(qIP l).length):qIP l=en2 (l.headD 0)++qIP l.tail/\l=l.headD 0::l.tail:=by
 cases l with
 |nil=>cases h
 |cons r t=>exact⟨O,O⟩
theorem qVd{l:yT}(hl: ∀r∈l,r<2048)(h: ¬0<(qIP l).length):l= []:=by
 cases l with
 |nil=>rfl
 |cons r t=>
  refine absurd ?_ h
  show 0<(en2 r++qIP t).length
  rcases qSh (hl r (.head _)) (qIP t) with ⟨_,_,_,e⟩|⟨_,_,_,_,e⟩<;>omega
structure LtN (c:Nat) (l:yT):Prop where
 al:c=1\/c=2\/c=4
 n:0<l.length/\l.length<=64
 r: ∀r∈l,r<2048/\qEB r=c/\r≠46/\r≠45/\r≠95/\r≠64
 e:(qIP l).length<=1000
theorem LtN.at{c:Nat}{l:yT}(h:LtN c l){i:Nat}(hi:i<l.length):l.getD i 0<2048/\qEB (l.getD i 0)=c/\l.getD i 0≠46/\l.getD i 0≠45/\l.getD i 0≠95/\l.getD i 0≠64:=by
 refine h.r _ ?_
 rw [jB,jD hi];exact jU hi
def smN(l:yT):Nat:=if l.all (λr=>decide (small r=r))=true then 0 else 4
theorem qZg{l:yT}{k:Nat}(hk:k<l.length)(hn:small (l.getD k 0)≠l.getD k 0):smN l=4:=by
 unfold smN
 rw [yW]
 intro h
 have:=List.all_eq_true.1 h (l.getD k 0) (by rw [jB,jD hk];exact jU hk)
 exact hn (yc this)
theorem qXY{l:yT}(hn: ∀j<l.length,small (l.getD j 0)=l.getD j 0):smN l=0:=by
 unfold smN
 rw [yX]
 refine List.all_eq_true.2 λr hr=>?_
 obtain ⟨j,hj,rfl⟩:=zp hr
 have:=hn j hj
 rw [jB,jD hj] at this
 exact ya this
theorem qU1(F:Hp)(r:Nat)(hr:r<2048)(t:xA)(ht:t.length<=1000000):Cz prog 270 [Str (en2 r++t)] F (.tuple #[I (r:Nat),I ((en2 r).length:Nat)]):=by
 have hd:=qSh hr t
 refine y7 func270 O ntmps270 O (λw0 hw0=>?_)
 change J _ [(0,_)] _ _ _
 refine yl λ_ C1=>yn 2 O<|yi C1<|ym λ_ C2=>yl λ_ C3=>yh O<|yj (qAn u9_ O O) O<|yj ((qAR O O O).no xB) O<|yi C3<|vC ?_
 refine yy C2<|yl λ_ C4=>yh O<|yj (qA9 (c:=(en2 r++t).getD 0 0) u9_ O O O (qAc 0 xE)) O<|yj (qBG O O u5_ u3_) O<|yh O<|yi C4<|ym λ_ C5=>yl λ_ C6=>yh O<|yj (qAP O O O) O<|yi C6<|y1 O (λh16=>?_) (λh16=>?_)
 .
  exact yl λ_ C7=>yn 3 O<|yi C7<|yr<|y5<|vH hw0 (λ_ _ h=>h) (qB5 O O O) (qAf () (by rw [show((en2 r++t).getD 0 0).toNat=r by omega,show(en2 r).length=1 by omega]<;>rfl) yd [0] O xC)
 refine yy C5<|yl λ_ C8=>yn 2 O<|yi C8<|ym λ_ C9=>yl λ_ C10=>yh O<|yj ((qA1 O O O).yes xB) O<|yn 2 O<|yv ((qAP O O O).yes xB) O<|yh O<|yi C10<|vV ?_
 refine yt<|yh O<|yj (((qAm O O O xB).nat (r/64) xB)) O<|yn 2 O<|yi C9<|ym λ_ C11=>yl λ_ C12=>yh O<|yj ((qAR O O O).no xC) O<|yn 2 O<|yv (qAn u9_ O O) O<|yh O<|yv ((qAP O O O).no xB) O<|yh O<|yi C12<|vC ?_
 refine yy C11<|ym λ_ C13=>yl λ_ C14=>yh O<|yi C14<|yz<|vN (X:=Nat×Nat) (λζ=> [(0,Str (en2 r++t)),(5,I (2:Nat)),(6,I (ζ.2:Nat)),(7,I (ζ.1:Nat))]) (λζ=> [F]) (λζ=>ζ.1=1/\ζ.2=r/64\/ζ.1=2/\ζ.2=r) (λζ=>2-ζ.1) (1,r/64) (.inl ⟨O,O⟩) (Sub.of O) (λ_ h=>h) ?_
 rintro⟨i,q⟩ hi I0 hI0
 dsimp only at hi⊢
 refine ym λ_ C15=>yl λ_ C16=>yn 2 O<|yj (qAP O O O) O<|yi C16<|y1 O (λh52=>?_) (λh52=>?_)
 .
  refine yy C15<|ym λ_ C17=>yz<|ym λ_ C18=>?_
  have hi1:i=1:=xB
  have hbi:((en2 r++t).getD i 0).toNat=128+r%64:=by rw [hi1];omega
  refine yt<|yn 2 O<|yj (qA9 (c:=(en2 r++t).getD i 0) u9_ O O O (qAc 0 xE)) O<|yj (qBG O O u5_ u3_) O<|yh O<|yi C18<|ym λ_ C19=>yl λ_ C20=>yh O<|yj ((qAP O O O).no xB) O<|yn 2 O<|yv ((qA1 O O O).no xB) O<|yh O<|yi C20<|vC ?_
  refine yy C19<|yt<|yh O<|yj ((qCA O O O xE).nat (64*q) xB) O<|yh O<|yj ((qAM O O O xE).as (v':=I (64*q+(((en2 r++t).getD i 0).toNat):Nat)) (yY I xB)) O<|yj ((qAm O O O xB).as (v':=I (64*q+((en2 r++t).getD i 0).toNat-128:Nat)) (yY I xB)) O<|yh O<|y8<|vB<|yq (yu C17 ?_)
  exact yt<|yh O<|yj ((qAM O O O xE).nat (i+1) xB) O<|yh O<|y8<|yq<|vE (i+1,64*q+((en2 r++t).getD i 0).toNat-128) hI0 (by dsimp only;omega) (Sub.of O) (λ_ h=>h)
 refine vK<|y6<|y6<|vL ?_
 refine yq (yu C13 ?_)
 refine ym λ_ C21=>yl λ_ C22=>yh O<|yj ((qAR O O O).yes xC) O<|yn 2 O<|yv ((qAP O O O).no xB) O<|yn 3 O<|yv ((qAR O O O).no xC) O<|yn 4 O<|vX (Wan.un O O O O) O O ?_
 refine vX (Wan.un O O O O) O O ?_
 refine vX (Wan.un O O O O) O O ?_
 refine vX (Wan.un O O O O) O O ?_
 refine vX (Wan.un O O O O) O O ?_
 refine vX (Wan.un O O O O) O O ?_
 refine yn 5 O<|yv ((qAR O O O).no xC) O<|yn 4 O<|vX (Wan.un O O O O) O O ?_
 refine vX (Wan.un O O O O) O O ?_
 refine yn 3 O<|yi C22<|vC ?_
 exact yy C21<|yl λ_ C23=>yn 4 O<|yi C23<|yr<|vH hw0 (λ_ _ h=>h) (qB5 O O O) (qAf () (by rw [show q=r by omega,show(en2 r).length=2 by omega]<;>rfl) yd [0] O xC)
theorem qKs(F:Hp)(l:yT)(hl: ∀r∈l,r<2048)(hn:(qIP l).length<=1000):Ct prog 220 [Str (qIP l)] [F] (λx:yS×Nat×Hp=> .tuple #[.slice x.1 (l).length x.2.1,.bool true]) (λx=>Row x.2.2 3 1 x.1 (l).length x.2.1 (qCj l)) (λx=> [F,x.2.2]):=by
 refine y7 func220 O ntmps220 O (λw0 hw0=>?_)
 refine yl λ_ C1=>yn 2 O<|yi C1<|yl λ_ C2=>yh O<|yi C2<|ym λ_ C3=>yz<|vN (X:=yT×yT×yS×Nat×Hp) (λζ=> [(0,Str (qIP ζ.2.1)),(4,.slice ζ.2.2.1 ζ.1.length ζ.2.2.2.1)]) (λζ=> [F,ζ.2.2.2.2]) (λζ=>Row ζ.2.2.2.2 3 1 ζ.2.2.1 ζ.1.length ζ.2.2.2.1 (qCj ζ.1)/\ζ.1++ζ.2.1=l/\ζ.1.length+(qIP ζ.2.1).length<=1000) (λζ=>ζ.2.1.length) ([],l,none,0,(λ_=>none)) (⟨qBf.nil,O,by show([]:yT).length+(qIP l).length<=1000;rw [jG];omega⟩) (Sub.of O) (λ_ h=>h.empty.pick [0,1] xC) ?_
 rintro⟨l1,l2,A,c,m⟩ ⟨hr,hll,hb⟩ I0 hI0
 dsimp only at hr hll hb⊢
 refine ym λ_ C4=>yl λ_ C5=>yh O<|yj (qAn u9_ O O) O<|yj (qAs O O O) O<|yi C5<|y1 O (λh9=>?_) (λh9=>?_)
 .
  obtain ⟨he,he2⟩:=qVc (l:=l2) xB
  have hh:(l2.headD 0)<2048:=hl _ (by rw [<-hll,he2];exact jb _ (.head _))
  have hd:=qSh hh (qIP l2.tail)
  rw [<-he] at hd
  have hl2:l2.length=l2.tail.length+1:=yY List.length he2
  refine yy C4<|yz<|yl λ_ C6=>yh O<|yp (qAZ O O (λF' hF=>(by have:=qU1 F' (l2.headD 0) hh (qIP l2.tail) xB;rw [<-he] at this;exact this))) O λg12 _=>yn 5 O<|yi C6<|ym λ_ C7=>yl λ_ C8=>yh O<|yj ((qAR O O O).no xB) O<|yi C8<|vC ?_
  refine yy C7<|yl λ_ C9=>yn 2 O<|yp (qAE (l:= [.tmp 18]) (xs:= [[I ((l2.headD 0):Nat)]]) O O O O qGL el3 O xC xC xD) O λg19 _=>yp (qAV (i:=1) (m2:=blk g19 [I ((l2.headD 0):Nat)] 3) O O O qGL qGL el3 O hr xD ((qAz (q:=True) (qCj [(l2.headD 0)]) O (by simp [qCj]) O).sl) O xB xB) O ?_
  rintro⟨A20,c20,m20⟩ h20
  try dsimp only at h20
  rw [show l1.length+1=(l1++ [(l2.headD 0)]).length by rw [jA];rfl] at h20⊢
  refine yh O<|yi C9<|yt<|yn 2 O<|yj ((qA0 u9_ O O O O ⟨by first|omega|(simp only [jA,jC,jG,jF,jE] at*;omega),by first|omega|(simp only [jA,jC,jG,jF,jE] at*;omega)⟩).as (v':=Str ((qIP l2).drop ((en2 (l2.headD 0)).length))) (by rw [jn])) O ?_
  rw [show(qIP l2).drop (en2 (l2.headD 0)).length=qIP l2.tail by rw [he,List.drop_left]]
  exact yh O<|y8<|vB<|yq<|vE (l1++ [(l2.headD 0)],l2.tail,A20,c20,m20) hI0 ⟨by dsimp only;rw [qPP];exact h20,by dsimp only;rw [jM,<-hll];exact yY (l1++ ·) he2.symm,by dsimp only;rw [jA,jI];omega⟩ (Sub.of O) (λ_ h=>h.pick [0,1] xC)
 refine vK<|y6<|y6<|vL ?_
 refine yq (yu C3 ?_)
 refine yl λ_ C10=>yn 3 O<|yi C10<|yr ?_
 have h0:=qVd (l:=l2) (λr hr=>hl r (by rw [<-hll];exact jb _ hr)) xB
 subst h0
 rw [jS] at hll
 subst hll
 exact vH hw0 (λ_ _ h=>h) (qB5 O O O) (qAf (A,c,m) O hr [0,1] O xC)
theorem qXC(F:Hp)(c:Nat)(l:yT)(h:LtN c l):Cz prog 219 [Str (qIP l)] F (I (0:Nat)):=by
 have hc:=h.al
 have hn:=h.n
 have he:=h.e
 refine y7 func219 O ntmps219 O (λw0 hw0=>?_)
 refine yl λ_ C1=>yh O<|yi C1<|yl λ_ C2=>yh O<|yp (qBx O O (λF' hF=>qKs F' l (λr hr=>(h.r r hr).1) he)) O ?_
 rintro⟨A12,c12,m12⟩ h12
 try dsimp only at h12
 refine yn 5 O<|yi C2<|ym λ_ C3=>yl λ_ C4=>yh O<|yj (qA5 O O) O<|yi C4<|vC ?_
 refine yy C3<|ym λ_ C5=>yl λ_ C6=>yh O<|yj (qAN qGL O O) O<|yj ((qAs O O O).no xB) O<|yi C6<|vC ?_
 refine yy C5<|yl λ_ C7=>yn 3 O<|yi C7<|ym λ_ C8=>yl λ_ C9=>yh O<|yi C9<|yz<|vN (X:=Nat×Nat×Bool) (λζ=> [(3,.slice A12 l.length c12),(5,I (0:Nat)),(6,I (ζ.2.1:Nat)),(7,.bool (ζ.2.2)),(8,I (ζ.1:Nat))]) (λζ=> [F,m12]) (λζ=>ζ.1<=l.length+1/\(ζ.1=0/\ζ.2.1=0/\ζ.2.2=false\/0<ζ.1/\ζ.1<=l.length/\ζ.2.1=c/\ζ.2.2=true\/ζ.1=l.length+1/\ζ.2.1=0/\ζ.2.2=false)) (λζ=>l.length+1-ζ.1) (0,0,false) (⟨jH _,.inl ⟨O,O,O⟩⟩) (Sub.of O) (λ_ h=>h) ?_
 rintro⟨i,b,q⟩ ⟨hi,hi2⟩ I0 hI0
 dsimp only at hi hi2⊢
 refine vl (X:=Unit) (λζ=> [(3,.slice A12 l.length c12),(5,I (0:Nat)),(6,I (b:Nat)),(7,.bool (q)),(8,I (i:Nat))]) (λζ=> [F,m12]) (λζ=>i<=l.length) (λ_ C10=>?_) ?_
 .
  refine yl λ_ C11=>yn 2 O<|yj (qAN qGL O O) O<|yj (qBQ O O O) O<|yi C11<|y1 O (λh23=>?_) (λh23=>?_)
  .
   exact vP<|yq<|vY () C10 (xB) (Sub.of O) (λ_ h=>h)
  refine vK<|y6<|y6<|vL ?_
  refine yq (yu C8 ?_)
  refine ym λ_ C12=>yl λ_ C13=>yh O<|yj ((qAs O O O).no xC) O<|yi C13<|vC ?_
  exact yy C12<|yl λ_ C14=>yh O<|yi C14<|yr<|yw hw0 O () O yd [0] O xC
 rintro _ hil9
 rcases Nat.lt_or_eq_of_le hil9 with hil|hil
 .
  have hat:=h.at hil
  refine ym λ_ C15=>yz<|ym λ_ C16=>yl λ_ C17=>yn 2 O<|yj (qAN qGL O O) O<|yj ((qAR O O O).no xB) O<|yn 3 O<|yv (qAC O O O qGL z3_ h12.sl xB) O<|yv (qAH O O b3_ (m:=m12) xD (h12.sl.elem (qCH xB))) O<|yv ((qAR O O O).no xB) O<|yn 4 O<|yv (qAC O O O qGL z3_ h12.sl xB) O<|yv (qAH O O b3_ (m:=m12) xD (h12.sl.elem (qCH xB))) O<|yv ((qAR O O O).no xB) O<|yn 4 O<|yv (qAC O O O qGL z3_ h12.sl xB) O<|yv (qAH O O b3_ (m:=m12) xD (h12.sl.elem (qCH xB))) O<|yv ((qAR O O O).no xB) O<|yn 4 O<|yv (qAC O O O qGL z3_ h12.sl xB) O<|yv (qAH O O b3_ (m:=m12) xD (h12.sl.elem (qCH xB))) O<|yv ((qAR O O O).no xB) O<|yh O<|yi C17<|vC ?_
  refine yy C16<|yl λ_ C18=>yh O<|yi C18<|yl λ_ C19=>yn 2 O<|yj (qAC O O O qGL z3_ h12.sl xB) O<|yj (qAH O O b3_ (m:=m12) xD (h12.sl.elem (qCH xB))) O<|yp (qAZ O O (λF' hF=>(by have:=qPR F' (l.getD i 0) xB;rw [hat.2.1] at this;exact this))) O λg93 _=>yh O<|yi C19<|ym λ_ C20=>yl λ_ C21=>yh O<|yj ((qAR O O O).no xB) O<|yn 7 O<|vX (Wan.un O O O O) O O ?_
  refine vX (Wan.un O O O O) O O ?_
  refine vX (Wan.un O O O O) O O ?_
  refine vX (Wan.un O O O O) O O ?_
  refine vX (Wan.un O O O O) O O ?_
  refine yn 2 O<|yi C21<|vC ?_
  refine yy C20<|yt<|yn 2 O<|yj (((qRY O O O ⟨xB,xB⟩).as (v':=I (c:Nat)) (yY (λz:Nat=>I (z:Nat)) (by rcases hi2 with ⟨_,h2,_⟩|⟨_,_,h2,_⟩|⟨h2,_⟩;rw [h2];exact Nat.zero_or c;rw [h2];exact Nat.or_self c;omega)))) O<|yh O<|y8<|vB<|yq (yu C15 ?_)
  exact yt<|yh O<|yj ((qAM O O O xB).nat (i+1) xB) O<|yh O<|y8<|yq<|vE (i+1,c,true) hI0 ⟨by dsimp only;omega,.inr (.inl ⟨zy _,by dsimp only;omega,O,O⟩)⟩ (Sub.of O) (λ_ h=>h)
 have hq:q=true/\b=c:=by rcases hi2 with ⟨h1,_⟩|⟨_,_,h1,h2⟩|⟨h1,_⟩;omega;exact⟨h2,h1⟩;omega
 refine ym λ_ C22=>yz<|ym λ_ C23=>yl λ_ C24=>yn 2 O<|yj (qAN qGL O O) O<|yj ((qAR O O O).yes xB) O<|yn 28 O<|yi C24<|vV ?_
 refine vl (X:=Unit) (λζ=> [(3,.slice A12 l.length c12),(5,I (0:Nat)),(8,I (i:Nat))]) (λζ=> [F,m12]) (λζ=>True) (λ_ C25=>?_) ?_
 .
  refine yl λ_ C26=>yh O<|yj ((qA5 O O).as (v':= .bool false) (by rw [hq.1];rfl)) O<|yn 2 O<|yv ((qAQ O O O).yes xB) O<|yn 2 O<|yv (qAQ O O O) O<|yn 2 O<|vO (d:=67) O (λh67=>?_) (λh67=>?_)
  .
   refine yh O<|yv (qAQ O O O) O<|yn 2 O<|vO (d:=71) O (λh71=>?_) (λh71=>?_)
   .
    refine yh O<|yv ((qAQ O O O).no xB) O<|yn 2 O<|yi C26<|vC ?_
    exact vP<|yq<|vY () C25 (yd) (Sub.of O) (λ_ h=>h)
   refine yn 4 O<|yi C26<|vC ?_
   exact vP<|yq<|vY () C25 (yd) (Sub.of O) (λ_ h=>h)
  refine yn 8 O<|yi C26<|vC ?_
  exact vP<|yq<|vY () C25 (yd) (Sub.of O) (λ_ h=>h)
 rintro _ _
 refine ym λ_ C27=>yl λ_ C28=>yn 2 O<|yj (qAN qGL O O) O<|yj ((qAP O O O).no xB) O<|yn 7 O<|yi C28<|vC ?_
 refine yy C27<|yl λ_ C29=>yn 2 O<|yi C29<|vK<|y6<|vL ?_
 refine yq (yu C22 ?_)
 exact yt<|yh O<|yj ((qAM O O O xB).nat (i+1) xB) O<|yh O<|y8<|yq<|vE (i+1,0,false) hI0 ⟨by dsimp only;omega,.inr (.inr ⟨by dsimp only;omega,O,O⟩)⟩ (Sub.of O) (λ_ h=>h)
theorem qGz(F:Hp)(c:Nat)(l:yT)(h:LtN c l):Cz prog 151 [Str (qIP l)] F (I (smN l:Nat)):=by
 have hn:=h.n
 refine y7 func151 O ntmps151 O (λw0 hw0=>?_)
 refine yl λ_ C1=>yh O<|yi C1<|ym λ_ C2=>yl λ_ C3=>yh O<|yp (qAZ O O (λF' hF=>qXC F' c l h)) O λg8 _=>yh O<|yi C3<|yl λ_ C4=>yh O<|yj ((qAQ O O O).no xC) O<|yi C4<|vC ?_
 refine yy C2<|yl λ_ C5=>yh O<|yp (qBx O O (λF' hF=>qKs F' l (λr hr=>(h.r r hr).1) h.e)) O ?_
 rintro⟨A14,c14,m14⟩ h14
 try dsimp only at h14
 refine yn 5 O<|yi C5<|ym λ_ C6=>yl λ_ C7=>yh O<|yi C7<|yz<|vN (X:=Nat) (λζ=> [(4,.slice A14 l.length c14),(6,I (ζ:Nat))]) (λζ=> [F,m14]) (λζ=>ζ<=l.length/\ ∀j<ζ,small (l.getD j 0)=l.getD j 0) (λζ=>l.length-ζ) 0 (⟨jH _,λj h=>absurd h (jz j)⟩) (Sub.of O) (λ_ h=>h) ?_
 rintro i ⟨hi,hs⟩ I0 hI0
 refine ym λ_ C8=>yl λ_ C9=>yn 2 O<|yj (qAN qGL O O) O<|yj (qAP O O O) O<|yi C9<|y1 O (λh20=>?_) (λh20=>?_)
 .
  refine yy C8<|ym λ_ C10=>yz<|ym λ_ C11=>?_
  have hat:=h.at (i:=i) xB
  refine vQ [F,m14] [] (.y 0 (.y 1 (.y 2 (.y 3 (.y 5 (.y 6 (.y 7 (.y 8 (.e 4 (.y 9 .nil)))))))))) ye xF xD ?_
  refine yx ?_
  refine yx ?_
  refine yo O (qAC O O O qGL z3_ h14.sl xB) O O<|yo O (qAH O O b3_ (m:=m14) xD (h14.sl.elem (qCH xB))) O O<|yx ?_
  refine yx ?_
  refine yo O (qAC O O O qGL z3_ h14.sl xB) O O<|yo O (qAH O O b3_ (m:=m14) xD (h14.sl.elem (qCH xB))) O O<|vD O (qAZ O O (λF' hF=>qKk F' (l.getD i 0) xB)) O xD λg27 _=>yo O (qAQ O O O) O O<|vM<|yq (yu C11 ?_)
  refine y1 O (λh32=>?_) (λh32=>?_)
  .
   exact yl λ_ C12=>yh O<|yi C12<|yr<|vI<|y5<|y5<|vI<|y5<|yw hw0 O () (by rw [qZg (k:=i) xB xB];rfl) yd [0] O xC
  refine vP<|vB<|yq (yu C10 ?_)
  exact yt<|yh O<|yj ((qAM O O O xB).nat (i+1) xB) O<|yh O<|y8<|yq<|vE (i+1) hI0 ⟨xB,λj hj=>by rcases Nat.lt_succ_iff_lt_or_eq.1 hj with h|rfl;exact hs j h;omega⟩ (Sub.of O) (λ_ h=>h)
 refine vK<|y6<|y6<|vL ?_
 refine yq (yu C6 ?_)
 exact yl λ_ C13=>yh O<|yi C13<|yr<|yw hw0 O () (by rw [qXY (λj hj=>hs j xB)];rfl) yd [0] O xC
def codK(k:Nat):Nat:=if k=3 then 4 else 0
theorem ltn{c:Nat}{l:yT}(h1:c=1\/c=2\/c=4)(h2:0<l.length/\l.length<=64)(h3:l.all (λr=>decide (r<2048/\qEB r=c/\r≠46/\r≠45/\r≠95/\r≠64))=true)(h4:(qIP l).length<=1000):LtN c l:=⟨h1,h2,λr hr=>yc (List.all_eq_true.1 h3 r hr),h4⟩
theorem qRn(F:Hp){k:Nat}(hk:k<4):Cz prog 151 [Str (nmK k)] F (I (codK k:Nat)):=by
 match k,hk with
 |0,_=>exact qGz F 1 [97,108,105,99,101] (ltn xC xC xC xC)
 |1,_=>exact qGz F 1 [98,111,98] (ltn xC xC xC xC)
 |2,_=>exact qGz F 4 [1078,1091,1082] (ltn xC xC xC xC)
 |3,_=>exact qGz F 1 [67,97,114,111,108] (ltn xC xC xC xC)
theorem qHz(F:Hp)(v:Nat)(o r:xA)(h:Int)(p:xA)(hv:v<18446744073709551616)(ho:o.length<=1048576)(hr:r.length<=1048576)(hp:p.length<=1048576):
    Cz prog 149 [.agg #[N64 v,Str o,Str r,I h,Str p]] F (enV v o r h p):=by
  refine y7 func149 O ntmps149 O (λw0 hw0=>?_)
  refine yl λ_ C1=>yp (qAi O O O) O λg1 _=>yn 2 O<|yi C1<|ym λ_ C2=>yl λ_ C3=>vA 0 qEr qBV O O O O O<|vF 1 qBe O O O O O<|yj (qAP O O O) O<|yh O<|vO (d:=7) O (λh7=>?_) (λh7=>?_)
  .
    refine yn 4 O<|yi C3<|vV ?_
    exact yl λ_ C4=>yn 2 O<|yi C4<|yr<|y5<|vH hw0 (λ_ _ h=>h) (qB5 O O O) (qAf () (qE0 (qVe xB) xC) yd [0] O xC)
  refine yv (qAA O O qEr O qBV O) O<|yv (qAD 1 O O O qBe O) O<|yv (qAs O O O) O<|yh O<|yi C3<|y1 O (λh11=>?_) (λh11=>?_)
  .
    exact yl λ_ C5=>yn 2 O<|yi C5<|yr<|y5<|vH hw0 (λ_ _ h=>h) (qB5 O O O) (qAf () (qE0 (qVe xB) xC) yd [0] O xC)
  refine yy C2<|ym λ_ C6=>yl λ_ C7=>vA 3 qEr z3_ O O O O O<|vF 1 b3_ O O O O O<|yj (qAP O O O) O<|yh O<|vO (d:=15) O (λh15=>?_) (λh15=>?_)
  .
    refine yn 22 O<|yi C7<|vV ?_
    exact yl λ_ C8=>yn 2 O<|yi C8<|yr<|y5<|vH hw0 (λ_ _ h=>h) (qB5 O O O) (qAf () (qE0 (qLd xB xB xB) xC) yd [0] O xC)
  refine yv (qAA O O qEr O z3_ O) O<|yv (qAD 1 O O O b3_ O) O<|yv (qAs O O O) O<|yn 2 O<|vO (d:=20) O (λh20=>?_) (λh20=>?_)
  .
    refine yn 17 O<|yi C7<|vV ?_
    exact yl λ_ C9=>yn 2 O<|yi C9<|yr<|y5<|vH hw0 (λ_ _ h=>h) (qB5 O O O) (qAf () (qE0 (qLd xB xB xB) xC) yd [0] O xC)
  refine yv (qAA O O qEr O z9_ O) O<|yv (qAD 1 O O O b9_ O) O<|yv (qAn u9_ O O) O<|yv (qAQ O O O) O<|yn 2 O<|vO (d:=26) O (λh26=>?_) (λh26=>?_)
  .
    refine yn 11 O<|yi C7<|vV ?_
    exact yl λ_ C10=>yn 2 O<|yi C10<|yr<|y5<|vH hw0 (λ_ _ h=>h) (qB5 O O O) (qAf () (qE0 (qLd xB xB xB) xC) yd [0] O xC)
  refine yv (qAA O O qEr O z9_ O) O<|yv (qAD 1 O O O b9_ O) O<|yv (qAn u9_ O O) O<|yv (qAQ O O O) O<|yn 2 O<|vO (d:=32) O (λh32=>?_) (λh32=>?_)
  .
    refine yn 5 O<|yi C7<|vV ?_
    exact yl λ_ C11=>yn 2 O<|yi C11<|yr<|y5<|vH hw0 (λ_ _ h=>h) (qB5 O O O) (qAf () (qE0 (qLd xB xB xB) xC) yd [0] O xC)
  refine yv (qAA O O qEr O z9_ O) O<|yv (qAD 1 O O O b9_ O) O<|yv (qAn u9_ O O) O<|yv (qAQ O O O) O<|yh O<|yi C7<|y1 O (λh37=>?_) (λh37=>?_)
  .
    exact yl λ_ C12=>yn 2 O<|yi C12<|yr<|y5<|vH hw0 (λ_ _ h=>h) (qB5 O O O) (qAf () (qE0 (qLd xB xB xB) xC) yd [0] O xC)
  refine yy C6<|ym λ_ C13=>?_
  obtain ⟨e0,e1⟩:=en_0 (v:=v) (o:=o) (r:=r) (h:=h) (p:=p) xB xB xB xB xB xB xB
  refine vQ [blk g1 [N64 v,Str o,Str r,I h,Str p] 168] [] (.y 0 (.y 1 (.y 3 (.y 4 (.y 6 (.y 7 (.y 9 (.y 10 (.y 11 (.y 15 (.y 16 (.br (.e 2 (.y 5 (.y 8 (.e 12 (.y 13 (.y 14 (.y 17 (.y 18 (.y 19 .nil))))))))) (.e 12 (.y 13 (.e 2 (.y 5 (.y 8 (.y 14 (.y 17 (.y 18 (.y 19 .nil))))))))))))))))))))) ye xF xD ?_
  refine yo O (qAA O O qEr O qBV O) O O<|yo O (qAD 0 O O O qBe O) O O<|yo O (qAA O O qEr O z9_ O) O O<|yo O (qAD 0 O O O b9_ O) O O<|yo O (qAA O O qEr O z9_ O) O O<|yo O (qAD 0 O O O b9_ O) O O<|yo O (qAA O O qEr O z3_ O) O O<|yo O (qAD 0 O O O b3_ O) O O<|yo O ((qJt O O u3_ u5_).as (v':=B8 (UInt8.ofNat h.toNat)) (by rw [show(h%256).toNat=h.toNat by omega])) O O<|yo O (qAA O O qEr O z9_ O) O O<|yo O (qAD 0 O O O b9_ O) O O<|vx ?_ ?_
  .
    refine vD O (qAZ O O (λF' hF=>qRl F' v 4 xB xB)) O xD λg40 _=>yo O ((qAq O O O (by simp only [jA,Sha.numB_length,jI];omega))) O O<|yo O ((qAq O O O (by simp only [jA,Sha.numB_length,jI];omega))) O O<|wE (λg=> [blk g1 [N64 v,Str o,Str r,I h,Str p] 168]++ [blk g [B8 (UInt8.ofNat h.toNat)] 5]) O (qAE (l:= [.tmp 49]) (xs:= [[B8 (UInt8.ofNat h.toNat)]]) O O O O qBo el5 O xC xC xD) O O O (λ_ _ h=>jj _ h) xD ?_
    intro g50 _
    refine yo O (qBO O O qBo u5_ u9_ (m:=blk g50 [B8 (UInt8.ofNat h.toNat)] 5) xD (slB [(UInt8.ofNat h.toNat)] O)) O O<|yo O ((qAq O O O (by simp only [jA,Sha.numB_length,jI];omega))) O O<|yo O ((qAq O O O (by simp only [jA,Sha.numB_length,jI];omega))) O O<|vU ?_
    refine vU ?_
    refine vM<|yq (yu C13 ?_)
    exact yr<|vH hw0 (λ_ _ h=>h) (qB5 O O O) (qAf () (by unfold enV;rw [e0,e1]) yd [0] O xC)
  refine wE (λg=> [blk g1 [N64 v,Str o,Str r,I h,Str p] 168]++ [blk g [B8 (UInt8.ofNat h.toNat)] 5]) O (qAE (l:= [.tmp 49]) (xs:= [[B8 (UInt8.ofNat h.toNat)]]) O O O O qBo el5 O xC xC xD) O O O (λ_ _ h=>jj _ h) xD ?_
  intro g50 _
  refine yo O (qBO O O qBo u5_ u9_ (m:=blk g50 [B8 (UInt8.ofNat h.toNat)] 5) xD (slB [(UInt8.ofNat h.toNat)] O)) O O<|vD O (qAZ O O (λF' hF=>qRl F' v 4 xB xB)) O xD λg40 _=>yo O ((qAq O O O (by simp only [jA,Sha.numB_length,jI];omega))) O O<|yo O ((qAq O O O (by simp only [jA,Sha.numB_length,jI];omega))) O O<|yo O ((qAq O O O (by simp only [jA,Sha.numB_length,jI];omega))) O O<|yo O ((qAq O O O (by simp only [jA,Sha.numB_length,jI];omega))) O O<|vU ?_
  refine vU ?_
  refine vM<|yq (yu C13 ?_)
  exact yr<|vH hw0 (λ_ _ h=>h) (qB5 O O O) (qAf () (by unfold enV;rw [e0,e1]) yd [0] O xC)
theorem qIa(F:Hp)(v:Nat)(o r:xA)(h:Int)(p:xA)(hv:v<18446744073709551616)(ho:o.length<=1048576)(hr:r.length<=1048576)(hp:p.length<=1048576):
    Cz prog 77 [.agg #[N64 v,Str o,Str r,I h,Str p]] F (Str (qCl v o r h p)):=by
  refine y7 func77 O ntmps77 O (λw0 hw0=>?_)
  refine yl λ_ C1=>yp (qAi O O O) O λg1 _=>yh O<|yi C1<|yl λ_ C2=>vT 1 qGc qED O O O O O ?_
  refine yp (qAZ O O (λF' hF=>qHz F' v o r h p hv ho hr hp)) O λg7 _=>yn 5 O<|yi C2<|ym λ_ C3=>yl λ_ C4=>yh O<|yj (qAQ O O O) O<|yi C4<|y1 O (λh11=>?_) (λh11=>?_)
  .
    exact yl λ_ C5=>yh O<|yi C5<|yr<|y5<|yw hw0 O () (by unfold qCl;rw [yW xB]) yd [0] O xC
  refine yy C3<|ym λ_ C6=>?_
  have he0:qBK v o r h p=0:=xB
  exact yt<|yh O<|yp (qAE (l:= [.tmp 12]) (xs:= [[Str (qA6 v o r h p)]]) O O O O qAg el9 O xC xC xD) O λg13 _=>yp (qAZ O O (λF' hF=>qBZ F' 12 (some ⟨g13,0,none⟩) 1 1 [qA6 v o r h p] ((slS [qA6 v o r h p] O).mono (hF (blk g13 (([qA6 v o r h p]:List xA).map λs=>Str s) 9) xD)) (by have:=qB4 he0;simp [this]) xC)) O λg14 _=>yh O<|yi C6<|yr<|yw hw0 O () (by unfold qCl;rw [yX he0]) yd [0] O xC
def j18(c:Nat)(v:Nat)(o r:xA)(h:Int)(p:xA)(had:Bool)(v2:Nat)(o2 r2:xA)(h2:Int)(p2:xA):Int:=if c≠0 then c else if qBK v o r h p≠0 then qBK v o r h p else if v≠(if had=true then v2+1 else 1) then 13 else if p≠(if had=true then qCl v2 o2 r2 h2 p2 else qAX) then 15 else 0
theorem qPX(F:Hp)(k:Nat)(hk:k<4)(v:Nat)(o r:xA)(h:Int)(p:xA)(hv:v<18446744073709551616)(ho:o.length<=1048576)(hr:r.length<=1048576)(hp:p.length<=1048576)(had:Bool)(v2:Nat)(o2 r2:xA)(h2:Int)(p2:xA)(hv2:v2<18446744073709551615)(ho2:o2.length<=1048576)(hr2:r2.length<=1048576)(hp2:p2.length<=1048576):Cz prog 78 [Str (nmK k),.agg #[N64 (v),Str (o),Str (r),I (h),Str (p)],.bool had,.agg #[N64 (v2),Str (o2),Str (r2),I (h2),Str (p2)]] F (I (j18 (codK k) v o r h p had v2 o2 r2 h2 p2)):=by
 refine y7 func78 O ntmps78 O (λw0 hw0=>?_)
 refine yl λ_ C1=>yp (qAi O O O) O λg5 _=>yp (qAi O O O) O λg7 _=>yh O<|yi C1<|ym λ_ C2=>yl λ_ C3=>yh O<|yp (qAZ O O (λF' hF=>qRn F' hk)) O λg15 _=>yh O<|yi C3<|yl λ_ C4=>yh O<|yj (qAQ O O O) O<|yi C4<|y1 O (λh17=>?_) (λh17=>?_)
 .
  exact yl λ_ C5=>yn 2 O<|yi C5<|yr<|y5<|yw hw0 O () (by congr 1;unfold j18;rw [yX xB]) yd [0] O xC
 refine yy C2<|ym λ_ C6=>yl λ_ C7=>vT 1 qGc qED O O O O O<|yp (qAZ O O (λF' hF=>qHz F' v o r h p hv ho hr hp)) O λg21 _=>yn 5 O<|yi C7<|yl λ_ C8=>yh O<|yj (qAQ O O O) O<|yi C8<|y1 O (λh25=>?_) (λh25=>?_)
 .
  exact yl λ_ C9=>yn 2 O<|yi C9<|yr<|y5<|yw hw0 O () (by congr 1;unfold j18;rw [yW xB,yX xB]) yd [0] O xC
 refine yy C6<|yl λ_ C10=>yn 2 O<|yi C10<|vl (X:=Nat×xA) (λζ=> [(5,Ptr g5),(12,N64 (ζ.1)),(13,Str (ζ.2))]) (λζ=> [F,blk g5 [N64 (v),Str (o),Str (r),I (h),Str (p)] 168,blk g7 [N64 (v2),Str (o2),Str (r2),I (h2),Str (p2)] 168]) (λζ=>ζ.1=(if had=true then v2+1 else 1)/\ζ.2=(if had=true then qCl v2 o2 r2 h2 p2 else qAX)/\ζ.1<18446744073709551616) (λ_ C11=>?_) ?_
 .
  refine yl λ_ C12=>yh O<|yi C12<|vf O (λh27=>?_) (λh27=>?_)
  .
   refine vQ [F,blk g5 [N64 (v),Str (o),Str (r),I (h),Str (p)] 168,blk g7 [N64 (v2),Str (o2),Str (r2),I (h2),Str (p2)] 168] [] (.y 0 (.y 1 (.y 2 (.y 3 (.e 4 (.y 5 (.y 6 .nil))))))) ye xF xD ?_
   refine yo O (qAA O O qEr O qBV O) O O<|yo O (qAD 2 O O O qBe O) O O<|yo O (qBD (a:=v2) (b:=1) O O O xB) O O<|yo O (qAx 2 O O O qGc qED O) O O<|vD O (qAZ O O (λF' hF=>qIa F' v2 o2 r2 h2 p2 xB ho2 hr2 hp2)) O xD λg32 _=>vU ?_
   refine vU ?_
   exact vM<|yq<|vY (v2+1,(qCl v2 o2 r2 h2 p2)) C11 (⟨(yX h27).symm,(yX h27).symm,by dsimp only;omega⟩) (Sub.of O) (λ_ h=>h)
  exact vP<|yq<|vY (1,qAX) C11 (⟨(yW (by rw [h27];decide)).symm,(yW (by rw [h27];decide)).symm,xC⟩) (Sub.of O) (λ_ h=>h)
 rintro⟨vv,pp⟩ ⟨hvv,hpp,hvl⟩
 dsimp only at hvv hpp hvl⊢
 refine ym λ_ C13=>yl λ_ C14=>vA 0 qEr qBV O O O O O<|vF 1 qBe O O O O O<|yh O<|yj (qAQ O O O) O<|yi C14<|y1 O (λh36=>?_) (λh36=>?_)
 .
  exact yl λ_ C15=>yh O<|yi C15<|yr<|y5<|yw hw0 O () (by congr 1;unfold j18;rw [yW xB,yW xB,yX xB]) yd [0] O xC
 refine yy C13<|ym λ_ C16=>yl λ_ C17=>vA 4 qEr z9_ O O O O O<|vF 1 b9_ O O O O O<|yh O<|yj (qB9 O O O) O<|yi C17<|y1 O (λh40=>?_) (λh40=>?_)
 .
  exact yl λ_ C18=>yh O<|yi C18<|yr<|y5<|yw hw0 O () (by congr 1;unfold j18;rw [yW xB,yW xB,yW xB,yX (by rw [<-hpp];exact h40)]) yd [0] O xC
 exact yy C16<|yl λ_ C19=>yh O<|yi C19<|yr<|yw hw0 O () (by congr 1;unfold j18;rw [yW xB,yW xB,yW xB,yW (by rw [<-hpp];exact h40)]) yd [0] O xC
theorem qTc(F:Hp)(o r mg:xA)(A1 A2:yS)(n1 c1 c2:Nat):Cz prog 185 [.agg #[Str o,Str r,I (0:Nat)],Str mg,.agg #[I (0:Nat),.slice A1 n1 c1,.slice A2 1 c2]] F (.bool false):=by
 refine y7 func185 O ntmps185 O (λw0 hw0=>?_)
 refine yl λ_ C1=>yp (qAi O O O) O λg3 _=>yp (qAi O O O) O λg5 _=>yh O<|yi C1<|ym λ_ C2=>ym λ_ C3=>vQ [F,blk g3 [Str o,Str r,I (0:Nat)] 32,blk g5 [I (0:Nat),.slice A1 n1 c1,.slice A2 1 c2] 106] [] (.y 0 (.y 1 (.y 2 (.y 3 (.y 4 (.y 5 (.y 6 (.y 7 (.y 8 (.y 9 (.y 10 (.y 11 (.y 12 (.y 13 (.y 14 (.y 15 (.y 16 (.y 17 (.y 18 (.y 19 (.y 20 (.y 21 (.y 22 (.y 23 (.y 24 (.y 25 (.y 26 (.y 27 (.y 28 .nil))))))))))))))))))))))))))))) ye xF xD ?_
 refine yo O (qAA O O qFl O z3_ O) O O<|yo O (qAD 1 O O O b3_ O) O O<|yo O ((qAP O O O).no xB) O O<|yx ?_
 refine y9 O (qAA O O qFl O z3_ O) O O<|y9 O (qAD 1 O O O b3_ O) O O<|y9 O ((qAs O O O).no xB) O O<|vd ?_
 refine yx ?_
 refine y9 O (qAA O O qCB O z3_ O) O O<|y9 O (qAD 2 O O O b3_ O) O O<|y9 O ((qAP O O O).no xB) O O<|vd ?_
 refine yx ?_
 refine y9 O (qAA O O qCB O z3_ O) O O<|y9 O (qAD 2 O O O b3_ O) O O<|y9 O (qAA O O qFl O z3_ O) O O<|y9 O (qAD 1 (v:=I (0:Nat)) O O O b3_ O) O O<|y9 O (qHb (a:=1) (m:=0) O O O xB) O O<|y9 O ((qA1 O O O).no xB) O O<|vd ?_
 refine yx ?_
 refine y9 O (qAA O O qCB O qBs O) O O<|y9 O (qAD 2 O O O qB7 O) O O<|y9 O (qAN qAg O O) O O<|y9 O (qAA O O qFl O z3_ O) O O<|y9 O (qAD 1 O O O b3_ O) O O<|y9 O ((qAQ O O O).yes xC) O O<|vd ?_
 refine vM<|yq (yu C3 ?_)
 refine vV ?_
 exact yl λ_ C4=>yh O<|yi C4<|yr<|y5<|yw hw0 O () O yd [0] O xC
theorem qO5(F:Hp)(hA:yg F)(hT:qBl F)(s:xA)(hsl:s.length<=1000000)(hN0:(normal s).2=0)(hN1:(normal s).1≠s):Cz prog 184 [Str (s)] F (I (4:Nat)):=by
 refine y7 func184 O ntmps184 O (λw0 hw0=>?_)
 refine yl λ_ C1=>yh O<|yi C1<|yl λ_ C2=>yh O<|yp (qAZ O O (λF' hF=>qHi F' (hA.mono (Fa hF)) (hT.mono (Fa hF)) s xM)) O λg7 _=>yn 5 O<|yi C2<|ym λ_ C3=>yz<|yl λ_ C4=>yh O<|yj ((qAQ O O O).no (by rw [hN0];exact λh=>h O)) O<|yh O<|yi C4<|vC ?_
 refine yl λ_ C5=>yn 2 O<|yj ((qB9 O O O).yes (hN1)) O<|yh O<|yi C5<|vV ?_
 exact yl λ_ C6=>yh O<|yi C6<|yr<|vI<|y5<|yw hw0 O () O yd [0] O xC
theorem qSP(F:Hp)(hA:yg F)(hT:qBl F)(s:xA)(hsl:s.length<=1000000)(hN0:(normal s).2=0)(hN1:(normal s).1≠s)(v:Nat)(o r:xA)(h:Int)(p:xA)(A1 A2:yS)(n1 c1 n2 c2:Nat)(had:Bool)(v2:Nat)(o2 r2:xA)(h2:Int)(p2:xA):Cz prog 103 [.agg #[Str (s),N64 (v),Str (o),Str (r),I (h),Str (p),I (0:Nat),.slice A1 n1 c1,.slice A2 n2 c2],.bool had,.agg #[N64 (v2),Str (o2),Str (r2),I (h2),Str (p2)]] F (I (4:Nat)):=by
 refine y7 func103 O ntmps103 O (λw0 hw0=>?_)
 refine yl λ_ C1=>yp (qAi O O O) O λg3 _=>yp (qAi O O O) O λg5 _=>yh O<|yi C1<|ym λ_ C2=>yl λ_ C3=>vA 0 qCN z9_ O O O O O<|vF 1 b9_ O O O O O<|yp (qAZ O O (λF' hF=>qO5 F' (hA.mono (Fa hF)) (hT.mono (Fa hF)) s hsl hN0 hN1)) O λg14 _=>yh O<|yi C3<|yl λ_ C4=>yh O<|yj ((qAQ O O O).yes xC) O<|yi C4<|vV ?_
 exact yl λ_ C5=>yn 2 O<|yi C5<|yr<|y5<|yw hw0 O () O yd [0] O xC
theorem nm3:(normal (nmK 3)).2=0/\(normal (nmK 3)).1≠nmK 3:=by
 rw [show normal (nmK 3)=([99,97,114,111,108],0) from qDY (l:= [67,97,114,111,108]) xC xC xC]
 exact⟨O,xC⟩
def wJ(k:Nat)(l:List En)(v:Nat)(p:xA)(b3:Bool):Int:=if k=3 then 4 else jc l (eK v p) (!b3)
def jK(k:Nat)(l:List En)(v:Nat)(p:xA):Int:=j18 (codK k) v qEh qEA ((0:Nat):Int) p (qSW l) (zL l).v (zL l).o (zL l).r (zL l).h (zL l).p
theorem jK_eq{k:Nat}{l:List En}(hl:qGU l){v:Nat}{p:xA}(hE:okK v p):jK k l v p=if k=3 then 4 else qFd l (eK v p):=by
  unfold jK j18 codK
  by_cases h3:k=3
  . rw [yX h3,yX h3,yX xC];rfl
  . rw [yW h3,yW h3,yW xC,yW (λe=>e hE)]
    unfold qFd qSW
    by_cases h0:l.length=0
    . have e2:l= []:=jT h0
      subst e2
      show(if v≠1 then(13:Int) else if p≠qAX then 15 else 0)=if v≠1 then 13 else if p≠qAX then 15 else 0
      rfl
    . rw [yW h0,ya (show 0<l.length by omega)]
      obtain ⟨v2,p2,e1,e2,_⟩:=hl.last xB
      obtain ⟨q1,q2,_⟩:=qEV e2
      rw [e1]
      show(if v≠v2+1 then(13:Int) else if p≠(eK v2 p2).val then 15 else 0)=if v2=18446744073709551615\/v≠v2+1 then 13 else if(eK v2 p2).val= []\/p≠(eK v2 p2).val then 15 else 0
      have hv:(eK v2 p2).val≠ []:=λe=>by
        have h2:((eK v2 p2).val).length=16:=by rw [show(eK v2 p2).val=Sha.tagged 12 [qA6 v2 qEh qEA ((0:Nat):Int) p2] from yX e2];exact Sha.tagged_length _ _
        rw [e] at h2;cases h2
      have a1:(v2=18446744073709551615\/v≠v2+1)=(v≠v2+1):=propext ⟨λh=>h.resolve_left xB,.inr⟩
      have a2:((eK v2 p2).val= []\/p≠(eK v2 p2).val)=(p≠(eK v2 p2).val):=propext ⟨λh=>h.resolve_left hv,.inr⟩
      simp only [a1,a2]
theorem qXD{k:Nat}{l:List En}(hl:qGU l){v:Nat}{p:xA}(hE:okK v p)(b3:Bool):wJ k l v p b3=if jK k l v p=0/\b3=true then 12 else jK k l v p:=by
  rw [jK_eq hl hE]
  unfold wJ jc
  by_cases h3:k=3
  . simp only [yX h3];rw [yW (by rintro⟨h,_⟩;cases h)]
  . simp only [yW h3]
    by_cases hj:qFd l (eK v p)=0
    . rw [yW (λe=>e hj),hj]
      cases b3
      . rfl
      . rfl
    . rw [yX hj,yW (λe=>hj e.1)]
theorem wJ_0{k:Nat}(hk:k<4){l:List En}{v:Nat}{p:xA}{b3:Bool}(h:wJ k l v p b3=0):k<3/\qFd l (eK v p)=0/\b3=false:=by
  unfold wJ at h
  split at h
  . cases h
  . obtain ⟨h1,h2⟩:=jc_ok h
    exact⟨xB,h1,by simpa using h2⟩
theorem qQT(F m G:Hp)(hK:yf F)(hA:yg F)(hT:qBl F)(hGF:Le G F)(x:SvR)(hS:Srv m G x)(k:Nat)(hk:k<4)(v:Nat)(p:xA)(hE:okK v p)(A1:yS)(n1 c1:Nat)(hch:Sl F 1 A1 n1 c1 (qAG (sgC OWN 0 (pmO (nmK k) v p))))(A2:yS)(n2 c2:Nat)(b3:Bool)(hpt:Sl F 1 A2 n2 c2 (qAG (if b3=true then [qAX] else sgP OWN 0 0)))(hno2:x.no.length<256)(hon:(qA2 (lbE x.nxt) (nmK k)).length<1000)(hl:qGU (qA2 (lbE x.nxt) (nmK k))):
    Ct prog 36 [Ptr x.gs,UPO (nmK k) v p A1 n1 c1 A2 n2 c2] [m,F] (λ_:Hp×SvR=>I (wJ k (qA2 (lbE x.nxt) (nmK k)) v p b3)) (λy=>Srv y.1 G y.2/\(wJ k (qA2 (lbE x.nxt) (nmK k)) v p b3≠0->y.2=x)/\(wJ k (qA2 (lbE x.nxt) (nmK k)) v p b3=0-> ∃z,y.2=x.upd (nmK k) v p z)) (λy=> [y.1,F]):=λw0 w hw=>by
  have hs6:=qGD k
  by_cases hz:wJ k (qA2 (lbE x.nxt) (nmK k)) v p b3=0
  . obtain ⟨hk3,hj,hb⟩:=wJ_0 hk hz
    subst hb
    refine(qJb F m G hK hA hT hGF x hS (nmK k) xB (qEj hk3) v p hE A1 n1 c1 hch A2 n2 c2 hpt hno2 hon hl hj w0 w hw).mono λvv w' ⟨y,he,hS',hst⟩=>?_
    exact⟨(y.1,x.upd (nmK k) v p y.2),by rw [hz];exact he,⟨hS',λh=>absurd hz h,λ_=>⟨_,O⟩⟩,hst⟩
  . by_cases hk3:k=3
    . subst hk3
      obtain ⟨a1,a2⟩:=nm3
      refine(qQS F m G hK hGF x hS (nmK 3) xB v qEh qEA ((0:Nat):Int) p 0 A1 n1 c1 _ hch A2 n2 c2 _ hpt hon _ _ (qYd hon) ((4:Nat):Int) xC (λF' hF=>qSP F' (hA.mono hF) (hT.mono hF) (nmK 3) xB a1 a2 v qEh qEA ((0:Nat):Int) p A1 A2 n1 c1 n2 c2 _ _ _ _ _ _) w0 w hw).mono λvv w' ⟨y,he,_,hst⟩=>?_
      exact⟨(m,x),he,⟨hS,λ_=>rfl,λh=>absurd h hz⟩,hst⟩
    . have hw3:wJ k (qA2 (lbE x.nxt) (nmK k)) v p b3=jc (qA2 (lbE x.nxt) (nmK k)) (eK v p) (!b3):=yW hk3
      have hV:VerO F (pmO (nmK k) v p) A1 n1 c1 A2 n2 c2 (!b3):=by
        cases b3 with
        |false=>exact qNM hK (by rw [qGu];decide) hch hpt
        |true=>
          have hn:n2=1:=hpt.1.symm
          subst hn
          exact λF' _=>qTc F' _ _ _ _ _ _ _ _
      refine(qTs F m G hK hA hT hGF x hS (nmK k) xB (qEj xB) v p hE A1 n1 c1 _ hch A2 n2 c2 _ hpt (!b3) hV hon hl (by rw [<-hw3];exact hz) w0 w hw).mono λvv w' ⟨y,he,_,hst⟩=>?_
      exact⟨(m,x),by rw [hw3];exact he,⟨hS,λ_=>rfl,λh=>absurd h hz⟩,hst⟩
theorem qD3(F:Hp)(n:Nat)(hn:n<=200):Cz prog 10 [I (n:Nat)] F (.agg #[Str ((qAL n).nm),Str ((qAL n).op),Str ((qAL n).rt),I ((qAL n).ht)]):=by
 refine y7 func10 O ntmps10 O (λw0 hw0=>?_)
 refine yl λ_ C1=>yp (qAO O qYx O) O λg2 _=>yi C1<|ym λ_ C2=>vQ [F] [15] (.y 0 (.y 1 (.y 2 (.y 3 (.y 7 (.y 8 (.y 11 (.br (.e 4 (.y 5 (.y 6 (.e 9 (.y 10 (.y 12 (.y 13 (.y 14 (.e 15 .nil))))))))) (.e 9 (.y 10 (.y 12 (.y 13 (.e 4 (.y 5 (.y 6 (.y 14 (.e 15 .nil))))))))))))))))) ye xF xD ?_
 refine yx ?_
 refine yo O (((qDM O O O xB).nat (n%26) xB)) O O<|yo O ((qAM O O O xE).nat (97+(n%26)) xB) O O<|yo O (qAu O O u3_ u5_) O O<|yx ?_
 refine yo O (qAu O O u3_ u5_) O O<|yo O ((qA0 u9_ O O O O ⟨by first|omega|(simp only [jA,jC,jG,jF,jE] at*;omega),by first|omega|(simp only [jA,jC,jG,jF,jE] at*;omega)⟩).as (v':=Str (([0,0,0,0,0,0,0,0,0,0,0,0,0,0,0,0]).drop 1)) (by rw [jn])) O O<|vx ?_ ?_
 .
  refine wE (λg=>_++ [blk g [B8 (UInt8.ofNat (97+n%26))] 5]) O (qAE (l:= [.tmp 6]) (xs:= [[B8 (UInt8.ofNat (97+(n%26)))]]) O O O O qBo el5 O xC xC xD) O O O (λ_ _ h=>jj _ h) xD ?_
  intro g7 _
  refine yo O (qBO O O qBo u5_ u9_ (m:=blk g7 [B8 (UInt8.ofNat (97+(n%26)))] 5) xD ((qAz (q:=True) (qAe [UInt8.ofNat (97+(n%26))]) O (by simp [qAe]) O).sl)) O O<|yo O (qAq O O O xE) O O<|wE (λg=>_++ [blk g [B8 (UInt8.ofNat n)] 5]) O (qAE (l:= [.tmp 11]) (xs:= [[B8 (UInt8.ofNat n)]]) O O O O qBo el5 O xC xC xD) O O O (λ_ _ h=>jj _ h) xD ?_
  intro g12 _
  refine yo O (qBO O O qBo u5_ u9_ (m:=blk g12 [B8 (UInt8.ofNat n)] 5) xD ((qAz (q:=True) (qAe [UInt8.ofNat n]) O (by simp [qAe]) O).sl)) O O<|yo O (qAq O O O xE) O O<|yo O (qAK (places:= [(0,1),(1,1),(2,1)]) (r:= [Str (([UInt8.ofNat n])++(([0,0,0,0,0,0,0,0,0,0,0,0,0,0,0,0]).drop 1)),Str ([0,0,0,0,0,0,0,0,0,0,0,0,0,0,0,0]),I (1:Nat)]) O O O qFl qOR (λ_=>xH) O) O O<|yo O (qAK (places:= [(0,1),(1,3)]) (r:= [Str (([120])++([UInt8.ofNat (97+(n%26))])),Str (([UInt8.ofNat n])++(([0,0,0,0,0,0,0,0,0,0,0,0,0,0,0,0]).drop 1)),Str ([0,0,0,0,0,0,0,0,0,0,0,0,0,0,0,0]),I (1:Nat)]) O O O qKd qYx (λ_=>xH) O) O O<|vZ O (qAF (i:=1) (l:= [Str [],Str [],Str [],I 0]) (vs:= [Str (([120])++([UInt8.ofNat (97+(n%26))])),Str (([UInt8.ofNat n])++(([0,0,0,0,0,0,0,0,0,0,0,0,0,0,0,0]).drop 1)),Str ([0,0,0,0,0,0,0,0,0,0,0,0,0,0,0,0]),I (1:Nat)]) O O O O O qIV O O) O O O λ_ _=>vM<|yq (yu C2 ?_)
  exact yr<|vH hw0 (λ_ _ h=>h) (rv1 O (RV.blkA 1 O O qPu qIV)) (qAf () (O) yd [0] O xC)
 refine wE (λg=>_++ [blk g [B8 (UInt8.ofNat n)] 5]) O (qAE (l:= [.tmp 11]) (xs:= [[B8 (UInt8.ofNat n)]]) O O O O qBo el5 O xC xC xD) O O O (λ_ _ h=>jj _ h) xD ?_
 intro g12 _
 refine yo O (qBO O O qBo u5_ u9_ (m:=blk g12 [B8 (UInt8.ofNat n)] 5) xD ((qAz (q:=True) (qAe [UInt8.ofNat n]) O (by simp [qAe]) O).sl)) O O<|yo O (qAq O O O xE) O O<|yo O (qAK (places:= [(0,1),(1,1),(2,1)]) (r:= [Str (([UInt8.ofNat n])++(([0,0,0,0,0,0,0,0,0,0,0,0,0,0,0,0]).drop 1)),Str ([0,0,0,0,0,0,0,0,0,0,0,0,0,0,0,0]),I (1:Nat)]) O O O qFl qOR (λ_=>xH) O) O O<|wE (λg=>_++ [blk g [B8 (UInt8.ofNat (97+n%26))] 5]) O (qAE (l:= [.tmp 6]) (xs:= [[B8 (UInt8.ofNat (97+(n%26)))]]) O O O O qBo el5 O xC xC xD) O O O (λ_ _ h=>jj _ h) xD ?_
 intro g7 _
 refine yo O (qBO O O qBo u5_ u9_ (m:=blk g7 [B8 (UInt8.ofNat (97+(n%26)))] 5) xD ((qAz (q:=True) (qAe [UInt8.ofNat (97+(n%26))]) O (by simp [qAe]) O).sl)) O O<|yo O (qAq O O O xE) O O<|yo O (qAK (places:= [(0,1),(1,3)]) (r:= [Str (([120])++([UInt8.ofNat (97+(n%26))])),Str (([UInt8.ofNat n])++(([0,0,0,0,0,0,0,0,0,0,0,0,0,0,0,0]).drop 1)),Str ([0,0,0,0,0,0,0,0,0,0,0,0,0,0,0,0]),I (1:Nat)]) O O O qKd qYx (λ_=>xH) O) O O<|vZ O (qAF (i:=1) (l:= [Str [],Str [],Str [],I 0]) (vs:= [Str (([120])++([UInt8.ofNat (97+(n%26))])),Str (([UInt8.ofNat n])++(([0,0,0,0,0,0,0,0,0,0,0,0,0,0,0,0]).drop 1)),Str ([0,0,0,0,0,0,0,0,0,0,0,0,0,0,0,0]),I (1:Nat)]) O O O O O qIV O O) O O O λ_ _=>vM<|yq (yu C2 ?_)
 exact yr<|vH hw0 (λ_ _ h=>h) (rv1 O (RV.blkA 1 O O qPu qIV)) (qAf () (O) yd [0] O xC)
theorem qRx(F:Hp)(n:UInt8):Cz prog 75 [B8 (n)] F (Str (nmK n.toNat)):=by
 refine y7 func75 O ntmps75 O (λw0 hw0=>?_)
 exact yl λ_ C1=>yh O<|yi C1<|yl λ_ C2=>yp (qAE (l:= [.const ((Value.string (ByteArray.mk #[97,108,105,99,101]))),.const ((Value.string (ByteArray.mk #[98,111,98]))),.const ((Value.string (ByteArray.mk #[208,182,209,131,208,186]))),.const ((Value.string (ByteArray.mk #[67,97,114,111,108])))]) (xs:= [[Str ([97,108,105,99,101])],[Str ([98,111,98])],[Str ([208,182,209,131,208,186])],[Str ([67,97,114,111,108])]]) O O O O qAg el9 O xC xC xD) O λg4 _=>yh O<|yi C2<|yl λ_ C3=>yn 2 O<|yj (qBG O O u5_ u3_) O<|yj (((qDM O O O xB).nat (n.toNat%4) xB)) O<|yj (qAC O O O qAg z9_ (qAz (q:=True) (e:=9) (g:=g4) (qAG [[97,108,105,99,101],[98,111,98],[208,182,209,131,208,186],[67,97,114,111,108]]) O (by simp [qAG]) O).sl xB) O<|yj (qAH O O b9_ (m:=blk g4 [Str [97,108,105,99,101],Str [98,111,98],Str [208,182,209,131,208,186],Str [67,97,114,111,108]] 9) xD (((qAz (q:=True) (e:=9) (g:=g4) (qAG [[97,108,105,99,101],[98,111,98],[208,182,209,131,208,186],[67,97,114,111,108]]) O (by simp [qAG]) O).sl).elem (qAa (qAc [] xE)))) O<|yh O<|yi C3<|yr<|yw hw0 O () (O) yd [0] O xC
theorem qNN(F:Hp)(hK:yf F)(g:Nat)(seed:xA)(kh:Nat)(hk:qWJ F g seed kh)(hs6:seed.length<=1048576)(h6:kh<=6)(s:xA)(hsl:s.length<=1000000)(v:Nat)(p:xA)(hE:qBK v (Wo.opn seed) (Xm.root seed kh) ((kh:Nat):Int) p=0):Ct prog 37 [Ptr g,Str s,N64 v,Str p] [F] (λx:(yS×Nat×Hp)×(yS×Nat×Hp)=> .agg #[Str s,N64 v,Str (Wo.opn seed),Str (Xm.root seed kh),I (kh:Nat),Str p,I (0:Nat),.slice x.1.1 (sgC seed 0 (qK2 s v (Wo.opn seed) (Xm.root seed kh) ((kh:Nat):Int) p)).length x.1.2.1,.slice x.2.1 (sgP seed kh 0).length x.2.2.1]) (λx=>Row x.1.2.2 9 1 x.1.1 (sgC seed 0 (qK2 s v (Wo.opn seed) (Xm.root seed kh) ((kh:Nat):Int) p)).length x.1.2.1 (qAG (sgC seed 0 (qK2 s v (Wo.opn seed) (Xm.root seed kh) ((kh:Nat):Int) p)))/\Row x.2.2.2 9 1 x.2.1 (sgP seed kh 0).length x.2.2.1 (qAG (sgP seed kh 0))) (λx=> [F,x.1.2.2,x.2.2.2]):=by
 refine y7 func37 O ntmps37 O (λw0 hw0=>?_)
 refine yl λ_ C1=>yp (qAO O qLg O) O λg8 _=>yi C1<|yl λ_ C2=>yn 4 O<|yp (qAZ O O (λF' hF=>qGi F' g seed kh (hk.mono (Fa hF)))) O λg16 _=>yh O<|yj (qAK (places:= [(0,1),(1,3),(4,1)]) (r:= [N64 (v),Str (Wo.opn (seed)),Str (Xm.root (seed) (kh)),I (kh:Nat),Str (p)]) O O O qDG qEt (λ_=>xH) O) O<|yp (qBx O O (λF' hF=>qUX F' (hK.mo hF) g seed kh (hk.mono (Fa hF)) hs6 h6 0 (jy kh) s hsl v (Wo.opn seed) (Xm.root seed kh) ((kh:Nat):Int) p hE)) O ?_
 rintro⟨⟨A19,c19,m19⟩,⟨B19,d19,n19⟩⟩ ⟨h19,k19⟩
 exact yn 3 O<|yp (qAO O qLg O) O λg9 _=>vG (qAF (i:=4) (l:= [Str [],.int .u64 0,Str [],Str [],I 0,Str [],I 0,.slice none 0 0,.slice none 0 0]) (vs:= [Str (s),N64 (v),Str (Wo.opn (seed)),Str (Xm.root (seed) (kh)),I (kh:Nat),Str (p),I (0:Nat),.slice A19 ((sgC seed 0 (qK2 s v (Wo.opn seed) (Xm.root seed kh) ((kh:Nat):Int) p)).length) c19,.slice B19 ((sgP seed kh 0).length) d19]) O O O O O qD6 O O) O O λ_ _=>yh O<|yi C2<|yl λ_ C3=>vT 4 qGd qD6 O O O O O<|vG (qAF (i:=1) (l:= [Str [],.int .u64 0,Str [],Str [],I 0,Str [],I 0,.slice none 0 0,.slice none 0 0]) (vs:= [Str (s),N64 (v),Str (Wo.opn (seed)),Str (Xm.root (seed) (kh)),I (kh:Nat),Str (p),I (0:Nat),.slice A19 ((sgC seed 0 (qK2 s v (Wo.opn seed) (Xm.root seed kh) ((kh:Nat):Int) p)).length) c19,.slice B19 ((sgP seed kh 0).length) d19]) O O O O O qD6 O O) O O λ_ _=>yi C3<|yr<|vH hw0 (λ_ _ h=>h) (rv1 O (RV.blkA 1 O O qGd qD6)) (qAf ((A19,c19,m19),(B19,d19,n19)) O ⟨h19,k19⟩ [0,2,3] O xC)
theorem qYN(k:Nat):nmK (k%4)=nmK k:=by unfold nmK;rw [Nat.mod_mod]
theorem MlA.g{F:Hp}: ∀{ls:List MlD},MlA F ls-> ∀nm,Sl F 5 (mlG ls nm).esA (mlG ls nm).es.length (mlG ls nm).esc (qD1 (mlG ls nm).es)
 | [],_,nm=>Sl.nil
 |x::r,h,nm=>by
  by_cases e:x.nm=nm
  . rw [show mlG (x::r) nm=x from yX e];exact h x (.head _)
  . rw [show mlG (x::r) nm=mlG r nm from yW e];exact MlA.g (λy hy=>h y (.tail _ hy)) nm
theorem qDb(F:Hp)(n:UInt8):Cz prog 75 [B8 n] F (Str (nmK (n.toNat%4))):=by
 rw [qYN];exact qRx F n
def vJ(wr:UInt8)(l:List En):Nat:=if wr&&&7=1 then l.length+1+2 else l.length+1
def p0J(l:List En):xA:=if 0<l.length then(zL l).val else qAX
def pJ(wr:UInt8)(l:List En):xA:=if wr&&&7=2 then qEA else p0J l
def b3J(wr:UInt8):Bool:=decide (wr&&&7=3)
theorem okJ{l:List En}(hl:qGU l)(hn:l.length<=100)(wr:UInt8):okK (vJ wr l) (pJ wr l):=by
  have h1:1<=vJ wr l/\vJ wr l<=200:=by unfold vJ;split<;>omega
  have h2:(pJ wr l).length=16:=by
    unfold pJ
    split
    . exact Mk.root_16 _ _
    . unfold p0J
      split
      . rename_i h
        obtain ⟨v2,p2,e1,e2,_⟩:=hl.last h
        rw [e1,show(eK v2 p2).val=Sha.tagged 12 [qA6 v2 qEh qEA ((0:Nat):Int) p2] from yX e2];exact Sha.tagged_length _ _
      . rfl
  exact qWx h1.1 xB xC h2
theorem qNC{l:List En}(hl:qGU l):(zL l).v<=4294967295/\(zL l).o.length<=16/\(zL l).r.length<=16/\(zL l).p.length<=16:=by
  by_cases h0:0<l.length
  . obtain ⟨v2,p2,f1,f2,_⟩:=hl.last h0
    obtain ⟨g1,g2,⟨g3,g4⟩,g5,g6,g7⟩:=qEV f2
    rw [f1]
    refine⟨?_,?_,?_,?_⟩<;>dsimp only<;>omega
  . rw [jT (show l.length=0 by omega)];exact⟨jH _,jH _,jH _,jH _⟩
theorem qME(F:Hp){l:List En}(hl:qGU l):Cz prog 77 [.agg #[N64 (zL l).v,Str (zL l).o,Str (zL l).r,I (zL l).h,Str (zL l).p]] F (Str ((zL l).val)):=by
 have hq:=qNC hl
 exact qIa F _ _ _ _ _ xB xB xB xB
theorem qSO(F:Hp){k:Nat}(hk:k<4){l:List En}(hl:qGU l){v:Nat}{p:xA}(hE:okK v p){z:En}(hz:z=zL l):Cz prog 78 [Str (nmK k),.agg #[N64 v,Str qEh,Str qEA,I (0:Nat),Str p],.bool (qSW l),.agg #[N64 z.v,Str z.o,Str z.r,I z.h,Str z.p]] F (I (jK k l v p)):=by
 subst hz
 obtain ⟨e1,e2,⟨e3,e4⟩,e5,e6,e7⟩:=qEV hE
 have hq:=qNC hl
 have:=qPX F k hk v qEh qEA ((0:Nat):Int) p xB xB xB xB (qSW l) (zL l).v (zL l).o (zL l).r (zL l).h (zL l).p xB xB xB xB
 exact this
theorem qXR(F m G:Hp)(hK:yf F)(hA:yg F)(hT:qBl F)(hGF:Le G F)(x:SvR)(hS:Srv m G x)(k:Nat)(hk:k<4)(v:Nat)(p:xA)(hE:okK v p)(A1:yS)(n1 c1:Nat)(hch:Sl F 1 A1 n1 c1 (qAG (sgC OWN 0 (pmO (nmK k) v p))))(A2:yS)(n2 c2:Nat)(b3:Bool)(hpt:Sl F 1 A2 n2 c2 (qAG (if b3=true then [qAX] else sgP OWN 0 0)))(hno2:x.no.length<256){l:List En}(hes:l=qA2 (lbE x.nxt) (nmK k))(hon:l.length<=100)(hl:qGU l):
    Ct prog 36 [Ptr x.gs,UPO (nmK k) v p A1 n1 c1 A2 n2 c2] [m,F] (λ_:Hp×SvR=>I (wJ k l v p b3)) (λy=>Srv y.1 G y.2/\(wJ k l v p b3≠0->y.2=x)/\(wJ k l v p b3=0-> ∃z,y.2=x.upd (nmK k) v p z)) (λy=> [y.1,F]):=by
  subst hes
  exact qQT F m G hK hA hT hGF x hS k hk v p hE A1 n1 c1 hch A2 n2 c2 b3 hpt hno2 xB hl
theorem u8i{w z:UInt8}(h:((w.toNat:Nat):Int)=((z.toNat:Nat):Int)):w=z:=UInt8.toNat_inj.1 (Int.ofNat.inj h)
structure PlR where
 m:Hp
 M:Hp
 x:SvR
 A:yS
 c:Nat
 l:List MlD
 w:Nat
structure PlP (G M:Hp) (x:SvR) (ls:List MlD) (k v:Nat) (p:xA) (b3:Bool) (w:Nat) (y:PlR):Prop where
 sv:Srv y.m G y.x
 sl:Sl y.M 2 y.A y.l.length y.c (qIO y.l)
 ma:MlA y.M y.l
 le:Le M y.M
 no:wJ k (mlG ls (nmK k)).es v p b3≠0->y.x=x/\y.l=ls/\y.w=w
 ys:wJ k (mlG ls (nmK k)).es v p b3=0->(∃z,y.x=x.upd (nmK k) v p z)/\mlE y.l=qFD (mlE ls) (nmK k) (qA2 (mlE ls) (nmK k)++ [eK v p])/\y.w=w+1
attribute [local irreducible] Sha.tagged Wo.pub Wo.publicOf Wo.signs Wo.ends Wo.digs Wo.walk Wo.opn Mk.root Mk.path Mk.climb Xm.root sgC sgP qA6 qBK sgB normal qAv nmK mlG mlE vJ pJ p0J wJ jK b3J
theorem qML(F M m G:Hp)(hK:yf F)(hA:yg F)(hT:qBl F)(hGF:Le G F)(gk:Nat)(hk:qWJ F gk OWN 0)(x:SvR)(hS:Srv m G x)(gm:Nat)(sv:Value)(A:yS)(c:Nat)(ls:List MlD)(hs:Sl M 2 A ls.length c (qIO ls))(hn:ls.length<=1000)(ha:MlA M ls)(hun:qKO (mlE ls))(hlb:mlE ls=lbE x.nxt)(hb: ∀y∈ls,y.es.length<=100)(hbg: ∀k,(mlG ls k).es.length<=100)(how: ∀k,qGU (mlG ls k).es)(has hw w ep:Nat)(hw9:w<=1000)(what:Int)(lb wr nn:UInt8)(hno:x.no.length<256):Ct prog 17 [Ptr gm,Ptr x.gs,Ptr gk,.agg #[I (what),B8 (lb),B8 (wr),B8 (nn)]] [m,blk gm [sv,.slice A (ls.length) c,I (has:Nat),I (hw:Nat),I (w:Nat),I (ep:Nat)] 42,M,F] (λ_:PlR=> .bool true) (PlP G M x ls (lb.toNat%4) (vJ wr (mlG ls (nmK (lb.toNat%4))).es) (pJ wr (mlG ls (nmK (lb.toNat%4))).es) (b3J wr) w) (λy=> [y.m,blk gm [sv,.slice y.A y.l.length y.c,I (has:Nat),I (hw:Nat),I (y.w:Nat),I (ep:Nat)] 42,y.M,F]):=by
 have hgE:(mlG ls (nmK (lb.toNat%4))).es=qA2 (lbE x.nxt) (nmK (lb.toNat%4)):=by rw [qJ3,hlb]
 have hk4:(lb.toNat%4)<4:=Nat.mod_lt _ xC
 have hle:=hbg (nmK (lb.toNat%4))
 have hol:=how (nmK (lb.toNat%4))
 have hai:=ha.g (nmK (lb.toNat%4))
 have hnl:=qGD (lb.toNat%4)
 have hok:=okJ hol hle wr
 refine y7 func17 O ntmps17 O (λw0 hw0=>?_)
 refine yl λ_ C1=>yp (qAi O O O) O λg7 _=>yh O<|yi C1<|yl λ_ C2=>vA 1 qTg z5_ O O O O O<|vF 4 b5_ O O O O O<|yp (qAZ O O (λF' hF=>qDb F' lb)) O λg19 _=>yh O<|yi C2<|yl λ_ C3=>yh O<|yj (qAB O O) O<|vA 1 qEc qND O O O O O<|vF 1 isAgg40 O O O O O<|yh O<|yp (qAZ O O (λF' hF=>qLb F' A ls.length c ls (hs.mono (Fa hF)) hn (nmK (lb.toNat%4)))) O λg25 _=>yh O<|yi C3<|yl λ_ C4=>yh O<|yj (qAN qCX O O) O<|yj ((qAM O O O xB).as (v':=I ((mlG ls (nmK (lb.toNat%4))).es.length+1:Nat)) (yY I xB)) O<|yj (qBj O O u3_ qDJ xB) O<|yn 2 O<|yi C4<|yl λ_ C5=>yp (qAO O zeroValue168 O) O λg13 _=>yi C5<|vl (X:=En) (λζ=> [(0,Ptr gm),(1,Ptr x.gs),(2,Ptr gk),(7,Ptr g7),(9,Str ((nmK (lb.toNat%4)))),(10,.slice ((mlG ls (nmK (lb.toNat%4))).esA) ((mlG ls (nmK (lb.toNat%4))).es.length) ((mlG ls (nmK (lb.toNat%4))).esc)),(11,N64 ((mlG ls (nmK (lb.toNat%4))).es.length+1)),(12,Str ((p0J (mlG ls (nmK (lb.toNat%4))).es))),(13,Ptr g13)]) (λζ=> [m,blk gm [sv,.slice A (ls.length) c,I (has:Nat),I (hw:Nat),I (w:Nat),I (ep:Nat)] 42,M,F,blk g7 [I (what),B8 (lb),B8 (wr),B8 (nn)] 44,blk g13 [N64 (ζ.v),Str (ζ.o),Str (ζ.r),I (ζ.h),Str (ζ.p)] 168]) (λζ=>ζ=(zL (mlG ls (nmK (lb.toNat%4))).es)) (λ_ C6=>?_) ?_
 .
  refine yl λ_ C7=>yh O<|yj (qAN qCX O O) O<|yj (qAs O O O) O<|yi C7<|y1 O (λh32=>?_) (λh32=>?_)
  .
   exact yl λ_ C8=>yn 2 O<|yj (qAN qCX O O) O<|yj (((qAm O O O xB).as (v':=I ((mlG ls (nmK (lb.toNat%4))).es.length-1:Nat)) (yY I xB))) O<|yj (qAC O O O qCX qED hai xB) O<|yj (qAb O O qGc qED (m:=M) xD (hai.elem (qFh xB)) O) O<|vG (qAF (i:=5) (l:= [.int .u64 0,Str [],Str [],I 0,Str []]) (vs:= [N64 ((((mlG ls (nmK (lb.toNat%4))).es).getD ((mlG ls (nmK (lb.toNat%4))).es.length-1) qCv).v),Str ((((mlG ls (nmK (lb.toNat%4))).es).getD ((mlG ls (nmK (lb.toNat%4))).es.length-1) qCv).o),Str ((((mlG ls (nmK (lb.toNat%4))).es).getD ((mlG ls (nmK (lb.toNat%4))).es.length-1) qCv).r),I ((((mlG ls (nmK (lb.toNat%4))).es).getD ((mlG ls (nmK (lb.toNat%4))).es.length-1) qCv).h),Str ((((mlG ls (nmK (lb.toNat%4))).es).getD ((mlG ls (nmK (lb.toNat%4))).es.length-1) qCv).p)]) O O O O O qED O O) O O λ_ _=>yi C8<|yt<|vT 5 qGc qED O O O O O<|yp (qAZ O O (λF' hF=>qME F' hol)) O λg40 _=>yh O<|y8<|yq<|vY ((zL (mlG ls (nmK (lb.toNat%4))).es)) C6 (O) ⟨O,O,O,O,O,O,O,(by unfold p0J;rw [yX xB];rfl),O,yd⟩ (λ_ h=>h)
  exact vP<|yq<|vY (qCv) C6 ((by rw [jT (show(mlG ls (nmK (lb.toNat%4))).es.length=0 by omega)];rfl)) ⟨O,O,O,O,O,O,O,(by unfold p0J;rw [yW xB];rfl),O,yd⟩ (λ_ h=>h)
 rintro z hz
 refine vl (X:=Unit) (λζ=> [(0,Ptr gm),(1,Ptr x.gs),(2,Ptr gk),(7,Ptr g7),(9,Str ((nmK (lb.toNat%4)))),(10,.slice ((mlG ls (nmK (lb.toNat%4))).esA) ((mlG ls (nmK (lb.toNat%4))).es.length) ((mlG ls (nmK (lb.toNat%4))).esc)),(11,N64 ((vJ wr (mlG ls (nmK (lb.toNat%4))).es))),(12,Str ((p0J (mlG ls (nmK (lb.toNat%4))).es))),(13,Ptr g13)]) (λζ=> [m,blk gm [sv,.slice A (ls.length) c,I (has:Nat),I (hw:Nat),I (w:Nat),I (ep:Nat)] 42,M,F,blk g7 [I (what),B8 (lb),B8 (wr),B8 (nn)] 44,blk g13 [N64 (z.v),Str (z.o),Str (z.r),I (z.h),Str (z.p)] 168]) (λζ=>True) (λ_ C9=>?_) ?_
 .
  refine yl λ_ C10=>vA 2 qTg z5_ O O O O O<|vF 4 b5_ O O O O O<|yj (qE6 (b:=7) O O O) O<|yj (qAR O O O) O<|yi C10<|y1 O (λh44=>?_) (λh44=>?_)
  .
   exact yt<|yh O<|yj (qBD (a:=(mlG ls (nmK (lb.toNat%4))).es.length+1) (b:=2) O O O xB) O<|yh O<|y8<|yq<|vY () C9 (yd) ⟨O,O,O,O,O,O,(by unfold vJ;rw [yX (u8i (z:=1) h44)];rfl),O,O,yd⟩ (λ_ h=>h)
  exact vP<|yq<|vY () C9 (yd) ⟨O,O,O,O,O,O,(by unfold vJ;rw [yW (λe=>h44 (by rw [e];rfl))];rfl),O,O,yd⟩ (λ_ h=>h)
 rintro _ _
 refine vl (X:=Unit) (λζ=> [(0,Ptr gm),(1,Ptr x.gs),(2,Ptr gk),(7,Ptr g7),(9,Str ((nmK (lb.toNat%4)))),(10,.slice ((mlG ls (nmK (lb.toNat%4))).esA) ((mlG ls (nmK (lb.toNat%4))).es.length) ((mlG ls (nmK (lb.toNat%4))).esc)),(11,N64 ((vJ wr (mlG ls (nmK (lb.toNat%4))).es))),(12,Str ((pJ wr (mlG ls (nmK (lb.toNat%4))).es))),(13,Ptr g13)]) (λζ=> [m,blk gm [sv,.slice A (ls.length) c,I (has:Nat),I (hw:Nat),I (w:Nat),I (ep:Nat)] 42,M,F,blk g7 [I (what),B8 (lb),B8 (wr),B8 (nn)] 44,blk g13 [N64 (z.v),Str (z.o),Str (z.r),I (z.h),Str (z.p)] 168]) (λζ=>True) (λ_ C11=>?_) ?_
 .
  refine yl λ_ C12=>vA 2 qTg z5_ O O O O O<|vF 4 b5_ O O O O O<|yj (qE6 (b:=7) O O O) O<|yj (qAR O O O) O<|yi C12<|y1 O (λh50=>?_) (λh50=>?_)
  .
   exact yt<|yh O<|yp (qAZ O O (λF' hF=>qGi F' gk OWN 0 (hk.mono (Fa hF)))) O λg52 _=>yj (qJq O O qFl O b9_ O) O<|yh O<|y8<|yq<|vY () C11 (yd) ⟨O,O,O,O,O,O,O,(by unfold pJ;rw [yX (u8i (z:=2) h50)];rfl),O,yd⟩ (λ_ h=>h)
  exact vP<|yq<|vY () C11 (yd) ⟨O,O,O,O,O,O,O,(by unfold pJ;rw [yW (λe=>h50 (by rw [e];rfl))];rfl),O,yd⟩ (λ_ h=>h)
 rintro _ _
 refine yl λ_ C13=>yn 4 O<|yp (qBx O O (λF' hF=>qNN F' (hK.mo hF) gk OWN 0 (hk.mono (Fa hF)) xC xC (nmK (lb.toNat%4)) xB (vJ wr (mlG ls (nmK (lb.toNat%4))).es) (pJ wr (mlG ls (nmK (lb.toNat%4))).es) hok)) O ?_
 rintro⟨⟨A58,c58,m58⟩,⟨B58,d58,n58⟩⟩ ⟨h58,k58⟩
 refine yp (qAO O qLg O) O λg14 _=>vG (qAF (i:=8) (l:= [Str [],.int .u64 0,Str [],Str [],I 0,Str [],I 0,.slice none 0 0,.slice none 0 0]) (vs:= [Str ((nmK (lb.toNat%4))),N64 ((vJ wr (mlG ls (nmK (lb.toNat%4))).es)),Str (qEh),Str (qEA),I (0:Nat),Str ((pJ wr (mlG ls (nmK (lb.toNat%4))).es)),I (0:Nat),.slice A58 ((sgC OWN 0 (pmO (nmK (lb.toNat%4)) (vJ wr (mlG ls (nmK (lb.toNat%4))).es) (pJ wr (mlG ls (nmK (lb.toNat%4))).es))).length) c58,.slice B58 ((sgP OWN 0 0).length) d58]) O O O O O qD6 O O) O O λ_ _=>yi C13<|vl (X:=yS×Nat×Nat×Hp) (λζ=> [(0,Ptr gm),(1,Ptr x.gs),(2,Ptr gk),(7,Ptr g7),(9,Str ((nmK (lb.toNat%4)))),(10,.slice ((mlG ls (nmK (lb.toNat%4))).esA) ((mlG ls (nmK (lb.toNat%4))).es.length) ((mlG ls (nmK (lb.toNat%4))).esc)),(11,N64 ((vJ wr (mlG ls (nmK (lb.toNat%4))).es))),(12,Str ((pJ wr (mlG ls (nmK (lb.toNat%4))).es))),(13,Ptr g13),(14,Ptr g14)]) (λζ=> [m,blk gm [sv,.slice A (ls.length) c,I (has:Nat),I (hw:Nat),I (w:Nat),I (ep:Nat)] 42,M,F,blk g7 [I (what),B8 (lb),B8 (wr),B8 (nn)] 44,blk g13 [N64 (z.v),Str (z.o),Str (z.r),I (z.h),Str (z.p)] 168,m58,blk g14 [Str ((nmK (lb.toNat%4))),N64 ((vJ wr (mlG ls (nmK (lb.toNat%4))).es)),Str (qEh),Str (qEA),I (0:Nat),Str ((pJ wr (mlG ls (nmK (lb.toNat%4))).es)),I (0:Nat),.slice A58 ((sgC OWN 0 (pmO (nmK (lb.toNat%4)) (vJ wr (mlG ls (nmK (lb.toNat%4))).es) (pJ wr (mlG ls (nmK (lb.toNat%4))).es))).length) c58,.slice ζ.1 ζ.2.1 ζ.2.2.1] 108,ζ.2.2.2]) (λζ=>Sl ζ.2.2.2 1 ζ.1 ζ.2.1 ζ.2.2.1 (qAG (if b3J wr=true then [qAX] else sgP OWN 0 0))) (λ_ C14=>?_) ?_
 .
  refine yl λ_ C15=>vA 2 qTg z5_ O O O O O<|vF 4 b5_ O O O O O<|yj (qE6 (b:=7) O O O) O<|yj (qAR O O O) O<|yi C15<|y1 O (λh62=>?_) (λh62=>?_)
  .
   refine yt<|yp (qBN O qAg el9) O λg63 _=>yp (qAE (l:= [.const ((Value.string (ByteArray.mk #[0,0,0,0,0,0,0,0,0,0,0,0,0,0,0,0])))]) (xs:= [[Str ([0,0,0,0,0,0,0,0,0,0,0,0,0,0,0,0])]]) O O O O qAg el9 O xC xC xD) O λg64 _=>yp (qAV (i:=9) (m2:=blk g64 [Str ([0,0,0,0,0,0,0,0,0,0,0,0,0,0,0,0])] 9) O O O qAg qAg el9 O (qAj (q:=True) (xs:=qAG ([])) O (by intro x hx;first|exact absurd hx (jr)|(rw [List.mem_singleton.1 hx];rfl))) xD ((qAz (q:=True) (qAG [[0,0,0,0,0,0,0,0,0,0,0,0,0,0,0,0]]) O (by simp [qAG]) O).sl) O xB xB) O ?_
   rintro⟨A65,c65,m65⟩ h65
   try dsimp only at h65
   replace h65:Row m65 9 1 A65 (0+1) c65 (qAG ([[0,0,0,0,0,0,0,0,0,0,0,0,0,0,0,0]])):=h65
   exact vA 6 qCN qCg O O O O O<|vA 8 qCB qBs O O O O O<|vG (qAU (i:=8) O O O O O qBs O xD) O O λ_ _=>y8<|yq<|vY (A65,(0+1),c65,m65) C14 (by dsimp only;unfold b3J;rw [yX (ya (u8i (z:=3) h62))];exact h65.sl) (Sub.of O) (λ_ h=>h.pick [0,1,2,3,4,5,6,8,9] xC)
  exact vP<|yq<|vY (B58,((sgP OWN 0 0).length),d58,n58) C14 (by dsimp only;rw [yW (by unfold b3J;rw [yZ];exact λe=>h62 (by rw [e];rfl))];exact k58.sl) (Sub.of O) (λ_ h=>h.pick [0,1,2,3,4,5,6,8,7] xC)
 rintro⟨A2,n2,c2,mp⟩ hp2
 dsimp only at hp2⊢
 refine yl λ_ C16=>yn 2 O<|yp (qAZ O O (λF' hF=>qGi F' gk OWN 0 (hk.mono (Fa hF)))) O λg70 _=>yj (qJq O O qFl O b9_ O) O<|yh O<|yp (qAZ O O (λF' hF=>qGi F' gk OWN 0 (hk.mono (Fa hF)))) O λg73 _=>yj (qJq O O qFl O b9_ O) O<|yh O<|yj (qAK (places:= [(0,1),(1,1),(2,1),(3,1),(4,1)]) (r:= [N64 ((vJ wr (mlG ls (nmK (lb.toNat%4))).es)),Str (Wo.opn (OWN)),Str (Xm.root (OWN) (0)),I (0:Nat),Str ((pJ wr (mlG ls (nmK (lb.toNat%4))).es))]) O O O qEr zeroValue168 (λ_=>xH) O) O<|yp (qAO O zeroValue168 O) O λg15 _=>vG (qAF (i:=9) (l:= [.int .u64 0,Str [],Str [],I 0,Str []]) (vs:= [N64 ((vJ wr (mlG ls (nmK (lb.toNat%4))).es)),Str (Wo.opn (OWN)),Str (Xm.root (OWN) (0)),I (0:Nat),Str ((pJ wr (mlG ls (nmK (lb.toNat%4))).es))]) O O O O O qED O O) O O λ_ _=>yi C16<|yl λ_ C17=>yh O<|vT 9 qGc qED O O O O O<|yh O<|yj (qAN qCX O O) O<|yj ((qAs O O O).as (v':= .bool (qSW (mlG ls (nmK (lb.toNat%4))).es)) (yY Value.bool (decide_eq_decide.2 xB))) O<|vT 5 qGc qED O O O O O<|yp (qAZ O O (λF' hF=>qSO F' hk4 hol hok hz)) O λg83 _=>yh O<|yi C17<|vl (X:=Int) (λζ=> [(0,Ptr gm),(1,Ptr x.gs),(9,Str ((nmK (lb.toNat%4)))),(14,Ptr g14),(15,Ptr g15),(16,I (ζ))]) (λζ=> [m,blk gm [sv,.slice A (ls.length) c,I (has:Nat),I (hw:Nat),I (w:Nat),I (ep:Nat)] 42,M,F,blk g7 [I (what),B8 (lb),B8 (wr),B8 (nn)] 44,blk g13 [N64 (z.v),Str (z.o),Str (z.r),I (z.h),Str (z.p)] 168,m58,blk g14 [Str ((nmK (lb.toNat%4))),N64 ((vJ wr (mlG ls (nmK (lb.toNat%4))).es)),Str (qEh),Str (qEA),I (0:Nat),Str ((pJ wr (mlG ls (nmK (lb.toNat%4))).es)),I (0:Nat),.slice A58 ((sgC OWN 0 (pmO (nmK (lb.toNat%4)) (vJ wr (mlG ls (nmK (lb.toNat%4))).es) (pJ wr (mlG ls (nmK (lb.toNat%4))).es))).length) c58,.slice A2 n2 c2] 108,mp,blk g15 [N64 ((vJ wr (mlG ls (nmK (lb.toNat%4))).es)),Str (Wo.opn (OWN)),Str (Xm.root (OWN) (0)),I (0:Nat),Str ((pJ wr (mlG ls (nmK (lb.toNat%4))).es))] 168]) (λζ=>ζ=(wJ (lb.toNat%4) (mlG ls (nmK (lb.toNat%4))).es (vJ wr (mlG ls (nmK (lb.toNat%4))).es) (pJ wr (mlG ls (nmK (lb.toNat%4))).es) (b3J wr))) (λ_ C18=>?_) ?_
 .
  refine yl λ_ C19=>yh O<|yj (qAR O O O) O<|yh O<|vO (d:=86) O (λh86=>?_) (λh86=>?_)
  .
   refine yv (qAA O O qTg O z5_ O) O<|yv (qAD 4 O O O b5_ O) O<|yv (qE6 (b:=7) O O O) O<|yv (qAR O O O) O<|yh O<|yi C19<|y1 O (λh91=>?_) (λh91=>?_)
   .
    exact yt<|yh O<|y8<|yq<|vY (12) C18 ((by show(12:Int)=_;rw [qXD hol hok,yX ⟨by simpa using h86,by unfold b3J;exact ya (u8i (z:=3) h91)⟩])) (Sub.of O) (λ_ h=>h)
   exact vP<|yq<|vY ((jK (lb.toNat%4) (mlG ls (nmK (lb.toNat%4))).es (vJ wr (mlG ls (nmK (lb.toNat%4))).es) (pJ wr (mlG ls (nmK (lb.toNat%4))).es))) C18 ((by show _=_;rw [qXD hol hok,yW (λe=>h91 (by have:=e.2;unfold b3J at this;rw [yc this];rfl))])) (Sub.of O) (λ_ h=>h)
  refine yn 5 O<|yi C19<|vC ?_
  exact vP<|yq<|vY ((jK (lb.toNat%4) (mlG ls (nmK (lb.toNat%4))).es (vJ wr (mlG ls (nmK (lb.toNat%4))).es) (pJ wr (mlG ls (nmK (lb.toNat%4))).es))) C18 ((by show _=_;rw [qXD hol hok,yW (λe=>by simp [e.1] at h86)])) (Sub.of O) (λ_ h=>h)
 rintro wq hwq
 refine ym λ_ C20=>yl λ_ C21=>yh O<|vT 7 qGd qD6 O O O O O<|yp (qAJ O O ent (vR 0 O (λF' hF=>qXR F' m G (hK.mo hF) (hA.mono (Fa hF)) (hT.mono (Fa hF)) (hGF.trans (Fa hF)) x hS (lb.toNat%4) hk4 (vJ wr (mlG ls (nmK (lb.toNat%4))).es) (pJ wr (mlG ls (nmK (lb.toNat%4))).es) hok A58 _ c58 (h58.sl.mono (Fa hF)) A2 n2 c2 (b3J wr) (hp2.mono (Fa hF)) hno hgE hle hol))) O ?_
 rintro⟨m94,x94⟩ ⟨hS94,hn94,hy94⟩
 refine yh O<|yj ((qAQ O O O).no (λh=>h hwq.symm)) O<|yi C21<|vC ?_
 refine yy C20<|ym λ_ C22=>yl λ_ C23=>yh O<|yj (qAR O O O) O<|yi C23<|y1 O (λh98=>?_) (λh98=>?_)
 .
  refine ym λ_ C24=>vQ [m94,blk gm [sv,.slice A (ls.length) c,I (has:Nat),I (hw:Nat),I (w:Nat),I (ep:Nat)] 42,M,F,blk g7 [I (what),B8 (lb),B8 (wr),B8 (nn)] 44,blk g13 [N64 (z.v),Str (z.o),Str (z.r),I (z.h),Str (z.p)] 168,m58,blk g14 [Str ((nmK (lb.toNat%4))),N64 ((vJ wr (mlG ls (nmK (lb.toNat%4))).es)),Str (qEh),Str (qEA),I (0:Nat),Str ((pJ wr (mlG ls (nmK (lb.toNat%4))).es)),I (0:Nat),.slice A58 ((sgC OWN 0 (pmO (nmK (lb.toNat%4)) (vJ wr (mlG ls (nmK (lb.toNat%4))).es) (pJ wr (mlG ls (nmK (lb.toNat%4))).es))).length) c58,.slice A2 n2 c2] 108,mp,blk g15 [N64 ((vJ wr (mlG ls (nmK (lb.toNat%4))).es)),Str (Wo.opn (OWN)),Str (Xm.root (OWN) (0)),I (0:Nat),Str ((pJ wr (mlG ls (nmK (lb.toNat%4))).es))] 168] [10] (.y 0 (.y 1 (.y 2 (.y 3 (.y 4 (.y 5 (.y 6 (.e 7 (.y 8 (.y 9 (.e 10 .nil))))))))))) ye xF xD ?_
  refine yx ?_
  refine yx ?_
  refine yo O (qAB O O) O O<|yo O (qAA O O qEc O qND O) O O<|yo O (qAD 1 O O O isAgg40 O) O O<|yx ?_
  refine yo O (qAx 9 O O O qGc qED O) O O<|vD O (qBx O O (λF' hF=>qUV F' A ls.length c ls (hs.mono (Fa hF)) hn (ha.mono (Fa hF)) (λy hy=>jf (hb y hy) xC) hun (nmK (lb.toNat%4)) (vJ wr (mlG ls (nmK (lb.toNat%4))).es) qEh qEA ((0:Nat):Int) (pJ wr (mlG ls (nmK (lb.toNat%4))).es))) O xD ?_
  rintro⟨A106,c106,m106,l106,N106⟩ ⟨h106,i106,j106⟩
  refine yo O (qAB O O) O O<|yo O (qAA O O qEc O qND O) O O<|vZ O (qAU (i:=1) O O O O O qND O xD) O O O λ_ _=>vW [2,10,11,0,1,3] [M,m106,N106,m94,blk gm [sv,.slice A106 (l106.length) c106,I (has:Nat),I (hw:Nat),I (w:Nat),I (ep:Nat)] 42,F] O xC<|vk (λhj=>?_)
  refine vM<|yq (yu C24 ?_)
  refine yt<|yh O<|yj (qAB O O) O<|vA 4 qEc z3_ O O O O O<|vF 3 b3_ O O O O O<|yj ((qAM O O O xB).nat (w+1) xB) O<|yj (qAB O O) O<|vA 4 qEc z3_ O O O O O<|vG (qAU (i:=3) O O O O O z3_ O xD) O O λ_ _=>vW [0,1,2,3,4] [U [M,m106],N106,m94,blk gm [sv,.slice A106 (l106.length) c106,I (has:Nat),I (hw:Nat),I (w+1:Nat),I (ep:Nat)] 42,F] O xC<|vk (λhj2=>?_)
  refine yi C22<|yl λ_ C25=>yh O<|yi C25<|yr ?_
  have h0:=hwq.symm.trans h98
  exact yw hw0 O (⟨m94,U [U [M,m106],N106],x94,A106,c106,l106,w+1⟩:PlR) O ⟨hS94,h106.sl.mono ((qIE hj).trans (qEC hj2)),i106.mono (qIE hj2),(qEC hj).trans (qEC hj2),λh=>absurd h0 h,λ_=>⟨hy94 h0,j106,O⟩⟩ [1,2,0,3] O xC
 exact yy C22<|yl λ_ C26=>yh O<|yi C26<|yr<|yw hw0 O (⟨m94,M,x94,A,c,ls,w⟩:PlR) O ⟨hS94,hs,ha,λ_ _ h=>h,λh=>⟨hn94 h,O,O⟩,λh=>absurd (hwq.trans h) h98⟩ [0,1,2,3] O xC
end Go.Proofs.YtmemgokiolfdoaaGreatDoor
namespace Go.Proofs.YtmemgokiolfdoaaGreatDoor
open Go Go.Fw Go.Proofs.Tryz
def prL(ls:List MlD):List Pr:=ls.map λx=>⟨tN x.nm,(zL x.es).val⟩
def prA(n:Nat):List Pr:=(List.range n).map λi=>⟨qAv i,qL3 (qAL i)⟩
theorem qX3(ls:List MlD):(prL ls).length=ls.length:=jJ _
theorem qUa(ls:List MlD){i:Nat}(h:i<ls.length):(prL ls).take (i+1)=(prL ls).take i++ [⟨tN (ls.getD i qA4).nm,(zL (ls.getD i qA4).es).val⟩]:=by
 unfold prL
 rw [List.take_add_one,jO,jD h,jB,jD h];rfl
theorem qUc(n:Nat):prA (n+1)=prA n++ [⟨qAv n,qL3 (qAL n)⟩]:=by unfold prA;rw [jt,jN];rfl
attribute [local irreducible] Sha.tagged Wo.pub Wo.publicOf Wo.signs Wo.ends Wo.digs Wo.walk Wo.opn Mk.root Mk.path Mk.climb Xm.root sgC sgP qA6 qBK sgB normal qAv nmK mlG mlE vJ pJ p0J wJ jK b3J
theorem qPD(F:Hp)(hK:yf F)(gm:Nat)(nx:Value)(A:yS)(c:Nat)(ls:List MlD)(hs:Sl F 2 A ls.length c (qIO ls))(hn:ls.length<=1000)(ha:MlA F ls)(how: ∀i,qGU (ls.getD i qA4).es)(hne: ∀i,i<ls.length->0<(ls.getD i qA4).es.length)(hnm: ∀i,(ls.getD i qA4).nm.length<=200)(hle: ∀i,(ls.getD i qA4).es.length<=1000)(has hw w ep:Nat)(hc:qAI F ⟨gm,0,none⟩ [.slice A (ls.length) c,nx,I (has:Nat),I (hw:Nat),I (w:Nat),I (ep:Nat)])(hw2:hw<=200):Ct prog 81 [Ptr gm] [F] (λx:yS×Nat×Hp=> .slice x.1 (ls.length+hw) x.2.1) (λx=>Row x.2.2 274 2 x.1 (ls.length+hw) x.2.1 (qGt (prL ls++prA hw))) (λx=> [F,x.2.2]):=by
 refine y7 func81 O ntmps81 O (λw0 hw0=>?_)
 refine yl λ_ C1=>yh O<|yi C1<|yl λ_ C2=>yh O<|yi C2<|ym λ_ C3=>yl λ_ C4=>yh O<|yi C4<|yz<|vN (X:=Nat×yS×Nat×Hp) (λζ=> [(0,Ptr gm),(3,.slice ζ.2.1 ζ.1 ζ.2.2.1),(4,I (ζ.1:Nat))]) (λζ=> [ζ.2.2.2,F]) (λζ=>ζ.1<=ls.length/\Row ζ.2.2.2 274 2 ζ.2.1 ζ.1 ζ.2.2.1 (qGt ((prL ls).take ζ.1))) (λζ=>ls.length-ζ.1) (0,none,0,(λ_=>none)) (⟨jH _,qBf.nil⟩) (Sub.of O) (λ_ h=>h.empty.pick [1,0] xC) ?_
 rintro⟨i,Ao,co,mo⟩ ⟨hi,hro⟩ I0 hI0
 dsimp only at hi hro⊢
 refine ym λ_ C5=>yl λ_ C6=>yn 2 O<|yj (qAB O O) O<|vA 0 qEc qND O O O O O<|yj (qAH O O isAgg40 (m:=F) xD (hc.at (i:=0) O)) O<|yj (qAN qMI O O) O<|yj (qAP O O O) O<|yi C6<|y1 O (λh16=>?_) (λh16=>?_)
 .
  refine yy C5<|ym λ_ C7=>yz<|ym λ_ C8=>?_
  have hai:=ha.get (i:=i) xB
  have hle:=hle i
  have hne:=hne i xB
  have hnm:=hnm i
  refine yt<|yh O<|yj (qAB O O) O<|vA 0 qEc qND O O O O O<|yj (qAH O O isAgg40 (m:=F) xD (hc.at (i:=0) O)) O<|yh O<|yj (qAC O O O qMI qIG hs xB) O<|yj (qBM O O qFn O sizeOf165 hs xB O) O<|yj (qAH O O isAgg165 (m:=F) xD (hs.part (qEk xB) 1 1)) O<|yh O<|yi C8<|vQ [F] [] (.y 0 (.y 1 (.y 2 (.y 3 (.y 4 (.y 5 (.y 6 (.y 7 (.y 8 (.y 10 (.y 11 (.y 12 (.y 13 (.y 14 (.y 15 (.e 9 (.e 16 (.y 17 (.e 18 (.e 19 (.y 20 .nil))))))))))))))))))))) ye xF xD ?_
  refine yx ?_
  refine yx ?_
  refine yo O (qAB O O) O O<|yo O (qAA O O qEc O qND O) O O<|yo O (qAH O O isAgg40 (m:=F) xD (hc.at (i:=0) O)) O O<|yx ?_
  refine yo O (qAC O O O qMI qIG hs xB) O O<|yo O (qBM O O qFn O z9_ hs xB O) O O<|yo O (qAH O O b9_ (m:=F) xD (hs.part (qEk xB) 0 1)) O O<|yx ?_
  refine yx ?_
  refine yo O (qAN qCX O O) O O<|yo O (((qAm O O O xB).nat ((ls.getD i qA4).es.length-1) xB)) O O<|yo O (qAC O O O qCX qED hai xB) O O<|yo O (qAb O O qGc qED (m:=F) xD (hai.elem (qFh xB)) O) O O<|vD O (qAZ O O (λF' hF=>qEm F' (hK.mono (Fa hF)) (ls.getD i qA4).nm xB)) O xD λg36 _=>vD O (qAZ O O (λF' hF=>qME F' (how i))) O xD λg43 _=>yo O (qAK (places:= [(0,1),(1,1)]) (r:= [Str ((tN (ls.getD i qA4).nm)),Str (((zL (ls.getD i qA4).es).val))]) O O O qQD zeroValue274 (λ_=>xH) O) O O<|vD O (qAE (l:= [.tmp 44]) (xs:= [[Str ((tN (ls.getD i qA4).nm)),Str (((zL (ls.getD i qA4).es).val))]]) O O O O qCK el274 O xC xC xD) O xD λg45 _=>vD O (qAV (i:=0) (m2:=blk g45 [Str ((tN (ls.getD i qA4).nm)),Str (((zL (ls.getD i qA4).es).val))] 274) O O O qCK qCK el274 O hro xD ((qAj (q:=True) (xs:=qGt [(⟨(tN (ls.getD i qA4).nm),((zL (ls.getD i qA4).es).val)⟩:Pr)]) O (by intro x hx;rw [List.mem_singleton.1 hx];rfl)).sl) O xB xB) O xD ?_
  rintro⟨A46,c46,m46⟩ h46
  try dsimp only at h46
  replace h46:Row m46 274 2 A46 (i+1) c46 (qGt (((prL ls).take i)++([(⟨(tN (ls.getD i qA4).nm),((zL (ls.getD i qA4).es).val)⟩:Pr)]))):=by rw [qFO];exact h46
  refine vU ?_
  refine vM<|vB<|yq (yu C7 ?_)
  exact yt<|yh O<|yj ((qAM O O O xB).nat (i+1) xB) O<|yh O<|y8<|yq<|vE (i+1,A46,c46,m46) hI0 ⟨by dsimp only;omega,by dsimp only;rw [qUa ls xB];exact h46⟩ (Sub.of O) (λ_ h=>h.pick [0,1] xC)
 refine vK<|y6<|y6<|vL ?_
 refine yq (yu C3 ?_)
 refine ym λ_ C9=>ym λ_ C10=>?_
 obtain rfl:i=ls.length:=by omega
 refine yt<|yh O<|yi C10<|yz<|vN (X:=Nat×yS×Nat×Hp) (λζ=> [(0,Ptr gm),(3,.slice ζ.2.1 (ls.length+ζ.1) ζ.2.2.1),(6,I (ζ.1:Nat))]) (λζ=> [ζ.2.2.2,F]) (λζ=>ζ.1<=hw/\Row ζ.2.2.2 274 2 ζ.2.1 (ls.length+ζ.1) ζ.2.2.1 (qGt (prL ls++prA ζ.1))) (λζ=>hw-ζ.1) (0,Ao,co,mo) (⟨jH _,(by have h0:=hro;rw [jV (by rw [qX3];exact jL _)] at h0;show Row mo _ 2 Ao ls.length co (qGt (prL ls++ []));rw [jS];exact h0)⟩) (Sub.of O) (λ_ h=>h) ?_
 rintro⟨j,Ao,co,mo⟩ ⟨hj,hro⟩ I2 hI2
 dsimp only at hj hro⊢
 refine ym λ_ C11=>yl λ_ C12=>yn 2 O<|yj (qAB O O) O<|vA 3 qEc z3_ O O O O O<|yj (qAH O O b3_ (m:=F) xD (hc.at (i:=3) O)) O<|yj (qAP O O O) O<|yi C12<|y1 O (λh52=>?_) (λh52=>?_)
 .
  refine yy C11<|ym λ_ C13=>yz<|ym λ_ C14=>?_
  have ho1:(qAL j).op.length=16:=rfl
  have hr1:(qAL j).rt.length=16:=rfl
  have hm1:(qAL j).nm.length=2:=rfl
  have hpe:(qAo (qAL j).op (qAL j).rt (qAL j).ht).length<=40:=by
   unfold qAo
   split
   . simp only [jA,jI];omega
   . exact jH _
  refine yt<|yh O<|yp (qAZ O O (λF' hF=>qD3 F' j xN)) O λg56 _=>yp (qAO O qYx O) O λg7 _=>vG (qAF (i:=2) (l:= [Str [],Str [],Str [],I 0]) (vs:= [Str ((qAL j).nm),Str ((qAL j).op),Str ((qAL j).rt),I ((qAL j).ht)]) O O O O O qIV O O) O O λ_ _=>yi C14<|yl λ_ C15=>vA 1 qKd qDF O O O O O<|yj (qAb O O qKM qDF (m:=blk g7 [Str ((qAL j).nm),Str ((qAL j).op),Str ((qAL j).rt),I ((qAL j).ht)] 34) xD (qAI.blk0.sub 1 3) O) O<|yp (qAZ O O (λF' hF=>qCr F' ((qAL j).op) ((qAL j).rt) ((qAL j).ht) xB xB)) O λg60 _=>yn 5 O<|yi C15<|vQ [F,blk g7 [Str ((qAL j).nm),Str ((qAL j).op),Str ((qAL j).rt),I ((qAL j).ht)] 34] [] (.y 0 (.y 1 (.y 3 (.y 4 (.y 5 (.e 2 (.e 6 (.y 7 (.e 8 (.e 9 (.y 10 .nil))))))))))) ye xF xD ?_
  refine yx ?_
  refine yx ?_
  refine yo O (qAA O O qKd O z9_ O) O O<|yo O (qAD 1 O O O b9_ O) O O<|yx ?_
  refine vD O (qAZ O O (λF' hF=>qMU F' j xB)) O xD λg65 _=>vD O (qAZ O O (λF' hF=>qMC F' ((qAL j).nm) (qAo ((qAL j).op) ((qAL j).rt) ((qAL j).ht)) (by first|omega|exact jW O) xB)) O xD λg69 _=>yo O (qAK (places:= [(0,1),(1,1)]) (r:= [Str (qAv j),Str (Sha.tagged 16 [((qAL j).nm),(qAo ((qAL j).op) ((qAL j).rt) ((qAL j).ht))])]) O O O qQD zeroValue274 (λ_=>xH) O) O O<|vD O (qAE (l:= [.tmp 70]) (xs:= [[Str (qAv j),Str (Sha.tagged 16 [((qAL j).nm),(qAo ((qAL j).op) ((qAL j).rt) ((qAL j).ht))])]]) O O O O qCK el274 O xC xC xD) O xD λg71 _=>vD O (qAV (i:=0) (m2:=blk g71 [Str (qAv j),Str (Sha.tagged 16 [((qAL j).nm),(qAo ((qAL j).op) ((qAL j).rt) ((qAL j).ht))])] 274) O O O qCK qCK el274 O hro xD ((qAj (q:=True) (xs:=qGt [(⟨qAv j,Sha.tagged 16 [((qAL j).nm),(qAo ((qAL j).op) ((qAL j).rt) ((qAL j).ht))]⟩:Pr)]) O (by intro x hx;rw [List.mem_singleton.1 hx];rfl)).sl) O xB xB) O xD ?_
  rintro⟨A72,c72,m72⟩ h72
  try dsimp only at h72
  replace h72:Row m72 274 2 A72 ((ls.length+j)+1) c72 (qGt ((prL ls++prA j)++([(⟨qAv j,Sha.tagged 16 [((qAL j).nm),(qAo ((qAL j).op) ((qAL j).rt) ((qAL j).ht))]⟩:Pr)]))):=by rw [qFO];exact h72
  refine vU ?_
  refine vM<|vB<|yq (yu C13 ?_)
  exact yt<|yh O<|yj ((qAM O O O xB).nat (j+1) xB) O<|yh O<|y8<|yq<|vE (j+1,A72,c72,m72) hI2 ⟨by dsimp only;omega,by dsimp only;rw [qUc,<-jM];exact h72⟩ (Sub.of O) (λ_ h=>h.pick [0,1] xC)
 refine vK<|y6<|y6<|vL ?_
 refine yq (yu C9 ?_)
 refine ym λ_ C16=>?_
 obtain rfl:j=hw:=by omega
 exact yt<|yn 2 O<|yi C16<|yr<|yw hw0 O (Ao,co,mo) O hro [1,0] O xC
end Go.Proofs.YtmemgokiolfdoaaGreatDoor
namespace Go.Proofs.YtmemgokiolfdoaaGreatDoor
open Go Go.Fw Go.Proofs.Tryz
theorem getP_some: ∀{l:List Sm.PR},Sm.Once l-> ∀p:Sm.PR,p∈l↔Sm.getP l p.1=some p.2
  | [],_,p=>⟨λh=>(by cases h),λh=>(by cases h)⟩
  |q::r,h,p=>by
    obtain ⟨h1,h2⟩:=List.pairwise_cons.1 h
    have ih:=getP_some (l:=r) h2 p
    show _↔(if q.1=p.1 then some q.2 else Sm.getP r p.1)=some p.2
    by_cases e:q.1=p.1
    . rw [yX e]
      constructor
      . intro hm
        rcases List.mem_cons.1 hm with rfl|hm
        . rfl
        . exact absurd e (h1 p hm)
      . intro hm
        have:q=p:=Prod.ext e (zn hm)
        rw [this];exact .head _
    . rw [yW e,<-ih]
      exact⟨λhm=>(List.mem_cons.1 hm).resolve_left (λe2=>e (by rw [e2])),λhm=> .tail _ hm⟩
theorem qRL{l l':List Sm.PR}(h:Sm.Once l)(h':Sm.Once l')(he: ∀k,Sm.getP l k=Sm.getP l' k):l.Perm l':=by
 have nd: ∀{l:List Sm.PR},Sm.Once l->l.Nodup:=λh=>List.Pairwise.imp (λhne e=>hne (by rw [e])) h
 exact(List.perm_ext_iff_of_nodup (nd h) (nd h')).2 λp=>by rw [getP_some h,getP_some h',he]
theorem qUb{s:JS}{c:Nat}(h:JW s c):Sm.Once (prJ s):=by
  refine List.pairwise_append.2 ⟨?_,?_,?_⟩
  . have hu:s.l.Pairwise λa b=>a.1≠b.1:=List.pairwise_map.1 h.un
    refine List.pairwise_map.2 (hu.imp_of_mem λ{a b} ha hb hne e=>?_)
    obtain ⟨i,hi,e1⟩:=h.nm a ha
    obtain ⟨j,hj,e2⟩:=h.nm b hb
    have e:tN a.1=tN b.1:=e
    rw [e1,e2] at e hne
    exact qMn xB xB (λq=>hne (by rw [q])) e
  . have hr:(List.range s.n).Pairwise (· ≠ ·):=List.nodup_range
    refine List.pairwise_map.2 (hr.imp_of_mem λ{a b} ha hb hne e=>?_)
    have h1:=List.mem_range.1 ha
    have h2:=List.mem_range.1 hb
    have h20:=h.n20
    exact qWa xB xB hne e
  . intro a ha b hb e
    obtain ⟨x,hx,rfl⟩:=List.mem_map.1 ha
    obtain ⟨i,hi,rfl⟩:=List.mem_map.1 hb
    obtain ⟨k,hk,e1⟩:=h.nm x hx
    have e:tN x.1=qAv i:=e
    rw [e1] at e
    have h1:=List.mem_range.1 hi
    have h20:=h.n20
    exact qSD xB xB e
theorem prLA(ls:List MlD)(n:Nat):(prL ls++prA n).map toP=prJ ⟨mlE ls,n⟩:=by
  unfold prJ qMk qPn
  rw [jN]
  congr 1
  . unfold prL mlE
    rw [ze,ze];rfl
  . unfold prA
    rw [ze];rfl
theorem qZp{ls:List MlD}{n:Nat}{c:Nat}(h:JW ⟨mlE ls,n⟩ c){kv:List Sm.PR}(hf:qCD kv)(hk: ∀k,Sm.getP kv k=qTQ ⟨mlE ls,n⟩ k):qID (prL ls++prA n) kv:=
 ⟨hf,by rw [prLA];exact qRL (qUb h) hf.once λk=>(hk k).symm⟩
theorem qSC(F:Hp)(hK:yf F){x:SvR}(hf:qCD x.kvL){s:xA}{r:LkR}(hr:LkP x s r)(hb:Le r.mb F)(hg:Sm.getP x.kvL (Sha.tagged 11 [s])=none):Cz prog 82 [.agg #[.slice r.bA (bsd x.kvL (Sha.tagged 11 [s]) 0 (r.s-0)).length r.bc,.bool (qBB x.kvL (Sha.tagged 11 [s]) r.s),Str (qC0 x.kvL (Sha.tagged 11 [s]) r.s),Str (qDL x.kvL (Sha.tagged 11 [s]) r.s)],Str (Sm.nd 128 x.kvL),Str (Sha.tagged 11 [s]),I (0:Nat)] F (.bool true):=by
 have h16:(Sha.tagged 11 [s]).length=16:=Sha.tagged_length _ _
 have h:=qPT F hK r.bA r.bc _ (hr.rb.sl.mono hb) (qBB x.kvL (Sha.tagged 11 [s]) r.s) (qC0 x.kvL (Sha.tagged 11 [s]) r.s) (qDL x.kvL (Sha.tagged 11 [s]) r.s) (Sha.tagged 11 [s]) 0 (qF9 hf h16 hr.st) (Sm.nd 128 x.kvL) (qGB hf _ _)
 have e:=qMS hf h16 hr.st
 rw [hg,Sm.ndB_zero] at e
 rw [e] at h
 exact h
theorem getP_none: ∀{l:List Sm.PR} {k:xA},(∀p∈l,p.1≠k)->Sm.getP l k=none
 | [],_,_=>rfl
 |p::r,k,h=>by
  show(if p.1=k then some p.2 else Sm.getP r k)=none
  rw [yW (h p (.head _))]
  exact getP_none λq hq=>h q (.tail _ hq)
theorem qLS{nm:xA}: ∀{l:LE},(∀x∈l,tN x.1=tN nm->x.1=nm)->(∀x∈l,0<x.2.length)->Sm.getP (qMk l) (tN nm)=if(qA2 l nm).length=0 then none else some (zL (qA2 l nm)).val
  | [],_,_=>rfl
  |x::r,h,h2=>by
    show(if tN x.1=tN nm then some (zL x.2).val else Sm.getP (qMk r) (tN nm))=_
    rw [qA2]
    by_cases e:x.1=nm
    . rw [yX (by rw [e]),yX e,yW (by have:=h2 x (.head _);omega)]
    . rw [yW (λq=>e (h x (.head _) q)),yW e]
      exact qLS (λy hy=>h y (.tail _ hy)) λy hy=>h2 y (.tail _ hy)
theorem qSZ{s:JS}{c:Nat}(h:JW s c){k:Nat}(hk:k<4):qTQ s (tN (nmK k))=if(qA2 s.l (nmK k)).length=0 then none else some (zL (qA2 s.l (nmK k))).val:=by
  unfold qTQ prJ
  rw [qDy,qLS (λx hx e=>?_) h.ne,getP_none (l:=qPn s.n) (λp hp e=>?_)]
  . split<;>rfl
  . obtain ⟨i,hi,rfl⟩:=List.mem_map.1 hp
    have h1:=List.mem_range.1 hi
    have h20:=h.n20
    have e:qAv i=qaF k:=e
    exact qSD hk xB e.symm
  . obtain ⟨j,hj,e2⟩:=h.nm x hx
    rw [e2] at e⊢
    exact Decidable.not_not.1 λhne=>qMn xB hk (λq=>hne (by rw [q])) e
theorem qUz(F:Hp){A:yS}{N c:Nat}{ls:List MlD}{n c2:Nat}(h:JW ⟨mlE ls,n⟩ c2){kv:List Sm.PR}(hf:qCD kv)(hk: ∀k,Sm.getP kv k=qTQ ⟨mlE ls,n⟩ k)(hs:Sl F 2 A N c (qGt (prL ls++prA n)))(hn:N<=1000000):Cz prog 80 [.slice A N c,I (0:Nat)] F (Str (Sm.nd 128 kv)):=by
 have hp:=qZp h hf hk
 rw [hp.root]
 exact qUH F A N c _ hs hn 0 (jH _) hp.wf λp hm=>hf.small _ (hp.perm.mem_iff.1 (List.mem_map_of_mem hm))
theorem qJF: ∀(l:List En) (x e:En),En.chain (l++ [x])=0->x.next e=0->En.chain (l++ [x]++ [e])=0
 | [],x,e,_,h=>by
  show(if x.next e≠0 then x.next e else 0)=0
  rw [yW (λq=>q h)]
 | [a],x,e,h1,h=>by
  have h1:(if a.next x≠0 then a.next x else 0)=0:=h1
  have h2:a.next x=0:=by
   by_cases q:a.next x=0
   . exact q
   . rw [yX q] at h1;exact h1
  show(if a.next x≠0 then a.next x else(if x.next e≠0 then x.next e else 0))=0
  rw [yW (λq=>q h2),yW (λq=>q h)]
 |a::b::r,x,e,h1,h=>by
  have h1:(if a.next b≠0 then a.next b else En.chain (b::r++ [x]))=0:=h1
  have h2:a.next b=0:=by
   by_cases q:a.next b=0
   . exact q
   . rw [yX q] at h1;exact h1
  rw [yW (λq=>q h2)] at h1
  show(if a.next b≠0 then a.next b else En.chain (b::r++ [x]++ [e]))=0
  rw [yW (λq=>q h2)]
  exact qJF (b::r) x e h1 h
theorem qST{l:List En}{e:En}(hl:qGU l)(h:l≠ []->En.hist l=0)(hj:qFd l e=0):En.hist (l++ [e])=0:=by
  unfold qFd at hj
  cases l with
  |nil=>exact hj
  |cons a r=>
    rw [yW (show¬(a::r).length=0 from Nat.succ_ne_zero _)] at hj
    have h0:=h (za _ _)
    have h0:(if a.v≠1 then(13:Int) else if a.p≠qAX then 15 else En.chain (a::r))=0:=h0
    show(if a.v≠1 then(13:Int) else if a.p≠qAX then 15 else En.chain (a::r++ [e]))=0
    by_cases q1:a.v≠1
    . rw [yX q1] at h0;cases h0
    . rw [yW q1] at h0⊢
      by_cases q2:a.p≠qAX
      . rw [yX q2] at h0;cases h0
      . rw [yW q2] at h0⊢
        obtain ⟨v,p,e1,_,e3⟩:=hl.last (zy _)
        rw [e1] at hj
        rw [e3] at h0⊢
        exact qJF _ _ _ h0 hj
theorem qOL{s:JS}{c:Nat}(hW:JW s c)(h: ∀k,qA2 s.l k≠ []->En.hist (qA2 s.l k)=0){x:Nt}(hx:s.ok x): ∀k,qA2 (s.step x).l k≠ []->En.hist (qA2 (s.step x).l k)=0:=by
 cases x with
 |a n=>exact h
 |u j v p=>
  intro k
  show qA2 (qFD s.l _ _) k≠ []->En.hist (qA2 (qFD s.l _ _) k)=0
  rw [qJ8]
  split
  . exact λ_=>qST (hW.ow _) (h _) hx.2.2
  . exact h k
theorem hdJ{dp e:Nat}{s0 s:JS}{x:SvR}(h:SI dp e s0 s x):x.hd.getD e qBE=x.hdL/\ ∃par,par.length=16/\x.hdL.ep=e/\x.hdL.par=par/\x.hdL.dep=dp/\x.hdL.aud=s0.n/\x.hdL.ns=qAl x.kvL dp:=by
  obtain ⟨par,hp,hh⟩:=h.hd
  have hl:=h.hl
  refine⟨?_,par,hp,?_⟩
  . show _=x.hd.getD (x.hd.length-1) qBE
    rw [hl,Nat.add_sub_cancel]
  . unfold qCp at hh
    injection hh with h1 h2 h3 h4 h5
    exact⟨h1,h2,Int.ofNat.inj h3,Int.ofNat.inj h4,h5⟩
theorem qRm{k:xA}{b c d:Nat}(hk:k.length=16)(hd:d<=4)(hc:c<2^d)(hb:qEu k d=b)(hne:b≠c):Sm.belowB k (kF c d) d=false:=by
 rw [<-Bool.not_eq_true]
 intro h
 rw [Sm.belowB_kv hk (qFc c d) xB,qLO xB hc,<-qKL hk xB,hb] at h
 exact hne h
theorem qI1{b c d:Nat}(hd:d<=4)(hc:c<2^d)(hne:b≠c): ∀(cl:List Chg) {l:List Sm.PR},qCD l->qL4 b d cl->l.length+cl.length<=100000->Sm.ndB (kvC l cl) (kF c d) d=Sm.ndB l (kF c d) d
 | [],_,_,_,_=>rfl
 |x::r,l,hf,h,hn=>by
  have hk:=h.k16 x (.head _)
  have hv:=h.val x (.head _)
  have h2:=Sm.putP_len l x.k x.v
  have h3:=h.len
  rw [jC] at hn h3
  show Sm.ndB (kvC (Sm.putP l x.k x.v) r) _ _=_
  rw [qI1 hd hc hne r (hf.put hk hv xB) ⟨xB,λy hy=>h.k16 y (.tail _ hy),λy hy=>h.bnd y (.tail _ hy),λy hy=>h.val y (.tail _ hy)⟩ xB]
  exact qIn hf hk (qFc c d) xB (qRm hk hd hc (h.bnd x (.head _)) hne) hv xB
theorem qI0{l:List Sm.PR}{cl:List Chg}(hf:qCD l)(h:qPw cl)(hl:l.length<=80000){d:Nat}(hd:d<=4){b c:Nat}(hc:c<2^d)(hb:b<2^d)(hne:b≠c):Sm.ndB (kvT l cl d (b+1)) (kF c d) d=Sm.ndB (kvT l cl d b) (kF c d) d:=by
 have h16:=(qTO hd).2
 have h2:=qFb h hl d (b:=b) xB
 have h3:=qFj cl d b
 have h4:=h.len
 exact qI1 hd hc hne _ (qDx hf h hl d xB) (h.band d b) xB
theorem qSE{l:List Sm.PR}{cl:List Chg}(hf:qCD l)(h:qPw cl)(hl:l.length<=80000){d:Nat}(hd:d<=4){c:Nat}(hc:c<2^d): ∀b,b<=c->Sm.ndB (kvT l cl d b) (kF c d) d=Sm.ndB l (kF c d) d
 |0,_=>rfl
 |b+1,hb=>by rw [qI0 hf h hl hd hc xB xB,qSE hf h hl hd hc b xB]
theorem qSF{l:List Sm.PR}{cl:List Chg}(hf:qCD l)(h:qPw cl)(hl:l.length<=80000){d:Nat}(hd:d<=4){c:Nat}: ∀n,c+1+n<=2^d->Sm.ndB (kvT l cl d (c+1+n)) (kF c d) d=Sm.ndB (kvT l cl d (c+1)) (kF c d) d
 |0,_=>rfl
 |n+1,hn=>by rw [<-z7,qI0 hf h hl hd xB xB xB,qSF hf h hl hd n xB]
theorem qTh{G:Hp}{l:List Sm.PR}{cl:List Chg}{d b:Nat}{t:TrD}(h:qM9 G l cl d b t)(hf:qCD l)(hcl:qPw cl)(hl:l.length<=80000)(hd:d<=4)(hb:b<2^d):t.old=(qAl l d).getD b []/\t.nw=(qAl (kvT l cl d (2^d)) d).getD b []:=by
 rw [qDZ _ _ hb,qDZ _ _ hb,h.eo,h.en]
 have:=qSF hf hcl hl hd (c:=b) (2^d-(b+1)) xB
 rw [show b+1+(2^d-(b+1))=2^d by omega] at this
 exact⟨qSE hf hcl hl hd hb b (jL _),this.symm⟩
theorem qQI(F:Hp)(hK:yf F){l:List Sm.PR}{cl:List Chg}{d b:Nat}{t:TrD}(h:qM9 F l cl d b t)(hf:qCD l)(hcl:qPw cl)(hl:l.length<=80000)(hd:d<=4)(hb:b<2^d):Cz prog 16 [.agg #[I (t.b:Nat),I (t.d:Nat),Str t.old,Str t.nw,.slice t.stA t.st.length t.stc]] F (I (0:Nat)):=by
 have h16:=(qTO hd).2
 have hc:qL4 b d (t.st.map qBA.chg):=by rw [h.chg];exact hcl.band d b
 have:=qQO F hK b d hd hb t.old t.nw t.stA t.st.length t.stc t.st h.sl (kvT l cl d b) (qDx hf hcl hl d xB) (qFb hcl hl d xB) hc h.ok h.bs h.eo
 rw [h.chg,yX (show t.nw=Sm.ndB (kvC (kvT l cl d b) (qDf cl d b)) (kF b d) d from h.en)] at this
 rw [h.eb,h.ed]
 exact this
theorem qYk{e:Nat}(he:e<=1000){par:xA}(hp:par.length=16){d:Nat}(hd:d<=4){kv kv2:List Sm.PR}(hf:qCD kv)(hf2:qCD kv2){a a2:Nat}(ha:a<=a2)(ha2:a2<=64){z w:Hd}(hz:z=⟨e,par,((d:Nat):Int),((a:Nat):Int),qAl kv d⟩)(hw:w=⟨e+1,z.dig,((d:Nat):Int),((a2:Nat):Int),qAl kv2 d⟩):z.good/\w.good/\z.next w=0:=by
 have h16:=(qTO hd).2
 subst hz hw
 have h1:=hdOk hf (ep:=e) xB hp hd (a:=a) xB
 have h2:=qSl h1
 have h3:=hdOk hf2 (ep:=e+1) xB h2 hd (a:=a2) xB
 refine⟨⟨by show e<_;omega,by show par.length<=_;omega,by show(qAl kv d).length<=_;rw [qBk];omega⟩,⟨by show e+1<_;omega,by show(Hd.dig _).length<=_;rw [h2];decide,by show(qAl kv2 d).length<=_;rw [qBk];omega⟩,?_⟩
 refine qWh (by rw [h3];decide) ?_ ?_ ?_
 . show¬(e+1=0\/e+1-1≠e);omega
 . exact λq=>q.elim (λq=>by rw [q] at h2;exact absurd h2 xC) (λq=>q O)
 . show¬(((d:Nat):Int)≠((d:Nat):Int)\/((a2:Nat):Int)<((a:Nat):Int));omega
theorem qHk(a b:List xA):qBU (a++b)=qBU a+qBU b:=by unfold qBU;rw [jN,yH]
theorem qYP(s:xA):qBU [s]=qAw s.length:=by unfold qBU;rw [jY,zg,zE,List.sum_nil,zc]
theorem qLq{s:JS}{x:Nt}(hx:s.ok x):qAw x.bts.length<=17:=by
  have hl:x.bts.length<=663:=by
    cases x with
    |u k v p=>
      have h1:=qGD k
      have h2:qBK v qEh qEA ((0:Nat):Int) p=0:=hx.2.1
      have h3:=qB4 h2
      have h4:=qFs (i:=0) (qKo OWN 0 (pmO (nmK k) v p)) (qKn (seed:=OWN) (h:=0) (i:=0) xC) (qFr _ _ _)
      have h5:=qFq OWN 0 0
      show(117::upB _ _ _).length<=663
      rw [jC,qHL,h3,h4,h5];omega
    |a n=>
      have h1:(qAL n).nm.length=2:=rfl
      have h2:(qAo (qAL n).op (qAL n).rt ((1:Nat):Int)).length<=33:=by
        unfold qAo
        split
        . have a1:(qAL n).op.length=16:=rfl
          have a2:(qAL n).rt.length=16:=rfl
          simp only [jA,jI];omega
        . exact jH _
      show(114::(tb _++qAo _ _ _)).length<=663
      rw [jC,jA,qDK];omega
  unfold qAw
  split<;>omega
theorem qJ0: ∀(ns:List Nt) {s:JS},s.oks ns->qBU (ns.map Nt.bts)<=17*ns.length
 | [],_,_=>jH _
 |x::r,s,h=>by
  have h1:=qLq h.1
  have h2:=qJ0 r h.2
  show qBU ([x.bts]++r.map Nt.bts)<=_
  rw [qHk,jC,qYP];omega
theorem qKH(n e:Nat):qAw (cmB n e).length=1:=by rw [qSr];rfl
theorem qLH: ∀(J:List (List Nt)) (e:Nat) {s:JS},s.okss J->qBU (qCC e J)<=17*qHm J+J.length
 | [],_,_,_=>jH _
 |a::r,e,s,h=>by
  have h1:=qJ0 a h.1
  have h2:=qLH r (e+1) h.2
  have h3:=qKH a.length e
  show qBU (a.map Nt.bts++([cmB a.length e]++qCC (e+1) r))<=_
  rw [qHk,qHk,jC,qYP]
  unfold qHm at h2⊢
  rw [jY,zE];omega
theorem JW.le{s:JS}{c c':Nat}(h:JW s c)(hc:c<=c'):JW s c':={h with ln:=λk=>jf (h.ln k) hc}
theorem jw0{n:Nat}(hn:n<=20):JW ⟨[],n⟩ 0:=⟨List.nodup_nil,λk e he=>(by cases he),λx hx=>(by cases hx),λx hx=>(by cases hx),λk=>jL _,hn⟩
theorem qaV{n first count:Nat}(h4:4<=n)(hn:n<=1000)(hf:first+count<=n):DkJ (Dk.new n) first count []:=by
 have hl:(Dk.new n).last.length=n:=jQ
 refine⟨Dk.new_ok h4 xB,O,O,O,O,xB,xB,xB,λs hs=>(by cases hs),jH _,λi hi=>?_,λi hi=>?_⟩
 . exact qQu n (first+i) xB
 . exact qQu n (first+count/2+i) xB
theorem dkJ{N md:Hp}{b:CbR}(hp:CbP N md b)(hc:CbC b){first count:Nat}(h2:2*(count/2)=count)(hz:b.size=count/2)(hf:b.f0=first):DkJ b.d first count b.R:=by
 have h1:=hc.ln
 have h3:=hc.e
 have h4:=hc.es
 subst hf
 rw [hz] at h1 h4
 refine⟨hp.ok,hp.on,hp.ar,hp.wt,hp.kp,hp.ln,h1,xB,hc.r9,xB,λi hi=>hc.one i (by rw [hz];exact hi),λi hi=>?_⟩
 have:=hc.two i (by rw [hz];exact hi)
 rw [hz] at this
 exact this
theorem glK(n:Nat)(h:n<=2):qZR (qEZ n):=by
  refine⟨by rw [qCn];omega,λx hx=>?_,λi hi=>?_⟩
  . obtain ⟨i,_,rfl⟩:=List.mem_map.1 hx
    exact⟨by show 2<=_;decide,by show 16<=_;decide,by show 16<=_;decide⟩
  . rw [qCn] at hi
    have e1:(qEZ n).take i=qEZ i:=by
      unfold qEZ
      rw [<-List.map_take,List.take_range,jq xB]
    have e2:aX (qEZ n) i=qAL i:=qOg hi
    rw [e1,e2]
    exact qKN xB
theorem qV4(F m G:Hp)(hK:yf F)(hA:yg F)(hT:qBl F)(hGF:Le G F)(x:SvR)(hS:Srv m G x)(hc:CbC x.bk){first count:Nat}(h8:8<=count)(hc2:count<=2000)(h2:2*(count/2)=count)(hz:x.bk.size=count/2)(hf:x.bk.f0=first){gd:Nat}(hgd:x.bk.gd=gd)(dp:Nat)(hdp:dp<=4)(n0:Nat)(hn2:n0<=2)(GA:yS)(gc:Nat)(hgl:Sl F 4 GA (qEZ n0).length gc (qBn (qEZ n0)))(JJ:List (List Nt))(hR:x.bk.R=qCC 1 JJ)(hokJ:(⟨[],n0⟩:JS).okss JJ)(hJ:JJ.length<=14)(hJn:qHm JJ<=100):
    Ct prog 9 [Ptr gd,I (first:Nat),I (count:Nat),I (dp:Nat),.slice GA (qEZ n0).length gc] [m,F] (λr:NjR=> .tuple #[Ptr r.x.gs,I (0:Nat)]) (NjP dp first count n0 JJ gd) (λr=> [r.m,F,r.G]):=λw0 w hw=>by
  subst hgd
  have hd:=dkJ hS.p.bk hc h2 hz hf
  rw [hR] at hd
  rw [hS.eq] at hw
  exact qMd F x.md hK hA hT x.bk.gd x.bk.d hS.p.bk.dk first count h8 hc2 dp hdp n0 hn2 GA gc (qEZ n0) O hgl (glK n0 hn2) JJ hd (jw0 xB) hokJ hJ hJn w0 w ((hw.splitUs hS.dj).pick [8,10] xC)
theorem qRc:okK 1 qAX:=qWx xC xC xC O
theorem qXW:(⟨[],1⟩:JS).ok (.u 0 1 qAX):=⟨xC,qRc,O⟩
def s1J:JS:=(⟨[],1⟩:JS).step (.u 0 1 qAX)
theorem qWR:qA2 s1J.l (nmK 0)= [eK 1 qAX]:=yX O
theorem qZi:JW s1J 1:=(jw0 (n:=1) xC).step qXW
theorem qZf{x:SvR}(h:SI 1 1 s1J s1J x):Sm.getP x.kvL (tN (nmK 0))=some (eK 1 qAX).val:=by
 rw [h.kv,qSZ qZi xC,qWR];rfl
attribute [local irreducible] Sha.tagged Wo.pub Wo.publicOf Wo.signs Wo.ends Wo.digs Wo.walk Wo.opn Mk.root Mk.path Mk.climb Xm.root sgC sgP qA6 qBK sgB qAv kvT
theorem qMN(F:Hp)(hK:yf F)(hA:yg F)(hT:qBl F):Cz prog 7 [] F (.bool true):=by
 have hz0:nmK 0= [97,108,105,99,101]:=rfl
 refine y7 func7 O ntmps7 O (λw0 hw0=>?_)
 refine yl λ_ C1=>yh O<|yi C1<|yl λ_ C2=>yp (qBx O O (λF' _=>qLG F' 200 xC xC)) O ?_
 rintro⟨g13,m13⟩ hb13
 try dsimp only at hb13
 refine yn 5 O<|yi C2<|yl λ_ C3=>yh O<|yp (qAZ O O (λF' hF=>qD3 F' 0 xN)) O λg18 _=>yp (qAE (l:= [.tmp 18]) (xs:= [[Str ((qAL 0).nm),Str ((qAL 0).op),Str ((qAL 0).rt),I ((qAL 0).ht)]]) O O O O qDl el34 O xC xC xD) O λg19 _=>yp (qAJ O O ent (vR 1 O (λF' hF=>qMd F' m13 (hK.mo hF) (hA.mono (Fa hF)) (hT.mono (Fa hF)) g13 (Dk.new 200) hb13 0 200 xC xC 1 xC 1 xC _ _ (qEZ 1) O ((qAj (q:=True) (xs:=qBn [qAL 0]) O (by intro x hx;simp only [qBn,List.map,j5,jr,or_false] at hx;rcases hx with rfl<;>rfl)).sl.mono (hF (blk g19 [Str ((qAL 0).nm),Str ((qAL 0).op),Str ((qAL 0).rt),I ((qAL 0).ht)] 34) xD)) (glK 1 xC) [] (qaV xC xC xC) (jw0 xC) yd xC xC))) O ?_
 rintro r20 hp20
 refine yn 5 O<|yi C3<|yl λ_ C4=>yp (qBx O O (λF' hF=>qNF F' (hK.mo hF) OWN 0 xC xC)) O ?_
 rintro⟨g24,m24⟩ h24
 try dsimp only at h24
 refine yn 5 O<|yi C4<|ym λ_ C5=>ym λ_ C6=>?_
 have hg0:qA2 (lbE r20.x.nxt) (nmK 0)= []:=by rw [hp20.si.nx];rfl
 refine yt<|yh O<|yj ((qAQ O O O).no xC) O<|yn 2 O<|yv ((qAQ O O O).no xC) O<|yn 3 O<|yv ((qAQ O O O).no xC) O<|yn 4 O<|vg (qBx O O (λF' hF=>qNN F' (hK.mo hF) g24 OWN 0 (h24.mono (Fa hF)) xC xC (nmK 0) xC 1 qAX qRc)) O ?_
 rintro⟨⟨A40,c40,m40⟩,⟨B40,d40,n40⟩⟩ ⟨h40,k40⟩
 refine vg (qAJ O O ent (vR 1 O (λF' hF=>qJb F' r20.m r20.G (hK.mo hF) (hA.mono (Fa hF)) (hT.mono (Fa hF)) (Fa hF) r20.x hp20.sv (nmK 0) xC (qEj xC) 1 qAX qRc A40 _ c40 (h40.sl.mono (Fa hF)) B40 _ d40 (k40.sl.mono (Fa hF)) (by rw [hp20.no];decide) (by rw [hg0];decide) (by rw [hg0];exact λe he=>by cases he) (by rw [hg0];rfl)))) O ?_
 rintro⟨ms41,y41⟩ hS41
 try dsimp only at hS41
 refine yv ((qAQ O O O).no xC) O<|yn 3 O<|vg (qAZ O O (λF' hF=>by have:=qNU F' (r20.x.upd (nmK 0) 1 qAX y41) (hS41.cells.mono (Fa hF));rw [show(r20.x.upd (nmK 0) 1 qAX y41).no.length=1 by show(r20.x.no++ [_]).length=1;rw [hp20.no];rfl] at this;exact this)) O λg46 _=>yv ((qAQ O O O).no xC) O<|yh O<|yi C6<|vC ?_
 refine yy C5<|ym λ_ C7=>?_
 have hrm:(r20.x.upd (nmK 0) 1 qAX y41).bk.e+qBU ((r20.x.upd (nmK 0) 1 qAX y41).no++ [cmB (r20.x.upd (nmK 0) 1 qAX y41).no.length (r20.x.upd (nmK 0) 1 qAX y41).hd.length])<=(r20.x.upd (nmK 0) 1 qAX y41).bk.size:=by
  obtain ⟨b1,b2,b3,_,_⟩:=hp20.bk
  have h17:=qLq qXW
  have hno:(r20.x.upd (nmK 0) 1 qAX y41).no= [Nt.bts (.u 0 1 qAX)]:=by show r20.x.no++ [_]=_;rw [hp20.no];rfl
  show r20.x.bk.e+_<=r20.x.bk.size
  rw [b1.e,b2,b3,hno,qDa,qKH,qYP,show qBU (qCC 1 [])=0 from rfl];omega
 refine yt<|yh O<|yp (qAJ O O ent (vR 1 O (λF' hF=>qQ7 F' ms41 r20.G (hK.mo hF) (Fa hF) (r20.x.upd (nmK 0) 1 qAX y41) hS41 (by show r20.x.tg.length<15;rw [hp20.si.tl];decide) hrm))) O ?_
 rintro⟨mp51,y51⟩ hp51
 try dsimp only at hp51
 refine yn 4 O<|yp (qAO O qYw O) O λg7 _=>vG (qAF (i:=9) (l:= [.int .u64 0,Str [],I 0,I 0,.slice none 0 0]) (vs:= [N64 ((r20.x.upd (nmK 0) 1 qAX y41).hd.length),Str ((qCp (r20.x.upd (nmK 0) 1 qAX y41).hdL).dig),I ((r20.x.upd (nmK 0) 1 qAX y41).dp:Nat),I ((r20.x.upd (nmK 0) 1 qAX y41).audN.length:Nat),.slice y51.1.nA (qAl (kvT (r20.x.upd (nmK 0) 1 qAX y41).kvL (r20.x.upd (nmK 0) 1 qAX y41).cl (r20.x.upd (nmK 0) 1 qAX y41).dp (2^(r20.x.upd (nmK 0) 1 qAX y41).dp)) (r20.x.upd (nmK 0) 1 qAX y41).dp).length y51.1.nc]) O O O O O qGV O O) O O λ_ _=>yn 2 O<|yi C7<|ym λ_ C8=>?_
 have hI1:=hS41.i
 have hsi1:SI 1 0 ⟨[],1⟩ s1J (r20.x.upd (nmK 0) 1 qAX y41):=hp20.si.upd (jw0 xC) qXW y41
 have hS3: ∀F3,Le r20.G F3->Le y51.1.G F3->Srv mp51 F3 ((r20.x.upd (nmK 0) 1 qAX y41).pub y51):=hp51.s
 have hsi2:SI 1 1 s1J s1J ((r20.x.upd (nmK 0) 1 qAX y41).pub y51):=hsi1.pub xC xC hI1 xC y51 hp51.pm
 have hget:=qZf hsi2
 have hnw:qA2 (lbE ((r20.x.upd (nmK 0) 1 qAX y41).pub y51).now) (nmK 0)= [eK 1 qAX]:=by rw [<-qLW qZi.un hsi2.nw.symm];exact qWR
 refine yt<|yh O<|yp (qBx O O (λF' hF=>qNW F' (hK.mo hF) ((r20.x.upd (nmK 0) 1 qAX y41).pub y51) (hS3 F' (Fa hF) (Fa hF)).i ((hS3 F' (Fa hF) (Fa hF)).cells.mono (Fa hF)) ((hS3 F' (Fa hF) (Fa hF)).tsl.mono (Fa hF)) (hS3 F' (Fa hF) (Fa hF)).tree (hS3 F' (Fa hF) (Fa hF)).p.nw (hS3 F' (Fa hF) (Fa hF)).p.nl (nmK 0) xC)) O ?_
 rintro r57 hr57
 have hro57:=hr57.ro
 rw [hnw] at hro57⊢
 refine yn 3 O<|yp (qAO O zeroValue89 O) O λg10 _=>vG (qAF (i:=12) (l:= [Str [],.slice none 0 0,.slice none 0 0,.bool false,Str [],Str []]) (vs:= [Str (nmK 0),.slice r57.A ([eK 1 qAX]:List En).length r57.c,.slice r57.bA (bsd ((r20.x.upd (nmK 0) 1 qAX y41).pub y51).kvL (Sha.tagged 11 [nmK 0]) 0 (r57.s-0)).length r57.bc,.bool (qBB ((r20.x.upd (nmK 0) 1 qAX y41).pub y51).kvL (Sha.tagged 11 [nmK 0]) r57.s),Str (qC0 ((r20.x.upd (nmK 0) 1 qAX y41).pub y51).kvL (Sha.tagged 11 [nmK 0]) r57.s),Str (qDL ((r20.x.upd (nmK 0) 1 qAX y41).pub y51).kvL (Sha.tagged 11 [nmK 0]) r57.s)]) O O O O O sizeOf89 O O) O O λ_ _=>yh O<|yi C8<|ym λ_ C9=>vQ [blk g7 [N64 ((r20.x.upd (nmK 0) 1 qAX y41).hd.length),Str ((qCp (r20.x.upd (nmK 0) 1 qAX y41).hdL).dig),I ((r20.x.upd (nmK 0) 1 qAX y41).dp:Nat),I ((r20.x.upd (nmK 0) 1 qAX y41).audN.length:Nat),.slice y51.1.nA (qAl (kvT (r20.x.upd (nmK 0) 1 qAX y41).kvL (r20.x.upd (nmK 0) 1 qAX y41).cl (r20.x.upd (nmK 0) 1 qAX y41).dp (2^(r20.x.upd (nmK 0) 1 qAX y41).dp)) (r20.x.upd (nmK 0) 1 qAX y41).dp).length y51.1.nc] 52,blk g10 [Str (nmK 0),.slice r57.A ([eK 1 qAX]:List En).length r57.c,.slice r57.bA (bsd ((r20.x.upd (nmK 0) 1 qAX y41).pub y51).kvL (Sha.tagged 11 [nmK 0]) 0 (r57.s-0)).length r57.bc,.bool (qBB ((r20.x.upd (nmK 0) 1 qAX y41).pub y51).kvL (Sha.tagged 11 [nmK 0]) r57.s),Str (qC0 ((r20.x.upd (nmK 0) 1 qAX y41).pub y51).kvL (Sha.tagged 11 [nmK 0]) r57.s),Str (qDL ((r20.x.upd (nmK 0) 1 qAX y41).pub y51).kvL (Sha.tagged 11 [nmK 0]) r57.s)] 89,r57.m,F] [] (.y 0 (.y 1 (.y 2 (.y 3 (.y 4 (.y 5 (.y 6 (.y 7 (.y 8 (.y 9 (.y 10 (.y 11 (.y 12 (.y 13 (.y 14 (.y 15 (.y 16 (.y 17 (.y 18 (.y 19 (.y 20 (.y 21 (.y 22 (.y 23 (.y 24 (.y 25 (.y 28 (.y 29 (.y 30 (.y 31 (.e 26 (.e 27 (.e 32 (.e 33 (.y 34 (.y 35 .nil)))))))))))))))))))))))))))))))))))) ye xF xD ?_
 refine yx ?_
 refine yo O ((qAR O O O).yes xC) O O<|yx ?_
 refine y9 O (qAT O O) O O<|y9 O ((qAR O O O).yes xC) O O<|vj ?_
 refine yx ?_
 refine y9 O (qAA O O qFk O qBV O) O O<|y9 O (qAD 0 O O O qBe O) O O<|y9 O ((qAR O O O).yes (by show((r20.x.hd.length:Nat):Int)=_;rw [hp20.si.hl];rfl)) O O<|vj ?_
 refine yx ?_
 refine y9 O (qAT O O) O O<|y9 O (qAN qTf O O) O O<|y9 O ((qAR O O O).yes (by rw [hp51.len];show((2^r20.x.dp:Nat):Int)=_;rw [hp20.si.ed];rfl)) O O<|vj ?_
 refine yx ?_
 refine y9 O (qAA O O qTe O sizeOf85 O) O O<|y9 O (qAD 1 O O O isAgg85 O) O O<|y9 O (qAN qGK O O) O O<|y9 O ((qAR O O O).yes (O)) O O<|vj ?_
 refine yx ?_
 refine y9 O (qAA O O qTe O qEa O) O O<|y9 O (qAb O O qHD qEa (m:=blk g10 [Str (nmK 0),.slice r57.A ([eK 1 qAX]:List En).length r57.c,.slice r57.bA (bsd ((r20.x.upd (nmK 0) 1 qAX y41).pub y51).kvL (Sha.tagged 11 [nmK 0]) 0 (r57.s-0)).length r57.bc,.bool (qBB ((r20.x.upd (nmK 0) 1 qAX y41).pub y51).kvL (Sha.tagged 11 [nmK 0]) r57.s),Str (qC0 ((r20.x.upd (nmK 0) 1 qAX y41).pub y51).kvL (Sha.tagged 11 [nmK 0]) r57.s),Str (qDL ((r20.x.upd (nmK 0) 1 qAX y41).pub y51).kvL (Sha.tagged 11 [nmK 0]) r57.s)] 89) xD (qAI.blk0.sub 2 4) O) O O<|y9 O (qAx 0 O O O qM2 qGV O) O O<|y9 O (qAA O O qTe O sizeOf85 O) O O<|y9 O (qAD 1 O O O isAgg85 O) O O<|y9 O (qAC O O O qGK qBF hro57.sl xE) O O<|y9 O (qAb O O qBz qBF (m:=r57.m) xD (hro57.sl.elem (qFh xE)) O) O O<|vn O (qAZ O O (λF' hF=>hp51.root (hK.mo hF) hI1 (hS3 F' (Fa hF) (Fa hF)) (Fa hF))) (Wan.is O O O O O) O O xD ?_
 intro g86 _
 refine vn O (qAZ O O (λF' hF=>qEm F' (hK.mo hF) (nmK 0) xC)) (Wan.is O O O O O) O O xD ?_
 intro g87 _
 refine vn O (qAZ O O (λF' hF=>qFg F' (hK.mo hF) 1 qEh qEA ((0:Nat):Int) qAX xC (by rw [Wo.opn_length];decide) (by rw [show qEA.length=16 from Mk.root_16 _ _];decide) xC)) (Wan.is O O O O O) O O xD ?_
 intro g92 _
 refine vn O (qAZ O O (λF' hF=>qSV F' (hK.mo hF) (x:=((r20.x.upd (nmK 0) 1 qAX y41).pub y51)) (hS3 F' (Fa hF) (Fa hF)).i.kf (s:=nmK 0) hr57 (Fa hF) (v:=(eK 1 qAX).val) hget)) (Wan.is O O O O O) O O xD ?_
 intro g93 _
 refine vj ?_
 refine vU ?_
 refine vM<|yq (yu C9 ?_)
 exact yr<|yw hw0 O () O yd [0] O xC
end Go.Proofs.YtmemgokiolfdoaaGreatDoor
namespace Go.Proofs.YtmemgokiolfdoaaGreatDoor
open Go Go.Fw Go.Proofs.Tryz
structure RgQ where
 m:Hp
 x:SvR
 N:Hp
theorem qXt(F m G:Hp)(hK:yf F)(hA:yg F)(hT:qBl F)(hGF:Le G F)(x:SvR)(hS:Srv m G x){n q:Nat}(han:x.audN=qEZ n)(h2:2<=n)(h20:n<20)(hq:q<=1)(hno:x.no.length<256):
    Ct prog 12 [Ptr x.gs,.agg #[Str (qAL (n-q)).nm,Str (qAL (n-q)).op,Str (qAL (n-q)).rt,I (qAL (n-q)).ht]] [m,F] (λ_:RgQ=> .tuple #[I (if q=1 then 0 else n:Nat),I (if q=1 then 19 else 0:Nat)]) (λy=> ∀G2,Le G G2->Le y.N G2->Srv y.m G2 y.x/\(q=1->y.x=x)/\(q=0-> ∃r,y.x=x.reg (qAL n) r)) (λy=> [y.m,F,y.N]):=λw0 w hw=>by
  by_cases h1:q=1
  . subst h1
    refine(qXu F m G hK hA hT hGF x hS _ _ _ _ (by show 2<=200;decide) (by show 16<=1000;decide) (by show 16<=1000;decide) 19 (by rw [han];exact qWC xB xB) xC w0 w hw).mono λv w' ⟨_,he,_,hst⟩=>?_
    exact⟨⟨m,x,λ_=>none⟩,he,λG2 g1 _=>⟨hS.mono g1,λ_=>rfl,λh=>absurd h xC⟩,hst.empty⟩
  . obtain rfl:q=0:=by omega
    refine(qQv F m G hK hA hT hGF x hS (qAL n).nm (qAL n).op (qAL n).rt (qAL n).ht (by show 2<=200;decide) (by show 16<=1000;decide) (by show 16<=1000;decide) (by rw [han];exact qKN h20) O hno w0 w hw).mono λv w' ⟨y,he,hs,hst⟩=>?_
    refine⟨⟨y.1,x.reg (qAL n) y.2,y.2.mR⟩,?_,λG2 g1 g2=>⟨hs G2 g1 g2,λh=>absurd h xC,λ_=>⟨y.2,O⟩⟩,hst⟩
    rw [he,han,qCn];rfl
abbrev J0(JJ:List (List Nt)):JS:=(⟨[],2⟩:JS).runs JJ
theorem qXf: ∀(W:List Nt) (s:JS),s.n<=(s.run W).n/\(s.run W).n<=s.n+W.length
 | [],s=>⟨jL _,jL _⟩
 |x::r,s=>by
  have h:=qXf r (s.step x)
  have e:s.run (x::r)=(s.step x).run r:=rfl
  have h1:s.n<=(s.step x).n/\(s.step x).n<=s.n+1:=by cases x with
   |u k v p=>exact⟨jL _,Nat.le_succ _⟩
   |a n=>exact⟨Nat.le_succ _,jL _⟩
  rw [e,jC];omega
theorem qWS: ∀(J:List (List Nt)) (s:JS),s.n<=(s.runs J).n/\(s.runs J).n<=s.n+qHm J
 | [],s=>⟨jL _,jL _⟩
 |a::r,s=>by
  have h:=qWS r (s.run a)
  have h1:=qXf a s
  have e:s.runs (a::r)=(s.run a).runs r:=rfl
  rw [e]
  unfold qHm at h⊢
  rw [jY,zE];omega
abbrev qai(s:JS):Prop:= ∀k,qA2 s.l k≠ []->En.hist (qA2 s.l k)=0
structure LwI (dp gd i:Nat) (ms G M:Hp) (x:SvR) (A1:yS) (c1:Nat) (l1:List MlD) (A2:yS) (c2:Nat) (l2:List MlD) (JJ:List (List Nt)) (W:List Nt):Prop where
 sv:Srv ms G x
 si:SI dp JJ.length (J0 JJ) ((J0 JJ).run W) x
 no:x.no=W.map Nt.bts
 bc:CbC x.bk
 bR:x.bk.R=qCC 1 JJ
 bz:x.bk.size=690/2
 bf:x.bk.f0=3
 bg:x.bk.gd=gd
 ok:(⟨[],2⟩:JS).okss JJ
 okW:(J0 JJ).oks W
 s1:Sl M 2 A1 l1.length c1 (qIO l1)
 s2:Sl M 2 A2 l2.length c2 (qIO l2)
 m1:MlA M l1
 m2:MlA M l2
 e1:mlE l1=(J0 JJ).l
 e2:mlE l2=((J0 JJ).run W).l
 bd:JJ.length+qHm JJ+W.length<=i
 h0:qai (J0 JJ)
 h1:qai ((J0 JJ).run W)
namespace LwI
variable{dp gd i:Nat}{ms G M:Hp}{x:SvR}{A1 A2:yS}{c1 c2:Nat}{l1 l2:List MlD}{JJ:List (List Nt)}{W:List Nt}
theorem jw(h:LwI dp gd i ms G M x A1 c1 l1 A2 c2 l2 JJ W)(hi:i<=14):JW (J0 JJ) 14/\JW ((J0 JJ).run W) 14:=by
 have h0:=JW.runs JJ (jw0 (n:=2) xC) h.ok
 have h1:=JW.run W h0 h.okW
 have hb:=h.bd
 exact⟨h0.le xB,h1.le xB⟩
theorem ns(h:LwI dp gd i ms G M x A1 c1 l1 A2 c2 l2 JJ W):(J0 JJ).n<=((J0 JJ).run W).n/\2<=(J0 JJ).n/\((J0 JJ).run W).n<=2+i:=by
 have h0:2<=(J0 JJ).n/\(J0 JJ).n<=2+qHm JJ:=qWS JJ (⟨[],2⟩:JS)
 have h1:=qXf W (J0 JJ)
 have hb:=h.bd
 exact⟨h1.1,h0.1,xB⟩
theorem le(h:LwI dp gd i ms G M x A1 c1 l1 A2 c2 l2 JJ W):LwI dp gd (i+1) ms G M x A1 c1 l1 A2 c2 l2 JJ W:={h with bd:=Nat.le_succ_of_le h.bd}
theorem noL(h:LwI dp gd i ms G M x A1 c1 l1 A2 c2 l2 JJ W):x.no.length=W.length:=by rw [h.no,jJ]
theorem own{s:JS}{c:Nat}(h:JW s c){l:List MlD}(he:mlE l=s.l)(k:xA):qGU (mlG l k).es/\(mlG l k).es.length<=c:=by
 rw [qJ3,he];exact⟨h.ow k,h.ln k⟩
theorem qaA{s:JS}{c:Nat}(h:JW s c){l:List MlD}(he:mlE l=s.l): ∀y∈l,y.es.length<=c:=λy hy=>by
 have hu:qKO (mlE l):=he▸h.un
 have hm:(y.nm,y.es)∈mlE l:=List.mem_map.2 ⟨y,hy,O⟩
 have:=h.ln y.nm
 rw [<-he,qG3 hu hm] at this
 exact this
theorem qNm: ∀(l:LE) (k:xA) (v:List En),(qFD l k v).length<=l.length+1
  | [],_,_=>jL _
  |x::r,k,v=>by
    rw [qFD]
    split
    . exact Nat.le_succ _
    . have:=qNm r k v
      rw [jC,jC];omega
theorem qXg: ∀(W:List Nt) (s:JS),(s.run W).l.length<=s.l.length+W.length
 | [],s=>jL _
 |x::r,s=>by
  have h:=qXg r (s.step x)
  have h1:(s.step x).l.length<=s.l.length+1:=by cases x with
   |u k v p=>exact qNm _ _ _
   |a n=>exact Nat.le_succ _
  show((s.step x).run r).l.length<=_
  rw [jC];omega
theorem qWT: ∀(J:List (List Nt)) (s:JS),(s.runs J).l.length<=s.l.length+qHm J
 | [],s=>jL _
 |a::r,s=>by
  have h:=qWT r (s.run a)
  have h1:=qXg a s
  show((s.run a).runs r).l.length<=_
  unfold qHm at h⊢
  rw [jY,zE];omega
theorem ll(h:LwI dp gd i ms G M x A1 c1 l1 A2 c2 l2 JJ W):l1.length<=i/\l2.length<=i:=by
 have h0:(J0 JJ).l.length<=0+qHm JJ:=qWT JJ (⟨[],2⟩:JS)
 have h1:=qXg W (J0 JJ)
 have hb:=h.bd
 have e1:l1.length=(J0 JJ).l.length:=by rw [<-h.e1];exact(jJ _).symm
 have e2:l2.length=((J0 JJ).run W).l.length:=by rw [<-h.e2];exact(jJ _).symm
 omega
theorem hdl(h:LwI dp gd i ms G M x A1 c1 l1 A2 c2 l2 JJ W):x.hd.length=JJ.length+1:=h.si.hl
theorem room(h:LwI dp gd i ms G M x A1 c1 l1 A2 c2 l2 JJ W)(hi:i<14):x.tg.length<15/\x.bk.e+qBU (x.no++ [cmB x.no.length x.hd.length])<=x.bk.size:=by
 have hb:=h.bd
 have h1:=qLH JJ 1 h.ok
 have h2:=qJ0 W h.okW
 have h3:=qKH x.no.length x.hd.length
 have h4:=h.si.tl
 refine⟨xB,?_⟩
 rw [h.bz,h.bc.e,h.bR,qDa,h3,h.no];omega
theorem sub(h:LwI dp gd i ms G M x A1 c1 l1 A2 c2 l2 JJ W)(hi:i<14){k:Nat}(hk:k<4){v:Nat}{p:xA}{b3:Bool}(hE:okK v p){w:Nat}(hw9:w=W.length){y:PlR}(hy:PlP G M x l2 k v p b3 w y): ∃W',LwI dp gd (i+1) y.m G y.M y.x A1 c1 l1 y.A y.c y.l JJ W'/\((J0 JJ).run W').n=((J0 JJ).run W).n/\y.w=W'.length/\y.x.gs=x.gs:=by
  have hb:=h.bd
  by_cases hz:wJ k (mlG l2 (nmK k)).es v p b3=0
  . obtain ⟨⟨z,hx⟩,hl,hw⟩:=hy.ys hz
    obtain ⟨hk3,hj,_⟩:=wJ_0 hk hz
    have hok:((J0 JJ).run W).ok (.u k v p):=⟨hk3,hE,by rw [<-h.e2,<-qJ3];exact hj⟩
    have hrun:=JS.run_snoc (J0 JJ) W (.u k v p)
    have hjw:=(h.jw xB).2
    have hsv:=hy.sv
    rw [hx] at hsv⊢
    refine⟨W++ [.u k v p],{sv:=hsv,si:=?_,no:=?_,bc:=h.bc,bR:=h.bR,bz:=h.bz,bf:=h.bf,bg:=h.bg,ok:=h.ok,okW:=JS.oks_snoc W _ h.okW hok,s1:=h.s1.mono hy.le,s2:=hy.sl,m1:=h.m1.mono hy.le,m2:=hy.ma,e1:=h.e1,e2:=?_,bd:=?_,h0:=h.h0,h1:=?_},by rw [hrun];rfl,by rw [hw,hw9,jA];rfl,O⟩
    . rw [hrun];exact h.si.upd hjw hok z
    . show x.no++ [_]=_
      rw [h.no,jN];rfl
    . rw [hl,hrun,h.e2];rfl
    . rw [jA,jI];omega
    . rw [hrun];exact qOL hjw h.h1 hok
  . obtain ⟨hx,hl,hw⟩:=hy.no hz
    have hsv:=hy.sv
    have hsl:=hy.sl
    have hma:=hy.ma
    rw [hx] at hsv⊢
    rw [hl] at hsl hma⊢
    exact⟨W,{h.le with sv:=hsv,s1:=h.s1.mono hy.le,s2:=hsl,m1:=h.m1.mono hy.le,m2:=hma},O,hw.trans hw9,O⟩
theorem reg(h:LwI dp gd i ms G M x A1 c1 l1 A2 c2 l2 JJ W)(hi:i<14){n:Nat}(hn:n=((J0 JJ).run W).n){m' G':Hp}{r:RgS}(hS:Srv m' G' (x.reg (qAL n) r)):LwI dp gd (i+1) m' G' M (x.reg (qAL n) r) A1 c1 l1 A2 c2 l2 JJ (W++ [.a n])/\((J0 JJ).run (W++ [.a n])).n=n+1:=by
  have hb:=h.bd
  have hns:=h.ns
  have hok:((J0 JJ).run W).ok (.a n):=⟨hn,xB⟩
  have hrun:=JS.run_snoc (J0 JJ) W (.a n)
  have hjw:=(h.jw xB).2
  refine⟨{sv:=hS,si:=?_,no:=?_,bc:=h.bc,bR:=h.bR,bz:=h.bz,bf:=h.bf,bg:=h.bg,ok:=h.ok,okW:=JS.oks_snoc W _ h.okW hok,s1:=h.s1,s2:=h.s2,m1:=h.m1,m2:=h.m2,e1:=h.e1,e2:=?_,bd:=?_,h0:=h.h0,h1:=?_},by rw [hrun,hn];rfl⟩
  . rw [hrun];exact h.si.reg hjw hok r
  . show x.no++ [_]=_
    rw [h.no,jN];rfl
  . rw [hrun,h.e2];rfl
  . rw [jA,jI];omega
  . rw [hrun];exact qOL hjw h.h1 hok
theorem reg1(h:LwI dp gd i ms G M x A1 c1 l1 A2 c2 l2 JJ W){m' G':Hp}{y:SvR}(hS:Srv m' G' y)(e:y=x):LwI dp gd (i+1) m' G' M x A1 c1 l1 A2 c2 l2 JJ W:={h.le with sv:=e▸hS}
theorem pub(h:LwI dp gd i ms G M x A1 c1 l1 A2 c2 l2 JJ W)(hi:i<14)(hd:dp<=4){r:StR×WrR}{m' G2 G3:Hp}(hp:PbP m' G G2 x r)(g1:Le G G3)(g2:Le G2 G3):LwI dp gd (i+1) m' G3 M (x.pub r) A2 c2 l2 A2 c2 l2 (JJ++ [W]) []:=by
  have hb:=h.bd
  have hns:=h.ns
  have e0:J0 (JJ++ [W])=(J0 JJ).run W:=JS.runs_snoc _ _ _
  have hl:qHm (JJ++ [W])=qHm JJ+W.length:=by unfold qHm;rw [jN,yH];rfl
  have hlen:(JJ++ [W]).length=JJ.length+1:=by rw [jA];rfl
  have hsi:=h.si.pub xB hd h.sv.i xB r hp.pm
  refine{sv:=hp.s G3 g1 g2,si:=?_,no:=rfl,bc:=hp.bk.ind CbC (λa b s hn hc=>hc.put hn) h.bc,bR:=?_,bz:=hp.bk.sz.trans h.bz,bf:=hp.bk.f0.trans h.bf,bg:=hp.bk.gd.trans h.bg,ok:=JS.okss_snoc JJ _ h.ok h.okW,okW:=trivial,s1:=h.s2,s2:=h.s2,m1:=h.m2,m2:=h.m2,e1:=?_,e2:=?_,bd:=?_,h0:=?_,h1:=?_}
  . rw [e0,hlen];exact hsi
  . show r.2.x.R=_
    rw [hp.bk.R,h.bR,qF6,h.no,jJ,h.hdl,yO 1]
  . rw [e0];exact h.e2
  . rw [e0];exact h.e2
  . rw [hl,hlen,jG];omega
  . rw [e0];exact h.h1
  . rw [e0];exact h.h1
theorem next(h:LwI dp gd i ms G M x A1 c1 l1 A2 c2 l2 JJ W)(hi:i<14)(hd:dp<=4)(A:yS)(c:Nat):(qCp (x.hd.getD JJ.length qBE)).good/\(qCp (adH (qCp x.hdL).dig x.dp x.audN.length x.hd (kvT x.kvL x.cl x.dp (2^x.dp)) A c)).good/\(qCp (x.hd.getD JJ.length qBE)).next (qCp (adH (qCp x.hdL).dig x.dp x.audN.length x.hd (kvT x.kvL x.cl x.dp (2^x.dp)) A c))=0:=by
 have hb:=h.bd
 have hns:=h.ns
 have hI:=h.sv.i
 have h16:=(qTO hI.dp).2
 have hkl:=hI.kl
 have ht1:=hI.t1
 obtain ⟨par,hp,hz⟩:=h.si.hd
 have e0:x.hd.getD JJ.length qBE=x.hdL:=(hdJ h.si).1
 rw [e0]
 refine qYk (e:=JJ.length) xB hp hd hI.kf (qDx hI.kf hI.cl xB x.dp (b:=2^x.dp) h16) hns.1 xB hz ?_
 unfold qCp adH
 dsimp only
 rw [h.hdl,h.si.an,qCn,h.si.ed]
theorem agr(h:LwI dp gd i ms G M x A1 c1 l1 A2 c2 l2 JJ W)(hi:i<=14){hn:Nat}(hn1:hn=(J0 JJ).n):JW ⟨mlE l1,hn⟩ 14/\SI dp JJ.length ⟨mlE l1,hn⟩ ((J0 JJ).run W) x/\ ∀k,qA2 (mlE l1) k≠ []->En.hist (qA2 (mlE l1) k)=0:=by
 have e:(⟨mlE l1,hn⟩:JS)=J0 JJ:=by rw [h.e1,hn1]
 rw [e,h.e1]
 exact⟨(h.jw hi).1,h.si,h.h0⟩
structure SubW (x:SvR) (l2:List MlD):Prop where
 hn:l2.length<=1000
 hun:qKO (mlE l2)
 hlb:mlE l2=lbE x.nxt
 hb: ∀y∈l2,y.es.length<=100
 hbg: ∀k,(mlG l2 k).es.length<=100
 how: ∀k,qGU (mlG l2 k).es
 hno:x.no.length<256
theorem subW(h:LwI dp gd i ms G M x A1 c1 l1 A2 c2 l2 JJ W)(hi:i<=14):SubW x l2:=by
 have hb:=h.bd
 have hl:=h.ll
 have hj:=(h.jw hi).2
 exact⟨xB,by rw [h.e2];exact hj.un,by rw [h.e2,h.si.nx],λy hy=>jf (qaA hj h.e2 y hy) xC,λk=>jf (own hj h.e2 k).2 xC,λk=>(own hj h.e2 k).1,by rw [h.noL];omega⟩
theorem anew(h:LwI dp gd i ms G M x A1 c1 l1 A2 c2 l2 JJ W){r:NjR}(hr:NjP dp 3 690 2 JJ gd r):LwI dp gd (i+1) r.m r.G M r.x A1 c1 l1 A1 c1 l1 JJ []:=by
 have hb:=h.bd
 obtain ⟨b1,b2,b3,b4,b5⟩:=hr.bk
 exact{sv:=hr.sv,si:=hr.si,no:=hr.no,bc:=b1,bR:=b2,bz:=b3,bf:=b4,bg:=b5,ok:=h.ok,okW:=trivial,s1:=h.s1,s2:=h.s1,m1:=h.m1,m2:=h.m1,e1:=h.e1,e2:=h.e1,bd:=by rw [jG];omega,h0:=h.h0,h1:=h.h0}
theorem init{M:Hp}{r:NjR}(hr:NjP dp 3 690 2 [] gd r):LwI dp gd 0 r.m r.G M r.x none 0 [] none 0 [] [] []:=by
 obtain ⟨b1,b2,b3,b4,b5⟩:=hr.bk
 exact{sv:=hr.sv,si:=hr.si,no:=hr.no,bc:=b1,bR:=b2,bz:=b3,bf:=b4,bg:=b5,ok:=trivial,okW:=trivial,s1:=Sl.nil,s2:=Sl.nil,m1:=(λy hy=>by cases hy),m2:=(λy hy=>by cases hy),e1:=rfl,e2:=rfl,bd:=jL _,h0:=(λk hk=>absurd O hk),h1:=(λk hk=>absurd O hk)}
end LwI
end Go.Proofs.YtmemgokiolfdoaaGreatDoor
namespace Go.Proofs.YtmemgokiolfdoaaGreatDoor
open Go Go.Fw Go.Proofs.Tryz
theorem qSs(F:Hp)(A:yS)(n c:Nat)(l:List RhD)(hs:Sl F 5 A n c (qGr l))(hnb:n<=1000000):Ct prog 65 [.slice A n c] [F] (λx:yS×Nat×Hp=> .slice x.1 (l).length x.2.1) (λx=>Row x.2.2 52 5 x.1 (l).length x.2.1 (qGr l)) (λx=> [F,x.2.2]):=by
 have hkn:l.length=n:=by have:=hs.1;simpa [qGr] using this
 refine y7 func65 O ntmps65 O (λw0 hw0=>?_)
 refine yl λ_ C1=>yh O<|yi C1 ?_
 refine ym λ_ C2=>yl λ_ C3=>yh O<|yj ((qFT qKR O O O).as (v':= .bool (decide (A.isNone=true))) (yY Value.bool (by cases A<;>rfl))) O<|yi C3 ?_
 refine y1 O (λh4=>?_) (λh4=>?_)
 .
  refine yl λ_ C4=>yh O<|yi C4 ?_
  refine yr<|y5 ?_
  have hk0:l= []:=by
   refine jT ?_
   rcases yR n with h|h
   . omega
   . obtain ⟨g,o,rfl⟩:=hs.at h;cases h4
  exact ve [0,1] [F,(λ_=>none)] O xC<|yw hw0 O (none,0,(λ_=>none)) (by rw [hk0];rfl) (by rw [hk0];exact qBf.nil) [0,1] O xC
 refine yy C2 ?_
 refine yl λ_ C5=>yp (qBN O qKR el52) O λg5 _=>yh O<|yp (qAV (i:=1) (m2:=F) O O O qKR qKR el52 O (qAj (q:=True) (xs:=qGr ([])) O (by intro x hx;first|exact absurd hx (jr)|(rw [List.mem_singleton.1 hx];rfl))) xD (hs) (qYJ _) xB xB) O ?_
 rintro⟨A7,c7,m7⟩ h7
 try dsimp only at h7
 replace h7:Row m7 52 5 A7 (0+n) c7 (qGr (l)):=h7
 refine yh O<|yi C5 ?_
 refine yr ?_
 rw [show 0+n=l.length by omega] at h7
 exact yw hw0 O (A7,c7,m7) (by rw [<-hkn,jl]) h7 [0,1] O xC
theorem qNX(F:Hp)(x:SvR)(hc:qAI F ⟨x.gs,0,none⟩ [I (x.dp:Nat),Ptr x.gb,.bool false,.map (some x.nA),Ptr x.rA,.map (some x.nB),Ptr x.rB,.slice x.cA x.cl.length x.cc,.slice x.oA x.no.length x.oc,.slice x.tA x.tg.length x.tc,.slice x.hA x.hd.length x.hc])(hs:Sl F 5 x.hA x.hd.length x.hc (qGr x.hd))(hnb:x.hd.length<=1000000):Ct prog 13 [Ptr x.gs] [F] (λq:yS×Nat×Hp=> .slice q.1 x.hd.length q.2.1) (λq=>Row q.2.2 52 5 q.1 x.hd.length q.2.1 (qGr x.hd)) (λq=> [F,q.2.2]):=by
 refine y7 func13 O ntmps13 O (λw0 hw0=>?_)
 refine yl λ_ C1=>yh O<|yi C1 ?_
 refine ym λ_ C2=>yl λ_ C3=>yh O<|yj ((qBL qWN O O O).as (v':= .bool false) O) O<|yi C3 ?_
 refine vC ?_
 refine yy C2 ?_
 refine yl λ_ C4=>yh O<|yj (qAB O O) O<|vA 10 qBR qWM O O O O O<|yj (qAH O O isAgg47 (m:=F) xD (hc.at (i:=10) O)) O<|yp (qBx O O (λF' hF=>qSs F' x.hA x.hd.length x.hc x.hd (hs.mono (Fa hF)) xP)) O ?_
 rintro⟨A9,c9,m9⟩ h9
 try dsimp only at h9
 refine yh O<|yi C4 ?_
 exact yr<|yw hw0 O (A9,c9,m9) O h9 [0,1] O xC
theorem qWo{ls:List MlD}{y:MlD}(h:y∈ls):(y.nm,y.es)∈mlE ls:=List.mem_map.2 ⟨y,h,O⟩
theorem qGU.good{l:List En}(h:qGU l): ∀e∈l,e.good:=λe he=>by
 obtain ⟨v,p,rfl,hk⟩:=h e he
 obtain ⟨a1,a2,_,a4,a5,a6⟩:=qEV hk
 refine⟨?_,?_,?_,?_⟩
 . show v<_;omega
 . show qEh.length<=_;omega
 . show qEA.length<=_;omega
 . show p.length<=_;omega
theorem u8n{n:Nat}(h:n<=4):(UInt8.ofNat n).toNat=n:=by rw [jm];omega
theorem u8s{n:Nat}:UInt8.ofNat n+1=UInt8.ofNat (n+1):=by rw [UInt8.ofNat_add];rfl
attribute [local irreducible] Sha.tagged Wo.pub Wo.publicOf Wo.signs Wo.ends Wo.digs Wo.walk Wo.opn Mk.root Mk.path Mk.climb Xm.root sgC sgP qA6 qBK sgB normal qAv nmK mlG mlE vJ pJ p0J wJ jK b3J
theorem qM4(F m G:Hp)(hK:yf F)(hmF:Le m F)(hGF:Le G F)(x:SvR)(hS:Srv m G x)(gm:Nat)(nx:Value)(A:yS)(c:Nat)(ls:List MlD)(hs:Sl F 2 A ls.length c (qIO ls))(hn:ls.length<=100)(ha:MlA F ls)(has hw w ep:Nat)(hc:qAI F ⟨gm,0,none⟩ [.slice A (ls.length) c,nx,I (has:Nat),I (hw:Nat),I (w:Nat),I (ep:Nat)]){c2:Nat}(hW:JW ⟨mlE ls,hw⟩ c2)(hc2:c2<=100){dp:Nat}{s:JS}(hI:SI dp ep ⟨mlE ls,hw⟩ s x)(hep:ep<=14)(hw9:x.no.length=w)(hH: ∀k,qA2 (mlE ls) k≠ []->En.hist (qA2 (mlE ls) k)=0):Cz prog 18 [Ptr gm,Ptr x.gs] F (.bool true):=by
  have hhl:=hI.hl
  obtain ⟨hd1,par,hpr,f1,f2,f3,f4,f5⟩:=hdJ hI
  have hcl:x.hdL.cells= [N64 (ep),Str (par),I (dp:Nat),I (hw:Nat),.slice x.hdL.nsA ((qAl x.kvL dp).length) x.hdL.nsc]:=by unfold RhD.cells;rw [f1,f2,f3,f4,f5]
  have hd4:dp<=4:=hI.ed▸hS.i.dp
  have hh20:hw<=20:=hW.n20
  have hns:Sl F 1 x.hdL.nsA (qAl x.kvL dp).length x.hdL.nsc (qAG (qAl x.kvL dp)):=by
    have h:=hS.p.hn (x.hd.length-1) xB
    have h:Sl G 1 x.hdL.nsA x.hdL.ns.length x.hdL.nsc (qAG x.hdL.ns):=h
    rw [f5] at h
    exact h.mono hGF
  have hlo: ∀y∈ls,∃k,y.es=qA2 (mlE ls) k/\y.nm=k:=λy hy=>⟨y.nm,(qG3 (l:=mlE ls) hW.un (qWo hy)).symm,O⟩
  have hown: ∀i,qGU (ls.getD i qA4).es/\(ls.getD i qA4).es.length<=1000/\(ls.getD i qA4).nm.length<=200/\(i<ls.length->0<(ls.getD i qA4).es.length):=λi=>by
    rw [jB]
    by_cases h:i<ls.length
    . rw [jD h]
      have hm:=jU h
      obtain ⟨k,e1,e2⟩:=hlo _ hm
      have hm2:(ls[i].nm,ls[i].es)∈mlE ls:=qWo hm
      obtain ⟨j,_,e3⟩:=hW.nm _ hm2
      have e3:ls[i].nm=nmK j:=e3
      have h6:=qGD j
      have h7:(qA2 (mlE ls) k).length<=c2:=hW.ln k
      refine⟨?_,?_,?_,λ_=>hW.ne _ hm2⟩
      . show qGU ls[i].es;rw [e1];exact hW.ow k
      . show ls[i].es.length<=1000;rw [e1];omega
      . show ls[i].nm.length<=200;rw [e3];omega
    . rw [je xB]
      exact⟨λe he=>(by cases he),jH _,jH _,λh2=>absurd h2 h⟩
  refine y7 func18 O ntmps18 O (λw0 hw0=>?_)
  refine yl λ_ C1=>yh O<|yi C1<|yl λ_ C2=>yh O<|yp (qBx O O (λF' hF=>qNX F' x (hS.cells.mono (hmF.trans (Fa hF))) (hS.hsl.mono (hmF.trans (Fa hF))) xB)) O ?_
  rintro⟨A13,c13,m13⟩ h13
  try dsimp only at h13
  refine yh O<|yi C2<|ym λ_ C3=>ym λ_ C4=>vQ [m13,F] [] (.y 0 (.y 1 (.y 2 (.y 3 (.y 4 (.y 5 (.y 6 (.y 7 (.y 8 (.y 9 (.y 11 (.y 12 (.y 13 (.y 14 (.e 10 (.y 15 (.y 16 .nil))))))))))))))))) ye xF xD ?_
  refine yx ?_
  refine yo O (qAN qKR O O) O O<|yx ?_
  refine yo O (qAB O O) O O<|yo O (qAA O O qEc O z3_ O) O O<|yo O (qAH O O b3_ (m:=F) xD (hc.at (i:=5) O)) O O<|yo O ((qAM O O O xB).nat (ep+1) xB) O O<|yo O ((qAQ O O O).no (λh=>h xB)) O O<|yx ?_
  refine y9 O (qAT O O) O O<|y9 O (qAT O O) O O<|y9 O (qAB O O) O O<|y9 O (qAA O O qEc O z3_ O) O O<|y9 O (qAH O O b3_ (m:=F) xD (hc.at (i:=4) O)) O O<|vn O (qAZ O O (λF' hF=>qNU F' x (hS.cells.mono (hmF.trans (Fa hF))))) (Wan.is O O O O O) O O xD ?_
  intro g24 _
  refine y9 O ((qAQ O O O).no (λh=>h xB)) O O<|vd ?_
  refine vM<|yq (yu C4 ?_)
  refine vC ?_
  refine yy C3<|yl λ_ C5=>yn 2 O<|yj (qAB O O) O<|vA 5 qEc z3_ O O O O O<|yj (qAH O O b3_ (m:=F) xD (hc.at (i:=5) O)) O<|yj (qAC O O O qKR qGV h13.sl xB) O<|yj (qAb (vs:= [N64 (ep),Str (par),I (dp:Nat),I (hw:Nat),.slice x.hdL.nsA ((qAl x.kvL dp).length) x.hdL.nsc]) O O qM2 qGV (m:=m13) xD (by have:=h13.sl.elem (qGq (l:=x.hd) (k:=ep) xB);rw [hd1] at this;rw [<-hcl];exact this) O) O<|yp (qAO O qYw O) O λg6 _=>vG (qAF (i:=2) (l:= [.int .u64 0,Str [],I 0,I 0,.slice none 0 0]) (vs:= [N64 (ep),Str (par),I (dp:Nat),I (hw:Nat),.slice x.hdL.nsA ((qAl x.kvL dp).length) x.hdL.nsc]) O O O O O qGV O O) O O λ_ _=>yi C5<|ym λ_ C6=>ym λ_ C7=>vQ [blk g6 [N64 (ep),Str (par),I (dp:Nat),I (hw:Nat),.slice x.hdL.nsA ((qAl x.kvL dp).length) x.hdL.nsc] 52,F] [] (.y 0 (.y 2 (.e 1 (.e 3 (.e 4 (.y 5 (.y 6 (.y 7 (.y 8 (.y 9 (.y 10 (.y 11 (.y 12 (.y 13 (.y 14 (.y 15 (.y 16 (.y 17 (.y 18 (.y 19 (.y 20 (.y 21 (.y 22 (.y 23 (.y 24 .nil))))))))))))))))))))))))) ye xF xD ?_
  refine yo O (qAx 0 O O O qM2 qGV O) O O<|yx ?_
  refine vD O (qAZ O O (λF' hF=>qGp F' (hK.mo hF) hS.i.kf (d:=dp) hd4 ep par hw xB xB x.hdL.nsA x.hdL.nsc (hns.mono (Fa hF)))) O xD λg39 _=>vD O (qBx O O (λF' hF=>qPD F' (hK.mo hF) gm nx A c ls (hs.mono (Fa hF)) xB (ha.mono (Fa hF)) (λi=>(hown i).1) (λi h=>(hown i).2.2.2 h) (λi=>(hown i).2.2.1) (λi=>(hown i).2.1) has hw w ep (hc.mono (Fa hF)) xB)) O xD ?_
  rintro⟨A41,c41,m41⟩ h41
  try dsimp only at h41
  refine vD O (qAZ O O (λF' hF=>qUz F' hW hS.i.kf hI.kv (h41.sl.mono (Fa hF)) xB)) O xD λg42 _=>yo O ((qB9 O O O).no (λh=>h O)) O O<|yx ?_
  refine y9 O (qAA O O qFk O z3_ O) O O<|y9 O (qAD 0 O O O b3_ O) O O<|y9 O (qAT O O) O O<|y9 O (qAB O O) O O<|y9 O (qAA O O qEc O z3_ O) O O<|y9 O (qAH O O b3_ (m:=F) xD (hc.at (i:=3) O)) O O<|y9 O ((qAQ O O O).no (λh=>h O)) O O<|vd ?_
  refine yx ?_
  refine y9 O (qAA O O qFk O qBV O) O O<|y9 O (qAD 0 O O O qBe O) O O<|y9 O (qAT O O) O O<|y9 O (qAB O O) O O<|y9 O (qAA O O qEc O z3_ O) O O<|y9 O (qAH O O b3_ (m:=F) xD (hc.at (i:=5) O)) O O<|y9 O (qBj O O u3_ qDJ xB) O O<|y9 O ((qAQ O O O).no (λh=>h O)) O O<|vd ?_
  refine vM<|yq (yu C7 ?_)
  refine vC ?_
  refine yy C6<|ym λ_ C8=>yl λ_ C9=>yh O<|yi C9<|yz<|vN (X:=Nat) (λζ=> [(0,Ptr gm),(1,Ptr x.gs),(6,Ptr g6),(7,B8 ((UInt8.ofNat ζ)))]) (λζ=> [F,blk g6 [N64 (ep),Str (par),I (dp:Nat),I (hw:Nat),.slice x.hdL.nsA ((qAl x.kvL dp).length) x.hdL.nsc] 52]) (λζ=>ζ<=4) (λζ=>4-ζ) 0 (jH _) (Sub.of O) (λ_ h=>h.pick [0,2] xC) ?_
  rintro n hn5 I0 hI0
  have hun:=u8n hn5
  refine ym λ_ C10=>yl λ_ C11=>yh O<|yj (qAP O O O) O<|yi C11<|y1 O (λh64=>?_) (λh64=>?_)
  .
    refine yy C10<|ym λ_ C12=>yz<|ym λ_ C13=>?_
    have hn4:n<4:=by rw [hun] at h64;exact Int.ofNat_lt.1 h64
    have hnl:=qGD n
    have hnw:qA2 (lbE x.now) (nmK n)=(mlG ls (nmK n)).es:=by rw [qLW hS.i.uw hI.nw,qJ3]
    have hai:=ha.g (nmK n)
    have hol:qGU (mlG ls (nmK n)).es:=by rw [qJ3];exact hW.ow _
    have hle:(mlG ls (nmK n)).es.length<=100:=by rw [qJ3];exact jf (hW.ln _) hc2
    have hgt:=qSZ hW hn4
    rw [<-hI.kv,show qA2 (JS.l ⟨mlE ls,hw⟩) (nmK n)=(mlG ls (nmK n)).es by rw [qJ3]] at hgt
    refine yt<|yn 2 O<|yp (qAZ O O (λF' hF=>by have:=qDb F' (UInt8.ofNat n);rw [hun,jX hn4] at this;exact this)) O λg70 _=>yp (qBx O O (λF' hF=>qNW F' (hK.mo hF) x hS.i (hS.cells.mono (hmF.trans (Fa hF))) (hS.tsl.mono (hmF.trans (Fa hF))) (hS.tree.mono (hGF.trans (Fa hF))) (hS.p.nw.mono (hGF.trans (Fa hF))) (hS.p.nl.mono (hGF.trans (Fa hF))) (nmK n) xB)) O ?_
    rintro r71 hr71
    have hro71:=hr71.ro
    rw [hnw] at hro71⊢
    refine yn 3 O<|yp (qAO O zeroValue89 O) O λg8 _=>vG (qAF (i:=4) (l:= [Str [],.slice none 0 0,.slice none 0 0,.bool false,Str [],Str []]) (vs:= [Str (nmK n),.slice r71.A ((mlG ls (nmK n)).es.length) r71.c,.slice r71.bA (bsd x.kvL (Sha.tagged 11 [nmK n]) 0 (r71.s-0)).length r71.bc,.bool (qBB x.kvL (Sha.tagged 11 [nmK n]) r71.s),Str (qC0 x.kvL (Sha.tagged 11 [nmK n]) r71.s),Str (qDL x.kvL (Sha.tagged 11 [nmK n]) r71.s)]) O O O O O sizeOf89 O O) O O λ_ _=>yh O<|yi C13<|ym λ_ C14=>vQ [F] [] (.y 0 (.y 1 (.y 2 (.y 3 (.y 4 (.e 5 (.e 6 (.y 7 .nil)))))))) ye xF xD ?_
    refine yx ?_
    refine yo O (qAB O O) O O<|yo O (qAA O O qEc O qND O) O O<|yo O (qAH O O isAgg40 (m:=F) xD (hc.at (i:=0) O)) O O<|yx ?_
    refine vD O (qAZ O O (λF' hF=>by have:=qDb F' (UInt8.ofNat n);rw [hun,jX hn4] at this;exact this)) O xD λg79 _=>vD O (qAZ O O (λF' hF=>qLb F' A ls.length c ls (hs.mono (Fa hF)) xB (nmK n))) O xD λg80 _=>vU ?_
    refine vM<|yq (yu C14 ?_)
    refine ym λ_ C15=>ym λ_ C16=>vQ [blk g8 [Str (nmK n),.slice r71.A ((mlG ls (nmK n)).es.length) r71.c,.slice r71.bA (bsd x.kvL (Sha.tagged 11 [nmK n]) 0 (r71.s-0)).length r71.bc,.bool (qBB x.kvL (Sha.tagged 11 [nmK n]) r71.s),Str (qC0 x.kvL (Sha.tagged 11 [nmK n]) r71.s),Str (qDL x.kvL (Sha.tagged 11 [nmK n]) r71.s)] 89,F] [] (.y 0 (.y 1 (.y 2 (.y 3 (.y 4 (.y 5 (.e 6 (.y 7 (.y 8 (.y 9 (.y 10 (.y 11 (.y 12 (.y 13 (.y 14 (.y 15 (.y 16 .nil))))))))))))))))) ye xF xD ?_
    refine yx ?_
    refine yo O ((qAQ O O O).no xC) O O<|yx ?_
    refine y9 O (qAA O O qTe O z9_ O) O O<|y9 O (qAD 0 O O O b9_ O) O O<|y9 O (qAT O O) O O<|vn O (qAZ O O (λF' hF=>by have:=qDb F' (UInt8.ofNat n);rw [hun,jX hn4] at this;exact this)) (Wan.is O O O O O) O O xD ?_
    intro g87 _
    refine y9 O ((qB9 O O O).no (λh=>h O)) O O<|vd ?_
    refine yx ?_
    refine y9 O (qAA O O qTe O sizeOf85 O) O O<|y9 O (qAD 0 O O O isAgg85 O) O O<|y9 O (qAN qGK O O) O O<|y9 O (qAT O O) O O<|y9 O (qAN qCX O O) O O<|y9 O ((qAQ O O O).no (λh=>h O)) O O<|vd ?_
    refine vM<|yq (yu C16 ?_)
    refine vC ?_
    refine yy C15<|vl (X:=Unit) (λζ=> [(0,Ptr gm),(1,Ptr x.gs),(6,Ptr g6),(7,B8 ((UInt8.ofNat n))),(8,Ptr g8),(10,.slice ((mlG ls (nmK n)).esA) ((mlG ls (nmK n)).es.length) ((mlG ls (nmK n)).esc)),(11,Str (tN (nmK n)))]) (λζ=> [F,blk g6 [N64 (ep),Str (par),I (dp:Nat),I (hw:Nat),.slice x.hdL.nsA ((qAl x.kvL dp).length) x.hdL.nsc] 52,r71.mb,r71.m,blk g8 [Str (nmK n),.slice r71.A ((mlG ls (nmK n)).es.length) r71.c,.slice r71.bA (bsd x.kvL (Sha.tagged 11 [nmK n]) 0 (r71.s-0)).length r71.bc,.bool (qBB x.kvL (Sha.tagged 11 [nmK n]) r71.s),Str (qC0 x.kvL (Sha.tagged 11 [nmK n]) r71.s),Str (qDL x.kvL (Sha.tagged 11 [nmK n]) r71.s)] 89]) (λζ=>True) (λ_ C17=>?_) ?_
    .
      exact yt<|yh O<|yp (qAZ O O (λF' hF=>by have:=qDb F' (UInt8.ofNat n);rw [hun,jX hn4] at this;exact this)) O λg99 _=>yp (qAZ O O (λF' hF=>qEm F' (hK.mo hF) (nmK n) xB)) O λg100 _=>yh O<|y8<|yq<|vY () C17 (yd) (Sub.of O) (λ_ h=>h)
    rintro _ _
    by_cases h0:(mlG ls (nmK n)).es.length=0
    .
      refine ym λ_ C18=>vQ [blk g8 [Str (nmK n),.slice r71.A ((mlG ls (nmK n)).es.length) r71.c,.slice r71.bA (bsd x.kvL (Sha.tagged 11 [nmK n]) 0 (r71.s-0)).length r71.bc,.bool (qBB x.kvL (Sha.tagged 11 [nmK n]) r71.s),Str (qC0 x.kvL (Sha.tagged 11 [nmK n]) r71.s),Str (qDL x.kvL (Sha.tagged 11 [nmK n]) r71.s)] 89,blk g6 [N64 (ep),Str (par),I (dp:Nat),I (hw:Nat),.slice x.hdL.nsA ((qAl x.kvL dp).length) x.hdL.nsc] 52,F] [] (.y 0 (.y 1 (.y 2 (.y 3 (.y 4 (.y 5 (.y 6 (.y 8 (.e 7 (.e 9 (.y 10 (.y 11 (.y 12 (.y 13 (.y 14 (.y 15 (.y 16 (.y 17 (.y 18 (.e 19 (.y 20 (.y 21 (.y 22 (.y 23 (.y 24 (.y 26 (.y 27 (.y 28 (.y 29 (.y 30 (.y 31 (.y 32 (.e 25 (.e 33 (.e 34 (.y 35 (.y 36 (.y 37 (.y 38 .nil))))))))))))))))))))))))))))))))))))))) ye xF xD ?_
      refine yx ?_
      refine yo O (qAN qCX O O) O O<|yo O ((qAR O O O).yes xB) O O<|yx ?_
      refine y9 O (qAA O O qTe O qEa O) O O<|y9 O (qAb O O qHD qEa (m:=blk g8 [Str (nmK n),.slice r71.A ((mlG ls (nmK n)).es.length) r71.c,.slice r71.bA (bsd x.kvL (Sha.tagged 11 [nmK n]) 0 (r71.s-0)).length r71.bc,.bool (qBB x.kvL (Sha.tagged 11 [nmK n]) r71.s),Str (qC0 x.kvL (Sha.tagged 11 [nmK n]) r71.s),Str (qDL x.kvL (Sha.tagged 11 [nmK n]) r71.s)] 89) xD (qAI.blk0.sub 2 4) O) O O<|y9 O (qAx 1 O O O qM2 qGV O) O O<|y9 O (qAT O O) O O<|vn O (qAZ O O (λF' hF=>qGp F' (hK.mo hF) hS.i.kf (d:=dp) hd4 ep par hw xB xB x.hdL.nsA x.hdL.nsc (hns.mono (Fa hF)))) (Wan.is O O O O O) O O xD ?_
      intro g108 _
      refine vn O (qAZ O O (λF' hF=>qSC F' (hK.mo hF) hS.i.kf (s:=nmK n) hr71 (Fa hF) (by rw [yX h0] at hgt;exact hgt))) (Wan.is O O O O O) O O xD ?_
      intro g110 _
      refine y9 O (qA5 O O) O O<|vj ?_
      refine yx ?_
      refine y9 O (qAT O O) O O<|y9 O (qAN qCX O O) O O<|y9 O ((qAs O O O).no xB) O O<|y9 O (qAT O O) O O<|vb ?_
      refine vb ?_
      refine wB O (Wan.is O O O O O) O O xD<|vb ?_
      refine vb ?_
      refine vS O (Wan.un O O O O) O O ?_
      refine vS O (Wan.un O O O O) O O ?_
      refine vS O (Wan.un O O O O) O O ?_
      refine vS O (Wan.un O O O O) O O ?_
      refine vS O (Wan.un O O O O) O O ?_
      refine vS O (Wan.un O O O O) O O ?_
      refine vS O (Wan.un O O O O) O O ?_
      refine vS O (Wan.un O O O O) O O ?_
      refine vS O (Wan.un O O O O) O O ?_
      refine vS O (Wan.un O O O O) O O ?_
      refine wB O (Wan.un O O O O) O O xD<|wB O (Wan.un O O O O) O O xD<|wB O (Wan.un O O O O) O O xD<|vS O (Wan.un O O O O) O O ?_
      refine vb ?_
      refine y9 O (qDO O O O) O O<|vd ?_
      refine vM<|yq (yu C18 ?_)
      refine vC ?_
      refine vP<|vB<|yq (yu C12 ?_)
      exact yt<|yh O<|yj (qRb (b:=1) O O O) O<|yh O<|y8<|yq<|vE (n+1) hI0 xB ⟨O,O,O,yY (λq=>some (B8 q)) u8s,yd⟩ (λ_ h=>h.pick [0,1] xC)
    have hhi:En.hist (mlG ls (nmK n)).es=0:=by rw [qJ3];rw [qJ3] at h0;exact hH _ (λe=>h0 (by rw [e];rfl))
    refine ym λ_ C19=>vQ [blk g8 [Str (nmK n),.slice r71.A ((mlG ls (nmK n)).es.length) r71.c,.slice r71.bA (bsd x.kvL (Sha.tagged 11 [nmK n]) 0 (r71.s-0)).length r71.bc,.bool (qBB x.kvL (Sha.tagged 11 [nmK n]) r71.s),Str (qC0 x.kvL (Sha.tagged 11 [nmK n]) r71.s),Str (qDL x.kvL (Sha.tagged 11 [nmK n]) r71.s)] 89,blk g6 [N64 (ep),Str (par),I (dp:Nat),I (hw:Nat),.slice x.hdL.nsA ((qAl x.kvL dp).length) x.hdL.nsc] 52,F] [] (.y 0 (.y 1 (.y 2 (.y 3 (.y 4 (.y 5 (.y 6 (.y 8 (.e 7 (.e 9 (.y 10 (.y 11 (.y 12 (.y 13 (.y 14 (.y 15 (.y 16 (.y 17 (.y 18 (.e 19 (.y 20 (.y 21 (.y 22 (.y 23 (.y 24 (.y 26 (.y 27 (.y 28 (.y 29 (.y 30 (.y 31 (.y 32 (.e 25 (.e 33 (.e 34 (.y 35 (.y 36 (.y 37 (.y 38 .nil))))))))))))))))))))))))))))))))))))))) ye xF xD ?_
    refine yx ?_
    refine yo O (qAN qCX O O) O O<|yo O ((qAR O O O).no xB) O O<|yx ?_
    iterate 4 refine vb ?_
    refine wB O (Wan.is O O O O O) O O xD<|wB O (Wan.is O O O O O) O O xD<|vb ?_
    refine vd ?_
    refine yx ?_
    refine y9 O (qAT O O) O O<|y9 O (qAN qCX O O) O O<|y9 O ((qAs O O O).yes xB) O O<|y9 O (qAT O O) O O<|y9 O (qAA O O qTe O sizeOf85 O) O O<|y9 O (qAD 0 O O O isAgg85 O) O O<|vn O (qAZ O O (λF' hF=>(by have:=qMt F' (hK.mo hF) (mlG ls (nmK n)).es hol.good r71.A _ r71.c (hro71.sl.mono (Fa hF)) xB;rw [hhi] at this;exact this))) (Wan.is O O O O O) O O xD ?_
    intro g120 _
    refine y9 O ((qAQ O O O).no (λh=>h O)) O O<|y9 O (qAT O O) O O<|y9 O (qAA O O qTe O qEa O) O O<|y9 O (qAb O O qHD qEa (m:=blk g8 [Str (nmK n),.slice r71.A ((mlG ls (nmK n)).es.length) r71.c,.slice r71.bA (bsd x.kvL (Sha.tagged 11 [nmK n]) 0 (r71.s-0)).length r71.bc,.bool (qBB x.kvL (Sha.tagged 11 [nmK n]) r71.s),Str (qC0 x.kvL (Sha.tagged 11 [nmK n]) r71.s),Str (qDL x.kvL (Sha.tagged 11 [nmK n]) r71.s)] 89) xD (qAI.blk0.sub 2 4) O) O O<|y9 O (qAx 1 O O O qM2 qGV O) O O<|y9 O (qAT O O) O O<|y9 O (qAT O O) O O<|y9 O (qAT O O) O O<|y9 O (qAN qCX O O) O O<|y9 O (((qAm O O O xB).as (v':=I ((mlG ls (nmK n)).es.length-1:Nat)) (yY I xB))) O O<|y9 O (qAC O O O qCX qED hai xB) O O<|y9 O (qAb O O qGc qED (m:=F) xD (hai.elem (qFh xB)) O) O O<|vn O (qAZ O O (λF' hF=>qGp F' (hK.mo hF) hS.i.kf (d:=dp) hd4 ep par hw xB xB x.hdL.nsA x.hdL.nsc (hns.mono (Fa hF)))) (Wan.is O O O O O) O O xD ?_
    intro g126 _
    refine vn O (qAZ O O (λF' hF=>qME F' hol)) (Wan.is O O O O O) O O xD ?_
    intro g134 _
    refine vn O (qAZ O O (λF' hF=>qSV F' (hK.mo hF) (x:=x) hS.i.kf (s:=nmK n) hr71 (Fa hF) (v:=(zL (mlG ls (nmK n)).es).val) (by rw [yW h0] at hgt;exact hgt))) (Wan.is O O O O O) O O xD ?_
    intro g135 _
    refine y9 O (qA5 O O) O O<|y9 O (qDO O O O) O O<|y9 O (qDN O O O) O O<|vd ?_
    refine vM<|yq (yu C19 ?_)
    refine vC ?_
    refine vP<|vB<|yq (yu C12 ?_)
    exact yt<|yh O<|yj (qRb (b:=1) O O O) O<|yh O<|y8<|yq<|vE (n+1) hI0 xB ⟨O,O,O,yY (λq=>some (B8 q)) u8s,yd⟩ (λ_ h=>h.pick [0,1] xC)
  refine vK<|y6<|y6<|vL ?_
  refine yq (yu C8 ?_)
  exact yl λ_ C20=>yh O<|yi C20<|yr<|yw hw0 O () O yd [0] O xC
end Go.Proofs.YtmemgokiolfdoaaGreatDoor