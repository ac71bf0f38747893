/- A part of the proof. -/
import Derived.Test.YtmemgokiolfdoaaGreatDoorTopMsG34
import Derived.Test.YtmemgokiolfdoaaGreatDoorTopMsG32
set_option maxRecDepth 100000
set_option maxHeartbeats 1000000
set_option linter.unusedSimpArgs false
set_option linter.unusedVariables false
namespace Go.Proofs.YtmemgokiolfdoaaGreatDoor
open Go Go.Fw Go.Proofs.Tryz
theorem el59:qCY prog 59 [.int .i64 0,.int .i64 0,Str [],Str [],.slice none 0 0] 72:=qCY.of xI O
def qCz(cl:List Chg)(d b:Nat):List Chg:=cl.filter λx=>decide (ofV x.k d=b)
def kvT(l:List Sm.PR)(cl:List Chg)(d:Nat):Nat→List Sm.PR
 |0=>l
 |b+1=>kvC (kvT l cl d b) (qCz cl d b)
structure qYd (cl:List Chg):Prop where
 len:cl.length≤256
 k16: ∀x∈cl,x.k.length=16
 val: ∀x∈cl,x.v.length≤1000000
theorem qYd.band{cl:List Chg}(h:qYd cl)(d b:Nat):qS3 b d (qCz cl d b) where
 len:=jg (zZ _ _) h.len
 k16:=λx hx=>h.k16 x (List.mem_filter.1 hx).1
 bnd:=λx hx=>by
  have h1:=of_decide_eq_true (List.mem_filter.1 hx).2
  unfold ofV at h1
  rwa [if_pos (h.k16 x (List.mem_filter.1 hx).1)] at h1
 val:=λx hx=>h.val x (List.mem_filter.1 hx).1
theorem qHf(cl:List Chg)(d b:Nat):(qCz cl d b).length≤cl.length:=zZ _ _
theorem qMY(l:List Sm.PR)(cl:List Chg)(d:Nat): ∀b,(kvT l cl d b).length≤l.length+b*cl.length
 |0=>by show l.length≤_;omega
 |b+1=>by
  have h1:=qMY l cl d b
  have h2:=qRj (kvT l cl d b) (qCz cl d b)
  have h3:=qHf cl d b
  show(kvC _ _).length≤_
  rw [Nat.succ_mul];omega
theorem qK3{l:List Sm.PR}{cl:List Chg}(h:qYd cl)(hl:l.length≤80000)(d:Nat){b:Nat}(hb:b≤16):(kvT l cl d b).length≤90000:=by
 have h1:=qMY l cl d b
 have h2:b*cl.length≤16*256:=Nat.mul_le_mul hb h.len
 omega
theorem qGQ{l:List Sm.PR}{cl:List Chg}(hf:qCS l)(h:qYd cl)(hl:l.length≤80000)(d:Nat): ∀{b:Nat},b≤16→qCS (kvT l cl d b)
 |0,_=>hf
 |b+1,hb=>by
  have h2:=qK3 h hl d (b:=b) xB
  have h3:=qHf cl d b
  have h4:=h.len
  exact qNr (qGQ hf h hl d (b:=b) xB) (h.band d b).k16 (h.band d b).val xB
theorem qIl{cl:List Chg}{i d b:Nat}(h:i<cl.length):qCz (cl.take (i+1)) d b=if ofV (cl.getD i qAv).k d=b then qCz (cl.take i) d b++ [cl.getD i qAv] else qCz (cl.take i) d b:=by
 unfold qCz
 rw [qEK cl i qAv h,jo]
 generalize cl.getD i qAv=x
 by_cases hc:ofV x.k d=b
 · rw [if_pos hc];simp [List.filter,hc]
 · rw [if_neg hc];simp [List.filter,hc]
structure qSs (G:Hp) (l:List Sm.PR) (cl:List Chg) (d b:Nat) (x:TrD):Prop where
 eb:x.b=b
 ed:x.d=d
 eo:x.old=Sm.ndB (kvT l cl d b) (kF b d) d
 en:x.nw=Sm.ndB (kvT l cl d (b+1)) (kF b d) d
 chg:x.st.map qBj.chg=qCz cl d b
 ok:qDg (kvT l cl d b) d x.st
 sl:Sl G 6 x.stA x.st.length x.stc (qKG x.st)
 bs:qPW G x.st
theorem qSs.mono{G G':Hp}{l:List Sm.PR}{cl:List Chg}{d b:Nat}{x:TrD}(h:qSs G l cl d b x)(hl:Le G G'):qSs G' l cl d b x:=⟨h.eb,h.ed,h.eo,h.en,h.chg,h.ok,h.sl.mono hl,h.bs.mono hl⟩
def qPZ(G:Hp)(l:List Sm.PR)(cl:List Chg)(d:Nat)(tl:List TrD):Prop:= ∀j,j<tl.length→qSs G l cl d j (tl.getD j noTrD)
theorem qPZ.nil(G:Hp)(l:List Sm.PR)(cl:List Chg)(d:Nat):qPZ G l cl d []:=λj h=>absurd h (jy j)
theorem qPZ.mono{G G':Hp}{l:List Sm.PR}{cl:List Chg}{d:Nat}{tl:List TrD}(h:qPZ G l cl d tl)(hl:Le G G'):qPZ G' l cl d tl:=λj hj=>(h j hj).mono hl
theorem qPZ.snoc{G:Hp}{l:List Sm.PR}{cl:List Chg}{d:Nat}{tl:List TrD}{x:TrD}(h:qPZ G l cl d tl)(hx:qSs G l cl d tl.length x):qPZ G l cl d (tl++ [x]):=λj hj=>by
  rw [jA,jH] at hj
  by_cases hlt:j<tl.length
  · rw [jB,jc hlt,←jB];exact h j hlt
  · obtain rfl:j=tl.length:=by omega
    rw [jB,ja (jJ _),jv];exact hx
def qA7(x:RhD):Hd:=⟨x.ep,x.par,x.dep,x.aud,x.ns⟩
structure StR where
 tA:Option Addr
 tc:Nat
 mT:Hp
 hA:Option Addr
 hc:Nat
 mH:Hp
 nA:Option Addr
 nc:Nat
 gu:Nat
 tl:List TrD
 At:Option Addr
 ct:Nat
 mo:Hp
 cg:Nat
 cr:Nat
 cl:List Lb
 G:Hp
structure StP (kv:List Sm.PR) (cl:List Chg) (nxt:List Lb) (au:List Aud) (par:xA) (dp rn:Nat) (tg:List Nat) (hd:List RhD) (x:StR):Prop where
 nr:Sl x.G 1 x.nA (qAo (kvT kv cl dp (2^dp)) dp).length x.nc (qAH (qAo (kvT kv cl dp (2^dp)) dp))
 rt:Row x.mT 130 1 x.tA (tg++ [x.gu]).length x.tc (qDn (tg++ [x.gu]))
 rh:Row x.mH 52 5 x.hA (hd++ [adH par dp rn hd (kvT kv cl dp (2^dp)) x.nA x.nc]).length x.hc (qDQ (hd++ [adH par dp rn hd (kvT kv cl dp (2^dp)) x.nA x.nc]))
 tu:qCl x.G x.gu (kvT kv cl dp (2^dp))
 len:x.tl.length=2^dp
 ro:Row x.mo 59 5 x.At x.tl.length x.ct (qJ9 x.tl)
 ok:qPZ x.G kv cl dp x.tl
 mp:Fw.MapAt x.G x.cg (lbV x.cl)
 lb:LbA x.G x.cl
 pm:(lbE x.cl).Perm (lbE nxt)
 au: ∃RA rn rc,qAG x.G ⟨x.cr,0,none⟩ [.slice RA rn rc]∧Sl x.G 4 RA rn rc (qBr au)
theorem qOa(F mT mH:Hp)(hK:qAG F ⟨3,0,none⟩ (Sha.K.map W32))(gs dp nA rA nB rB:Nat)(v1 v2:Value)(tA:Option Addr)(tc:Nat)(tg:List Nat)(hrt:Row mT 130 1 tA tg.length tc (qDn tg))(htg:tg.length≤100000)(hA:Option Addr)(hc:Nat)(hd:List RhD)(hrh:Row mH 52 5 hA hd.length hc (qDQ hd))(hhd:hd.length≤100000)(hdp:dp≤4)(cA:Option Addr)(cc:Nat)(cl:List Chg)(hsC:Sl F 2 cA cl.length cc (qDo cl))(hcl:qYd cl)(oA:Option Addr)(oc:Nat)(no:List xA)(nxt:List Lb)(hm:Fw.MapAt F nB (lbV nxt))(hl:LbA F nxt)(hun:qPQ (lbE nxt))(hln: ∀x∈nxt,x.l.length≤1000000)(RA:Option Addr)(rn rc:Nat)(au:List Aud)(hR:qAG F ⟨rB,0,none⟩ [.slice RA rn rc])(hRs:Sl F 4 RA rn rc (qBr au))(hrn:rn≤1000000)(ht0:0<tg.length)(hh0:0<hd.length)(kv:List Sm.PR)(hT:qCl F (tg.getD (tg.length-1) 0) kv)(hf:qCS kv)(hkl:kv.length≤80000)(hgd:(qA7 (hd.getD (hd.length-1) qAY)).good)(hns:Sl F 1 (hd.getD (hd.length-1) qAY).nsA (hd.getD (hd.length-1) qAY).ns.length (hd.getD (hd.length-1) qAY).nsc (qAH (hd.getD (hd.length-1) qAY).ns)):Ct prog 67 [Ptr gs] [blk gs [I (dp:Nat),v1,v2,.map (some nA),Ptr rA,.map (some nB),Ptr rB,.slice cA cl.length cc,.slice oA no.length oc,.slice tA tg.length tc,.slice hA hd.length hc] 129,mT,mH,F] (λx:StR=> .slice x.At x.tl.length x.ct) (StP kv cl nxt au ((qA7 (hd.getD (hd.length-1) qAY)).dig) dp rn tg hd) (λx=> [blk gs [I (dp:Nat),v1,v2,.map (some x.cg),Ptr x.cr,.map (some nB),Ptr rB,.slice none 0 0,.slice none 0 0,.slice x.tA (tg++ [x.gu]).length x.tc,.slice x.hA (hd++ [adH ((qA7 (hd.getD (hd.length-1) qAY)).dig) dp rn hd (kvT kv cl dp (2^dp)) x.nA x.nc]).length x.hc] 129,x.mT,x.mH,F,x.mo,x.G]):=by
 obtain ⟨hp1,hp16⟩:=qKc hdp
 have hcnt:cnt ((dp:Nat):Int)=2^dp:=qDC hdp
 have hcll:=hcl.len
 refine Ct.walk func67 O ntmps67 O (λw0 hw0=>?_)
 refine J.f λ_ j1=>J.b O<|J.c j1<|J.f λ_ j2=>J.b O<|J.g (qAB O O) O<|J.W 9 qBJ sizeOf127 O O O O O<|J.a6 0 isAgg127 O O O O O<|J.q (qAZ O O (λF' hF=>qM5 F' tA tg.length tc tg (hrt.sl.mono (Fa hF)) ht0 xB)) O λg18 _=>J.b O<|J.c j2<|J.f λ_ j3=>J.b O<|J.c j3<|J.k λ_ j4=>J.f λ_ j5=>J.b O<|J.g (qAB O O) O<|J.W 0 qBJ z3_ O O O O O<|J.a6 0 b3_ O O O O O<|J.q (qAZ O O (λF' hF=>by have:=qCP F' ((dp:Nat):Int);rw [hcnt] at this;exact this)) O λg23 _=>J.b O<|J.c j5<|J.T<|J.b5 (X:=Nat×Nat×List TrD×Option Addr×Nat×Hp×Hp) (λζ=> [(0,Ptr gs),(3,Ptr ζ.2.1),(4,.slice ζ.2.2.2.1 ζ.2.2.1.length ζ.2.2.2.2.1),(23,I (2^dp:Nat)),(24,I (ζ.1:Nat))]) (λζ=> [ζ.2.2.2.2.2.2,ζ.2.2.2.2.2.1,blk gs [I (dp:Nat),v1,v2,.map (some nA),Ptr rA,.map (some nB),Ptr rB,.slice cA cl.length cc,.slice oA no.length oc,.slice tA tg.length tc,.slice hA hd.length hc] 129,mT,mH,F]) (λζ=>ζ.1≤2^dp∧ζ.2.2.1.length=ζ.1∧Row ζ.2.2.2.2.2.1 59 5 ζ.2.2.2.1 ζ.2.2.1.length ζ.2.2.2.2.1 (qJ9 ζ.2.2.1)∧(∀F',Le F F'→Le ζ.2.2.2.2.2.2 F'→qCl F' ζ.2.1 (kvT kv cl dp ζ.1))∧(0<ζ.1→qCl ζ.2.2.2.2.2.2 ζ.2.1 (kvT kv cl dp ζ.1))∧qPZ ζ.2.2.2.2.2.2 kv cl dp ζ.2.2.1) (λζ=>2^dp-ζ.1) (0,tg.getD (tg.length-1) 0,[],none,0,(λ_=>none),(λ_=>none)) (⟨jE _,O,qBZ.nil,λF' h1 _=>hT.mono h1,λh=>absurd h (Nat.lt_irrefl 0),qPZ.nil _ _ _ _⟩) ⟨O,O,O,O,O,trivial⟩ (λ_ h=>h.empty.empty.pick [4,5,0,1,2,3] xC) ?_
 rintro⟨b,gu,tl,At,ct,mt,H⟩ ⟨hb,htl,hro,hu,hu1,hok⟩ I0 hI0
 dsimp only at hb htl hro hu hu1 hok⊢
 refine J.f λ_ j6=>J.g (qAS O O O) O<|J.c j6<|J.k λ_ j7=>J.Z O (λh25=>?_) (λh25=>?_)
 ·
  refine J.M j7<|J.k λ_ j8=>J.T<|J.f λ_ j9=>J.p 2 O<|J.c j9<|J.f λ_ j10=>J.b O<|J.c j10<|J.k λ_ j11=>J.f λ_ j12=>J.b O<|J.g (qAB O O) O<|J.W 7 qBJ sizeOf126 O O O O O<|J.a6 2 isAgg126 O O O O O<|J.g (qAO qGD O O) O<|J.b O<|J.c j12<|J.T<|J.b5 (X:=Nat×Option Addr×Nat×Hp×List Chg) (λζ=> [(0,Ptr gs),(3,Ptr gu),(4,.slice At tl.length ct),(5,I (b:Nat)),(6,.slice ζ.2.1 ζ.2.2.2.2.length ζ.2.2.1),(23,I (2^dp:Nat)),(24,I (b:Nat)),(30,.slice cA cl.length cc),(31,I (cl.length:Nat)),(32,I (ζ.1:Nat))]) (λζ=> [H,mt,blk gs [I (dp:Nat),v1,v2,.map (some nA),Ptr rA,.map (some nB),Ptr rB,.slice cA cl.length cc,.slice oA no.length oc,.slice tA tg.length tc,.slice hA hd.length hc] 129,mT,mH,F,ζ.2.2.2.1]) (λζ=>ζ.1≤cl.length∧Row ζ.2.2.2.1 155 2 ζ.2.1 ζ.2.2.2.2.length ζ.2.2.1 (qDo ζ.2.2.2.2)∧ζ.2.2.2.2=qCz (cl.take ζ.1) dp b) (λζ=>cl.length-ζ.1) (0,none,0,(λ_=>none),[]) (⟨jE _,qBZ.nil,O⟩) ⟨O,O,O,O,O,O,O,O,O,O,trivial⟩ (λ_ h=>h.empty.pick [0,1,2,3,4,5,6] xC) ?_
  rintro⟨i,A6,c6,m6,l6⟩ ⟨hi,hr6,hl6⟩ I2 hI2
  dsimp only at hi hr6 hl6⊢
  refine J.f λ_ j13=>J.g (qAS O O O) O<|J.c j13<|J.k λ_ j14=>J.Z O (λh33=>?_) (λh33=>?_)
  ·
   refine J.M j14<|J.k λ_ j15=>J.T<|J.k λ_ j16=>?_
   have hik:(cl.getD i qAv).k.length≤1000000:=by
    have:cl.getD i qAv∈cl:=by
     rw [jB,jC (show i<cl.length by omega)];exact jQ _
    rw [hcl.k16 _ this];decide
   refine J.H<|J.g (qAF O O O qGD qGB hsC xB) O<|J.g (qAP O O isAgg155 qGB (m:=F) xD (hsC.elem (qHe xB)) O) O<|J.q (qAJ O zeroValue155 O) O λg8 _=>J.a7 (qAC (i:=7) (l:= [Str [],Str []]) (vs:= [Str ((cl.getD i qAv).k),Str ((cl.getD i qAv).v)]) O O O O O qGB O O) O O λ_ _=>J.c j16<|J.k λ_ j17=>J.b1 [blk gs [I (dp:Nat),v1,v2,.map (some nA),Ptr rA,.map (some nB),Ptr rB,.slice cA cl.length cc,.slice oA no.length oc,.slice tA tg.length tc,.slice hA hd.length hc] 129,blk g8 [Str ((cl.getD i qAv).k),Str ((cl.getD i qAv).v)] 155] [] (.y 0 (.y 1 (.y 2 (.y 3 (.y 4 (.y 5 (.e 6 (.y 7 (.y 8 (.y 9 (.y 10 (.y 11 .nil)))))))))))) Tryz.wide xF xD ?_
   refine J.j O (qAA O O qL1 O z9_ O) O O<|J.j O (qAD 1 O O O b9_ O) O O<|J.L ?_
   refine J.j O (qAB O O) O O<|J.j O (qAA O O qBJ O z3_ O) O O<|J.j O (qAD 0 O O O b3_ O) O O<|J.a1 O (qAZ O O (λF' hF=>qWD F' ((cl.getD i qAv).k) (by first|omega|exact hsm _|exact jf O) dp xB)) O xD λg43 _=>J.L ?_
   refine J.c7 (I (ofV ((cl.getD i qAv).k) dp:Nat)) ?_
   refine J.c7 (I (ofE ((cl.getD i qAv).k):Nat)) ?_
   refine J.b7 ?_
   refine J.b7 ?_
   refine J.b0<|J.u (J.D j17 ?_)
   refine J.f λ_ j18=>J.p 2 O<|J.g (qAe O O O) O<|J.c j18<|J.Z O (λh48=>?_) (λh48=>?_)
   ·
    have hl6l:l6.length≤cl.length:=by rw [hl6];exact jg (qHf _ _ _) (by rw [jF];omega)
    refine J.H<|J.b O<|J.c0 7 isAgg155 qGB O O O O O<|J.q (qAE (l:= [.tmp 50]) (xs:= [[Str ((cl.getD i qAv).k),Str ((cl.getD i qAv).v)]]) O O O O qGD el155 O xC xC xD) O λg51 _=>J.q (qAX (i:=6) (m2:=blk g51 [Str ((cl.getD i qAv).k),Str ((cl.getD i qAv).v)] 155) O O O qGD qGD el155 O hr6 xD ((qAm (q:=True) (xs:=qDo [(cl.getD i qAv)]) O (by intro x hx;rw [List.mem_singleton.1 hx];rfl)).sl) O xB xB) O ?_
    rintro⟨A52,c52,m52⟩ h52
    try dsimp only at h52
    replace h52:Row m52 155 2 A52 (l6.length+1) c52 (qDo (l6++ [(cl.getD i qAv)])):=by rw [qIh];exact h52
    rw [show l6.length+1=(l6++ [(cl.getD i qAv)]).length by rw [jA];rfl] at h52⊢
    refine J.b O<|J.a4<|J.a2<|J.u (J.D j15 ?_)
    exact J.H<|J.g ((qAR O O O xB).nat (i+1) xB) O<|J.b O<|J.a4<|J.u<|J.a8 (i+1,A52,c52,m52,l6++ [cl.getD i qAv]) (λη (hη:_∧cl.length-η.1<cl.length-i)=>hI2 η hη.1 hη.2) ⟨⟨by dsimp only;omega,h52,by dsimp only;rw [qIl xB,if_pos xB,←hl6]⟩,by first|omega|(dsimp only;omega)⟩ ⟨O,O,O,O,O,O,O,O,O,O,trivial⟩ (λ_ h=>h.pick [0,1,2,3,4,5,6] xC)
   refine J.b2<|J.a2<|J.u (J.D j15 ?_)
   exact J.H<|J.g ((qAR O O O xB).nat (i+1) xB) O<|J.b O<|J.a4<|J.u<|J.a8 (i+1,A6,c6,m6,l6) (λη (hη:_∧cl.length-η.1<cl.length-i)=>hI2 η hη.1 hη.2) ⟨⟨by dsimp only;omega,hr6,by dsimp only;rw [qIl xB,if_neg xB];exact hl6⟩,by first|omega|(dsimp only;omega)⟩ ⟨O,O,O,O,O,O,O,O,O,O,trivial⟩ (λ_ h=>h.pick [0,1,2,3,4,5,6] xC)
  refine J.b3<|J.a0<|J.a0<|J.b4 ?_
  refine J.u (J.D j11 ?_)
  refine J.k λ_ j19=>?_
  obtain rfl:i=cl.length:=by omega
  rw [jm] at hl6
  subst hl6
  refine J.H<|J.p 3 O<|J.g (qAB O O) O<|J.W 0 qBJ z3_ O O O O O<|J.a6 2 b3_ O O O O O<|J.b O<|J.q (qBb O O (λF' hF=>qTL F' (hK.mo hF) gu (kvT kv cl dp b) (hu F' (Fa hF) (Fa hF)) (qGQ hf hcl hkl dp xB) (qK3 hcl hkl dp xB) b dp xB xB A6 (qCz cl dp b).length c6 (qCz cl dp b) (hr6.sl.mono (Fa hF)) (hcl.band dp b))) O ?_
  rintro r62 hp62
  refine J.p 4 O<|J.q (qAJ O zeroValue59 O) O λg11 _=>J.a7 (qAC (i:=10) (l:= [I 0,I 0,Str [],Str [],.slice none 0 0]) (vs:= [I (b:Nat),I (dp:Nat),Str (Sm.ndB (kvT kv cl dp b) (kF b dp) dp),Str (Sm.ndB (kvC (kvT kv cl dp b) (qCz cl dp b)) (kF b dp) dp),.slice r62.A r62.L.length r62.c]) O O O O O sizeOf59 O O) O O λ_ _=>J.p 2 O<|J.c j19 ?_
  obtain ⟨x,hx⟩: ∃x:TrD,x=⟨b,dp,Sm.ndB (kvT kv cl dp b) (kF b dp) dp,Sm.ndB (kvT kv cl dp (b+1)) (kF b dp) dp,r62.A,r62.c,r62.L⟩:=⟨_,rfl⟩
  refine J.H<|J.b O<|J.c0 10 isAgg59 sizeOf59 O O O O O<|J.q (qAE (l:= [.tmp 67]) (xs:= [[I (b:Nat),I (dp:Nat),Str (Sm.ndB (kvT kv cl dp b) (kF b dp) dp),Str (Sm.ndB (kvC (kvT kv cl dp b) (qCz cl dp b)) (kF b dp) dp),.slice r62.A r62.L.length r62.c]]) O O O O underlying53 el59 O xC xC xD) O λg68 _=>J.q (qAX (i:=1) (m2:=blk g68 [I (b:Nat),I (dp:Nat),Str (Sm.ndB (kvT kv cl dp b) (kF b dp) dp),Str (Sm.ndB (kvC (kvT kv cl dp b) (qCz cl dp b)) (kF b dp) dp),.slice r62.A r62.L.length r62.c] 59) O O O underlying53 underlying53 el59 O hro xD ((qAm (q:=True) (xs:=qJ9 [(⟨b,dp,Sm.ndB (kvT kv cl dp b) (kF b dp) dp,Sm.ndB (kvC (kvT kv cl dp b) (qCz cl dp b)) (kF b dp) dp,r62.A,r62.c,r62.L⟩:TrD)]) O (by intro x hx;rw [List.mem_singleton.1 hx];rfl)).sl) O xB xB) O ?_
  rintro⟨A69,c69,m69⟩ h69
  try dsimp only at h69
  replace h69:Row m69 59 5 A69 (tl.length+1) c69 (qJ9 (tl++ [x])):=by rw [qOU,hx];exact h69
  rw [show tl.length+1=(tl++ [x]).length by rw [jA];rfl] at h69⊢
  refine J.p 3 O<|J.c2 [0,7,8,9,1,2,3,4,5] [H,r62.mt,r62.ms,r62.M,m69,blk gs [I (dp:Nat),v1,v2,.map (some nA),Ptr rA,.map (some nB),Ptr rB,.slice cA cl.length cc,.slice oA no.length oc,.slice tA tg.length tc,.slice hA hd.length hc] 129,mT,mH,F] O xC<|J.d5 (λhj1=>?_)
  refine J.d5 (λhj2=>?_)
  refine J.d5 (λhj3=>?_)
  refine J.a4<|J.a2<|J.u (J.D j8 ?_)
  exact J.H<|J.g ((qAR O O O xB).nat (b+1) xB) O<|J.b O<|J.a4<|J.u<|J.a8 (b+1,r62.g,tl++ [x],A69,c69,m69,U [U [U [H,r62.mt],r62.ms],r62.M]) (λη (hη:_∧2^dp-η.1<2^dp-b)=>hI0 η hη.1 hη.2) ⟨⟨by dsimp only;omega,by dsimp only;rw [jA,htl];rfl,h69,λF' _ h2=>hp62.tree.at.mono ((qSx hj1).trans ((qHK hj2).trans ((qHK hj3).trans h2))),λ_=>hp62.tree.at.mono ((qSx hj1).trans ((qHK hj2).trans (qHK hj3))),(hok.mono ((qHK hj1).trans ((qHK hj2).trans (qHK hj3)))).snoc (by rw [htl,hx];exact⟨O,O,O,O,hp62.chg,hp62.ok,hp62.row.sl.mono ((qSx hj2).trans (qHK hj3)),hp62.bs.mono (qSx hj3)⟩)⟩,by first|omega|(dsimp only;omega)⟩ ⟨O,O,O,O,O,trivial⟩ (λ_ h=>h)
 refine J.b3<|J.a0<|J.a0<|J.b4 ?_
 refine J.u (J.D j4 ?_)
 refine J.k λ_ j20=>?_
 obtain rfl:b=2^dp:=by omega
 refine J.c2 [2,3,4,5,0,1] [blk gs [I (dp:Nat),v1,v2,.map (some nA),Ptr rA,.map (some nB),Ptr rB,.slice cA cl.length cc,.slice oA no.length oc,.slice tA tg.length tc,.slice hA hd.length hc] 129,mT,mH,F,H,mt] O xC<|J.H<|J.p 3 O<|J.q (qAZ O O (λF' hF=>qKH F' gs (I (dp:Nat)) v1 v2 (.map (some nA)) (Ptr rA) (.map (some nB)) (Ptr rB) (.slice cA cl.length cc) (.slice oA no.length oc) (.slice tA tg.length tc) hA hd.length hc hd (hrh.sl.mono (Fa hF)) xB xB (qAG.blk0.mono (hF (blk gs [I (dp:Nat),v1,v2,.map (some nA),Ptr rA,.map (some nB),Ptr rB,.slice cA cl.length cc,.slice oA no.length oc,.slice tA tg.length tc,.slice hA hd.length hc] 129) xD)))) O λg75 _=>J.q (qAZ O O (λF' hF=>qCo F' (hK.mo hF) (qA7 (hd.getD (hd.length-1) qAY)) (hd.getD (hd.length-1) qAY).nsA (hd.getD (hd.length-1) qAY).nsc hgd (hns.mono (Fa hF)))) O λg76 _=>J.q (qAK O O ent (Ct.useA [blk gs [I (dp:Nat),v1,v2,.map (some nA),Ptr rA,.map (some nB),Ptr rB,.slice cA cl.length cc,.slice oA no.length oc,.slice tA tg.length tc,.slice hA hd.length hc] 129,mT,mH] [F,H,mt] (A':=λx:AdR=> [blk gs [I (dp:Nat),v1,v2,.map (some nA),Ptr rA,.map (some nB),Ptr rB,.slice cA cl.length cc,.slice oA no.length oc,.slice x.tA (tg++ [gu]).length x.tc,.slice x.hA (hd++ [adH ((qA7 (hd.getD (hd.length-1) qAY)).dig) dp rn hd (kvT kv cl dp (2^dp)) x.nA x.nc]).length x.hc] 129,x.mT,x.mH]) (new:=λx=> [x.mN]) (λF' hF=>qQP F' mT mH (hK.mo hF) gs dp rB v1 v2 (.map (some nA)) (Ptr rA) (.map (some nB)) (.slice cA cl.length cc) (.slice oA no.length oc) tA tc tg hrt htg hA hc hd hrh hhd hdp gu (kvT kv cl dp (2^dp)) (hu F' (Fa hF) (Fa hF)) (qGQ hf hcl hkl dp xB) RA rn rc au (hR.mono (Fa hF)) (hRs.mono (Fa hF)) ((qA7 (hd.getD (hd.length-1) qAY)).dig)))) O ?_
 rintro r77 hp77
 refine J.c j20<|J.k λ_ j21=>?_
 have hu0:qPQ (lbE nxt):=hun
 refine J.H<|J.p 2 O<|J.g (qAB O O) O<|J.W 5 qBJ qCp O O O O O<|J.g (qAP O O isAgg124 qCp (m:=blk gs [I (dp:Nat),v1,v2,.map (some nA),Ptr rA,.map (some nB),Ptr rB,.slice cA cl.length cc,.slice oA no.length oc,.slice r77.tA (tg++ [gu]).length r77.tc,.slice r77.hA (hd++ [adH ((qA7 (hd.getD (hd.length-1) qAY)).dig) dp rn hd (kvT kv cl dp (2^dp)) r77.nA r77.nc]).length r77.hc] 129) xD (qAG.blk0.sub 5 2) O) O<|J.q (qBb O O (λF' hF=>qNB F' nB rB nxt (hm.mono (Fa hF)) (hl.mono (Fa hF)) hu0 hln RA rn rc au (hR.mono (Fa hF)) (hRs.mono (Fa hF)) hrn)) O ?_
 rintro r83 hp83
 refine J.g (qAB O O) O<|J.W 3 qBJ qCp O O O O O<|J.a7 (qAW (i:=0) O O O O O qCp O xD) O O λ_ _=>J.c j21<|J.f λ_ j22=>J.p 2 O<|J.g (qAB O O) O<|J.W 7 qBJ sizeOf126 O O O O O<|J.a7 (qAW (i:=0) (l:= [I (dp:Nat),v1,v2,.map (some r83.g),Ptr r83.r,.map (some nB),Ptr rB,.slice cA cl.length cc,.slice oA no.length oc,.slice r77.tA (tg++ [gu]).length r77.tc,.slice r77.hA (hd++ [adH ((qA7 (hd.getD (hd.length-1) qAY)).dig) dp rn hd (kvT kv cl dp (2^dp)) r77.nA r77.nc]).length r77.hc]) (vs:= [.slice none 0 0]) O O O O O sizeOf126 O xD) O O λ_ _=>J.g (qAB O O) O<|J.W 8 qBJ qB9 O O O O O<|J.a7 (qAW (i:=0) (l:= [I (dp:Nat),v1,v2,.map (some r83.g),Ptr r83.r,.map (some nB),Ptr rB,.slice none 0 0,.slice oA no.length oc,.slice r77.tA (tg++ [gu]).length r77.tc,.slice r77.hA (hd++ [adH ((qA7 (hd.getD (hd.length-1) qAY)).dig) dp rn hd (kvT kv cl dp (2^dp)) r77.nA r77.nc]).length r77.hc]) (vs:= [.slice none 0 0]) O O O O O qB9 O xD) O O λ_ _=>J.c j22<|J.f λ_ j23=>J.p 2 O<|J.c2 [4,6,7,8,9,5,0,1,2,3] [H,r77.mN,r83.mm,r83.M,r83.mr,mt,blk gs [I (dp:Nat),v1,v2,.map (some r83.g),Ptr r83.r,.map (some nB),Ptr rB,.slice none 0 0,.slice none 0 0,.slice r77.tA (tg++ [gu]).length r77.tc,.slice r77.hA (hd++ [adH ((qA7 (hd.getD (hd.length-1) qAY)).dig) dp rn hd (kvT kv cl dp (2^dp)) r77.nA r77.nc]).length r77.hc] 129,r77.mT,r77.mH,F] O xC<|J.d5 (λhj1=>?_)
 refine J.d5 (λhj2=>?_)
 refine J.d5 (λhj3=>?_)
 refine J.d5 (λhj4=>?_)
 exact J.c j23<|J.A<|J.E hw0 O (⟨r77.tA,r77.tc,r77.mT,r77.hA,r77.hc,r77.mH,r77.nA,r77.nc,gu,tl,At,ct,mt,r83.g,r83.r,r83.ls,U [U [U [U [H,r77.mN],r83.mm],r83.M],r83.mr]⟩:StR) O ⟨hp77.nd.sl.mono ((qSx hj1).trans ((qHK hj2).trans ((qHK hj3).trans (qHK hj4)))),hp77.rt,hp77.rh,(hu1 xB).mono ((qHK hj1).trans ((qHK hj2).trans ((qHK hj3).trans (qHK hj4)))),htl,hro,hok.mono ((qHK hj1).trans ((qHK hj2).trans ((qHK hj3).trans (qHK hj4)))),hp83.mp.at.mono ((qSx hj2).trans ((qHK hj3).trans (qHK hj4))),hp83.nx.at.mono ((qSx hj3).trans (qHK hj4)),hp83.pm,by obtain ⟨A3,n3,c3,q1,q2,_⟩:=hp83.ro.see;exact⟨A3,n3,c3,q1.mono (qSx hj4),q2.mono (qSx hj4)⟩⟩ [2,3,4,5,1,0] O xC
structure SvR where
 gs:Nat
 dp:Nat
 nA:Nat
 rA:Nat
 nB:Nat
 rB:Nat
 gb:Nat
 nxt:List Lb
 now:List Lb
 cA:Option Addr
 cc:Nat
 cl:List Chg
 oA:Option Addr
 oc:Nat
 no:List xA
 tA:Option Addr
 tc:Nat
 tg:List Nat
 hA:Option Addr
 hc:Nat
 hd:List RhD
 mX:Hp
 NX:Hp
 mC:Hp
 mO:Hp
 mT:Hp
 mH:Hp
 md:Hp
 N:Hp
 bk:CbR
 kv:List (List Sm.PR)
 aud:List Aud
 audN:List Aud
abbrev SvR.sb(x:SvR):Hp:=blk x.gs [I (x.dp:Nat),Ptr x.gb,.bool false,.map (some x.nA),Ptr x.rA,.map (some x.nB),Ptr x.rB,.slice x.cA x.cl.length x.cc,.slice x.oA x.no.length x.oc,.slice x.tA x.tg.length x.tc,.slice x.hA x.hd.length x.hc] 129
def SvR.hs(x:SvR):List Hp:= [x.sb,x.mX,x.NX,x.mC,x.mO,x.mT,x.mH,x.bk.blk x.gb,x.md,x.N]
abbrev SvR.kvL(x:SvR):List Sm.PR:=x.kv.getD (x.tg.length-1) []
abbrev SvR.hdL(x:SvR):RhD:=x.hd.getD (x.hd.length-1) qAY
def qSt(G:Hp)(g:Nat)(au:List Aud):Prop:= ∃RA rn rc,qAG G ⟨g,0,none⟩ [.slice RA rn rc]∧Sl G 4 RA rn rc (qBr au)
theorem qSt.mono{G G':Hp}{g:Nat}{au:List Aud}(h:qSt G g au)(hl:Le G G'):qSt G' g au:=by
 obtain ⟨A,n,c,h1,h2⟩:=h
 exact⟨A,n,c,h1.mono hl,h2.mono hl⟩
abbrev nsl(G:Hp)(h:RhD):Prop:=Sl G 1 h.nsA h.ns.length h.nsc (qAH h.ns)
structure SvP (G:Hp) (x:SvR):Prop where
 mx:Fw.MapS x.mX x.nB (lbV x.nxt)
 nx:NxS x.NX x.nxt
 rc:Row x.mC 155 2 x.cA x.cl.length x.cc (qDo x.cl)
 ro:Row x.mO 9 1 x.oA x.no.length x.oc (qAH x.no)
 rt:Row x.mT 130 1 x.tA x.tg.length x.tc (qDn x.tg)
 rh:Row x.mH 52 5 x.hA x.hd.length x.hc (qDQ x.hd)
 bk:CbP x.N x.md x.bk
 nw:Fw.MapAt G x.nA (lbV x.now)
 nl:LbA G x.now
 ra:qSt G x.rA x.aud
 rb:qSt G x.rB x.audN
 tr: ∀i,i<x.tg.length→qCl G (x.tg.getD i 0) (x.kv.getD i [])
 hn: ∀i,i<x.hd.length→nsl G (x.hd.getD i qAY)
theorem SvP.mono{G G':Hp}{x:SvR}(h:SvP G x)(hl:Le G G'):SvP G' x:=
 {h with nw:=h.nw.mono hl,nl:=h.nl.mono hl,ra:=h.ra.mono hl,rb:=h.rb.mono hl,tr:=λi hi=>(h.tr i hi).mono hl,hn:=λi hi=>(h.hn i hi).mono hl}
structure SvI (x:SvR):Prop where
 dp:x.dp≤4
 un:qPQ (lbE x.nxt)
 uw:qPQ (lbE x.now)
 ln: ∀y∈x.nxt,y.l.length≤1000
 lw: ∀y∈x.now,y.l.length≤1000
 cl:qYd x.cl
 n9: ∀s∈x.no,s.length≤900
 nc:x.no.length=x.cl.length
 t0:0<x.tg.length
 t1:x.tg.length≤15
 th:x.hd.length=x.tg.length
 tk:x.kv.length=x.tg.length
 kf:qCS x.kvL
 kl:x.kvL.length≤5000*x.tg.length
 hg:(qA7 x.hdL).good
 al:x.aud.length≤64
 an:x.audN.length≤64
 sz:x.bk.size≤1000
 re:x.bk.R.length≤x.bk.e
theorem lastD(l:List RhD)(x:RhD):(l++ [x]).getD ((l++ [x]).length-1) qAY=x:=by
 rw [jA,jH,yL,jB,ja (jJ _),jv];rfl
theorem qNF{x:RhD}(h1:x.ep≤1000)(h2:x.par.length≤16)(h3:x.ns.length≤16):(qA7 x).good:=⟨by show x.ep<_;omega,by show x.par.length≤_;omega,by show x.ns.length≤_;omega⟩
theorem qWb(F:Hp)(hK:qAG F ⟨3,0,none⟩ (Sha.K.map W32))(x:SvR)(hI:SvI x)(hP:SvP F x)(h1:Le x.mX F)(h2:Le x.NX F)(h3:Le x.mC F)(h4:Le x.mO F)(hfit:x.bk.e+qCh (x.no++ [cmB x.no.length x.hd.length])≤x.bk.size):Ct prog 14 [Ptr x.gs] [x.sb,x.mT,x.mH,x.bk.blk x.gb,x.md,x.N,F] (λr:StR×WrR=> .tuple #[.agg #[N64 x.hd.length,Str (qA7 x.hdL).dig,I (x.dp:Nat),I (x.audN.length:Nat),.slice r.1.nA (qAo (kvT x.kvL x.cl x.dp (2^x.dp)) x.dp).length r.1.nc],.slice r.1.At r.1.tl.length r.1.ct,I (0:Nat)]) (λr=>StP x.kvL x.cl x.nxt x.audN (qA7 x.hdL).dig x.dp x.audN.length x.tg x.hd r.1∧CbP r.2.N r.2.md r.2.x∧CbL x.bk r.2.x (x.no++ [cmB x.no.length x.hd.length])) (λr=> [blk x.gs [I (x.dp:Nat),Ptr x.gb,.bool false,.map (some r.1.cg),Ptr r.1.cr,.map (some x.nB),Ptr x.rB,.slice none 0 0,.slice none 0 0,.slice r.1.tA (x.tg++ [r.1.gu]).length r.1.tc,.slice r.1.hA (x.hd++ [adH ((qA7 x.hdL).dig) x.dp x.audN.length x.hd (kvT x.kvL x.cl x.dp (2^x.dp)) r.1.nA r.1.nc]).length r.1.hc] 129,r.1.mT,r.1.mH,r.2.x.blk x.gb,r.2.md,r.2.N,F,r.1.G,r.1.mo]):=by
 obtain ⟨RA,rn,rc,hR,hRs⟩:=hP.rb
 obtain rfl:x.audN.length=rn:=by have:=hRs.1;rw [qEF] at this;exact this
 have hef:=hP.bk.ef
 have i1:=hI.sz
 have i2:=hI.re
 have i3:=hI.nc
 have i4:=hI.cl.len
 have i5:=hI.t1
 have i6:=hI.th
 have i7:=hI.t0
 have i8:=hI.kl
 have i9:=hI.an
 refine Ct.walk func14 O ntmps14 O (λw0 hw0=>?_)
 refine J.f λ_ j1=>J.q (qAJ O qYA O) O λg2 _=>J.p 2 O<|J.c j1<|J.k λ_ j2=>J.T<|J.f λ_ j3=>J.b O<|J.g (qA6 qYv O O O) O<|J.b O<|J.c j3<|J.a3 ?_
 refine J.f λ_ j4=>J.b O<|J.g (qAB O O) O<|J.W 2 qBJ z4_ O O O O O<|J.a6 0 b4_ O O O O O<|J.b O<|J.c j4<|J.a3 ?_
 refine J.b2<|J.a2<|J.u (J.D j2 ?_)
 refine J.k λ_ j5=>J.k λ_ j6=>J.c2 [3,4,5,0,1,2,6,7] [(x.bk.blk x.gb),x.md,x.N,blk x.gs [I (x.dp:Nat),Ptr x.gb,.bool false,.map (some x.nA),Ptr x.rA,.map (some x.nB),Ptr x.rB,.slice x.cA x.cl.length x.cc,.slice x.oA x.no.length x.oc,.slice x.tA x.tg.length x.tc,.slice x.hA x.hd.length x.hc] 129,x.mT,x.mH,F,blk g2 [.int .u64 0,Str [],I 0,I 0,.slice none 0 0] 52] O xC<|J.H<|J.b O<|J.q (qAK O O ent (Ct.useA [x.bk.blk x.gb,x.md,x.N] [blk x.gs [I (x.dp:Nat),Ptr x.gb,.bool false,.map (some x.nA),Ptr x.rA,.map (some x.nB),Ptr x.rB,.slice x.cA x.cl.length x.cc,.slice x.oA x.no.length x.oc,.slice x.tA x.tg.length x.tc,.slice x.hA x.hd.length x.hc] 129,x.mT,x.mH,F,blk g2 [.int .u64 0,Str [],I 0,I 0,.slice none 0 0] 52] (A':=λy:WrR=> [y.x.blk x.gb,y.md,y.N]) (new:=λ_=> []) (λF' hF=>qP3 F' x.md x.N (hK.mo hF) x.gs x.gb _ _ _ _ _ _ _ _ x.oA x.oc x.no (hP.ro.sl.mono (h4.trans (Fa hF))) xB hI.n9 x.hA x.hd.length x.hc xB (qAG.blk0.mono (hF (blk x.gs [I (x.dp:Nat),Ptr x.gb,.bool false,.map (some x.nA),Ptr x.rA,.map (some x.nB),Ptr x.rB,.slice x.cA x.cl.length x.cc,.slice x.oA x.no.length x.oc,.slice x.tA x.tg.length x.tc,.slice x.hA x.hd.length x.hc] 129) xD)) x.bk hP.bk hfit xB xB))) O ?_
 rintro r18 ⟨hb18,hL18⟩
 refine J.b O<|J.c j6<|J.f λ_ j7=>J.b O<|J.g ((qAV O O O).no xC) O<|J.c j7<|J.a3 ?_
 refine J.M j5<|J.k λ_ j8=>J.c2 [3,4,5,6,7,0,1,2] [blk x.gs [I (x.dp:Nat),Ptr x.gb,.bool false,.map (some x.nA),Ptr x.rA,.map (some x.nB),Ptr x.rB,.slice x.cA x.cl.length x.cc,.slice x.oA x.no.length x.oc,.slice x.tA x.tg.length x.tc,.slice x.hA x.hd.length x.hc] 129,x.mT,x.mH,F,blk g2 [.int .u64 0,Str [],I 0,I 0,.slice none 0 0] 52,(r18.x.blk x.gb),r18.md,r18.N] O xC<|J.H<|J.b O<|J.q (qAK O O ent (Ct.useA [blk x.gs [I (x.dp:Nat),Ptr x.gb,.bool false,.map (some x.nA),Ptr x.rA,.map (some x.nB),Ptr x.rB,.slice x.cA x.cl.length x.cc,.slice x.oA x.no.length x.oc,.slice x.tA x.tg.length x.tc,.slice x.hA x.hd.length x.hc] 129,x.mT,x.mH] [F,blk g2 [.int .u64 0,Str [],I 0,I 0,.slice none 0 0] 52,(r18.x.blk x.gb),r18.md,r18.N] (A':=λr:StR=> [blk x.gs [I (x.dp:Nat),Ptr x.gb,.bool false,.map (some r.cg),Ptr r.cr,.map (some x.nB),Ptr x.rB,.slice none 0 0,.slice none 0 0,.slice r.tA (x.tg++ [r.gu]).length r.tc,.slice r.hA (x.hd++ [adH ((qA7 x.hdL).dig) x.dp x.audN.length x.hd (kvT x.kvL x.cl x.dp (2^x.dp)) r.nA r.nc]).length r.hc] 129,r.mT,r.mH]) (new:=λr=> [r.mo,r.G]) (λF' hF=>qOa F' x.mT x.mH (hK.mo hF) x.gs x.dp x.nA x.rA x.nB x.rB (Ptr x.gb) (.bool false) x.tA x.tc x.tg hP.rt xB x.hA x.hc x.hd hP.rh xB hI.dp x.cA x.cc x.cl (hP.rc.sl.mono (h3.trans (Fa hF))) hI.cl x.oA x.oc x.no x.nxt (hP.mx.at.mono (h1.trans (Fa hF))) (hP.nx.at.mono (h2.trans (Fa hF))) hI.un (λy hy=>jg (hI.ln y hy) xC) RA _ rc x.audN (hR.mono (Fa hF)) (hRs.mono (Fa hF)) xB hI.t0 xB x.kvL ((hP.tr _ xB).mono (Fa hF)) hI.kf xB hI.hg ((hP.hn _ xB).mono (Fa hF))))) O ?_
 rintro r24 hp24
 refine J.b O<|J.c j8<|J.f λ_ j9=>J.b O<|J.q (qAZ O O (λF' hF=>qKH F' x.gs _ _ _ _ _ _ _ _ _ _ r24.hA (x.hd++ [(adH ((qA7 x.hdL).dig) x.dp x.audN.length x.hd (kvT x.kvL x.cl x.dp (2^x.dp)) r24.nA r24.nc)]).length r24.hc (x.hd++ [(adH ((qA7 x.hdL).dig) x.dp x.audN.length x.hd (kvT x.kvL x.cl x.dp (2^x.dp)) r24.nA r24.nc)]) (hp24.rh.sl.mono (Fa hF)) (by rw [jA];exact z8 _) (by rw [jA,jH];omega) (qAG.blk0.mono (hF (blk x.gs [I (x.dp:Nat),Ptr x.gb,.bool false,.map (some r24.cg),Ptr r24.cr,.map (some x.nB),Ptr x.rB,.slice none 0 0,.slice none 0 0,.slice r24.tA (x.tg++ [r24.gu]).length r24.tc,.slice r24.hA (x.hd++ [adH ((qA7 x.hdL).dig) x.dp x.audN.length x.hd (kvT x.kvL x.cl x.dp (2^x.dp)) r24.nA r24.nc]).length r24.hc] 129) xD)))) O λg26 _=>?_
 rw [lastD]
 exact J.b O<|J.a7 (qAC (i:=4) (l:= [.int .u64 0,Str [],I 0,I 0,.slice none 0 0]) (vs:= [N64 (x.hd.length),Str ((qA7 x.hdL).dig),I (x.dp:Nat),I (x.audN.length:Nat),.slice r24.nA (qAo (kvT x.kvL x.cl x.dp (2^x.dp)) x.dp).length r24.nc]) O O O O O qDP O O) O O λ_ _=>J.p 2 O<|J.c j9<|J.A<|J.a9 hw0 (λ_ _ h=>h) (rv3 O (RV.blkA 4 O O qGA qDP) O O) (qAg (r24,r18) O ⟨hp24,hb18,hL18⟩ [0,1,2,5,6,7,3,9,8] O xC)
structure Srv (m G:Hp) (x:SvR):Prop where
 eq:m=U x.hs
 dj:Djs x.hs
 p:SvP G x
 i:SvI x
theorem Srv.mono{m G G':Hp}{x:SvR}(h:Srv m G x)(hl:Le G G'):Srv m G' x:={h with p:=h.p.mono hl}
theorem Srv.le{m G:Hp}{x:SvR}(h:Srv m G x){a:Hp}(ha:a∈x.hs):Le a m:=by rw [h.eq];exact qFr h.dj ha
def SvR.sub(x:SvR)(s:xA)(en:En)(nt:xA)(ch:Chg)(r:SbR):SvR:=
 {x with nxt:=qDG x.nxt ⟨s,r.A,r.c,qBC (lbE x.nxt) s++ [en],r.mE⟩,cl:=x.cl++ [ch],no:=x.no++ [nt],mX:=r.mX,NX:=U [r.mr,r.mE],mC:=r.w.mC,cA:=r.w.cA,cc:=r.w.cc,mO:=r.w.mO,oA:=r.w.oA,oc:=r.w.oc}
theorem SvR.sub_nxt(x:SvR)(s:xA)(en:En)(nt:xA)(ch:Chg)(r:SbR):lbE (x.sub s en nt ch r).nxt=qQg (lbE x.nxt) s (qBC (lbE x.nxt) s++ [en]):=qRe _ _
theorem SvI.sub2{x:SvR}(h:SvI x){s:xA}{A:Option Addr}{c:Nat}{e:En}{m:Hp}(hn:(qBC (lbE x.nxt) s).length<1000): ∀y∈qDG x.nxt (⟨s,A,c,qBC (lbE x.nxt) s++ [e],m⟩:Lb),y.l.length≤1000:=λy hy=>by
 rcases qKW hy with hy|rfl
 · exact h.ln y hy
 · show(_++ [e]).length≤_;rw [jA,jH];omega
theorem SvI.sub3{x:SvR}(h:SvI x){ch:Chg}(hc:x.cl.length<256)(hk:ch.k.length=16)(hv:ch.v.length≤1000000):qYd (x.cl++ [ch]):=by
  refine⟨?_,λy hy=>?_,λy hy=>?_⟩
  · rw [jA,jH];omega
  · rcases List.mem_append.1 hy with hy|hy
    · exact h.cl.k16 y hy
    · rw [List.mem_singleton.1 hy];exact hk
  · rcases List.mem_append.1 hy with hy|hy
    · exact h.cl.val y hy
    · rw [List.mem_singleton.1 hy];exact hv
theorem SvI.sub4{x:SvR}(h:SvI x){nt:xA}(hn:nt.length≤900): ∀s∈x.no++ [nt],s.length≤900:=λy hy=>by
 rcases List.mem_append.1 hy with hy|hy
 · exact h.n9 y hy
 · rw [List.mem_singleton.1 hy];exact hn
theorem SvI.sub5{x:SvR}(h:SvI x){nt:xA}{ch:Chg}:(x.no++ [nt]).length=(x.cl++ [ch]).length:=by
 rw [jA,jA,h.nc];rfl
theorem SvI.sub{x:SvR}(h:SvI x){s:xA}{en:En}{nt:xA}{ch:Chg}{r:SbR}(hg:(qBC (lbE x.nxt) s).length<1000)(hc:x.cl.length<256)(hk:ch.k.length=16)(hv:ch.v.length≤1000000)(hn:nt.length≤900):SvI (x.sub s en nt ch r):=
 {dp:=h.dp,uw:=h.uw,lw:=h.lw,t0:=h.t0,t1:=h.t1,th:=h.th,tk:=h.tk,kf:=h.kf,kl:=h.kl,hg:=h.hg,al:=h.al,an:=h.an,sz:=h.sz,re:=h.re,un:=(by rw [SvR.sub_nxt];exact qQe h.un),ln:=SvI.sub2 h hg,cl:=SvI.sub3 h hc hk hv,n9:=SvI.sub4 h hn,nc:=SvI.sub5 h}
theorem qTX{w0:Wd}{w:World}{a b:Hp}{r:List Hp}(h:St w0 (a::b::r) w):Dj a b∧St w0 (U [a,b]::r) w:=⟨h.dj2,h.joinU⟩
abbrev SvR.e1(x:SvR):xA→Nat→xA→xA→Int→xA→Nat→List xA→List xA→SbR→SvR:=λs v o r h p i ch pt y=>
 x.sub s ⟨v,o,r,h,p⟩ (117::upB s (qBH v o r h p) (sgB i ch pt)) ⟨Sha.tagged 11 [s],qCO v o r h p⟩ y
theorem le_U2{a b F:Hp}(h1:Le a F)(h2:Le b F):Le (U [a,b]) F:=λg o h=>by
 obtain ⟨m,hm,hg⟩:=qCR h
 rcases List.mem_cons.1 hm with rfl|hm
 · exact h1 g o hg
 · rw [List.mem_singleton.1 hm] at hg;exact h2 g o hg
def qYa(x:SvR)(s:xA)(had:Bool)(z:En):Prop:= ∀F':Hp,Fw.MapAt F' x.nB (lbV x.nxt)→LbA F' x.nxt→Cz prog 102 [.agg #[.map (some x.nB),Ptr x.rB],Str s] F' (.tuple #[.agg #[N64 z.v,Str z.o,Str z.r,I z.h,Str z.p],.bool had])
theorem qUl{x:SvR}{s:xA}(h:qBC (lbE x.nxt) s= []):qYa x s false qAz:=λF' h1 h2=>qTf F' x.nB _ x.nxt h1 h2 s (by rw [h];exact jE _) h
theorem qRh{x:SvR}{s:xA}{l:List En}{e:En}(h:qBC (lbE x.nxt) s=l++ [e])(hl:l.length<1000):qYa x s true e:=λF' h1 h2=>by
 have e1:(qBC (lbE x.nxt) s).getD ((qBC (lbE x.nxt) s).length-1) qAz=e:=by
  rw [h,jA,jH,yL,jB,ja (jJ _),jv];rfl
 have hn:(qBC (lbE x.nxt) s).length=l.length+1:=by rw [h,jA];rfl
 have:=qQE F' x.nB (Ptr x.rB) x.nxt h1 h2 s xB xB
 rw [e1] at this
 exact this
theorem qP4(F m G:Hp)(hK:qAG F ⟨3,0,none⟩ (Sha.K.map W32))(hGF:Le G F)(x:SvR)(hS:Srv m G x)(s:xA)(hs2:s.length≤200)(v:Nat)(o r:xA)(h:Int)(p:xA)(hE:qBX v o r h p=0)(i:Nat)(A1:Option Addr)(n1 c1:Nat)(ch:List xA)(hch:Sl F 1 A1 n1 c1 (qAH ch))(A2:Option Addr)(n2 c2:Nat)(pt:List xA)(hpt:Sl F 1 A2 n2 c2 (qAH pt))(hi:i≤63)(h35:ch.length=35)(hn6:pt.length≤6)(hc16: ∀s∈ch,s.length=16)(hp16: ∀s∈pt,s.length=16)(hp3:pt.length≤3)(hno2:x.no.length<256)(hon:(qBC (lbE x.nxt) s).length<1000)(had:Bool)(z:En)(hL:qYa x s had z)
    (hJ: ∀F':Hp,Le F F'→Cz prog 103 [.agg #[Str s,N64 (v),Str (o),Str (r),I (h),Str (p),I (i:Nat),.slice A1 n1 c1,.slice A2 n2 c2],.bool had,.agg #[N64 z.v,Str z.o,Str z.r,I z.h,Str z.p]] F' (I (0:Nat))):
    Ct prog 36 [Ptr x.gs,.agg #[Str s,N64 (v),Str (o),Str (r),I (h),Str (p),I (i:Nat),.slice A1 n1 c1,.slice A2 n2 c2]] [m,F] (λ_:Hp×SbR=>I (0:Nat)) (λy=>Srv y.1 G (x.e1 s v o r h p i ch pt y.2)) (λy=> [y.1,F]):=λw0 w hw=>by
  have hP:=hS.p
  have hI:=hS.i
  have hcl:=hI.cl.len
  have hnc:=hI.nc
  obtain ⟨mr,mo,hM,hjm,hro,hf⟩:=hP.nx.split s
  rw [hS.eq] at hw
  have h0:=(hw.splitUs hS.dj).pick [2,0,1,3,4,5,6,7,8,9,10] xC
  have h0':St w0 (U [mr,mo]:: [x.sb,x.mX,x.mC,x.mO,x.mT,x.mH,x.bk.blk x.gb,x.md,x.N,F]) w:=hM▸h0
  have h1:=(h0'.splitUs (A:= [mr,mo]) ⟨Dj.U_right.2 (by simpa using hjm),λ_=> .inr O,trivial⟩).pick [2,3,0,1,4,5,6,7,8,9,10,11] xC
  refine(Ct.useA [x.sb,x.mX,mr,mo,x.mC,x.mO] [x.mT,x.mH,x.bk.blk x.gb,x.md,x.N,F] (A':=λy:SbR=> [blk x.gs [I (x.dp:Nat),Ptr x.gb,.bool false,.map (some x.nA),Ptr x.rA,.map (some x.nB),Ptr x.rB,.slice y.w.cA (x.cl++ [(⟨Sha.tagged 11 [s],qCO v o r h p⟩:Chg)]).length y.w.cc,.slice y.w.oA (x.no++ [117::(upB s (qBH v o r h p) (sgB i ch pt))]).length y.w.oc,.slice x.tA x.tg.length x.tc,.slice x.hA x.hd.length x.hc] 129,y.mX,mr,y.w.mC,y.w.mO]) (new:=λy=> [y.mE]) (λF' hF=>qTY F' x.mX mr mo x.mC x.mO s (hK.mo hF) x.gs x.nB _ _ _ _ _ _ _ _ x.cA x.cc x.cl hP.rc xB x.oA x.oc x.no hP.ro xB x.nxt hP.mx hro (Nat.le_of_lt hon) hs2 v o r h p hE i A1 n1 c1 ch (hch.mono (Fa hF)) A2 n2 c2 pt (hpt.mono (Fa hF)) hi h35 hn6 hc16 hp16 hp3 hno2 z had (λF2 _ g1 g2 g3=>hL F2 (hP.mx.at.mono g1) ((hM▸hP.nx.at:LbA (U [mr,mo]) x.nxt).mono (le_U2 g2 g3))) (λF2 h2=>hJ F2 ((hF F xD).trans h2))) w0 w h1).mono λe w' ⟨y,he,⟨q1,q2,q3,q4⟩,hst⟩=>?_
  have h2:=qTX (hst.pick [2,11,0,1,3,4,5,6,7,8,9,10] xC)
  have h3:=St.joinUs (A:=(x.e1 s v o r h p i ch pt {y with mr:=mr}).hs) (r:= [F]) (h2.2.pick [1,2,0,3,4,5,6,7,8,9,10] xC)
  have hsg:=qI4 (i:=i) hc16 hp16 h35
  have hul:=qIs s (qBH v o r h p) (sgB i ch pt)
  have hel:=qB8 hE
  refine⟨(U (x.e1 s v o r h p i ch pt {y with mr:=mr}).hs,{y with mr:=mr}),he,⟨O,h3.1,⟨q1,hf _ _ _ _ q2 h2.1,q3,q4,hP.rt,hP.rh,hP.bk,hP.nw,hP.nl,hP.ra,hP.rb,hP.tr,hP.hn⟩,hI.sub hon xB (Sha.tagged_length _ _) ?_ ?_⟩,h3.2⟩
  · show(qCO v o r h p).length≤_
    unfold qCO;rw [if_pos hE,Sha.tagged_length];decide
  · show(_::_).length≤900
    rw [jD];omega
def SvR.pub(x:SvR)(r:StR×WrR):SvR:=
 {x with nA:=r.1.cg,rA:=r.1.cr,now:=r.1.cl,aud:=x.audN,cA:=none,cc:=0,cl:= [],oA:=none,oc:=0,no:= [],tA:=r.1.tA,tc:=r.1.tc,tg:=x.tg++ [r.1.gu],hA:=r.1.hA,hc:=r.1.hc,hd:=x.hd++ [adH (qA7 x.hdL).dig x.dp x.audN.length x.hd (kvT x.kvL x.cl x.dp (2^x.dp)) r.1.nA r.1.nc],mC:=λ_=>none,mO:=λ_=>none,mT:=r.1.mT,mH:=r.1.mH,md:=r.2.md,N:=r.2.N,bk:=r.2.x,kv:=x.kv++ [(kvT x.kvL x.cl x.dp (2^x.dp))]}
theorem qCt{α:Type}(l:List α)(x no:α):(l++ [x]).getD ((l++ [x]).length-1) no=x:=by
 rw [jA,jH,yL,jB,ja (jJ _),jv];rfl
theorem qCj{α:Type}(l:List α)(x no:α){i:Nat}(h:i<l.length):(l++ [x]).getD i no=l.getD i no:=by
 rw [jB,jc h,←jB]
theorem qB7{α:Type}(l:List α)(x no:α){i:Nat}(h:i=l.length):(l++ [x]).getD i no=x:=by
 rw [h,jB,ja (jJ _),jv];rfl
theorem SvR.pub_kvL(x:SvR)(r:StR×WrR)(h:x.kv.length=x.tg.length):(x.pub r).kvL=(kvT x.kvL x.cl x.dp (2^x.dp)):=by
 show(x.kv++ [_]).getD ((x.tg++ [_]).length-1) []=_
 refine qB7 _ _ _ ?_
 rw [jA,jH,h];omega
theorem SvR.pub_hdL(x:SvR)(r:StR×WrR):(x.pub r).hdL=adH (qA7 x.hdL).dig x.dp x.audN.length x.hd (kvT x.kvL x.cl x.dp (2^x.dp)) r.1.nA r.1.nc:=qCt _ _ _
theorem SvI.pub{x:SvR}(h:SvI x)(r:StR×WrR)(ht:x.tg.length<15)(hp:StP x.kvL x.cl x.nxt x.audN (qA7 x.hdL).dig x.dp x.audN.length x.tg x.hd r.1)(hL:CbL x.bk r.2.x (x.no++ [cmB x.no.length x.hd.length]))(hn1: ∀s∈x.no,1≤qBi s.length):SvI (x.pub r):=by
  have h4:=h.dp
  have h5:=h.cl.len
  obtain ⟨_,h16⟩:=qKc h4
  have hkl:=h.kl
  have hth:=h.th
  have htk:=h.tk
  refine{dp:=h.dp,un:=h.un,ln:=h.ln,cl:=⟨jE _,(λy hy=>by cases hy),(λy hy=>by cases hy)⟩,n9:=(λy hy=>by cases hy),nc:=rfl,al:=h.an,an:=h.an,uw:=?_,lw:=?_,t0:=?_,t1:=?_,th:=?_,tk:=?_,kf:=?_,kl:=?_,hg:=?_,sz:=?_,re:=?_}
  · exact(hp.pm.map _).nodup_iff.2 h.un
  · intro y hy
    have:(y.nm,y.l)∈lbE x.nxt:=hp.pm.subset (List.mem_map.2 ⟨y,hy,O⟩)
    obtain ⟨z,hz,e⟩:=List.mem_map.1 this
    have:=h.ln z hz
    rw [show y.l=z.l from(congrArg Prod.snd e).symm];exact this
  · show 0<(x.tg++ [_]).length
    rw [jA];exact z8 _
  · show(x.tg++ [_]).length≤15
    rw [jA,jH];omega
  · show(x.hd++ [_]).length=(x.tg++ [_]).length
    rw [jA,jA,hth];rfl
  · show(x.kv++ [_]).length=(x.tg++ [_]).length
    rw [jA,jA,htk];rfl
  · rw [x.pub_kvL r htk]
    exact qGQ h.kf h.cl xB _ h16
  · rw [x.pub_kvL r htk]
    show _≤5000*(x.tg++ [_]).length
    rw [jA,jH]
    have:=qMY x.kvL x.cl x.dp (2^x.dp)
    have h6:2^x.dp*x.cl.length≤16*256:=Nat.mul_le_mul h16 h5
    omega
  · rw [x.pub_hdL r]
    refine qNF ?_ (qLL _) ?_
    · show x.hd.length≤_;omega
    · show(qAo _ x.dp).length≤16
      unfold qAo;rw [qBy];exact h16
  · show r.2.x.size≤_;rw [hL.sz];exact h.sz
  · show r.2.x.R.length≤r.2.x.e
    rw [hL.R,hL.e,jA,jA,jH,qCF]
    have h7: ∀l:List xA,(∀s∈l,1≤qBi s.length)→l.length≤qCh l:=λl hl=>by
      induction l with
      |nil=>exact jE _
      |cons a l ih=>
        have h8:=hl a (.head _)
        have h9:=ih λs hs=>hl s (.tail _ hs)
        unfold qCh at h9⊢
        rw [jb,List.sum_cons,jD];omega
    have h8:=h7 x.no hn1
    have h9:=qFb (cmB x.no.length x.hd.length).length
    have:=h.re
    omega
structure PbP (m' G G2:Hp) (x:SvR) (r:StR×WrR):Prop where
 s: ∀G3,Le G G3→Le G2 G3→Srv m' G3 (x.pub r)
 ns:nsl G2 (x.pub r).hdL
 len:r.1.tl.length=2^x.dp
 ro:Row r.1.mo 59 5 r.1.At r.1.tl.length r.1.ct (qJ9 r.1.tl)
 ok:qPZ G2 x.kvL x.cl x.dp r.1.tl
 bk:CbL x.bk r.2.x (x.no++ [cmB x.no.length x.hd.length])
 pm:(lbE r.1.cl).Perm (lbE x.nxt)
theorem qXC(F m G:Hp)(hK:qAG F ⟨3,0,none⟩ (Sha.K.map W32))(hGF:Le G F)(x:SvR)(hS:Srv m G x)(ht:x.tg.length<15)(hfit:x.bk.e+qCh (x.no++ [cmB x.no.length x.hd.length])≤x.bk.size):
    Ct prog 14 [Ptr x.gs] [m,F] (λy:Hp×StR×WrR=> .tuple #[.agg #[N64 x.hd.length,Str (qA7 x.hdL).dig,I (x.dp:Nat),I (x.audN.length:Nat),.slice y.2.1.nA (qAo (kvT x.kvL x.cl x.dp (2^x.dp)) x.dp).length y.2.1.nc],.slice y.2.1.At y.2.1.tl.length y.2.1.ct,I (0:Nat)]) (λy=>PbP y.1 G y.2.1.G x y.2) (λy=> [y.1,F,y.2.1.G,y.2.1.mo]):=λw0 w hw=>by
  have hP:=hS.p
  have hI:=hS.i
  have hth:=hI.th
  have htk:=hI.tk
  rw [hS.eq] at hw
  have h1:=(hw.splitUs hS.dj).pick [0,5,6,7,8,9,1,2,3,4,10] xC
  refine(Ct.useA [x.sb,x.mT,x.mH,x.bk.blk x.gb,x.md,x.N] [x.mX,x.NX,x.mC,x.mO,F] (A':=λy:StR×WrR=> [blk x.gs [I (x.dp:Nat),Ptr x.gb,.bool false,.map (some y.1.cg),Ptr y.1.cr,.map (some x.nB),Ptr x.rB,.slice none 0 0,.slice none 0 0,.slice y.1.tA (x.tg++ [y.1.gu]).length y.1.tc,.slice y.1.hA (x.hd++ [adH ((qA7 x.hdL).dig) x.dp x.audN.length x.hd (kvT x.kvL x.cl x.dp (2^x.dp)) y.1.nA y.1.nc]).length y.1.hc] 129,y.1.mT,y.1.mH,y.2.x.blk x.gb,y.2.md,y.2.N]) (new:=λy=> [y.1.G,y.1.mo]) (λF' hF=>qWb F' (hK.mo hF) x hI (hP.mono (hGF.trans (Fa hF))) (Fa hF) (Fa hF) (Fa hF) (Fa hF) hfit) w0 w h1).mono λe w' ⟨y,he,⟨q1,q2,q3⟩,hst⟩=>?_
  have h2:=hst.empty.empty
  have h3:=St.joinUs (A:=(x.pub y).hs) (r:= [F,y.1.G,y.1.mo]) (h2.pick [0,6,7,13,14,1,2,3,4,5,10,11,12] xC)
  have hI2:=hI.pub y ht q1 q3 (λs hs=>qFb _)
  refine⟨(U (x.pub y).hs,y),he,⟨λG3 g1 g2=>⟨O,h3.1,⟨hP.mx,hP.nx,qBZ.nil,qBZ.nil,q1.rt,q1.rh,q2,q1.mp.mono g2,q1.lb.mono g2,qSt.mono q1.au g2,hP.rb.mono g1,λj hj=>?_,λj hj=>?_⟩,hI2⟩,?_,q1.len,q1.ro,q1.ok,q3,q1.pm⟩,h3.2⟩
  · have hj2:j<x.tg.length+1:=by have:=hj;rw [show(x.pub y).tg=x.tg++ [y.1.gu] from rfl,jA,jH] at this;exact this
    show qCl G3 ((x.tg++ [_]).getD j 0) ((x.kv++ [_]).getD j [])
    by_cases hlt:j<x.tg.length
    · rw [qCj _ _ _ hlt,qCj _ _ _ xB];exact(hP.tr j hlt).mono g1
    · rw [qB7 _ _ _ xB,qB7 _ _ _ xB];exact q1.tu.mono g2
  · have hj2:j<x.hd.length+1:=by have:=hj;rw [show(x.pub y).hd=x.hd++ [_] from rfl,jA,jH] at this;exact this
    show nsl G3 ((x.hd++ [_]).getD j qAY)
    by_cases hlt:j<x.hd.length
    · rw [qCj _ _ _ hlt];exact(hP.hn j hlt).mono g1
    · rw [qB7 _ _ _ xB];exact q1.nr.mono g2
  · rw [x.pub_hdL y];exact q1.nr
def nwS(gd n first count dp:Nat)(gl:List Aud)(md:Hp)(r:NwR):SvR:=
 {gs:=r.gs,dp:=dp,nA:=r.gA,rA:=r.gR,nB:=r.cp.g,rB:=r.cp.r,gb:=r.gb,nxt:= [],now:= [],cA:=none,cc:=0,cl:= [],oA:=none,oc:=0,no:= [],tA:=r.ad.tA,tc:=r.ad.tc,tg:= [r.gt],hA:=r.ad.hA,hc:=r.ad.hc,hd:= [adH qAk dp gl.length [] (qGP [] gl gl.length) r.ad.nA r.ad.nc],mX:=r.cp.mm,NX:=r.cp.M,mC:=λ_=>none,mO:=λ_=>none,mT:=r.ad.mT,mH:=r.ad.mH,md:=md,N:=λ_=>none,bk:=⟨gd,first,count/2,first,0,0,none,0,[],Dk.new n⟩,kv:= [qGP [] gl gl.length],aud:=gl,audN:=gl}
theorem qRW{α:Type}{a no:α}{i:Nat}(h:i< [a].length): [a].getD i no=a:=by
 match i,h with
 |0,_=>rfl
theorem qXi(F md:Hp)(hK:qAG F ⟨3,0,none⟩ (Sha.K.map W32))(hA:qAG F ⟨0,0,none⟩ qBT)(hT:qBv F)(gd n:Nat)(hb:Dsk md gd (Dk.new n) none 0)(hn4:4≤n)(hn:n≤1000)(first count:Nat)(h8:8≤count)(hfc:first+count≤n)(dp:Nat)(hdp:dp≤4)(GA:Option Addr)(gc:Nat)(gl:List Aud)(hgl:Sl F 4 GA gl.length gc (qBr gl))(hg:qYc gl):
    Ct prog 9 [Ptr gd,I (first:Nat),I (count:Nat),I (dp:Nat),.slice GA gl.length gc] [md,F] (λy:Hp×Hp×NwR=> .tuple #[Ptr y.2.2.gs,I (0:Nat)]) (λy=>Srv y.1 y.2.1 (nwS gd n first count dp gl md y.2.2)) (λy=> [y.1,F,y.2.1]):=λw0 w hw=>by
  refine(qWf F md hK hA hT gd n hb hn4 hn first count h8 hfc dp hdp GA gc gl hgl hg w0 w hw).mono λe w' ⟨r,he,hp,hst⟩=>?_
  have h1:=St.joinUs (A:=(nwS gd n first count dp gl md r).hs) (r:= [F,qAN r.gA (.map #[] 0),r.mR,r.mt,r.cp.mr,r.ad.mN]) (hst.empty.empty.empty.pick [5,6,7,13,14,9,10,12,0,15,1,2,3,4,8,11] xC)
  have h2:=St.joinUs (A:= [qAN r.gA (.map #[] 0),r.mR,r.mt,r.cp.mr,r.ad.mN]) (r:= [U (nwS gd n first count dp gl md r).hs,F]) (h1.2.pick [2,3,4,5,6,0,1] xC)
  have hl: ∀a∈ [qAN r.gA (.map #[] 0),r.mR,r.mt,r.cp.mr,r.ad.mN],Le a (U [qAN r.gA (.map #[] 0),r.mR,r.mt,r.cp.mr,r.ad.mN]):=λa ha=>qFr h2.1 ha
  have hls:r.cp.ls= []:=List.map_eq_nil_iff.1 hp.cp.pm.eq_nil
  have hll:=qJW gl (n:=gl.length) hg.len
  obtain ⟨_,h16⟩:=qKc hdp
  have hg15:=hg.len
  have hlast:(Dk.new n).last.length=n:=by unfold Dk.new;exact jL
  have hro:qSt (U [qAN r.gA (.map #[] 0),r.mR,r.mt,r.cp.mr,r.ad.mN]) r.gR gl:=by
    obtain ⟨a,b,c,q1,q2,_⟩:=hp.ro.see
    exact qSt.mono ⟨a,b,c,q1,q2⟩ (hl _ xD)
  have hrb:qSt (U [qAN r.gA (.map #[] 0),r.mR,r.mt,r.cp.mr,r.ad.mN]) r.cp.r gl:=by
    obtain ⟨a,b,c,q1,q2,_⟩:=hp.cp.ro.see
    exact qSt.mono ⟨a,b,c,q1,q2⟩ (hl _ xD)
  have hmx:=hp.cp.mp
  have hnx:=hp.cp.nx
  rw [hls] at hmx hnx
  refine⟨(U (nwS gd n first count dp gl md r).hs,U [qAN r.gA (.map #[] 0),r.mR,r.mt,r.cp.mr,r.ad.mN],r),he,⟨O,h1.1,⟨hmx,hnx,qBZ.nil,qBZ.nil,hp.ad.rt,hp.ad.rh,?_,(MapS.nil r.gA).at.mono (hl _ xD),(λy hy=>by cases hy),hro,hrb,λi hi=>?_,λi hi=>?_⟩,?_⟩,h2.2.pick [1,2,0] xC⟩
  · exact⟨hb,Dk.new_ok hn4 xB,O,O,O,O,Sl.nil,by show first+count/2≤(Dk.new n).last.length;rw [hlast];omega,by show(Dk.new n).last.length≤1000;rw [hlast];omega,jE _,jE _⟩
  · show qCl _ ([r.gt].getD i 0) ([qGP [] gl gl.length].getD i [])
    rw [qRW hi,qRW (show i< [qGP [] gl gl.length].length from hi)]
    exact hp.tr.at.mono (hl _ xD)
  · show nsl _ ([adH qAk dp gl.length [] (qGP [] gl gl.length) r.ad.nA r.ad.nc].getD i qAY)
    rw [qRW hi]
    exact hp.ad.nd.sl.mono (hl _ xD)
  · exact{dp:=hdp,un:=List.nodup_nil,uw:=List.nodup_nil,ln:=(λy hy=>by cases hy),lw:=(λy hy=>by cases hy),cl:=⟨jE _,(λy hy=>by cases hy),(λy hy=>by cases hy)⟩,n9:=(λy hy=>by cases hy),nc:=rfl,t0:=z8 _,t1:=(by show 1≤15;decide),th:=rfl,tk:=rfl,kf:=qHL gl hg15,kl:=(by show(qGP [] gl gl.length).length≤5000*1;omega),hg:=qNF (jE _) (jJ _) (by show(qAo _ dp).length≤16;unfold qAo;rw [qBy];exact h16),al:=(by show gl.length≤64;omega),an:=(by show gl.length≤64;omega),sz:=(by show count/2≤1000;omega),re:=jE _}
theorem Srv.cells{m G:Hp}{x:SvR}(h:Srv m G x):qAG m ⟨x.gs,0,none⟩ [I (x.dp:Nat),Ptr x.gb,.bool false,.map (some x.nA),Ptr x.rA,.map (some x.nB),Ptr x.rB,.slice x.cA x.cl.length x.cc,.slice x.oA x.no.length x.oc,.slice x.tA x.tg.length x.tc,.slice x.hA x.hd.length x.hc]:=qAG.blk0.mono (h.le (.head _))
theorem Srv.tsl{m G:Hp}{x:SvR}(h:Srv m G x):Sl m 1 x.tA x.tg.length x.tc (qDn x.tg):=h.p.rt.sl.mono (h.le (by simp [SvR.hs]))
theorem Srv.hsl{m G:Hp}{x:SvR}(h:Srv m G x):Sl m 5 x.hA x.hd.length x.hc (qDQ x.hd):=h.p.rh.sl.mono (h.le (by simp [SvR.hs]))
theorem Srv.tree{m G:Hp}{x:SvR}(h:Srv m G x):qCl G (x.tg.getD (x.tg.length-1) 0) x.kvL:=h.p.tr _ (by have:=h.i.t0;omega)
theorem qTt(F:Hp)(hK:qAG F ⟨3,0,none⟩ (Sha.K.map W32)){kv:List Sm.PR}(hf:qCS kv){d:Nat}(hd:d≤4)(ep:Nat)(par:xA)(au:Nat)(he:ep≤1000)(hp:par.length≤16)(A:Option Addr)(c:Nat)(hs:Sl F 1 A (qAo kv d).length c (qAH (qAo kv d))):
    Cz prog 40 [.agg #[N64 ep,Str par,I (d:Nat),I (au:Nat),.slice A (qAo kv d).length c]] F (Str (Sm.nd 128 kv)):=by
  obtain ⟨_,h16⟩:=qKc hd
  have hl:(qAo kv d).length=2^d:=by unfold qAo;rw [qBy]
  have h:=qJa F hK ⟨ep,par,((d:Nat):Int),((au:Nat):Int),qAo kv d⟩ A c ⟨by show ep<_;omega,by show par.length≤_;omega,by show(qAo kv d).length≤_;omega⟩ hs (λs hs=>by
    unfold qAo qCc at hs
    obtain ⟨j,_,rfl⟩:=List.mem_map.1 hs
    exact jg (Sm.nd_small _ _) xC)
  rw [show qCW (qAo kv d) ((d:Nat):Int)=Sm.nd 128 kv from(qJQ hf hd).2] at h
  exact h
theorem PbP.root{F:Hp}(hK:qAG F ⟨3,0,none⟩ (Sha.K.map W32)){m G G2:Hp}{x:SvR}{r:StR×WrR}(h:PbP m G G2 x r)(hI:SvI x)(hS:Srv m F (x.pub r))(hl:Le G2 F):
    Cz prog 40 [.agg #[N64 x.hd.length,Str (qA7 x.hdL).dig,I (x.dp:Nat),I (x.audN.length:Nat),.slice r.1.nA (qAo (kvT x.kvL x.cl x.dp (2^x.dp)) x.dp).length r.1.nc]] F (Str (Sm.nd 128 (x.pub r).kvL)):=by
  have e:=x.pub_kvL r hI.tk
  have hf:=hS.i.kf
  have h1:=hI.th
  have h2:=hI.t1
  have hn:=h.ns
  rw [x.pub_hdL] at hn
  rw [e] at hf⊢
  exact qTt F hK hf hI.dp _ _ _ xB (qLL _) _ _ (hn.mono hl)
structure LkR where
 A:Option Addr
 c:Nat
 m:Hp
 s:Nat
 bA:Option Addr
 bc:Nat
 mb:Hp
structure LkP (x:SvR) (s:xA) (r:LkR):Prop where
 ro:Row r.m 102 5 r.A (qBC (lbE x.now) s).length r.c (qBz (qBC (lbE x.now) s))
 st:qJy x.kvL (Sha.tagged 11 [s]) 0 r.s
 rb:Row r.mb 9 1 r.bA (bsd x.kvL (Sha.tagged 11 [s]) 0 (r.s-0)).length r.bc (qAH (bsd x.kvL (Sha.tagged 11 [s]) 0 (r.s-0)))
theorem LbA.small{F:Hp}{ls:List Lb}(h: ∀y∈ls,y.l.length≤1000)(k:xA):(qBC (lbE ls) k).length≤1000:=by
 rw [qFt]
 cases hg:qDM ls k with
 |none=>exact jE _
 |some x=>exact h x (qK9 hg).1
theorem qGJ(F:Hp)(hK:qAG F ⟨3,0,none⟩ (Sha.K.map W32))(x:SvR)(hI:SvI x)(hc:qAG F ⟨x.gs,0,none⟩ [I (x.dp:Nat),Ptr x.gb,.bool false,.map (some x.nA),Ptr x.rA,.map (some x.nB),Ptr x.rB,.slice x.cA x.cl.length x.cc,.slice x.oA x.no.length x.oc,.slice x.tA x.tg.length x.tc,.slice x.hA x.hd.length x.hc])(hts:Sl F 1 x.tA x.tg.length x.tc (qDn x.tg))(hT:qCl F (x.tg.getD (x.tg.length-1) 0) x.kvL)(hw:Fw.MapAt F x.nA (lbV x.now))(hl:LbA F x.now)(s:xA)(hs:s.length≤1000):Ct prog 31 [Ptr x.gs,Str s] [F] (λr:LkR=> .tuple #[.agg #[Str s,.slice r.A (qBC (lbE x.now) s).length r.c,.slice r.bA (bsd x.kvL (Sha.tagged 11 [s]) 0 (r.s-0)).length r.bc,.bool (qAl x.kvL (Sha.tagged 11 [s]) r.s),Str (qBk x.kvL (Sha.tagged 11 [s]) r.s),Str (qBo x.kvL (Sha.tagged 11 [s]) r.s)],I (0:Nat)]) (LkP x s) (λr=> [F,r.mb,r.m]):=by
 have i7:=hI.t0
 have i8:=hI.t1
 have hel:=LbA.small (F:=F) hI.lw s
 refine Ct.walk func31 O ntmps31 O (λw0 hw0=>?_)
 refine J.f λ_ j1=>J.q (qAJ O qYk O) O λg4 _=>J.b O<|J.c j1<|J.k λ_ j2=>J.f λ_ j3=>J.b O<|J.g ((qA6 qYv O O O).as (v':= .bool false) O) O<|J.c j3<|J.a3 ?_
 refine J.M j2<|J.f λ_ j4=>J.b O<|J.g (qAB O O) O<|J.W 9 qBJ sizeOf127 O O O O O<|J.g (qAI O O isAgg127 (m:=F) xD (hc.at (i:=9) O)) O<|J.q (qAZ O O (λF' hF=>qM5 F' x.tA x.tg.length x.tc x.tg (hts.mono (Fa hF)) i7 xB)) O λg16 _=>J.b O<|J.q (qAZ O O (λF' hF=>qGT F' (hK.mo hF) s xB)) O λg18 _=>J.q (qBb O O (λF' hF=>qE5 F' (hK.mo hF) (x.tg.getD (x.tg.length-1) 0) x.kvL (hT.mono (Fa hF)) hI.kf (Sha.tagged 11 [s]) (Sha.tagged_length _ _) 0 xB)) O ?_
 rintro⟨s19,A19,c19,m19⟩ ⟨hst19,hr19⟩
 refine J.p 3 O<|J.q (qAJ O qPH O) O λg6 _=>J.a7 (qAC (i:=3) (l:= [.slice none 0 0,.bool false,Str [],Str []]) (vs:= [.slice A19 ((bsd x.kvL (Sha.tagged 11 [s]) 0 (s19-0)).length) c19,.bool (qAl x.kvL (Sha.tagged 11 [s]) s19),Str (qBk x.kvL (Sha.tagged 11 [s]) s19),Str (qBo x.kvL (Sha.tagged 11 [s]) s19)]) O O O O O qC6 O O) O O λ_ _=>J.b O<|J.c j4<|J.k λ_ j5=>J.b1 [F,blk g6 [.slice A19 ((bsd x.kvL (Sha.tagged 11 [s]) 0 (s19-0)).length) c19,.bool (qAl x.kvL (Sha.tagged 11 [s]) s19),Str (qBk x.kvL (Sha.tagged 11 [s]) s19),Str (qBo x.kvL (Sha.tagged 11 [s]) s19)] 87] [12,13,100011] (.y 0 (.y 1 (.y 2 (.y 3 (.y 4 (.y 5 (.y 6 (.y 7 (.y 9 (.y 11 (.e 8 (.y 10 (.e 12 (.e 13 .nil)))))))))))))) Tryz.wide xF xD ?_
 refine J.L ?_
 refine J.L ?_
 refine J.j O (qAB O O) O O<|J.j O (qAA O O qBJ O qCp O) O O<|J.j O (qAA O O qEW O qIo O) O O<|J.j O (qAI O O isAgg120 (m:=F) xD (hc.at (i:=3) O)) O O<|J.L ?_
 refine J.j O ((qCn O O O qIu u9_ qZr (m:=F) xD hw).as (v':= .slice (qJZ x.now s) (qBC (lbE x.now) s).length (qJY x.now s)) (qKz x.now s)) O O<|J.j O (qAU 1 O O O qGa qC6 O) O O<|J.d1 O (qA2 O O) O O O ?_
 refine J.a1 O (qBb O O (λF' hF=>qFQ F' (qJZ x.now s) ((qBC (lbE x.now) s).length) (qJY x.now s) (qBC (lbE x.now) s) ((hl.at s).mono (Fa hF)) xO)) O xD ?_
 rintro⟨A30,c30,m30⟩ h30
 try dsimp only at h30
 refine J.j O (qAL (places:= [(0,1),(1,1),(2,4)]) (r:= [Str (s),.slice A30 (((qBC (lbE x.now) s)).length) c30,.slice A19 ((bsd x.kvL (Sha.tagged 11 [s]) 0 (s19-0)).length) c19,.bool (qAl x.kvL (Sha.tagged 11 [s]) s19),Str (qBk x.kvL (Sha.tagged 11 [s]) s19),Str (qBo x.kvL (Sha.tagged 11 [s]) s19)]) O O O qLy qYk (λ_=>xI) O) O O<|J.c1 O (qAC (i:=1) (l:= [Str [],.slice none 0 0,.slice none 0 0,.bool false,Str [],Str []]) (vs:= [Str (s),.slice A30 (((qBC (lbE x.now) s)).length) c30,.slice A19 ((bsd x.kvL (Sha.tagged 11 [s]) 0 (s19-0)).length) c19,.bool (qAl x.kvL (Sha.tagged 11 [s]) s19),Str (qBk x.kvL (Sha.tagged 11 [s]) s19),Str (qBo x.kvL (Sha.tagged 11 [s]) s19)]) O O O O O qS4 O O) O O O λ_ _=>J.d4 O (YOp.eop (qBF O O)) O O O O ?_
 intro _ _
 refine J.b0<|J.u (J.D j5 ?_)
 exact J.A<|J.a9 hw0 (λ_ _ h=>h) (rv2 O (RV.blkA 1 O O isAgg89 qS4) O) (qAg (⟨A30,c30,m30,s19,A19,c19,m19⟩:LkR) O ⟨h30,hst19,hr19⟩ [0,2,4] O xC)
theorem qMa(F:Hp)(x:Hd)(A:Option Addr)(c:Nat)(hg:x.good)(hsl:Sl F 1 A x.nodes.length c (qAH x.nodes)):
    Cz prog 158 [.agg #[N64 x.ep,Str x.par,I x.dep,I x.aud,.slice A x.nodes.length c]] F (I x.gen):=by
  refine Ct.walk func158 O ntmps158 O (λw0 hw0=>?_)
  refine J.f λ_ j1=>J.q (qAb O O O) O λg1 _=>J.b O<|J.c j1 ?_
  refine J.f λ_ j2=>J.c0 1 qGA qDP O O O O O<|J.q (qAZ O O (λF' hF=>qHQ F' x A c hg (hsl.mono (Fa hF)))) O λg5 _=>J.b O<|J.c j2 ?_
  refine J.k λ_ j3=>J.T<|J.f λ_ j4=>J.b O<|J.g (qAV O O O) O<|J.b O<|J.c j4 ?_
  refine J.Z O (λh6=>?_) (λh6=>?_)
  ·
    refine J.f λ_ j5=>J.p 2 O<|J.c j5 ?_
    exact J.A<|J.a5<|J.V<|J.E hw0 O () (congrArg I (gen_1 xB).symm) trivial [0] O xC
  refine J.f λ_ j6=>J.W 0 qEJ qDs O O O O O<|J.a6 1 qEv O O O O O<|J.g (qAV O O O) O<|J.b O<|J.c j6 ?_
  refine J.Z O (λh10=>?_) (λh10=>?_)
  ·
    refine J.f λ_ j7=>J.b O<|J.c j7 ?_
    exact J.A<|J.a5<|J.V<|J.E hw0 O () (congrArg I (gen_2 xB xB).symm) trivial [0] O xC
  refine J.k λ_ j8=>J.b1 [F,blk g1 [N64 x.ep,Str x.par,I x.dep,I x.aud,.slice A x.nodes.length c] 52] [] (.y 0 (.y 1 (.e 2 (.y 3 (.y 4 .nil))))) Tryz.wide xF xD ?_
  refine J.j O (qAA O O qEJ O z9_ O) O O<|J.j O (qAD 1 O O O b9_ O) O O<|J.a1 O (qAZ O O (λF' hF=>qGy F' 16 xC xC)) O xD λg17 _=>J.j O (qDH O O O) O O<|J.b7 ?_
  refine J.b0<|J.u (J.D j8 ?_)
  refine J.Z O (λh14=>?_) (λh14=>?_)
  ·
    change x.par≠qAk at h14
    refine J.f λ_ j9=>J.b O<|J.c j9 ?_
    exact J.A<|J.a5<|J.V<|J.E hw0 O () (congrArg I (gen_3 xB xB h14).symm) trivial [0] O xC
  change¬x.par≠qAk at h14
  refine J.b2<|J.a2<|J.u (J.D j3 ?_)
  refine J.f λ_ j10=>J.b O<|J.c j10 ?_
  exact J.A<|J.E hw0 O () (congrArg I (qZh xB xB h14).symm) trivial [0] O xC
theorem qSL(F:Hp)(A:Option Addr)(n c:Nat)(l:List RhD)(hs:Sl F 5 A n c (qDQ l))(hnb:n≤1000000):Ct prog 65 [.slice A n c] [F] (λx:Option Addr×Nat×Hp=> .slice x.1 (l).length x.2.1) (λx=>Row x.2.2 52 5 x.1 (l).length x.2.1 (qDQ l)) (λx=> [F,x.2.2]):=by
 have hkn:l.length=n:=by have:=hs.1;simpa [qDQ] using this
 refine Ct.walk func65 O ntmps65 O (λw0 hw0=>?_)
 refine J.f λ_ j1=>J.b O<|J.c j1 ?_
 refine J.k λ_ j2=>J.f λ_ j3=>J.b O<|J.g ((qFA qGl O O O).as (v':= .bool (decide (A.isNone=true))) (congrArg Value.bool (by cases A<;>rfl))) O<|J.c j3 ?_
 refine J.Z O (λh4=>?_) (λh4=>?_)
 ·
  refine J.f λ_ j4=>J.b O<|J.c j4 ?_
  refine J.A<|J.V ?_
  have hk0:l= []:=by
   refine jT ?_
   rcases yN n with h|h
   · omega
   · obtain ⟨g,o,rfl⟩:=hs.at h;cases h4
  exact J.c6 [0,1] [F,(λ_=>none)] O xC<|J.E hw0 O (none,0,(λ_=>none)) (by rw [hk0];rfl) (by rw [hk0];exact qBZ.nil) [0,1] O xC
 refine J.M j2 ?_
 refine J.f λ_ j5=>J.q (qBs O qGl el52) O λg5 _=>J.b O<|J.q (qAX (i:=1) (m2:=F) O O O qGl qGl el52 O (qAm (q:=True) (xs:=qDQ ([])) O (by intro x hx;first|exact absurd hx (zE)|(rw [List.mem_singleton.1 hx];rfl))) xD (hs) (qXZ _) xB xB) O ?_
 rintro⟨A7,c7,m7⟩ h7
 try dsimp only at h7
 replace h7:Row m7 52 5 A7 (0+n) c7 (qDQ (l)):=h7
 refine J.b O<|J.c j5 ?_
 refine J.A ?_
 rw [show 0+n=l.length by omega] at h7
 exact J.E hw0 O (A7,c7,m7) (by rw [←hkn,jj]) h7 [0,1] O xC
theorem qM9(F:Hp)(x:SvR)(hc:qAG F ⟨x.gs,0,none⟩ [I (x.dp:Nat),Ptr x.gb,.bool false,.map (some x.nA),Ptr x.rA,.map (some x.nB),Ptr x.rB,.slice x.cA x.cl.length x.cc,.slice x.oA x.no.length x.oc,.slice x.tA x.tg.length x.tc,.slice x.hA x.hd.length x.hc])(hs:Sl F 5 x.hA x.hd.length x.hc (qDQ x.hd))(hnb:x.hd.length≤1000000):Ct prog 13 [Ptr x.gs] [F] (λq:Option Addr×Nat×Hp=> .slice q.1 x.hd.length q.2.1) (λq=>Row q.2.2 52 5 q.1 x.hd.length q.2.1 (qDQ x.hd)) (λq=> [F,q.2.2]):=by
 refine Ct.walk func13 O ntmps13 O (λw0 hw0=>?_)
 refine J.f λ_ j1=>J.b O<|J.c j1 ?_
 refine J.k λ_ j2=>J.f λ_ j3=>J.b O<|J.g ((qA6 qYv O O O).as (v':= .bool false) O) O<|J.c j3 ?_
 refine J.a3 ?_
 refine J.M j2 ?_
 refine J.f λ_ j4=>J.b O<|J.g (qAB O O) O<|J.W 10 qBJ qLj O O O O O<|J.g (qAI O O qPY (m:=F) xD (hc.at (i:=10) O)) O<|J.q (qBb O O (λF' hF=>qSL F' x.hA x.hd.length x.hc x.hd (hs.mono (Fa hF)) xO)) O ?_
 rintro⟨A9,c9,m9⟩ h9
 try dsimp only at h9
 refine J.b O<|J.c j4 ?_
 exact J.A<|J.E hw0 O (A9,c9,m9) O h9 [0,1] O xC
theorem qYJ(F:Hp)(h:RhD)(hg:(qA7 h).good)(hns:nsl F h)(hgen:(qA7 h).gen=0)(sl nd:Nat)(h1:1≤nd)(h2:nd≤sl)(h3:sl≤h.aud):Ct prog 89 [.agg #[N64 (h.ep),Str (h.par),I (h.dep:Nat),I (h.aud:Nat),.slice h.nsA h.ns.length h.nsc],.agg #[I (sl:Nat),I (nd:Nat)]] [F] (λr:Nat×Nat=> .tuple #[Ptr r.1,I (0:Nat)]) (λ_=>True) (λr=> [F,blk r.1 [I (sl:Nat),I (nd:Nat),.slice (some ⟨r.2,0,none⟩) 1 1] 279,blk r.2 [N64 (h.ep),Str (h.par),I (h.dep:Nat),I (h.aud:Nat),.slice h.nsA h.ns.length h.nsc] 52]):=by
 refine Ct.walk func89 O ntmps89 O (λw0 hw0=>?_)
 refine J.f λ_ j1=>J.q (qAb O O O) O λg2 _=>J.q (qAb O O O) O λg3 _=>J.p 2 O<|J.c j1 ?_
 refine J.k λ_ j2=>J.f λ_ j3=>J.c0 1 qGA qDP O O O O O<|J.q (qAZ O O (λF' hF=>(by have:=qMa F' (qA7 h) h.nsA h.nsc hg (hns.mono (Fa hF));rw [hgen] at this;exact this))) O λg8 _=>J.b O<|J.c j3 ?_
 refine J.f λ_ j4=>J.b O<|J.g ((qAV O O O).no xC) O<|J.c j4 ?_
 refine J.a3 ?_
 refine J.M j2 ?_
 refine J.k λ_ j5=>J.T<|J.f λ_ j6=>J.W 1 qHp z3_ O O O O O<|J.a6 2 b3_ O O O O O<|J.g ((qAS O O O).no xB) O<|J.b O<|J.G (qAA O O qHp O z3_ O) O<|J.G (qAD 2 O O O b3_ O) O<|J.G (qAA O O qHp O z3_ O) O<|J.G (qAD 2 O O O b3_ O) O<|J.G ((qA5 O O O).no xB) O<|J.p 2 O<|J.c j6 ?_
 refine J.a3 ?_
 refine J.f λ_ j7=>J.W 3 qEJ z3_ O O O O O<|J.a6 1 b3_ O O O O O<|J.W 0 qHp z3_ O O O O O<|J.a6 2 b3_ O O O O O<|J.g ((qAS O O O).no xB) O<|J.b O<|J.c j7 ?_
 refine J.a3 ?_
 refine J.b2<|J.a2<|J.u (J.D j5 ?_)
 refine J.f λ_ j8=>J.c0 2 isAgg191 sizeOf191 O O O O O<|J.c0 1 qGA qDP O O O O O<|J.q (qAE (l:= [.tmp 30]) (xs:= [[N64 (h.ep),Str (h.par),I (h.dep:Nat),I (h.aud:Nat),.slice h.nsA h.ns.length h.nsc]]) O O O O qGl el52 O xC xC xD) O λg31 _=>J.g (qAL (places:= [(0,2),(2,1)]) (r:= [I (sl:Nat),I (nd:Nat),.slice (some ⟨g31,0,none⟩) 1 1]) O O O qJ7 zeroValue279 (λ_=>xI) O) O<|J.q (qAb O O O) O λg33 _=>J.p 2 O<|J.c j8 ?_
 exact J.A<|J.a9 hw0 (λ_ _ h=>h) (qBw O O O) (qAg (g33,g31) O trivial [0,4,3] O xC)
theorem qN6(F:Hp)(gc sl nd:Nat)(A:Option Addr)(n c:Nat)(l:List RhD)(hs:Sl F 5 A n c (qDQ l))(h0:0<n)(hn:n≤1000000)(hC:qAG F ⟨gc,0,none⟩ [I (sl:Nat),I (nd:Nat),.slice A n c]):Cz prog 172 [Ptr gc] F (.agg #[N64 ((l.getD (n-1) qAY).ep),Str ((l.getD (n-1) qAY).par),I ((l.getD (n-1) qAY).dep:Nat),I ((l.getD (n-1) qAY).aud:Nat),.slice (l.getD (n-1) qAY).nsA (l.getD (n-1) qAY).ns.length (l.getD (n-1) qAY).nsc]):=by
 have hln:l.length=n:=by have:=hs.1;simpa [qDQ] using this
 refine Ct.walk func172 O ntmps172 O (λw0 hw0=>?_)
 refine J.f λ_ j1=>J.q (qAJ O qYA O) O λg2 _=>J.c j1 ?_
 refine J.k λ_ j2=>J.b1 [F] [12] (.y 0 (.y 1 (.y 2 (.y 3 (.y 4 (.y 5 (.y 6 (.y 7 (.y 8 (.y 9 (.y 10 (.y 11 (.e 12 .nil))))))))))))) Tryz.wide xF xD ?_
 refine J.L ?_
 refine J.j O (qAB O O) O O<|J.j O (qAA O O qJ7 O qLj O) O O<|J.j O (qAI O O qPY (m:=F) xD (hC.at (i:=2) O)) O O<|J.L ?_
 refine J.j O (qAB O O) O O<|J.j O (qAA O O qJ7 O qLj O) O O<|J.j O (qAI O O qPY (m:=F) xD (hC.at (i:=2) O)) O O<|J.j O (qAO qGl O O) O O<|J.j O ((qA4 O O O xB).nat (n-1) xB) O O<|J.j O (qAF O O O qGl qDP hs xB) O O<|J.j O (qAP O O qGA qDP (m:=F) xD (hs.elem (qE4 xB)) O) O O<|J.c1 O (qAC (i:=1) (l:= [.int .u64 0,Str [],I 0,I 0,.slice none 0 0]) (vs:= [N64 ((l.getD (n-1) qAY).ep),Str ((l.getD (n-1) qAY).par),I ((l.getD (n-1) qAY).dep:Nat),I ((l.getD (n-1) qAY).aud:Nat),.slice (l.getD (n-1) qAY).nsA (l.getD (n-1) qAY).ns.length (l.getD (n-1) qAY).nsc]) O O O O O qDP O O) O O O λ_ _=>J.b0<|J.u (J.D j2 ?_)
 exact J.A<|J.a9 hw0 (λ_ _ h=>h) (rv1 O (RV.blkA 1 O O qGA qDP)) (qAg () O trivial [0] O xC)
theorem qYN(F:Hp)(gc sl nd:Nat)(A:Option Addr)(n c:Nat)(l:List RhD)(hs:Sl F 5 A n c (qDQ l))(h0:0<n)(hn:n≤1000000)(hC:qAG F ⟨gc,0,none⟩ [I (sl:Nat),I (nd:Nat),.slice A n c]):Cz prog 173 [Ptr gc] F (I ((l.getD (n-2) qAY).aud:Nat)):=by
 have hln:l.length=n:=by have:=hs.1;simpa [qDQ] using this
 refine Ct.walk func173 O ntmps173 O (λw0 hw0=>?_)
 refine J.f λ_ j1=>J.b O<|J.c j1 ?_
 refine J.k λ_ j2=>J.f λ_ j3=>J.b O<|J.g ((qA6 underlying91 O O O).as (v':= .bool false) O) O<|J.c j3 ?_
 refine J.a3 ?_
 refine J.M j2 ?_
 refine J.k λ_ j4=>J.b1 [F] [] (.y 0 (.y 1 (.y 2 (.y 3 (.y 4 (.y 5 (.y 6 (.y 7 (.y 8 (.y 9 (.y 10 (.y 11 (.y 12 (.y 13 (.y 14 .nil))))))))))))))) Tryz.wide xF xD ?_
 refine J.L ?_
 refine J.j O (qAB O O) O O<|J.j O (qAA O O qJ7 O qLj O) O O<|J.j O (qAI O O qPY (m:=F) xD (hC.at (i:=2) O)) O O<|J.L ?_
 refine J.j O (qAB O O) O O<|J.j O (qAA O O qJ7 O qLj O) O O<|J.j O (qAI O O qPY (m:=F) xD (hC.at (i:=2) O)) O O<|J.j O (qAO qGl O O) O O<|J.j O (qA4 O O O xB) O O<|J.j O ((qIL O O O).nat (n-2) xB) O O<|J.j O (qAF O O O qGl qDP hs xB) O O<|J.j O (qFD O O qEJ O z3_ hs xB O) O O<|J.j O (qAI O O b3_ (m:=F) xD (hs.part (qE4 xB) 3 1)) O O<|J.b7 ?_
 refine J.b0<|J.u (J.D j4 ?_)
 exact J.A<|J.E hw0 O () O trivial [0] O xC
def ixE(q:En→Bool)(l:List En):Int:=if l.any q=true then((l.findIdx q:Nat):Int) else-1
theorem qZb{q:En→Bool}{l:List En}{k:Nat}(h:k<l.length)(hp:q (l.getD k qAz)=true)(hn: ∀j<k,q (l.getD j qAz)=false):ixE q l=((k:Nat):Int):=by
 have hk:l.getD k qAz=l[k]:=by rw [jB,jC h];rfl
 unfold ixE
 rw [if_pos (List.any_eq_true.2 ⟨l[k],jQ h,hk▸hp⟩)]
 congr 1
 rw [List.findIdx_eq h]
 refine⟨hk▸hp,λj hj=>?_⟩
 have:=hn j hj
 rw [jB,jC xB] at this
 exact this
theorem qZZ{q:En→Bool}{l:List En}(hn: ∀j<l.length,q (l.getD j qAz)=false):ixE q l= -1:=by
 unfold ixE
 rw [if_neg]
 intro h
 obtain ⟨x,hx,hp⟩:=List.any_eq_true.1 h
 obtain ⟨j,hj,rfl⟩:=zL hx
 have:=hn j hj
 rw [jB,jC hj] at this
 rw [show(some l[j]).getD qAz=l[j] from rfl,hp] at this
 cases this
theorem qUu{q:En→Bool}{l:List En}(h:ixE q l= -1):l.filter (λk=>!q k)=l:=by
  unfold ixE at h
  split at h
  · omega
  · rename_i h1
    refine List.filter_eq_self.2 λx hx=>?_
    cases hq:q x with
    |false=>rfl
    |true=>exact absurd (List.any_eq_true.2 ⟨x,hx,hq⟩) h1
theorem qZa{q:En→Bool}{l:List En}(h: ¬ixE q l= -1): ∃i:Nat,ixE q l=((i:Nat):Int)∧i<l.length∧l.take i=(l.take (i+1)).filter (λk=>!q k):=by
  unfold ixE at h⊢
  split at h
  · rename_i h1
    rw [if_pos h1]
    have hi:l.findIdx q<l.length:=List.findIdx_lt_length_of_exists (by simpa using h1)
    refine⟨l.findIdx q,O,hi,?_⟩
    rw [jK hi,jo,show [l[l.findIdx q]].filter (λk=>!q k)= [] from List.filter_eq_nil_iff.2 λx hx=>by rw [List.mem_singleton.1 hx,List.findIdx_getElem (w:=hi)];simp,jR]
    refine(List.filter_eq_self.2 λx hx=>?_).symm
    obtain ⟨j,hj,rfl⟩:=zL hx
    rw [jF] at hj
    have hjk:j<l.findIdx q:=xB
    have:=List.not_of_lt_findIdx hjk
    rw [List.getElem_take];simpa using this
  · exact absurd O h
theorem qLM{q:En→Bool}{l L:List En}{w j:Nat}(hw:w<j)(hj:j<l.length)(hL:L.length=l.length)(h1:L.take w=(l.take j).filter (λk=>!q k))(h2:L.drop j=l.drop j)(hq:q (L.getD j qAz)=false):
    (L.set w (L.getD j qAz)).take (w+1)=(l.take (j+1)).filter (λk=>!q k)∧(L.set w (L.getD j qAz)).drop (j+1)=l.drop (j+1):=by
  have e0:L.getD j qAz=l[j]:=by
    have:=congrArg (λz=>z.getD 0 qAz) h2
    simpa [jB,jq,jC hj] using this
  constructor
  · rw [jK (by rw [jk];omega),List.take_set_of_le (jJ _),h1,jK hj,jo,List.getElem_set_self,e0]
    congr 1
    rw [e0] at hq
    exact(List.filter_eq_self.2 λx hx=>by rw [List.mem_singleton.1 hx,hq];rfl).symm
  · rw [List.drop_set_of_lt xB]
    have:=congrArg (List.drop 1) h2
    simpa [zk,Nat.add_comm] using this
theorem qLN{q:En→Bool}{l L:List En}{w j:Nat}(hj:j<l.length)(h1:L.take w=(l.take j).filter (λk=>!q k))(h2:L.drop j=l.drop j)(hq:q (L.getD j qAz)=true):
    L.take w=(l.take (j+1)).filter (λk=>!q k)∧L.drop (j+1)=l.drop (j+1):=by
  have e0:L.getD j qAz=l[j]:=by
    have:=congrArg (λz=>z.getD 0 qAz) h2
    simpa [jB,jq,jC hj] using this
  constructor
  · rw [h1,jK hj,jo]
    rw [e0] at hq
    rw [show [l[j]].filter (λk=>!q k)= [] from List.filter_eq_nil_iff.2 λx hx=>by rw [List.mem_singleton.1 hx,hq];simp,jR]
  · have:=congrArg (List.drop 1) h2
    simpa [zk,Nat.add_comm] using this
abbrev Pk:=xA×xA×Int
def pkK(p:Pk):Value:= .agg #[Str p.1,Str p.2.1,I p.2.2]
theorem eqPk(x y:Pk)(w:World):(Op.equalIn 10000 32 (pkK x) (pkK y)).run prog w= .ok (decide (x=y)) w:=by
 obtain ⟨o,r,h⟩:=x
 obtain ⟨o',r',h'⟩:=y
 rw [show(decide ((o,r,h)=(o',r',h')):Bool)=decide (o=o'∧r=r'∧h=h') from decide_eq_decide.2 xD]
 exact qV8 9998 o r h o' r' h' w
theorem ckPk(x:Pk)(e:Bool)(w:World):(Instr.checkKey e 10000 32 (pkK x)).run prog w= .ok () w:=by
 have a3:=b3_
 have ag:=b9_
 have us:=run_underlying (w:=w) qLo
 have c2: ∀(v:Int),(Instr.checkKey e 9999 3 (.int .i64 v)).run prog w= .ok () w:=λv=>MapKept.run_checkKey (d:= .int .i64) u3_ (k:= .int .i64 v) (show IntKind.i64=IntKind.i64 from rfl) e 9998
 have c3: ∀(v:xA),(Instr.checkKey e 9999 9 (Str v)).run prog w= .ok () w:=λv=>MapKept.run_checkKey (d:= .string) u9_ (k:=Str v) trivial e 9998
 unfold pkK
 rw [show(10000:Nat)=9999+1 from rfl]
 unfold Instr.checkKey
 simp only [Sem.run_bind,us,Result.andThen_ok]
 rw [←Array.forIn_toList]
 simp [part,a3,ag,c2,c3,Result.andThen]
theorem qZX:qSu pkK prog 32 where
 wide:=by kernel_rfl
 ck:=ckPk
 eq a b w:=eqPk a b w
 inj a b h:=by
  obtain ⟨o,r,h1⟩:=a
  obtain ⟨o',r',h2⟩:=b
  unfold pkK at h
  simp at h
  obtain ⟨e1,e2,e3⟩:=h
  rw [e1,e2,e3]
def qEq(own:List Pk):List (Pk×Value):=own.map λk=>(k,.bool true)
theorem qK4(own:List Pk)(k:Pk):qJc (qEq own) k=if k∈own then some (.bool true) else none:=by
  induction own with
  |nil=>rfl
  |cons a r ih=>
    show(if a=k then some (Value.bool true) else qJc (qEq r) k)=_
    by_cases h:a=k
    · rw [if_pos h,if_pos (by rw [h];exact .head _)]
    · rw [if_neg h,ih]
      by_cases h2:k∈r
      · rw [if_pos h2,if_pos (.tail _ h2)]
      · rw [if_neg h2,if_neg (λe=>by cases e with|head=>exact h rfl|tail _ e=>exact h2 e)]
theorem qO5(own:List Pk)(k:Pk):qEq own++ [(k,.bool true)]=qEq (own++ [k]):=by unfold qEq;rw [jO];rfl
def qPU(own:List Pk)(x:En):Bool:=decide ((x.o,x.r,x.h)∈own)
def qCU(own:List Pk)(l:List En):List En:=l.filter λx=>!qPU own x
theorem qHI(F:Hp)(gm gk:Nat)(lb:xA)(A:Option Addr)(n c:Nat)(l:List En)(hs:Sl F 5 A n c (qBz l))(hn:n≤1000000)(hM:qAG F ⟨gm,0,none⟩ [Str lb,.map (some gk),.slice A n c]):Ct prog 34 [Ptr gm] [F] (λx:Option Addr×Nat×Hp=> .slice x.1 (l).length x.2.1) (λx=>Row x.2.2 102 5 x.1 (l).length x.2.1 (qBz l)) (λx=> [F,x.2.2]):=by
 refine Ct.walk func34 O ntmps34 O (λw0 hw0=>?_)
 refine J.f λ_ j1=>J.b O<|J.c j1<|J.k λ_ j2=>J.f λ_ j3=>J.b O<|J.g ((qA6 underlying76 O O O).as (v':= .bool false) O) O<|J.c j3<|J.a3 ?_
 refine J.M j2<|J.f λ_ j4=>J.b O<|J.g (qAB O O) O<|J.W 2 qHo qLi O O O O O<|J.g (qAI O O qOD (m:=F) xD (hM.at (i:=2) O)) O<|J.q (qBb O O (λF' hF=>qFQ F' A n c l (hs.mono (Fa hF)) xO)) O ?_
 rintro⟨A9,c9,m9⟩ h9
 try dsimp only at h9
 exact J.b O<|J.c j4<|J.A<|J.E hw0 O (A9,c9,m9) O h9 [0,1] O xC
theorem qP6(F:Hp)(x:En)(gm gk:Nat)(lb:xA)(A:Option Addr)(n c:Nat)(l:List En)(hs:Sl F 5 A n c (qBz l))(hn:n≤1000000)(hM:qAG F ⟨gm,0,none⟩ [Str lb,.map (some gk),.slice A n c])(own:List Pk)(hk:qHi pkK F gk (qEq own))(gq:Nat)(hq:qAG F ⟨gq,0,none⟩ [Ptr gm]):Cz prog 182 [.agg #[N64 (x.v),Str (x.o),Str (x.r),I (x.h),Str (x.p)],Ptr gq] F (.bool (qPU own x)):=by
 refine Ct.walk func182 O ntmps182 O (λw0 hw0=>?_)
 refine J.f λ_ j1=>J.q (qAb O O O) O λg2 _=>J.b O<|J.c j1<|J.k λ_ j2=>J.b1 [F,blk g2 [N64 (x.v),Str (x.o),Str (x.r),I (x.h),Str (x.p)] 102] [] (.y 0 (.y 1 (.y 2 (.y 3 (.y 4 (.y 5 (.y 6 (.y 7 .nil)))))))) Tryz.wide xF xD ?_
 refine J.j O (qAI O O isAgg76 (m:=F) xD (hq)) O O<|J.j O (qAB O O) O O<|J.j O (qAA O O qHo O sizeOf193 O) O O<|J.j O (qAI O O isAgg193 (m:=F) xD (hM.at (i:=1) O)) O O<|J.j O (qAA O O qCA O qCT O) O O<|J.j O (qAP O O qGb qCT (m:=blk g2 [N64 (x.v),Str (x.o),Str (x.r),I (x.h),Str (x.p)] 102) xD (qAG.blk0.sub 1 3) O) O O<|J.j O ((qHC (K:=pkK) (l:=qEq own) (s:=(x.o,x.r,x.h)) qZX O O O underlying193 e4_ (m:=F) xD hk).as (v':= .bool (qPU own x)) (by rw [qK4];unfold qPU;split<;>simp [*])) O O<|J.b7 ?_
 refine J.b0<|J.u (J.D j2 ?_)
 exact J.A<|J.E hw0 O () O trivial [0] O xC
theorem qX7(F:Hp)(A:Option Addr)(n c:Nat)(l:List En)(hs:Sl F 5 A n c (qBz l))(hn:n≤1000000)(gm gk:Nat)(lb:xA)(A0:Option Addr)(n0 c0:Nat)(l0:List En)(hs0:Sl F 5 A0 n0 c0 (qBz l0))(hn0:n0≤1000000)(hM:qAG F ⟨gm,0,none⟩ [Str lb,.map (some gk),.slice A0 n0 c0])(own:List Pk)(hk:qHi pkK F gk (qEq own))(gq:Nat)(hq:qAG F ⟨gq,0,none⟩ [Ptr gm]):Cz prog 243 [.slice A n c,.func (.func 182) #[] #[Ptr gq]] F (I (ixE (qPU own) l)):=by
 have hkn:l.length=n:=by have:=hs.1;simpa [qBz] using this
 refine Ct.walk func243 O ntmps243 O (λw0 hw0=>?_)
 refine J.f λ_ j1=>J.b O<|J.c j1<|J.k λ_ j2=>J.f λ_ j3=>J.b O<|J.g (qAO qCK O O) O<|J.b O<|J.c j3<|J.T<|J.b5 (X:=Nat) (λζ=> [(0,.slice A n c),(1,.func (.func 182) #[] #[Ptr gq]),(7,I (n:Nat)),(8,I (ζ:Nat))]) (λζ=> [F]) (λζ=>ζ≤n∧ ∀j<ζ,qPU own (l.getD j qAz)=false) (λζ=>n-ζ) 0 (⟨jE _,λj h=>absurd h (jy j)⟩) ⟨O,O,O,O,trivial⟩ (λ_ h=>h) ?_
 rintro k ⟨hk2,hno⟩ I0 hI0
 refine J.f λ_ j4=>J.g (qAS O O O) O<|J.c j4<|J.k λ_ j5=>J.Z O (λh9=>?_) (λh9=>?_)
 ·
  refine J.M j5<|J.k λ_ j6=>J.T<|J.f λ_ j7=>J.p 2 O<|J.c j7<|J.f λ_ j8=>J.p 3 O<|J.g (qAF O O O qCK qAj hs xB) O<|J.g (qAP O O qBB qAj (m:=F) xD (hs.elem (qCk xB)) O) O<|J.q (qCg O O O ent (Ct.use0 (λF' hF=>qP6 F' (l.getD k qAz) gm gk lb A0 n0 c0 l0 (hs0.mono (Fa hF)) hn0 (hM.mono (Fa hF)) own (hk.mono (Fa hF)) gq (hq.mono (Fa hF))))) O λg16 _=>J.c j8<|J.c5 O (λh16=>?_) (λh16=>?_)
  ·
   exact J.f λ_ j9=>J.p 2 O<|J.c j9<|J.A<|J.a5<|J.V<|J.V<|J.a5<|J.V<|J.E hw0 O () (by rw [qZb (k:=k) xB (by simpa using h16) hno]) trivial [0] O xC
  refine J.b2<|J.a2<|J.u (J.D j6 ?_)
  exact J.H<|J.g ((qAR O O O xB).nat (k+1) xB) O<|J.b O<|J.a4<|J.u<|J.a8 (k+1) (λη (hη:_∧n-η<n-k)=>hI0 η hη.1 hη.2) ⟨⟨xB,λj hj=>by rcases Nat.lt_succ_iff_lt_or_eq.1 hj with h|rfl;exact hno j h;simpa using h16⟩,by first|omega|(dsimp only;omega)⟩ ⟨O,O,O,O,trivial⟩ (λ_ h=>h)
 refine J.b3<|J.a0<|J.a0<|J.b4 ?_
 refine J.u (J.D j2 ?_)
 exact J.f λ_ j10=>J.b O<|J.c j10<|J.A<|J.E hw0 O () (by rw [qZZ (λj hj=>hno j xB)]) trivial [0] O xC
theorem qX9(F m:Hp)(A:Option Addr)(n c:Nat)(l:List En)(hr:Row m 102 5 A n c (qBz l))(hn:n≤1000000)(gm gk:Nat)(lb:xA)(A0:Option Addr)(n0 c0:Nat)(l0:List En)(hs0:Sl F 5 A0 n0 c0 (qBz l0))(hn0:n0≤1000000)(hM:qAG F ⟨gm,0,none⟩ [Str lb,.map (some gk),.slice A0 n0 c0])(own:List Pk)(hk:qHi pkK F gk (qEq own))(gq:Nat)(hq:qAG F ⟨gq,0,none⟩ [Ptr gm]):
    Ct prog 181 [.slice A n c,.func (.func 182) #[] #[Ptr gq]] [m,F] (λ_:Hp=> .slice A (qCU own l).length c) (λm'=>Row m' 102 5 A (qCU own l).length c (qBz (qCU own l))) (λm'=> [m',F]):=by
  have hkn:l.length=n:=by have:=hr.len;simpa [qBz] using this
  have hnc:=hr.2.2.1
  refine Ct.walk func181 O ntmps181 O (λw0 hw0=>?_)
  refine J.f λ_ j1=>J.b O<|J.c j1<|J.f λ_ j2=>J.p 2 O<|J.q (qAZ O O (λF' hF=>qX7 F' A n c l (hr.sl.mono (Fa hF)) hn gm gk lb A0 n0 c0 l0 (hs0.mono (Fa hF)) hn0 (hM.mono (Fa hF)) own (hk.mono (Fa hF)) gq (hq.mono (Fa hF)))) O λg10 _=>J.b O<|J.c j2<|J.k λ_ j3=>J.f λ_ j4=>J.b O<|J.g (qAe O O O) O<|J.c j4<|J.Z O (λh12=>?_) (λh12=>?_)
  ·
    refine J.f λ_ j5=>J.p 2 O<|J.c j5<|J.A<|J.V ?_
    have hf:(qCU own l)=l:=qUu h12
    exact J.E hw0 O m (by rw [hf,hkn]) (by rw [hf,hkn];exact hr) [0,1] O xC
  refine J.M j3<|J.k λ_ j6=>J.k λ_ j7=>?_
  obtain ⟨i0,h5,hi0,hf0⟩:=qZa h12
  obtain ⟨ga,rfl⟩:=hr.at xB
  rw [h5]
  refine J.H<|J.b O<|J.g ((qAR O O O xB).nat (i0+1) xB) O<|J.b O<|J.c j7<|J.T<|J.b5 (X:=Nat×Nat×List En×Hp) (λζ=> [(0,.slice (some ⟨ga,0,none⟩) n c),(1,.func (.func 182) #[] #[Ptr gq]),(5,I (ζ.1:Nat)),(6,I (ζ.2.1:Nat))]) (λζ=> [ζ.2.2.2,F]) (λζ=>ζ.1<ζ.2.1∧ζ.2.1≤n∧ζ.2.2.1.length=n∧ζ.2.2.1.take ζ.1=(l.take ζ.2.1).filter (λx=>!qPU own x)∧ζ.2.2.1.drop ζ.2.1=l.drop ζ.2.1∧Row ζ.2.2.2 102 5 (some ⟨ga,0,none⟩) n c (qBz ζ.2.2.1)) (λζ=>n-ζ.2.1) (i0,i0+1,l,m) (⟨by dsimp only;omega,by dsimp only;omega,hkn,hf0,O,hr⟩) ⟨O,O,O,O,trivial⟩ (λ_ h=>h) ?_
  rintro⟨w,j,L,m⟩ ⟨hw,hj,hL,hA,hB,hr⟩ I0 hI0
  dsimp only at hw hj hL hA hB hr⊢
  refine J.k λ_ j8=>J.f λ_ j9=>J.p 2 O<|J.g (qAO qCK O O) O<|J.g (qAS O O O) O<|J.c j9<|J.Z O (λh19=>?_) (λh19=>?_)
  ·
    refine J.M j8<|J.k λ_ j10=>J.T<|J.f λ_ j11=>J.p 2 O<|J.g (qAF O O O qCK qAj hr.sl xB) O<|J.g (qAP O O qBB qAj (m:=m) xD (hr.sl.elem (qCk xB)) O) O<|J.q (qAJ O qDe O) O λg7 _=>J.a7 (qAC (i:=2) (l:= [.int .u64 0,Str [],Str [],I 0,Str []]) (vs:= [N64 ((L.getD j qAz).v),Str ((L.getD j qAz).o),Str ((L.getD j qAz).r),I ((L.getD j qAz).h),Str ((L.getD j qAz).p)]) O O O O O qAj O O) O O λ_ _=>J.c j11<|J.f λ_ j12=>J.b O<|J.c0 2 qBB qAj O O O O O<|J.q (qCg O O O ent (Ct.use0 (λF' hF=>qP6 F' (L.getD j qAz) gm gk lb A0 n0 c0 l0 (hs0.mono (Fa hF)) hn0 (hM.mono (Fa hF)) own (hk.mono (Fa hF)) gq (hq.mono (Fa hF))))) O λg28 _=>J.g (qAs O O) O<|J.c j12<|J.c5 O (λh29=>?_) (λh29=>?_)
    ·
      refine J.f λ_ j13=>J.p 2 O<|J.c0 2 qBB qAj O O O O O<|J.g (qAh (i:=w) (j:=0+w*5) O O O qCK qAj xB xB) O<|J.a7 (qBL (i:=0) (k:=w) (off:=0) (b:=(L.getD j qAz).cells) O O O O hr (vs:= [N64 ((L.getD j qAz).v),Str ((L.getD j qAz).o),Str ((L.getD j qAz).r),I ((L.getD j qAz).h),Str ((L.getD j qAz).p)]) O qAj O xB (qCk xB) O (by show 0+5≤5;decide)) O O ?_
      rintro m9 h9
      rw [qU5] at h9
      refine J.c j13<|J.H<|J.b O<|J.g ((qAR O O O xB).nat (w+1) xB) O<|J.b O<|J.a4<|J.a2<|J.u (J.D j10 ?_)
      exact J.H<|J.b O<|J.g ((qAR O O O xB).nat (j+1) xB) O<|J.b O<|J.a4<|J.u<|J.a8 (w+1,j+1,L.set w (L.getD j qAz),m9) (λη (hη:_∧n-η.2.1<n-j)=>hI0 η hη.1 hη.2) ⟨⟨by dsimp only;omega,by dsimp only;omega,by dsimp only;rw [jk];exact hL,(qLM hw xB xB hA hB (by simpa using h29)).1,(qLM hw xB xB hA hB (by simpa using h29)).2,by assumption⟩,by first|omega|(dsimp only;omega)⟩ ⟨O,O,O,O,trivial⟩ (λ_ h=>h.pick [0,1] xC)
    refine J.b2<|J.a2<|J.u (J.D j10 ?_)
    exact J.H<|J.b O<|J.g ((qAR O O O xB).nat (j+1) xB) O<|J.b O<|J.a4<|J.u<|J.a8 (w,j+1,L,m) (λη (hη:_∧n-η.2.1<n-j)=>hI0 η hη.1 hη.2) ⟨⟨by dsimp only;omega,by dsimp only;omega,hL,(qLN xB hA hB (by simpa using h29)).1,(qLN xB hA hB (by simpa using h29)).2,hr⟩,by first|omega|(dsimp only;omega)⟩ ⟨O,O,O,O,trivial⟩ (λ_ h=>h.pick [0,1] xC)
  refine J.b3<|J.a0<|J.a0<|J.b4 ?_
  refine J.u (J.D j6 ?_)
  refine J.f λ_ j14=>J.p 2 O<|J.g (qC0 O O qCK qAj O O xB) O<|J.a7 (qDZ (i:=0) (l:=w) (h:=n) O O (by split<;>simp [Addr.add_lit]) qCK el102 O O O (hr.shrink xB) O xB xB) O O ?_
  rintro mc hmc
  refine J.c j14<|J.f λ_ j15=>J.p 2 O<|J.g (qCm O O qCK qAj O xB) O<|J.b O<|J.c j15<|J.A ?_
  have hfl:(qCU own l)=L.take w:=by show l.filter _=_;rw [hA,jV xB]
  have hfw:(qCU own l).length=w:=by rw [hfl,jF];omega
  rw [qLF,←hfl] at hmc
  exact J.E hw0 O mc (by rw [hfw]) (by rw [hfw];exact hmc) [0,1] O xC
theorem qRO(F:Hp)(gm gk:Nat)(lb:xA)(A:Option Addr)(n c:Nat)(l:List En)(hs:Sl F 5 A n c (qBz l))(hn:n≤1000000)(hM:qAG F ⟨gm,0,none⟩ [Str lb,.map (some gk),.slice A n c])(own:List Pk)(hk:qHi pkK F gk (qEq own)):Ct prog 101 [Ptr gm] [F] (λx:Option Addr×Nat×Hp=> .slice x.1 (qCU own l).length x.2.1) (λx=>Row x.2.2 102 5 x.1 (qCU own l).length x.2.1 (qBz (qCU own l))) (λx=> [F,x.2.2]):=by
 have hkn:l.length=n:=by have:=hs.1;simpa [qBz] using this
 refine Ct.walk func101 O ntmps101 O (λw0 hw0=>?_)
 refine J.f λ_ j1=>J.q (qAb O O O) O λg1 _=>J.b O<|J.c j1<|J.f λ_ j2=>J.a6 1 isAgg76 O O O O O<|J.q (qBb O O (λF' hF=>qHI F' gm (gk) lb A n c l (hs.mono (Fa hF)) xB (hM.mono (Fa hF)))) O ?_
 rintro⟨A4,c4,m4⟩ h4
 try dsimp only at h4
 refine J.g (qBM O O) O<|J.q (qAK O O ent (Ct.use1 2 O (λF' hF=>qX9 F' m4 A4 l.length c4 l h4 xB gm gk lb A n c l (hs.mono (Fa hF)) hn (hM.mono (Fa hF)) own (hk.mono (Fa hF)) g1 (qAG.blk0.mono (hF (blk g1 [Ptr gm] 76) xD))))) O ?_
 rintro m6 h6
 exact J.b O<|J.c j2<|J.A<|J.E hw0 O (A4,c4,m6) O h6 [0,2] O xC
theorem qRS(F:Hp)(hA:qAG F ⟨0,0,none⟩ qBT)(hT:qBv F)(s:xA)(hsl:s.length≤1000000)(hns:normal s=(s,0)):Ct prog 25 [Str s] [F] (λx:Nat×Nat=> .tuple #[Ptr x.1,I 0]) (λ_=>True) (λx=> [F,qAN x.2 (.map #[] 0),blk x.1 [Str s,.map (some x.2),.slice none 0 0] 195]):=by
 refine Ct.walk func25 O ntmps25 O (λw0 hw0=>?_)
 refine J.f λ_ j1=>J.p 2 O<|J.c j1<|J.f λ_ j2=>J.b O<|J.q (qAZ O O (λF' hF=>(by have:=qHE F' (hA.mono (Fa hF)) (hT.mono (Fa hF)) s xN;rw [hns] at this;exact this))) O λg8 _=>J.p 5 O<|J.c j2<|J.k λ_ j3=>J.T<|J.f λ_ j4=>J.b O<|J.g ((qAV O O O).no (λh=>h O)) O<|J.b O<|J.c j4<|J.a3 ?_
 refine J.f λ_ j5=>J.p 2 O<|J.g ((qDH O O O).no (λh=>h O)) O<|J.b O<|J.c j5<|J.a3 ?_
 refine J.b2<|J.a2<|J.u (J.D j3 ?_)
 refine J.f λ_ j6=>J.b O<|J.q (qDI O) O ?_
 rintro g20 _
 exact J.g (qAL (places:= [(0,1),(1,1),(2,1)]) (r:= [Str (s),.map (some g20),.slice none 0 0]) O O O qHo zeroValue195 (λ_=>xI) O) O<|J.q (qAb O O O) O λg22 _=>J.p 2 O<|J.c j6<|J.A<|J.a9 hw0 (λ_ _ h=>h) (qBw O O O) (qAg (g22,g20) O trivial [0,1,2] O xC)
theorem qRR(F mk:Hp)(gm gk:Nat)(lb:xA)(A:Option Addr)(n c:Nat)(own:List Pk)(hk:qF0 pkK mk gk (qEq own))(k:Pk)(hnk:k∉own):Ct prog 26 [Ptr gm,.agg #[Str k.1,Str k.2.1,I k.2.2]] [blk gm [Str lb,.map (some gk),.slice A n c] 195,mk,F] (λ_:Hp=> .tuple #[]) (λm=>qF0 pkK m gk (qEq (own++ [k]))) (λm=> [blk gm [Str lb,.map (some gk),.slice A n c] 195,m,F]):=by
 refine Ct.walk func26 O ntmps26 O (λw0 hw0=>?_)
 refine J.f λ_ j1=>J.q (qAb O O O) O λg3 _=>J.c j1<|J.f λ_ j2=>J.b O<|J.g ((qVp underlying76 O O O).as (v':= .bool true) O) O<|J.c j2<|J.c3 ?_
 refine J.b1 [blk gm [Str lb,.map (some gk),.slice A n c] 195,F,blk g3 [Str (k.1),Str (k.2.1),I (k.2.2)] 32] [5] (.y 0 (.y 1 (.y 2 (.y 3 (.y 4 (.e 5 .nil)))))) Tryz.wide xF xD ?_
 refine J.L ?_
 refine J.j O (qAB O O) O O<|J.j O (qAA O O qHo O sizeOf193 O) O O<|J.j O (qAD 0 O O O isAgg193 O) O O<|J.j O (qAU 2 O O O qGb qCT O) O O<|J.c1 O (qIM qZX O O O O underlying193 (i:=1) O hk (by rw [qK4,if_neg hnk])) O O O ?_
 rintro m2 h2
 rw [qO5] at h2
 exact J.b0<|J.d3 hw0 (λ_ _ h=>h) (qI7 O) (qAg m2 O h2 [0,1,2] O xC)
theorem qX8(F:Hp)(A:Option Addr)(n c:Nat)(l:List En)(hs:Sl F 5 A n c (qBz l))(hn:n≤1000000)(A2:Option Addr)(n2 c2:Nat)(l2:List En)(hs2:Sl F 5 A2 n2 c2 (qBz l2)):Cz prog 100 [.slice A n c,.slice A2 n2 c2] F (.bool (decide (l=l2))):=by
 have hkn:l.length=n:=by have:=hs.1;simpa [qBz] using this
 have hkn2:l2.length=n2:=by have:=hs2.1;simpa [qBz] using this
 refine Ct.walk func100 O ntmps100 O (λw0 hw0=>?_)
 refine J.f λ_ j1=>J.b O<|J.c j1<|J.k λ_ j2=>J.f λ_ j3=>J.b O<|J.g (qAO qCK O O) O<|J.b O<|J.g (qAO qCK O O) O<|J.g (qAV O O O) O<|J.c j3<|J.Z O (λh10=>?_) (λh10=>?_)
 ·
  exact J.f λ_ j4=>J.b O<|J.c j4<|J.A<|J.V<|J.E hw0 O () (by rw [decide_eq_false (λe=>by rw [e] at hkn;omega)]) trivial [0] O xC
 refine J.M j2<|J.k λ_ j5=>J.f λ_ j6=>J.b O<|J.g (qAO qCK O O) O<|J.b O<|J.c j6<|J.T<|J.b5 (X:=Nat) (λζ=> [(0,.slice A n c),(1,.slice A2 n2 c2),(12,I (n:Nat)),(13,I (ζ:Nat))]) (λζ=> [F]) (λζ=>ζ≤n∧ ∀j<ζ,l.getD j qAz=l2.getD j qAz) (λζ=>n-ζ) 0 (⟨jE _,λj h=>absurd h (jy j)⟩) ⟨O,O,O,O,trivial⟩ (λ_ h=>h) ?_
 rintro k ⟨hk,hno⟩ I0 hI0
 refine J.f λ_ j7=>J.g (qAS O O O) O<|J.c j7<|J.k λ_ j8=>J.Z O (λh14=>?_) (λh14=>?_)
 ·
  refine J.M j8<|J.k λ_ j9=>J.T<|J.f λ_ j10=>J.p 2 O<|J.c j10<|J.k λ_ j11=>J.b1 [F] [] (.y 0 (.y 1 (.y 2 (.y 3 (.y 4 (.y 5 (.y 6 (.y 7 (.y 8 .nil))))))))) Tryz.wide xF xD ?_
  refine J.L ?_
  refine J.L ?_
  refine J.j O (qAF O O O qCK qAj hs xB) O O<|J.j O (qAP O O qBB qAj (m:=F) xD (hs.elem (qCk xB)) O) O O<|J.L ?_
  refine J.L ?_
  refine J.j O (qAF O O O qCK qAj hs2 xB) O O<|J.j O (qAP O O qBB qAj (m:=F) xD (hs2.elem (qCk xB)) O) O O<|J.j O ((qZI O O O xI (λw=>eqEn (l.getD k qAz) (l2.getD k qAz) w)).as (v':= .bool (!decide ((l.getD k qAz)=(l2.getD k qAz)))) O) O O<|J.b0<|J.u (J.D j11 ?_)
  refine J.c5 O (λh24=>?_) (λh24=>?_)
  ·
   exact J.f λ_ j12=>J.b O<|J.c j12<|J.A<|J.a5<|J.V<|J.V<|J.a5<|J.V<|J.E hw0 O () (by rw [decide_eq_false (λe=>by rw [e] at h24;simp at h24)]) trivial [0] O xC
  refine J.b2<|J.a2<|J.u (J.D j9 ?_)
  exact J.H<|J.g ((qAR O O O xB).nat (k+1) xB) O<|J.b O<|J.a4<|J.u<|J.a8 (k+1) (λη (hη:_∧n-η<n-k)=>hI0 η hη.1 hη.2) ⟨⟨xB,λj hj=>by rcases Nat.lt_succ_iff_lt_or_eq.1 hj with h|rfl;exact hno j h;simpa using h24⟩,by first|omega|(dsimp only;omega)⟩ ⟨O,O,O,O,trivial⟩ (λ_ h=>h)
 refine J.b3<|J.a0<|J.a0<|J.b4 ?_
 refine J.u (J.D j5 ?_)
 exact J.f λ_ j13=>J.b O<|J.c j13<|J.A<|J.E hw0 O () (by rw [decide_eq_true (List.ext_getElem xB (λj h1 h2=>by have:=hno j xB;rw [jB,jC h1,jB,jC h2] at this;exact this))]) trivial [0] O xC
end Go.Proofs.YtmemgokiolfdoaaGreatDoor