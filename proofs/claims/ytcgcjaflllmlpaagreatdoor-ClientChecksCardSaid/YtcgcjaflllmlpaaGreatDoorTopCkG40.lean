/- A part of the proof. -/
import Derived.Test.YtcgcjaflllmlpaaGreatDoorTopCkG39
import Derived.Test.YtcgcjaflllmlpaaGreatDoorTopCkG37
set_option maxRecDepth 100000
set_option maxHeartbeats 1000000
set_option linter.unusedSimpArgs false
set_option linter.unusedVariables false
namespace Go.Proofs.YtcgcjaflllmlpaaGreatDoor
open Go Go.Fw Go.Proofs.Tryz
theorem el165:qCt prog 165 [.int .i64 0,.int .i64 0,Str [],Str [],.slice none 0 0] 72:=qCt.of xI O
def qCu(cl:List Chg)(d b:Nat):List Chg:=cl.filter λx=>decide (ofV x.k d=b)
def kvT(l:List Sm.PR)(cl:List Chg)(d:Nat):Nat→List Sm.PR
 |0=>l
 |b+1=>kvC (kvT l cl d b) (qCu cl d b)
structure qYh (cl:List Chg):Prop where
 len:cl.length≤256
 k16: ∀x∈cl,x.k.length=16
 val: ∀x∈cl,x.v.length≤1000000
theorem qYh.band{cl:List Chg}(h:qYh cl)(d b:Nat):qS4 b d (qCu cl d b) where
 len:=jZ (yB _ _) h.len
 k16:=λx hx=>h.k16 x (List.mem_filter.1 hx).1
 bnd:=λx hx=>by
  have h1:=of_decide_eq_true (List.mem_filter.1 hx).2
  unfold ofV at h1
  rwa [if_pos (h.k16 x (List.mem_filter.1 hx).1)] at h1
 val:=λx hx=>h.val x (List.mem_filter.1 hx).1
theorem qHY(cl:List Chg)(d b:Nat):(qCu cl d b).length≤cl.length:=yB _ _
theorem qMJ(l:List Sm.PR)(cl:List Chg)(d:Nat): ∀b,(kvT l cl d b).length≤l.length+b*cl.length
 |0=>by show l.length≤_;omega
 |b+1=>by
  have h1:=qMJ l cl d b
  have h2:=qRe (kvT l cl d b) (qCu cl d b)
  have h3:=qHY cl d b
  show(kvC _ _).length≤_
  rw [Nat.succ_mul];omega
theorem qKj{l:List Sm.PR}{cl:List Chg}(h:qYh cl)(hl:l.length≤80000)(d:Nat){b:Nat}(hb:b≤16):(kvT l cl d b).length≤90000:=by
 have h1:=qMJ l cl d b
 have h2:b*cl.length≤16*256:=Nat.mul_le_mul hb h.len
 omega
theorem qGF{l:List Sm.PR}{cl:List Chg}(hf:qCE l)(h:qYh cl)(hl:l.length≤80000)(d:Nat): ∀{b:Nat},b≤16→qCE (kvT l cl d b)
 |0,_=>hf
 |b+1,hb=>by
  have h2:=qKj h hl d (b:=b) xB
  have h3:=qHY cl d b
  have h4:=h.len
  exact qNm (qGF hf h hl d (b:=b) xB) (h.band d b).k16 (h.band d b).val xB
theorem qIY{cl:List Chg}{i d b:Nat}(h:i<cl.length):qCu (cl.take (i+1)) d b=if ofV (cl.getD i qAv).k d=b then qCu (cl.take i) d b++ [cl.getD i qAv] else qCu (cl.take i) d b:=by
 unfold qCu
 rw [qEC cl i qAv h,zG]
 generalize cl.getD i qAv=x
 by_cases hc:ofV x.k d=b
 · rw [if_pos hc];simp [List.filter,hc]
 · rw [if_neg hc];simp [List.filter,hc]
structure qSs (G:Hp) (l:List Sm.PR) (cl:List Chg) (d b:Nat) (x:TrD):Prop where
 eb:x.b=b
 ed:x.d=d
 eo:x.old=Sm.ndB (kvT l cl d b) (kF b d) d
 en:x.nw=Sm.ndB (kvT l cl d (b+1)) (kF b d) d
 chg:x.st.map qBi.chg=qCu cl d b
 ok:qDb (kvT l cl d b) d x.st
 sl:Sl G 6 x.stA x.st.length x.stc (qJ6 x.st)
 bs:qPb G x.st
theorem qSs.mono{G G':Hp}{l:List Sm.PR}{cl:List Chg}{d b:Nat}{x:TrD}(h:qSs G l cl d b x)(hl:Le G G'):qSs G' l cl d b x:=⟨h.eb,h.ed,h.eo,h.en,h.chg,h.ok,h.sl.mono hl,h.bs.mono hl⟩
def qPd(G:Hp)(l:List Sm.PR)(cl:List Chg)(d:Nat)(tl:List TrD):Prop:= ∀j,j<tl.length→qSs G l cl d j (tl.getD j noTrD)
theorem qPd.nil(G:Hp)(l:List Sm.PR)(cl:List Chg)(d:Nat):qPd G l cl d []:=λj h=>absurd h (jy j)
theorem qPd.mono{G G':Hp}{l:List Sm.PR}{cl:List Chg}{d:Nat}{tl:List TrD}(h:qPd G l cl d tl)(hl:Le G G'):qPd G' l cl d tl:=λj hj=>(h j hj).mono hl
theorem qPd.snoc{G:Hp}{l:List Sm.PR}{cl:List Chg}{d:Nat}{tl:List TrD}{x:TrD}(h:qPd G l cl d tl)(hx:qSs G l cl d tl.length x):qPd G l cl d (tl++ [x]):=λj hj=>by
  rw [jA,jI] at hj
  by_cases hlt:j<tl.length
  · rw [jB,jj hlt,←jB];exact h j hlt
  · obtain rfl:j=tl.length:=by omega
    rw [jB,jk (jK _),zH];exact hx
def qA0(x:RhD):Hd:=⟨x.ep,x.par,x.dep,x.aud,x.ns⟩
structure StR where
 tA:Option Addr
 tc:Nat
 mT:Hp
 hA:Option Addr
 hc:Nat
 mH:Hp
 nA:Option Addr
 nc:Nat
 gu:Nat
 tl:List TrD
 At:Option Addr
 ct:Nat
 mo:Hp
 cg:Nat
 cr:Nat
 cl:List Lb
 G:Hp
structure StP (kv:List Sm.PR) (cl:List Chg) (nxt:List Lb) (au:List Aud) (par:xA) (dp rn:Nat) (tg:List Nat) (hd:List RhD) (x:StR):Prop where
 nr:Sl x.G 1 x.nA (qAq (kvT kv cl dp (2^dp)) dp).length x.nc (qAG (qAq (kvT kv cl dp (2^dp)) dp))
 rt:Row x.mT 118 1 x.tA (tg++ [x.gu]).length x.tc (qBw (tg++ [x.gu]))
 rh:Row x.mH 34 5 x.hA (hd++ [adH par dp rn hd (kvT kv cl dp (2^dp)) x.nA x.nc]).length x.hc (qCk (hd++ [adH par dp rn hd (kvT kv cl dp (2^dp)) x.nA x.nc]))
 tu:qCh x.G x.gu (kvT kv cl dp (2^dp))
 len:x.tl.length=2^dp
 ro:Row x.mo 165 5 x.At x.tl.length x.ct (qJ1 x.tl)
 ok:qPd x.G kv cl dp x.tl
 mp:Fw.MapAt x.G x.cg (lbV x.cl)
 lb:LbA x.G x.cl
 pm:(lbE x.cl).Perm (lbE nxt)
 au: ∃RA rn rc,qAM x.G ⟨x.cr,0,none⟩ [.slice RA rn rc]∧Sl x.G 4 RA rn rc (qBc au)
theorem qOg(F mT mH:Hp)(hK:KF F)(gs dp nA rA nB rB:Nat)(v1 v2:Value)(tA:Option Addr)(tc:Nat)(tg:List Nat)(hrt:Row mT 118 1 tA tg.length tc (qBw tg))(htg:tg.length≤100000)(hA:Option Addr)(hc:Nat)(hd:List RhD)(hrh:Row mH 34 5 hA hd.length hc (qCk hd))(hhd:hd.length≤100000)(hdp:dp≤4)(cA:Option Addr)(cc:Nat)(cl:List Chg)(hsC:Sl F 2 cA cl.length cc (qDi cl))(hcl:qYh cl)(oA:Option Addr)(oc:Nat)(no:List xA)(nxt:List Lb)(hm:Fw.MapAt F nB (lbV nxt))(hl:LbA F nxt)(hun:qMf (lbE nxt))(hln: ∀x∈nxt,x.l.length≤1000000)(RA:Option Addr)(rn rc:Nat)(au:List Aud)(hR:qAM F ⟨rB,0,none⟩ [.slice RA rn rc])(hRs:Sl F 4 RA rn rc (qBc au))(hrn:rn≤1000000)(ht0:0<tg.length)(hh0:0<hd.length)(kv:List Sm.PR)(hT:qCh F (tg.getD (tg.length-1) 0) kv)(hf:qCE kv)(hkl:kv.length≤80000)(hgd:(qA0 (hd.getD (hd.length-1) qAc)).good)(hns:Sl F 1 (hd.getD (hd.length-1) qAc).nsA (hd.getD (hd.length-1) qAc).ns.length (hd.getD (hd.length-1) qAc).nsc (qAG (hd.getD (hd.length-1) qAc).ns)):Ct prog 27 [Ptr gs] [blk gs [I (dp:Nat),v1,v2,.map (some nA),Ptr rA,.map (some nB),Ptr rB,.slice cA cl.length cc,.slice oA no.length oc,.slice tA tg.length tc,.slice hA hd.length hc] 99,mT,mH,F] (λx:StR=> .slice x.At x.tl.length x.ct) (StP kv cl nxt au ((qA0 (hd.getD (hd.length-1) qAc)).dig) dp rn tg hd) (λx=> [blk gs [I (dp:Nat),v1,v2,.map (some x.cg),Ptr x.cr,.map (some nB),Ptr rB,.slice none 0 0,.slice none 0 0,.slice x.tA (tg++ [x.gu]).length x.tc,.slice x.hA (hd++ [adH ((qA0 (hd.getD (hd.length-1) qAc)).dig) dp rn hd (kvT kv cl dp (2^dp)) x.nA x.nc]).length x.hc] 99,x.mT,x.mH,F,x.mo,x.G]):=by
 obtain ⟨hp1,hp16⟩:=qH6 hdp
 have hcnt:cnt ((dp:Nat):Int)=2^dp:=qC5 hdp
 have hcll:=hcl.len
 refine Ct.walk func27 O ntmps27 O (λw0 hw0=>?_)
 refine J.g λ_ j1=>J.b O<|J.c j1<|J.g λ_ j2=>J.b O<|J.f (qAB O O) O<|J.M 9 qCi sizeOf97 O O O O O<|J.a7 0 isAgg97 O O O O O<|J.p (qAa O O (λF' hF=>qMu F' tA tg.length tc tg (hrt.sl.mono (Fa hF)) ht0 xB)) O λg18 _=>J.b O<|J.c j2<|J.g λ_ j3=>J.b O<|J.c j3<|J.q λ_ j4=>J.g λ_ j5=>J.b O<|J.f (qAB O O) O<|J.M 0 qCi z3_ O O O O O<|J.a7 0 b3_ O O O O O<|J.p (qAa O O (λF' hF=>by have:=qCT F' ((dp:Nat):Int);rw [hcnt] at this;exact this)) O λg23 _=>J.b O<|J.c j5<|J.V<|J.b6 (X:=Nat×Nat×List TrD×Option Addr×Nat×Hp×Hp) (λζ=> [(0,Ptr gs),(3,Ptr ζ.2.1),(4,.slice ζ.2.2.2.1 ζ.2.2.1.length ζ.2.2.2.2.1),(23,I (2^dp:Nat)),(24,I (ζ.1:Nat))]) (λζ=> [ζ.2.2.2.2.2.2,ζ.2.2.2.2.2.1,blk gs [I (dp:Nat),v1,v2,.map (some nA),Ptr rA,.map (some nB),Ptr rB,.slice cA cl.length cc,.slice oA no.length oc,.slice tA tg.length tc,.slice hA hd.length hc] 99,mT,mH,F]) (λζ=>ζ.1≤2^dp∧ζ.2.2.1.length=ζ.1∧Row ζ.2.2.2.2.2.1 165 5 ζ.2.2.2.1 ζ.2.2.1.length ζ.2.2.2.2.1 (qJ1 ζ.2.2.1)∧(∀F',Le F F'→Le ζ.2.2.2.2.2.2 F'→qCh F' ζ.2.1 (kvT kv cl dp ζ.1))∧(0<ζ.1→qCh ζ.2.2.2.2.2.2 ζ.2.1 (kvT kv cl dp ζ.1))∧qPd ζ.2.2.2.2.2.2 kv cl dp ζ.2.2.1) (λζ=>2^dp-ζ.1) (0,tg.getD (tg.length-1) 0,[],none,0,(λ_=>none),(λ_=>none)) (⟨jG _,O,qBh.nil,λF' h1 _=>hT.mono h1,λh=>absurd h (Nat.lt_irrefl 0),qPd.nil _ _ _ _⟩) ⟨O,O,O,O,O,trivial⟩ (λ_ h=>h.empty.empty.pick [4,5,0,1,2,3] xC) ?_
 rintro⟨b,gu,tl,At,ct,mt,H⟩ ⟨hb,htl,hro,hu,hu1,hok⟩ I0 hI0
 dsimp only at hb htl hro hu hu1 hok⊢
 refine J.g λ_ j6=>J.f (qAS O O O) O<|J.c j6<|J.q λ_ j7=>J.a0 O (λh25=>?_) (λh25=>?_)
 ·
  refine J.T j7<|J.q λ_ j8=>J.V<|J.g λ_ j9=>J.k 2 O<|J.c j9<|J.g λ_ j10=>J.b O<|J.c j10<|J.q λ_ j11=>J.g λ_ j12=>J.b O<|J.f (qAB O O) O<|J.M 7 qCi sizeOf96 O O O O O<|J.a7 2 isAgg96 O O O O O<|J.f (qAR qPY O O) O<|J.b O<|J.c j12<|J.V<|J.b6 (X:=Nat×Option Addr×Nat×Hp×List Chg) (λζ=> [(0,Ptr gs),(3,Ptr gu),(4,.slice At tl.length ct),(5,I (b:Nat)),(6,.slice ζ.2.1 ζ.2.2.2.2.length ζ.2.2.1),(23,I (2^dp:Nat)),(24,I (b:Nat)),(30,.slice cA cl.length cc),(31,I (cl.length:Nat)),(32,I (ζ.1:Nat))]) (λζ=> [H,mt,blk gs [I (dp:Nat),v1,v2,.map (some nA),Ptr rA,.map (some nB),Ptr rB,.slice cA cl.length cc,.slice oA no.length oc,.slice tA tg.length tc,.slice hA hd.length hc] 99,mT,mH,F,ζ.2.2.2.1]) (λζ=>ζ.1≤cl.length∧Row ζ.2.2.2.1 153 2 ζ.2.1 ζ.2.2.2.2.length ζ.2.2.1 (qDi ζ.2.2.2.2)∧ζ.2.2.2.2=qCu (cl.take ζ.1) dp b) (λζ=>cl.length-ζ.1) (0,none,0,(λ_=>none),[]) (⟨jG _,qBh.nil,O⟩) ⟨O,O,O,O,O,O,O,O,O,O,trivial⟩ (λ_ h=>h.empty.pick [0,1,2,3,4,5,6] xC) ?_
  rintro⟨i,A6,c6,m6,l6⟩ ⟨hi,hr6,hl6⟩ I2 hI2
  dsimp only at hi hr6 hl6⊢
  refine J.g λ_ j13=>J.f (qAS O O O) O<|J.c j13<|J.q λ_ j14=>J.a0 O (λh33=>?_) (λh33=>?_)
  ·
   refine J.T j14<|J.q λ_ j15=>J.V<|J.q λ_ j16=>?_
   have hik:(cl.getD i qAv).k.length≤1000000:=by
    have:cl.getD i qAv∈cl:=by
     rw [jB,jC (show i<cl.length by omega)];exact ja _
    rw [hcl.k16 _ this];decide
   refine J.H<|J.f (qAF O O O qPY qFx hsC xB) O<|J.f (qAV O O isAgg153 qFx (m:=F) xD (hsC.elem (qHX xB)) O) O<|J.p (qAJ O zeroValue153 O) O λg8 _=>J.a6 (qAD (i:=7) (l:= [Str [],Str []]) (vs:= [Str ((cl.getD i qAv).k),Str ((cl.getD i qAv).v)]) O O O O O qFx O O) O O λ_ _=>J.c j16<|J.q λ_ j17=>J.b1 [blk gs [I (dp:Nat),v1,v2,.map (some nA),Ptr rA,.map (some nB),Ptr rB,.slice cA cl.length cc,.slice oA no.length oc,.slice tA tg.length tc,.slice hA hd.length hc] 99,blk g8 [Str ((cl.getD i qAv).k),Str ((cl.getD i qAv).v)] 153] [] (.y 0 (.y 1 (.y 2 (.y 3 (.y 4 (.y 5 (.e 6 (.y 7 (.y 8 (.y 9 (.y 10 (.y 11 .nil)))))))))))) Tryz.wide xF xD ?_
   refine J.j O (qAA O O qLh O z9_ O) O O<|J.j O (qAC 1 O O O b9_ O) O O<|J.L ?_
   refine J.j O (qAB O O) O O<|J.j O (qAA O O qCi O z3_ O) O O<|J.j O (qAC 0 O O O b3_ O) O O<|J.Z O (qAa O O (λF' hF=>qWH F' ((cl.getD i qAv).k) (by first|omega|exact hsm _|exact jm O) dp xB)) O xD λg43 _=>J.L ?_
   refine J.c2 (I (ofV ((cl.getD i qAv).k) dp:Nat)) ?_
   refine J.c2 (I (ofE ((cl.getD i qAv).k):Nat)) ?_
   refine J.b7 ?_
   refine J.b7 ?_
   refine J.a9<|J.u (J.G j17 ?_)
   refine J.g λ_ j18=>J.k 2 O<|J.f (qAX O O O) O<|J.c j18<|J.a0 O (λh48=>?_) (λh48=>?_)
   ·
    have hl6l:l6.length≤cl.length:=by rw [hl6];exact jZ (qHY _ _ _) (by rw [jF];omega)
    refine J.H<|J.b O<|J.b8 7 isAgg153 qFx O O O O O<|J.p (qAE (l:= [.tmp 50]) (xs:= [[Str ((cl.getD i qAv).k),Str ((cl.getD i qAv).v)]]) O O O O qPY el153 O xC xC xD) O λg51 _=>J.p (qAU (i:=6) (m2:=blk g51 [Str ((cl.getD i qAv).k),Str ((cl.getD i qAv).v)] 153) O O O qPY qPY el153 O hr6 xD ((qAl (q:=True) (xs:=qDi [(cl.getD i qAv)]) O (by intro x hx;rw [List.mem_singleton.1 hx];rfl)).sl) O xB xB) O ?_
    rintro⟨A52,c52,m52⟩ h52
    try dsimp only at h52
    replace h52:Row m52 153 2 A52 (l6.length+1) c52 (qDi (l6++ [(cl.getD i qAv)])):=by rw [qIT];exact h52
    rw [show l6.length+1=(l6++ [(cl.getD i qAv)]).length by rw [jA];rfl] at h52⊢
    refine J.b O<|J.a4<|J.a3<|J.u (J.G j15 ?_)
    exact J.H<|J.f ((qAQ O O O xB).nat (i+1) xB) O<|J.b O<|J.a4<|J.u<|J.a5 (i+1,A52,c52,m52,l6++ [cl.getD i qAv]) (λη (hη:_∧cl.length-η.1<cl.length-i)=>hI2 η hη.1 hη.2) ⟨⟨by dsimp only;omega,h52,by dsimp only;rw [qIY xB,if_pos xB,←hl6]⟩,by first|omega|(dsimp only;omega)⟩ ⟨O,O,O,O,O,O,O,O,O,O,trivial⟩ (λ_ h=>h.pick [0,1,2,3,4,5,6] xC)
   refine J.b5<|J.a3<|J.u (J.G j15 ?_)
   exact J.H<|J.f ((qAQ O O O xB).nat (i+1) xB) O<|J.b O<|J.a4<|J.u<|J.a5 (i+1,A6,c6,m6,l6) (λη (hη:_∧cl.length-η.1<cl.length-i)=>hI2 η hη.1 hη.2) ⟨⟨by dsimp only;omega,hr6,by dsimp only;rw [qIY xB,if_neg xB];exact hl6⟩,by first|omega|(dsimp only;omega)⟩ ⟨O,O,O,O,O,O,O,O,O,O,trivial⟩ (λ_ h=>h.pick [0,1,2,3,4,5,6] xC)
  refine J.b3<|J.a1<|J.a1<|J.b4 ?_
  refine J.u (J.G j11 ?_)
  refine J.q λ_ j19=>?_
  obtain rfl:i=cl.length:=by omega
  rw [jp] at hl6
  subst hl6
  refine J.H<|J.k 3 O<|J.f (qAB O O) O<|J.M 0 qCi z3_ O O O O O<|J.a7 2 b3_ O O O O O<|J.b O<|J.p (qBr O O (λF' hF=>qTM F' (hK.mo hF) gu (kvT kv cl dp b) (hu F' (Fa hF) (Fa hF)) (qGF hf hcl hkl dp xB) (qKj hcl hkl dp xB) b dp xB xB A6 (qCu cl dp b).length c6 (qCu cl dp b) (hr6.sl.mono (Fa hF)) (hcl.band dp b))) O ?_
  rintro r62 hp62
  refine J.k 4 O<|J.p (qAJ O zeroValue165 O) O λg11 _=>J.a6 (qAD (i:=10) (l:= [I 0,I 0,Str [],Str [],.slice none 0 0]) (vs:= [I (b:Nat),I (dp:Nat),Str (Sm.ndB (kvT kv cl dp b) (kF b dp) dp),Str (Sm.ndB (kvC (kvT kv cl dp b) (qCu cl dp b)) (kF b dp) dp),.slice r62.A r62.L.length r62.c]) O O O O O sizeOf165 O O) O O λ_ _=>J.k 2 O<|J.c j19 ?_
  obtain ⟨x,hx⟩: ∃x:TrD,x=⟨b,dp,Sm.ndB (kvT kv cl dp b) (kF b dp) dp,Sm.ndB (kvT kv cl dp (b+1)) (kF b dp) dp,r62.A,r62.c,r62.L⟩:=⟨_,rfl⟩
  refine J.H<|J.b O<|J.b8 10 isAgg165 sizeOf165 O O O O O<|J.p (qAE (l:= [.tmp 67]) (xs:= [[I (b:Nat),I (dp:Nat),Str (Sm.ndB (kvT kv cl dp b) (kF b dp) dp),Str (Sm.ndB (kvC (kvT kv cl dp b) (qCu cl dp b)) (kF b dp) dp),.slice r62.A r62.L.length r62.c]]) O O O O underlying43 el165 O xC xC xD) O λg68 _=>J.p (qAU (i:=1) (m2:=blk g68 [I (b:Nat),I (dp:Nat),Str (Sm.ndB (kvT kv cl dp b) (kF b dp) dp),Str (Sm.ndB (kvC (kvT kv cl dp b) (qCu cl dp b)) (kF b dp) dp),.slice r62.A r62.L.length r62.c] 165) O O O underlying43 underlying43 el165 O hro xD ((qAl (q:=True) (xs:=qJ1 [(⟨b,dp,Sm.ndB (kvT kv cl dp b) (kF b dp) dp,Sm.ndB (kvC (kvT kv cl dp b) (qCu cl dp b)) (kF b dp) dp,r62.A,r62.c,r62.L⟩:TrD)]) O (by intro x hx;rw [List.mem_singleton.1 hx];rfl)).sl) O xB xB) O ?_
  rintro⟨A69,c69,m69⟩ h69
  try dsimp only at h69
  replace h69:Row m69 165 5 A69 (tl.length+1) c69 (qJ1 (tl++ [x])):=by rw [qOa,hx];exact h69
  rw [show tl.length+1=(tl++ [x]).length by rw [jA];rfl] at h69⊢
  refine J.k 3 O<|J.c5 [0,7,8,9,1,2,3,4,5] [H,r62.mt,r62.ms,r62.M,m69,blk gs [I (dp:Nat),v1,v2,.map (some nA),Ptr rA,.map (some nB),Ptr rB,.slice cA cl.length cc,.slice oA no.length oc,.slice tA tg.length tc,.slice hA hd.length hc] 99,mT,mH,F] O xC<|J.d6 (λhj1=>?_)
  refine J.d6 (λhj2=>?_)
  refine J.d6 (λhj3=>?_)
  refine J.a4<|J.a3<|J.u (J.G j8 ?_)
  exact J.H<|J.f ((qAQ O O O xB).nat (b+1) xB) O<|J.b O<|J.a4<|J.u<|J.a5 (b+1,r62.g,tl++ [x],A69,c69,m69,U [U [U [H,r62.mt],r62.ms],r62.M]) (λη (hη:_∧2^dp-η.1<2^dp-b)=>hI0 η hη.1 hη.2) ⟨⟨by dsimp only;omega,by dsimp only;rw [jA,htl];rfl,h69,λF' _ h2=>hp62.tree.at.mono ((qSz hj1).trans ((qHF hj2).trans ((qHF hj3).trans h2))),λ_=>hp62.tree.at.mono ((qSz hj1).trans ((qHF hj2).trans (qHF hj3))),(hok.mono ((qHF hj1).trans ((qHF hj2).trans (qHF hj3)))).snoc (by rw [htl,hx];exact⟨O,O,O,O,hp62.chg,hp62.ok,hp62.row.sl.mono ((qSz hj2).trans (qHF hj3)),hp62.bs.mono (qSz hj3)⟩)⟩,by first|omega|(dsimp only;omega)⟩ ⟨O,O,O,O,O,trivial⟩ (λ_ h=>h)
 refine J.b3<|J.a1<|J.a1<|J.b4 ?_
 refine J.u (J.G j4 ?_)
 refine J.q λ_ j20=>?_
 obtain rfl:b=2^dp:=by omega
 refine J.c5 [2,3,4,5,0,1] [blk gs [I (dp:Nat),v1,v2,.map (some nA),Ptr rA,.map (some nB),Ptr rB,.slice cA cl.length cc,.slice oA no.length oc,.slice tA tg.length tc,.slice hA hd.length hc] 99,mT,mH,F,H,mt] O xC<|J.H<|J.k 3 O<|J.p (qAa O O (λF' hF=>qJ7 F' gs (I (dp:Nat)) v1 v2 (.map (some nA)) (Ptr rA) (.map (some nB)) (Ptr rB) (.slice cA cl.length cc) (.slice oA no.length oc) (.slice tA tg.length tc) hA hd.length hc hd (hrh.sl.mono (Fa hF)) xB xB (qAM.blk0.mono (hF (blk gs [I (dp:Nat),v1,v2,.map (some nA),Ptr rA,.map (some nB),Ptr rB,.slice cA cl.length cc,.slice oA no.length oc,.slice tA tg.length tc,.slice hA hd.length hc] 99) xD)))) O λg75 _=>J.p (qAa O O (λF' hF=>qCl F' (hK.mo hF) (qA0 (hd.getD (hd.length-1) qAc)) (hd.getD (hd.length-1) qAc).nsA (hd.getD (hd.length-1) qAc).nsc hgd (hns.mono (Fa hF)))) O λg76 _=>J.p (qAK O O ent (Ct.useA [blk gs [I (dp:Nat),v1,v2,.map (some nA),Ptr rA,.map (some nB),Ptr rB,.slice cA cl.length cc,.slice oA no.length oc,.slice tA tg.length tc,.slice hA hd.length hc] 99,mT,mH] [F,H,mt] (A':=λx:AdR=> [blk gs [I (dp:Nat),v1,v2,.map (some nA),Ptr rA,.map (some nB),Ptr rB,.slice cA cl.length cc,.slice oA no.length oc,.slice x.tA (tg++ [gu]).length x.tc,.slice x.hA (hd++ [adH ((qA0 (hd.getD (hd.length-1) qAc)).dig) dp rn hd (kvT kv cl dp (2^dp)) x.nA x.nc]).length x.hc] 99,x.mT,x.mH]) (new:=λx=> [x.mN]) (λF' hF=>qQR F' mT mH (hK.mo hF) gs dp rB v1 v2 (.map (some nA)) (Ptr rA) (.map (some nB)) (.slice cA cl.length cc) (.slice oA no.length oc) tA tc tg hrt htg hA hc hd hrh hhd hdp gu (kvT kv cl dp (2^dp)) (hu F' (Fa hF) (Fa hF)) (qGF hf hcl hkl dp xB) RA rn rc au (hR.mono (Fa hF)) (hRs.mono (Fa hF)) ((qA0 (hd.getD (hd.length-1) qAc)).dig)))) O ?_
 rintro r77 hp77
 refine J.c j20<|J.q λ_ j21=>?_
 have hu0:qMf (lbE nxt):=hun
 refine J.H<|J.k 2 O<|J.f (qAB O O) O<|J.M 5 qCi qGS O O O O O<|J.f (qAV O O isAgg95 qGS (m:=blk gs [I (dp:Nat),v1,v2,.map (some nA),Ptr rA,.map (some nB),Ptr rB,.slice cA cl.length cc,.slice oA no.length oc,.slice r77.tA (tg++ [gu]).length r77.tc,.slice r77.hA (hd++ [adH ((qA0 (hd.getD (hd.length-1) qAc)).dig) dp rn hd (kvT kv cl dp (2^dp)) r77.nA r77.nc]).length r77.hc] 99) xD (qAM.blk0.sub 5 2) O) O<|J.p (qBr O O (λF' hF=>qM3 F' nB rB nxt (hm.mono (Fa hF)) (hl.mono (Fa hF)) hu0 hln RA rn rc au (hR.mono (Fa hF)) (hRs.mono (Fa hF)) hrn)) O ?_
 rintro r83 hp83
 refine J.f (qAB O O) O<|J.M 3 qCi qGS O O O O O<|J.a6 (qAT (i:=0) O O O O O qGS O xD) O O λ_ _=>J.c j21<|J.g λ_ j22=>J.k 2 O<|J.f (qAB O O) O<|J.M 7 qCi sizeOf96 O O O O O<|J.a6 (qAT (i:=0) (l:= [I (dp:Nat),v1,v2,.map (some r83.g),Ptr r83.r,.map (some nB),Ptr rB,.slice cA cl.length cc,.slice oA no.length oc,.slice r77.tA (tg++ [gu]).length r77.tc,.slice r77.hA (hd++ [adH ((qA0 (hd.getD (hd.length-1) qAc)).dig) dp rn hd (kvT kv cl dp (2^dp)) r77.nA r77.nc]).length r77.hc]) (vs:= [.slice none 0 0]) O O O O O sizeOf96 O xD) O O λ_ _=>J.f (qAB O O) O<|J.M 8 qCi qB1 O O O O O<|J.a6 (qAT (i:=0) (l:= [I (dp:Nat),v1,v2,.map (some r83.g),Ptr r83.r,.map (some nB),Ptr rB,.slice none 0 0,.slice oA no.length oc,.slice r77.tA (tg++ [gu]).length r77.tc,.slice r77.hA (hd++ [adH ((qA0 (hd.getD (hd.length-1) qAc)).dig) dp rn hd (kvT kv cl dp (2^dp)) r77.nA r77.nc]).length r77.hc]) (vs:= [.slice none 0 0]) O O O O O qB1 O xD) O O λ_ _=>J.c j22<|J.g λ_ j23=>J.k 2 O<|J.c5 [4,6,7,8,9,5,0,1,2,3] [H,r77.mN,r83.mm,r83.M,r83.mr,mt,blk gs [I (dp:Nat),v1,v2,.map (some r83.g),Ptr r83.r,.map (some nB),Ptr rB,.slice none 0 0,.slice none 0 0,.slice r77.tA (tg++ [gu]).length r77.tc,.slice r77.hA (hd++ [adH ((qA0 (hd.getD (hd.length-1) qAc)).dig) dp rn hd (kvT kv cl dp (2^dp)) r77.nA r77.nc]).length r77.hc] 99,r77.mT,r77.mH,F] O xC<|J.d6 (λhj1=>?_)
 refine J.d6 (λhj2=>?_)
 refine J.d6 (λhj3=>?_)
 refine J.d6 (λhj4=>?_)
 exact J.c j23<|J.A<|J.E hw0 O (⟨r77.tA,r77.tc,r77.mT,r77.hA,r77.hc,r77.mH,r77.nA,r77.nc,gu,tl,At,ct,mt,r83.g,r83.r,r83.ls,U [U [U [U [H,r77.mN],r83.mm],r83.M],r83.mr]⟩:StR) O ⟨hp77.nd.sl.mono ((qSz hj1).trans ((qHF hj2).trans ((qHF hj3).trans (qHF hj4)))),hp77.rt,hp77.rh,(hu1 xB).mono ((qHF hj1).trans ((qHF hj2).trans ((qHF hj3).trans (qHF hj4)))),htl,hro,hok.mono ((qHF hj1).trans ((qHF hj2).trans ((qHF hj3).trans (qHF hj4)))),hp83.mp.at.mono ((qSz hj2).trans ((qHF hj3).trans (qHF hj4))),hp83.nx.at.mono ((qSz hj3).trans (qHF hj4)),hp83.pm,by obtain ⟨A3,n3,c3,q1,q2,_⟩:=hp83.ro.see;exact⟨A3,n3,c3,q1.mono (qSz hj4),q2.mono (qSz hj4)⟩⟩ [2,3,4,5,1,0] O xC
structure SvR where
 gs:Nat
 dp:Nat
 nA:Nat
 rA:Nat
 nB:Nat
 rB:Nat
 gb:Nat
 nxt:List Lb
 now:List Lb
 cA:Option Addr
 cc:Nat
 cl:List Chg
 oA:Option Addr
 oc:Nat
 no:List xA
 tA:Option Addr
 tc:Nat
 tg:List Nat
 hA:Option Addr
 hc:Nat
 hd:List RhD
 mX:Hp
 NX:Hp
 mC:Hp
 mO:Hp
 mT:Hp
 mH:Hp
 md:Hp
 N:Hp
 bk:CbR
 kv:List (List Sm.PR)
 aud:List Aud
 audN:List Aud
abbrev SvR.sb(x:SvR):Hp:=blk x.gs [I (x.dp:Nat),Ptr x.gb,.bool false,.map (some x.nA),Ptr x.rA,.map (some x.nB),Ptr x.rB,.slice x.cA x.cl.length x.cc,.slice x.oA x.no.length x.oc,.slice x.tA x.tg.length x.tc,.slice x.hA x.hd.length x.hc] 99
def SvR.hs(x:SvR):List Hp:= [x.sb,x.mX,x.NX,x.mC,x.mO,x.mT,x.mH,x.bk.blk x.gb,x.md,x.N]
abbrev SvR.kvL(x:SvR):List Sm.PR:=x.kv.getD (x.tg.length-1) []
abbrev SvR.hdL(x:SvR):RhD:=x.hd.getD (x.hd.length-1) qAc
def qSt(G:Hp)(g:Nat)(au:List Aud):Prop:= ∃RA rn rc,qAM G ⟨g,0,none⟩ [.slice RA rn rc]∧Sl G 4 RA rn rc (qBc au)
theorem qSt.mono{G G':Hp}{g:Nat}{au:List Aud}(h:qSt G g au)(hl:Le G G'):qSt G' g au:=by
 obtain ⟨A,n,c,h1,h2⟩:=h
 exact⟨A,n,c,h1.mono hl,h2.mono hl⟩
abbrev nsl(G:Hp)(h:RhD):Prop:=Sl G 1 h.nsA h.ns.length h.nsc (qAG h.ns)
structure SvP (G:Hp) (x:SvR):Prop where
 mx:Fw.MapS x.mX x.nB (lbV x.nxt)
 nx:NxS x.NX x.nxt
 rc:Row x.mC 153 2 x.cA x.cl.length x.cc (qDi x.cl)
 ro:Row x.mO 9 1 x.oA x.no.length x.oc (qAG x.no)
 rt:Row x.mT 118 1 x.tA x.tg.length x.tc (qBw x.tg)
 rh:Row x.mH 34 5 x.hA x.hd.length x.hc (qCk x.hd)
 bk:CbP x.N x.md x.bk
 nw:Fw.MapAt G x.nA (lbV x.now)
 nl:LbA G x.now
 ra:qSt G x.rA x.aud
 rb:qSt G x.rB x.audN
 tr: ∀i,i<x.tg.length→qCh G (x.tg.getD i 0) (x.kv.getD i [])
 hn: ∀i,i<x.hd.length→nsl G (x.hd.getD i qAc)
theorem SvP.mono{G G':Hp}{x:SvR}(h:SvP G x)(hl:Le G G'):SvP G' x:=
 {h with nw:=h.nw.mono hl,nl:=h.nl.mono hl,ra:=h.ra.mono hl,rb:=h.rb.mono hl,tr:=λi hi=>(h.tr i hi).mono hl,hn:=λi hi=>(h.hn i hi).mono hl}
structure SvI (x:SvR):Prop where
 dp:x.dp≤4
 un:qMf (lbE x.nxt)
 uw:qMf (lbE x.now)
 ln: ∀y∈x.nxt,y.l.length≤1000
 lw: ∀y∈x.now,y.l.length≤1000
 cl:qYh x.cl
 n9: ∀s∈x.no,s.length≤900
 nc:x.no.length=x.cl.length
 t0:0<x.tg.length
 t1:x.tg.length≤15
 th:x.hd.length=x.tg.length
 tk:x.kv.length=x.tg.length
 kf:qCE x.kvL
 kl:x.kvL.length≤5000*x.tg.length
 hg:(qA0 x.hdL).good
 al:x.aud.length≤64
 an:x.audN.length≤64
 sz:x.bk.size≤1000
 re:x.bk.R.length≤x.bk.e
theorem lastD(l:List RhD)(x:RhD):(l++ [x]).getD ((l++ [x]).length-1) qAc=x:=by
 rw [jA,jI,Nat.add_sub_cancel,jB,jk (jK _),zH];rfl
theorem qM9{x:RhD}(h1:x.ep≤1000)(h2:x.par.length≤16)(h3:x.ns.length≤16):(qA0 x).good:=⟨by show x.ep<_;omega,by show x.par.length≤_;omega,by show x.ns.length≤_;omega⟩
theorem qWj(F:Hp)(hK:KF F)(x:SvR)(hI:SvI x)(hP:SvP F x)(h1:Le x.mX F)(h2:Le x.NX F)(h3:Le x.mC F)(h4:Le x.mO F)(hfit:x.bk.e+qCd (x.no++ [cmB x.no.length x.hd.length])≤x.bk.size):Ct prog 10 [Ptr x.gs] [x.sb,x.mT,x.mH,x.bk.blk x.gb,x.md,x.N,F] (λr:StR×WrR=> .tuple #[.agg #[N64 x.hd.length,Str (qA0 x.hdL).dig,I (x.dp:Nat),I (x.audN.length:Nat),.slice r.1.nA (qAq (kvT x.kvL x.cl x.dp (2^x.dp)) x.dp).length r.1.nc],.slice r.1.At r.1.tl.length r.1.ct,I (0:Nat)]) (λr=>StP x.kvL x.cl x.nxt x.audN (qA0 x.hdL).dig x.dp x.audN.length x.tg x.hd r.1∧CbP r.2.N r.2.md r.2.x∧CbL x.bk r.2.x (x.no++ [cmB x.no.length x.hd.length])) (λr=> [blk x.gs [I (x.dp:Nat),Ptr x.gb,.bool false,.map (some r.1.cg),Ptr r.1.cr,.map (some x.nB),Ptr x.rB,.slice none 0 0,.slice none 0 0,.slice r.1.tA (x.tg++ [r.1.gu]).length r.1.tc,.slice r.1.hA (x.hd++ [adH ((qA0 x.hdL).dig) x.dp x.audN.length x.hd (kvT x.kvL x.cl x.dp (2^x.dp)) r.1.nA r.1.nc]).length r.1.hc] 99,r.1.mT,r.1.mH,r.2.x.blk x.gb,r.2.md,r.2.N,F,r.1.G,r.1.mo]):=by
 obtain ⟨RA,rn,rc,hR,hRs⟩:=hP.rb
 obtain rfl:x.audN.length=rn:=by have:=hRs.1;rw [qD7] at this;exact this
 have hef:=hP.bk.ef
 have i1:=hI.sz
 have i2:=hI.re
 have i3:=hI.nc
 have i4:=hI.cl.len
 have i5:=hI.t1
 have i6:=hI.th
 have i7:=hI.t0
 have i8:=hI.kl
 have i9:=hI.an
 refine Ct.walk func10 O ntmps10 O (λw0 hw0=>?_)
 refine J.g λ_ j1=>J.p (qAJ O qUv O) O λg2 _=>J.k 2 O<|J.c j1<|J.q λ_ j2=>J.V<|J.g λ_ j3=>J.b O<|J.f (qA4 qYj O O O) O<|J.b O<|J.c j3<|J.a2 ?_
 refine J.g λ_ j4=>J.b O<|J.f (qAB O O) O<|J.M 2 qCi z4_ O O O O O<|J.a7 0 b4_ O O O O O<|J.b O<|J.c j4<|J.a2 ?_
 refine J.b5<|J.a3<|J.u (J.G j2 ?_)
 refine J.q λ_ j5=>J.q λ_ j6=>J.c5 [3,4,5,0,1,2,6,7] [(x.bk.blk x.gb),x.md,x.N,blk x.gs [I (x.dp:Nat),Ptr x.gb,.bool false,.map (some x.nA),Ptr x.rA,.map (some x.nB),Ptr x.rB,.slice x.cA x.cl.length x.cc,.slice x.oA x.no.length x.oc,.slice x.tA x.tg.length x.tc,.slice x.hA x.hd.length x.hc] 99,x.mT,x.mH,F,blk g2 [.int .u64 0,Str [],I 0,I 0,.slice none 0 0] 34] O xC<|J.H<|J.b O<|J.p (qAK O O ent (Ct.useA [x.bk.blk x.gb,x.md,x.N] [blk x.gs [I (x.dp:Nat),Ptr x.gb,.bool false,.map (some x.nA),Ptr x.rA,.map (some x.nB),Ptr x.rB,.slice x.cA x.cl.length x.cc,.slice x.oA x.no.length x.oc,.slice x.tA x.tg.length x.tc,.slice x.hA x.hd.length x.hc] 99,x.mT,x.mH,F,blk g2 [.int .u64 0,Str [],I 0,I 0,.slice none 0 0] 34] (A':=λy:WrR=> [y.x.blk x.gb,y.md,y.N]) (new:=λ_=> []) (λF' hF=>qP9 F' x.md x.N (hK.mo hF) x.gs x.gb _ _ _ _ _ _ _ _ x.oA x.oc x.no (hP.ro.sl.mono (h4.trans (Fa hF))) xB hI.n9 x.hA x.hd.length x.hc xB (qAM.blk0.mono (hF (blk x.gs [I (x.dp:Nat),Ptr x.gb,.bool false,.map (some x.nA),Ptr x.rA,.map (some x.nB),Ptr x.rB,.slice x.cA x.cl.length x.cc,.slice x.oA x.no.length x.oc,.slice x.tA x.tg.length x.tc,.slice x.hA x.hd.length x.hc] 99) xD)) x.bk hP.bk hfit xB xB))) O ?_
 rintro r18 ⟨hb18,hL18⟩
 refine J.b O<|J.c j6<|J.g λ_ j7=>J.b O<|J.f ((qAe O O O).no xC) O<|J.c j7<|J.a2 ?_
 refine J.T j5<|J.q λ_ j8=>J.c5 [3,4,5,6,7,0,1,2] [blk x.gs [I (x.dp:Nat),Ptr x.gb,.bool false,.map (some x.nA),Ptr x.rA,.map (some x.nB),Ptr x.rB,.slice x.cA x.cl.length x.cc,.slice x.oA x.no.length x.oc,.slice x.tA x.tg.length x.tc,.slice x.hA x.hd.length x.hc] 99,x.mT,x.mH,F,blk g2 [.int .u64 0,Str [],I 0,I 0,.slice none 0 0] 34,(r18.x.blk x.gb),r18.md,r18.N] O xC<|J.H<|J.b O<|J.p (qAK O O ent (Ct.useA [blk x.gs [I (x.dp:Nat),Ptr x.gb,.bool false,.map (some x.nA),Ptr x.rA,.map (some x.nB),Ptr x.rB,.slice x.cA x.cl.length x.cc,.slice x.oA x.no.length x.oc,.slice x.tA x.tg.length x.tc,.slice x.hA x.hd.length x.hc] 99,x.mT,x.mH] [F,blk g2 [.int .u64 0,Str [],I 0,I 0,.slice none 0 0] 34,(r18.x.blk x.gb),r18.md,r18.N] (A':=λr:StR=> [blk x.gs [I (x.dp:Nat),Ptr x.gb,.bool false,.map (some r.cg),Ptr r.cr,.map (some x.nB),Ptr x.rB,.slice none 0 0,.slice none 0 0,.slice r.tA (x.tg++ [r.gu]).length r.tc,.slice r.hA (x.hd++ [adH ((qA0 x.hdL).dig) x.dp x.audN.length x.hd (kvT x.kvL x.cl x.dp (2^x.dp)) r.nA r.nc]).length r.hc] 99,r.mT,r.mH]) (new:=λr=> [r.mo,r.G]) (λF' hF=>qOg F' x.mT x.mH (hK.mo hF) x.gs x.dp x.nA x.rA x.nB x.rB (Ptr x.gb) (.bool false) x.tA x.tc x.tg hP.rt xB x.hA x.hc x.hd hP.rh xB hI.dp x.cA x.cc x.cl (hP.rc.sl.mono (h3.trans (Fa hF))) hI.cl x.oA x.oc x.no x.nxt (hP.mx.at.mono (h1.trans (Fa hF))) (hP.nx.at.mono (h2.trans (Fa hF))) hI.un (λy hy=>jZ (hI.ln y hy) xC) RA _ rc x.audN (hR.mono (Fa hF)) (hRs.mono (Fa hF)) xB hI.t0 xB x.kvL ((hP.tr _ xB).mono (Fa hF)) hI.kf xB hI.hg ((hP.hn _ xB).mono (Fa hF))))) O ?_
 rintro r24 hp24
 refine J.b O<|J.c j8<|J.g λ_ j9=>J.b O<|J.p (qAa O O (λF' hF=>qJ7 F' x.gs _ _ _ _ _ _ _ _ _ _ r24.hA (x.hd++ [(adH ((qA0 x.hdL).dig) x.dp x.audN.length x.hd (kvT x.kvL x.cl x.dp (2^x.dp)) r24.nA r24.nc)]).length r24.hc (x.hd++ [(adH ((qA0 x.hdL).dig) x.dp x.audN.length x.hd (kvT x.kvL x.cl x.dp (2^x.dp)) r24.nA r24.nc)]) (hp24.rh.sl.mono (Fa hF)) (by rw [jA];exact Nat.succ_pos _) (by rw [jA,jI];omega) (qAM.blk0.mono (hF (blk x.gs [I (x.dp:Nat),Ptr x.gb,.bool false,.map (some r24.cg),Ptr r24.cr,.map (some x.nB),Ptr x.rB,.slice none 0 0,.slice none 0 0,.slice r24.tA (x.tg++ [r24.gu]).length r24.tc,.slice r24.hA (x.hd++ [adH ((qA0 x.hdL).dig) x.dp x.audN.length x.hd (kvT x.kvL x.cl x.dp (2^x.dp)) r24.nA r24.nc]).length r24.hc] 99) xD)))) O λg26 _=>?_
 rw [lastD]
 exact J.b O<|J.a6 (qAD (i:=4) (l:= [.int .u64 0,Str [],I 0,I 0,.slice none 0 0]) (vs:= [N64 (x.hd.length),Str ((qA0 x.hdL).dig),I (x.dp:Nat),I (x.audN.length:Nat),.slice r24.nA (qAq (kvT x.kvL x.cl x.dp (2^x.dp)) x.dp).length r24.nc]) O O O O O qBv O O) O O λ_ _=>J.k 2 O<|J.c j9<|J.A<|J.b0 hw0 (λ_ _ h=>h) (rv3 O (RV.blkA 4 O O qDF qBv) O O) (qAn (r24,r18) O ⟨hp24,hb18,hL18⟩ [0,1,2,5,6,7,3,9,8] O xC)
structure Srv (m G:Hp) (x:SvR):Prop where
 eq:m=U x.hs
 dj:Djs x.hs
 p:SvP G x
 i:SvI x
theorem Srv.mono{m G G':Hp}{x:SvR}(h:Srv m G x)(hl:Le G G'):Srv m G' x:={h with p:=h.p.mono hl}
theorem Srv.le{m G:Hp}{x:SvR}(h:Srv m G x){a:Hp}(ha:a∈x.hs):Le a m:=by rw [h.eq];exact qFO h.dj ha
def SvR.sub(x:SvR)(s:xA)(en:En)(nt:xA)(ch:Chg)(r:SbR):SvR:=
 {x with nxt:=x.nxt++ [⟨s,r.A,r.c,[en],r.mE⟩],cl:=x.cl++ [ch],no:=x.no++ [nt],mX:=r.mX,NX:=U [x.NX,r.mE],mC:=r.w.mC,cA:=r.w.cA,cc:=r.w.cc,mO:=r.w.mO,oA:=r.w.oA,oc:=r.w.oc}
theorem qP1{l:LE}{s:xA}{v:List En}(h:qMf l)(hn:s∉l.map Prod.fst):qMf (l++ [(s,v)]):=by
 unfold qMf
 rw [jM,List.nodup_append]
 refine⟨h,by simp,λa ha b hb=>?_⟩
 rw [List.mem_singleton.1 hb]
 rintro rfl
 exact hn ha
theorem SvI.sub1{x:SvR}(h:SvI x){s:xA}{A:Option Addr}{c:Nat}{l:List En}{m:Hp}(hg:qCp x.nxt s=none):qMf (lbE (x.nxt++ [⟨s,A,c,l,m⟩])):=by
 rw [qNj]
 exact qP1 h.un (qIN.1 hg)
theorem SvI.sub2{x:SvR}(h:SvI x){s:xA}{A:Option Addr}{c:Nat}{e:En}{m:Hp}: ∀y∈x.nxt++ [(⟨s,A,c,[e],m⟩:Lb)],y.l.length≤1000:=λy hy=>by
 rcases List.mem_append.1 hy with hy|hy
 · exact h.ln y hy
 · rw [List.mem_singleton.1 hy];exact jm O
theorem SvI.sub3{x:SvR}(h:SvI x){ch:Chg}(hc:x.cl.length<256)(hk:ch.k.length=16)(hv:ch.v.length≤1000000):qYh (x.cl++ [ch]):=by
  refine⟨?_,λy hy=>?_,λy hy=>?_⟩
  · rw [jA,jI];omega
  · rcases List.mem_append.1 hy with hy|hy
    · exact h.cl.k16 y hy
    · rw [List.mem_singleton.1 hy];exact hk
  · rcases List.mem_append.1 hy with hy|hy
    · exact h.cl.val y hy
    · rw [List.mem_singleton.1 hy];exact hv
theorem SvI.sub4{x:SvR}(h:SvI x){nt:xA}(hn:nt.length≤900): ∀s∈x.no++ [nt],s.length≤900:=λy hy=>by
 rcases List.mem_append.1 hy with hy|hy
 · exact h.n9 y hy
 · rw [List.mem_singleton.1 hy];exact hn
theorem SvI.sub5{x:SvR}(h:SvI x){nt:xA}{ch:Chg}:(x.no++ [nt]).length=(x.cl++ [ch]).length:=by
 rw [jA,jA,h.nc];rfl
theorem SvI.sub{x:SvR}(h:SvI x){s:xA}{en:En}{nt:xA}{ch:Chg}{r:SbR}(hg:qCp x.nxt s=none)(hc:x.cl.length<256)(hk:ch.k.length=16)(hv:ch.v.length≤1000000)(hn:nt.length≤900):SvI (x.sub s en nt ch r):=
 {dp:=h.dp,uw:=h.uw,lw:=h.lw,t0:=h.t0,t1:=h.t1,th:=h.th,tk:=h.tk,kf:=h.kf,kl:=h.kl,hg:=h.hg,al:=h.al,an:=h.an,sz:=h.sz,re:=h.re,un:=SvI.sub1 h hg,ln:=SvI.sub2 h,cl:=SvI.sub3 h hc hk hv,n9:=SvI.sub4 h hn,nc:=SvI.sub5 h}
theorem qTW{w0:Wd}{w:World}{a b:Hp}{r:List Hp}(h:St w0 (a::b::r) w):Dj a b∧St w0 (U [a,b]::r) w:=⟨h.dj2,h.joinU⟩
abbrev SvR.e1(x:SvR):xA→Nat→xA→xA→Int→xA→Nat→List xA→List xA→SbR→SvR:=λs v o r h p i ch pt y=>
 x.sub s ⟨v,o,r,h,p⟩ (117::upB s (qBI v o r h p) (sgB i ch pt)) ⟨Sha.tagged 11 [s],qCV v o r h p⟩ y
theorem qWh(F m G:Hp)(hK:KF F)(hGF:Le G F)(x:SvR)(hS:Srv m G x)(s:xA)(hs2:s.length≤200)(v:Nat)(o r:xA)(h:Int)(p:xA)(hE:qBf v o r h p=0)(i:Nat)(A1:Option Addr)(n1 c1:Nat)(ch:List xA)(hch:Sl F 1 A1 n1 c1 (qAG ch))(A2:Option Addr)(n2 c2:Nat)(pt:List xA)(hpt:Sl F 1 A2 n2 c2 (qAG pt))(hi:i≤63)(h35:ch.length=35)(hn6:pt.length≤6)(hc16: ∀s∈ch,s.length=16)(hp16: ∀s∈pt,s.length=16)(hp3:pt.length≤3)(hno2:x.no.length<256)(hg0:qCp x.nxt s=none)
    (hJ: ∀F':Hp,Le F F'→Cz prog 64 [.agg #[Str s,N64 (v),Str (o),Str (r),I (h),Str (p),I (i:Nat),.slice A1 n1 c1,.slice A2 n2 c2],.bool false,.agg #[.int .u64 0,Str [],Str [],I 0,Str []]] F' (I (0:Nat))):
    Ct prog 25 [Ptr x.gs,.agg #[Str s,N64 (v),Str (o),Str (r),I (h),Str (p),I (i:Nat),.slice A1 n1 c1,.slice A2 n2 c2]] [m,F] (λ_:Hp×SbR=>I (0:Nat)) (λy=>Srv y.1 G (x.e1 s v o r h p i ch pt y.2)) (λy=> [y.1,F]):=λw0 w hw=>by
  have hP:=hS.p
  have hI:=hS.i
  have hcl:=hI.cl.len
  have hnc:=hI.nc
  rw [hS.eq] at hw
  have h1:=(hw.splitUs hS.dj).pick [0,1,2,3,4,5,6,7,8,9,10] xC
  refine(Ct.useA [x.sb,x.mX,x.NX,x.mC,x.mO] [x.mT,x.mH,x.bk.blk x.gb,x.md,x.N,F] (A':=λy:SbR=> [blk x.gs [I (x.dp:Nat),Ptr x.gb,.bool false,.map (some x.nA),Ptr x.rA,.map (some x.nB),Ptr x.rB,.slice y.w.cA (x.cl++ [(⟨Sha.tagged 11 [s],qCV v o r h p⟩:Chg)]).length y.w.cc,.slice y.w.oA (x.no++ [117::(upB s (qBI v o r h p) (sgB i ch pt))]).length y.w.oc,.slice x.tA x.tg.length x.tc,.slice x.hA x.hd.length x.hc] 99,y.mX,x.NX,y.w.mC,y.w.mO]) (new:=λy=> [y.mE]) (λF' hF=>qTX F' x.mX x.NX x.mC x.mO (hK.mo hF) x.gs x.nB _ _ _ _ _ _ _ _ x.cA x.cc x.cl hP.rc xB x.oA x.oc x.no hP.ro xB x.nxt hP.mx hP.nx s hs2 v o r h p hE i A1 n1 c1 ch (hch.mono (Fa hF)) A2 n2 c2 pt (hpt.mono (Fa hF)) hi h35 hn6 hc16 hp16 hp3 hno2 hg0 (λF2 h2=>hJ F2 ((hF F xD).trans h2))) w0 w h1).mono λe w' ⟨y,he,⟨q1,q2,q3,q4⟩,hst⟩=>?_
  have h2:=qTW (hst.pick [2,11,0,1,3,4,5,6,7,8,9,10] xC)
  have h3:=St.joinUs (A:=(x.e1 s v o r h p i ch pt y).hs) (r:= [F]) (h2.2.pick [1,2,0,3,4,5,6,7,8,9,10] xC)
  have hsg:=qIu (i:=i) hc16 hp16 h35
  have hul:=qIi s (qBI v o r h p) (sgB i ch pt)
  have hel:=qCS hE
  refine⟨(U (x.e1 s v o r h p i ch pt y).hs,y),he,⟨O,h3.1,⟨q1,hP.nx.snoc (l:= [⟨v,o,r,h,p⟩]) q2 h2.1,q3,q4,hP.rt,hP.rh,hP.bk,hP.nw,hP.nl,hP.ra,hP.rb,hP.tr,hP.hn⟩,hI.sub hg0 xB (Sha.tagged_length _ _) ?_ ?_⟩,h3.2⟩
  · show(qCV v o r h p).length≤_
    unfold qCV;rw [if_pos hE,Sha.tagged_length];decide
  · show(_::_).length≤900
    rw [jD];omega
def SvR.pub(x:SvR)(r:StR×WrR):SvR:=
 {x with nA:=r.1.cg,rA:=r.1.cr,now:=r.1.cl,aud:=x.audN,cA:=none,cc:=0,cl:= [],oA:=none,oc:=0,no:= [],tA:=r.1.tA,tc:=r.1.tc,tg:=x.tg++ [r.1.gu],hA:=r.1.hA,hc:=r.1.hc,hd:=x.hd++ [adH (qA0 x.hdL).dig x.dp x.audN.length x.hd (kvT x.kvL x.cl x.dp (2^x.dp)) r.1.nA r.1.nc],mC:=λ_=>none,mO:=λ_=>none,mT:=r.1.mT,mH:=r.1.mH,md:=r.2.md,N:=r.2.N,bk:=r.2.x,kv:=x.kv++ [(kvT x.kvL x.cl x.dp (2^x.dp))]}
theorem qRw{α:Type}(l:List α)(x no:α):(l++ [x]).getD ((l++ [x]).length-1) no=x:=by
 rw [jA,jI,Nat.add_sub_cancel,jB,jk (jK _),zH];rfl
theorem qJT{α:Type}(l:List α)(x no:α){i:Nat}(h:i<l.length):(l++ [x]).getD i no=l.getD i no:=by
 rw [jB,jj h,←jB]
theorem qGI{α:Type}(l:List α)(x no:α){i:Nat}(h:i=l.length):(l++ [x]).getD i no=x:=by
 rw [h,jB,jk (jK _),zH];rfl
theorem SvR.pub_kvL(x:SvR)(r:StR×WrR)(h:x.kv.length=x.tg.length):(x.pub r).kvL=(kvT x.kvL x.cl x.dp (2^x.dp)):=by
 show(x.kv++ [_]).getD ((x.tg++ [_]).length-1) []=_
 refine qGI _ _ _ ?_
 rw [jA,jI,h];omega
theorem SvR.pub_hdL(x:SvR)(r:StR×WrR):(x.pub r).hdL=adH (qA0 x.hdL).dig x.dp x.audN.length x.hd (kvT x.kvL x.cl x.dp (2^x.dp)) r.1.nA r.1.nc:=qRw _ _ _
theorem SvI.pub{x:SvR}(h:SvI x)(r:StR×WrR)(ht:x.tg.length<15)(hp:StP x.kvL x.cl x.nxt x.audN (qA0 x.hdL).dig x.dp x.audN.length x.tg x.hd r.1)(hL:CbL x.bk r.2.x (x.no++ [cmB x.no.length x.hd.length]))(hn1: ∀s∈x.no,1≤qBg s.length):SvI (x.pub r):=by
  have h4:=h.dp
  have h5:=h.cl.len
  obtain ⟨_,h16⟩:=qH6 h4
  have hkl:=h.kl
  have hth:=h.th
  have htk:=h.tk
  refine{dp:=h.dp,un:=h.un,ln:=h.ln,cl:=⟨jG _,(λy hy=>by cases hy),(λy hy=>by cases hy)⟩,n9:=(λy hy=>by cases hy),nc:=rfl,al:=h.an,an:=h.an,uw:=?_,lw:=?_,t0:=?_,t1:=?_,th:=?_,tk:=?_,kf:=?_,kl:=?_,hg:=?_,sz:=?_,re:=?_}
  · exact(hp.pm.map _).nodup_iff.2 h.un
  · intro y hy
    have:(y.nm,y.l)∈lbE x.nxt:=hp.pm.subset (List.mem_map.2 ⟨y,hy,O⟩)
    obtain ⟨z,hz,e⟩:=List.mem_map.1 this
    have:=h.ln z hz
    rw [show y.l=z.l from(congrArg Prod.snd e).symm];exact this
  · show 0<(x.tg++ [_]).length
    rw [jA];exact Nat.succ_pos _
  · show(x.tg++ [_]).length≤15
    rw [jA,jI];omega
  · show(x.hd++ [_]).length=(x.tg++ [_]).length
    rw [jA,jA,hth];rfl
  · show(x.kv++ [_]).length=(x.tg++ [_]).length
    rw [jA,jA,htk];rfl
  · rw [x.pub_kvL r htk]
    exact qGF h.kf h.cl xB _ h16
  · rw [x.pub_kvL r htk]
    show _≤5000*(x.tg++ [_]).length
    rw [jA,jI]
    have:=qMJ x.kvL x.cl x.dp (2^x.dp)
    have h6:2^x.dp*x.cl.length≤16*256:=Nat.mul_le_mul h16 h5
    omega
  · rw [x.pub_hdL r]
    refine qM9 ?_ (qK1 _) ?_
    · show x.hd.length≤_;omega
    · show(qAq _ x.dp).length≤16
      unfold qAq;rw [qBe];exact h16
  · show r.2.x.size≤_;rw [hL.sz];exact h.sz
  · show r.2.x.R.length≤r.2.x.e
    rw [hL.R,hL.e,jA,jA,jI,qBz]
    have h7: ∀l:List xA,(∀s∈l,1≤qBg s.length)→l.length≤qCd l:=λl hl=>by
      induction l with
      |nil=>exact jG _
      |cons a l ih=>
        have h8:=hl a (.head _)
        have h9:=ih λs hs=>hl s (.tail _ hs)
        unfold qCd at h9⊢
        rw [jd,List.sum_cons,jD];omega
    have h8:=h7 x.no hn1
    have h9:=qFY (cmB x.no.length x.hd.length).length
    have:=h.re
    omega
structure PbP (m' G G2:Hp) (x:SvR) (r:StR×WrR):Prop where
 s: ∀G3,Le G G3→Le G2 G3→Srv m' G3 (x.pub r)
 ns:nsl G2 (x.pub r).hdL
 len:r.1.tl.length=2^x.dp
 ro:Row r.1.mo 165 5 r.1.At r.1.tl.length r.1.ct (qJ1 r.1.tl)
 ok:qPd G2 x.kvL x.cl x.dp r.1.tl
 bk:CbL x.bk r.2.x (x.no++ [cmB x.no.length x.hd.length])
 pm:(lbE r.1.cl).Perm (lbE x.nxt)
theorem qQf(F m G:Hp)(hK:KF F)(hGF:Le G F)(x:SvR)(hS:Srv m G x)(ht:x.tg.length<15)(hfit:x.bk.e+qCd (x.no++ [cmB x.no.length x.hd.length])≤x.bk.size):
    Ct prog 10 [Ptr x.gs] [m,F] (λy:Hp×StR×WrR=> .tuple #[.agg #[N64 x.hd.length,Str (qA0 x.hdL).dig,I (x.dp:Nat),I (x.audN.length:Nat),.slice y.2.1.nA (qAq (kvT x.kvL x.cl x.dp (2^x.dp)) x.dp).length y.2.1.nc],.slice y.2.1.At y.2.1.tl.length y.2.1.ct,I (0:Nat)]) (λy=>PbP y.1 G y.2.1.G x y.2) (λy=> [y.1,F,y.2.1.G,y.2.1.mo]):=λw0 w hw=>by
  have hP:=hS.p
  have hI:=hS.i
  have hth:=hI.th
  have htk:=hI.tk
  rw [hS.eq] at hw
  have h1:=(hw.splitUs hS.dj).pick [0,5,6,7,8,9,1,2,3,4,10] xC
  refine(Ct.useA [x.sb,x.mT,x.mH,x.bk.blk x.gb,x.md,x.N] [x.mX,x.NX,x.mC,x.mO,F] (A':=λy:StR×WrR=> [blk x.gs [I (x.dp:Nat),Ptr x.gb,.bool false,.map (some y.1.cg),Ptr y.1.cr,.map (some x.nB),Ptr x.rB,.slice none 0 0,.slice none 0 0,.slice y.1.tA (x.tg++ [y.1.gu]).length y.1.tc,.slice y.1.hA (x.hd++ [adH ((qA0 x.hdL).dig) x.dp x.audN.length x.hd (kvT x.kvL x.cl x.dp (2^x.dp)) y.1.nA y.1.nc]).length y.1.hc] 99,y.1.mT,y.1.mH,y.2.x.blk x.gb,y.2.md,y.2.N]) (new:=λy=> [y.1.G,y.1.mo]) (λF' hF=>qWj F' (hK.mo hF) x hI (hP.mono (hGF.trans (Fa hF))) (Fa hF) (Fa hF) (Fa hF) (Fa hF) hfit) w0 w h1).mono λe w' ⟨y,he,⟨q1,q2,q3⟩,hst⟩=>?_
  have h2:=hst.empty.empty
  have h3:=St.joinUs (A:=(x.pub y).hs) (r:= [F,y.1.G,y.1.mo]) (h2.pick [0,6,7,13,14,1,2,3,4,5,10,11,12] xC)
  have hI2:=hI.pub y ht q1 q3 (λs hs=>qFY _)
  refine⟨(U (x.pub y).hs,y),he,⟨λG3 g1 g2=>⟨O,h3.1,⟨hP.mx,hP.nx,qBh.nil,qBh.nil,q1.rt,q1.rh,q2,q1.mp.mono g2,q1.lb.mono g2,qSt.mono q1.au g2,hP.rb.mono g1,λj hj=>?_,λj hj=>?_⟩,hI2⟩,?_,q1.len,q1.ro,q1.ok,q3,q1.pm⟩,h3.2⟩
  · have hj2:j<x.tg.length+1:=by have:=hj;rw [show(x.pub y).tg=x.tg++ [y.1.gu] from rfl,jA,jI] at this;exact this
    show qCh G3 ((x.tg++ [_]).getD j 0) ((x.kv++ [_]).getD j [])
    by_cases hlt:j<x.tg.length
    · rw [qJT _ _ _ hlt,qJT _ _ _ xB];exact(hP.tr j hlt).mono g1
    · rw [qGI _ _ _ xB,qGI _ _ _ xB];exact q1.tu.mono g2
  · have hj2:j<x.hd.length+1:=by have:=hj;rw [show(x.pub y).hd=x.hd++ [_] from rfl,jA,jI] at this;exact this
    show nsl G3 ((x.hd++ [_]).getD j qAc)
    by_cases hlt:j<x.hd.length
    · rw [qJT _ _ _ hlt];exact(hP.hn j hlt).mono g1
    · rw [qGI _ _ _ xB];exact q1.nr.mono g2
  · rw [x.pub_hdL y];exact q1.nr
def nwS(gd n first count dp:Nat)(gl:List Aud)(md:Hp)(r:NwR):SvR:=
 {gs:=r.gs,dp:=dp,nA:=r.gA,rA:=r.gR,nB:=r.cp.g,rB:=r.cp.r,gb:=r.gb,nxt:= [],now:= [],cA:=none,cc:=0,cl:= [],oA:=none,oc:=0,no:= [],tA:=r.ad.tA,tc:=r.ad.tc,tg:= [r.gt],hA:=r.ad.hA,hc:=r.ad.hc,hd:= [adH qAh dp gl.length [] (qGE [] gl gl.length) r.ad.nA r.ad.nc],mX:=r.cp.mm,NX:=r.cp.M,mC:=λ_=>none,mO:=λ_=>none,mT:=r.ad.mT,mH:=r.ad.mH,md:=md,N:=λ_=>none,bk:=⟨gd,first,count/2,first,0,0,none,0,[],Dk.new n⟩,kv:= [qGE [] gl gl.length],aud:=gl,audN:=gl}
theorem qRQ{α:Type}{a no:α}{i:Nat}(h:i< [a].length): [a].getD i no=a:=by
 match i,h with
 |0,_=>rfl
theorem qXl(F md:Hp)(hK:KF F)(hA:qAM F ⟨2,0,none⟩ qBd)(hT:qCI F)(gd n:Nat)(hb:Dsk md gd (Dk.new n) none 0)(hn4:4≤n)(hn:n≤1000)(first count:Nat)(h8:8≤count)(hfc:first+count≤n)(dp:Nat)(hdp:dp≤4)(GA:Option Addr)(gc:Nat)(gl:List Aud)(hgl:Sl F 4 GA gl.length gc (qBc gl))(hg:qYg gl):
    Ct prog 21 [Ptr gd,I (first:Nat),I (count:Nat),I (dp:Nat),.slice GA gl.length gc] [md,F] (λy:Hp×Hp×NwR=> .tuple #[Ptr y.2.2.gs,I (0:Nat)]) (λy=>Srv y.1 y.2.1 (nwS gd n first count dp gl md y.2.2)) (λy=> [y.1,F,y.2.1]):=λw0 w hw=>by
  refine(qWn F md hK hA hT gd n hb hn4 hn first count h8 hfc dp hdp GA gc gl hgl hg w0 w hw).mono λe w' ⟨r,he,hp,hst⟩=>?_
  have h1:=St.joinUs (A:=(nwS gd n first count dp gl md r).hs) (r:= [F,qAO r.gA (.map #[] 0),r.mR,r.mt,r.cp.mr,r.ad.mN]) (hst.empty.empty.empty.pick [5,6,7,13,14,9,10,12,0,15,1,2,3,4,8,11] xC)
  have h2:=St.joinUs (A:= [qAO r.gA (.map #[] 0),r.mR,r.mt,r.cp.mr,r.ad.mN]) (r:= [U (nwS gd n first count dp gl md r).hs,F]) (h1.2.pick [2,3,4,5,6,0,1] xC)
  have hl: ∀a∈ [qAO r.gA (.map #[] 0),r.mR,r.mt,r.cp.mr,r.ad.mN],Le a (U [qAO r.gA (.map #[] 0),r.mR,r.mt,r.cp.mr,r.ad.mN]):=λa ha=>qFO h2.1 ha
  have hls:r.cp.ls= []:=List.map_eq_nil_iff.1 hp.cp.pm.eq_nil
  have hll:=qJQ gl (n:=gl.length) hg.len
  obtain ⟨_,h16⟩:=qH6 hdp
  have hg15:=hg.len
  have hlast:(Dk.new n).last.length=n:=by unfold Dk.new;exact jJ
  have hro:qSt (U [qAO r.gA (.map #[] 0),r.mR,r.mt,r.cp.mr,r.ad.mN]) r.gR gl:=by
    obtain ⟨a,b,c,q1,q2,_⟩:=hp.ro.see
    exact qSt.mono ⟨a,b,c,q1,q2⟩ (hl _ xD)
  have hrb:qSt (U [qAO r.gA (.map #[] 0),r.mR,r.mt,r.cp.mr,r.ad.mN]) r.cp.r gl:=by
    obtain ⟨a,b,c,q1,q2,_⟩:=hp.cp.ro.see
    exact qSt.mono ⟨a,b,c,q1,q2⟩ (hl _ xD)
  have hmx:=hp.cp.mp
  have hnx:=hp.cp.nx
  rw [hls] at hmx hnx
  refine⟨(U (nwS gd n first count dp gl md r).hs,U [qAO r.gA (.map #[] 0),r.mR,r.mt,r.cp.mr,r.ad.mN],r),he,⟨O,h1.1,⟨hmx,hnx,qBh.nil,qBh.nil,hp.ad.rt,hp.ad.rh,?_,(MapS.nil r.gA).at.mono (hl _ xD),(λy hy=>by cases hy),hro,hrb,λi hi=>?_,λi hi=>?_⟩,?_⟩,h2.2.pick [1,2,0] xC⟩
  · exact⟨hb,Dk.new_ok hn4 xB,O,O,O,O,Sl.nil,by show first+count/2≤(Dk.new n).last.length;rw [hlast];omega,by show(Dk.new n).last.length≤1000;rw [hlast];omega,jG _,jG _⟩
  · show qCh _ ([r.gt].getD i 0) ([qGE [] gl gl.length].getD i [])
    rw [qRQ hi,qRQ (show i< [qGE [] gl gl.length].length from hi)]
    exact hp.tr.at.mono (hl _ xD)
  · show nsl _ ([adH qAh dp gl.length [] (qGE [] gl gl.length) r.ad.nA r.ad.nc].getD i qAc)
    rw [qRQ hi]
    exact hp.ad.nd.sl.mono (hl _ xD)
  · exact{dp:=hdp,un:=List.nodup_nil,uw:=List.nodup_nil,ln:=(λy hy=>by cases hy),lw:=(λy hy=>by cases hy),cl:=⟨jG _,(λy hy=>by cases hy),(λy hy=>by cases hy)⟩,n9:=(λy hy=>by cases hy),nc:=rfl,t0:=Nat.succ_pos _,t1:=(by show 1≤15;decide),th:=rfl,tk:=rfl,kf:=qHG gl hg15,kl:=(by show(qGE [] gl gl.length).length≤5000*1;omega),hg:=qM9 (jG _) (jK _) (by show(qAq _ dp).length≤16;unfold qAq;rw [qBe];exact h16),al:=(by show gl.length≤64;omega),an:=(by show gl.length≤64;omega),sz:=(by show count/2≤1000;omega),re:=jG _}
theorem Srv.cells{m G:Hp}{x:SvR}(h:Srv m G x):qAM m ⟨x.gs,0,none⟩ [I (x.dp:Nat),Ptr x.gb,.bool false,.map (some x.nA),Ptr x.rA,.map (some x.nB),Ptr x.rB,.slice x.cA x.cl.length x.cc,.slice x.oA x.no.length x.oc,.slice x.tA x.tg.length x.tc,.slice x.hA x.hd.length x.hc]:=qAM.blk0.mono (h.le (.head _))
theorem Srv.tsl{m G:Hp}{x:SvR}(h:Srv m G x):Sl m 1 x.tA x.tg.length x.tc (qBw x.tg):=h.p.rt.sl.mono (h.le (by simp [SvR.hs]))
theorem Srv.hsl{m G:Hp}{x:SvR}(h:Srv m G x):Sl m 5 x.hA x.hd.length x.hc (qCk x.hd):=h.p.rh.sl.mono (h.le (by simp [SvR.hs]))
theorem Srv.tree{m G:Hp}{x:SvR}(h:Srv m G x):qCh G (x.tg.getD (x.tg.length-1) 0) x.kvL:=h.p.tr _ (by have:=h.i.t0;omega)
theorem qTq(F:Hp)(hK:KF F){kv:List Sm.PR}(hf:qCE kv){d:Nat}(hd:d≤4)(ep:Nat)(par:xA)(au:Nat)(he:ep≤1000)(hp:par.length≤16)(A:Option Addr)(c:Nat)(hs:Sl F 1 A (qAq kv d).length c (qAG (qAq kv d))):
    Cz prog 41 [.agg #[N64 ep,Str par,I (d:Nat),I (au:Nat),.slice A (qAq kv d).length c]] F (Str (Sm.nd 128 kv)):=by
  obtain ⟨_,h16⟩:=qH6 hd
  have hl:(qAq kv d).length=2^d:=by unfold qAq;rw [qBe]
  have h:=qGG F hK ⟨ep,par,((d:Nat):Int),((au:Nat):Int),qAq kv d⟩ A c ⟨by show ep<_;omega,by show par.length≤_;omega,by show(qAq kv d).length≤_;omega⟩ hs (λs hs=>by
    unfold qAq qCZ at hs
    obtain ⟨j,_,rfl⟩:=List.mem_map.1 hs
    exact jZ (Sm.nd_small _ _) xC)
  rw [show qB0 (qAq kv d) ((d:Nat):Int)=Sm.nd 128 kv from(qGD hf hd).2] at h
  exact h
theorem PbP.root{F:Hp}(hK:KF F){m G G2:Hp}{x:SvR}{r:StR×WrR}(h:PbP m G G2 x r)(hI:SvI x)(hS:Srv m F (x.pub r))(hl:Le G2 F):
    Cz prog 41 [.agg #[N64 x.hd.length,Str (qA0 x.hdL).dig,I (x.dp:Nat),I (x.audN.length:Nat),.slice r.1.nA (qAq (kvT x.kvL x.cl x.dp (2^x.dp)) x.dp).length r.1.nc]] F (Str (Sm.nd 128 (x.pub r).kvL)):=by
  have e:=x.pub_kvL r hI.tk
  have hf:=hS.i.kf
  have h1:=hI.th
  have h2:=hI.t1
  have hn:=h.ns
  rw [x.pub_hdL] at hn
  rw [e] at hf⊢
  exact qTq F hK hf hI.dp _ _ _ xB (qK1 _) _ _ (hn.mono hl)
structure LkR where
 A:Option Addr
 c:Nat
 m:Hp
 s:Nat
 bA:Option Addr
 bc:Nat
 mb:Hp
structure LkP (x:SvR) (s:xA) (r:LkR):Prop where
 ro:Row r.m 61 5 r.A (qDf (lbE x.now) s).length r.c (qDD (qDf (lbE x.now) s))
 st:qGR x.kvL (Sha.tagged 11 [s]) 0 r.s
 rb:Row r.mb 9 1 r.bA (bsd x.kvL (Sha.tagged 11 [s]) 0 (r.s-0)).length r.bc (qAG (bsd x.kvL (Sha.tagged 11 [s]) 0 (r.s-0)))
theorem LbA.small{F:Hp}{ls:List Lb}(h: ∀y∈ls,y.l.length≤1000)(k:xA):(qDf (lbE ls) k).length≤1000:=by
 rw [qJS]
 cases hg:qCp ls k with
 |none=>exact jG _
 |some x=>exact h x (qKp hg).1
theorem qIq(F:Hp)(hK:KF F)(x:SvR)(hI:SvI x)(hc:qAM F ⟨x.gs,0,none⟩ [I (x.dp:Nat),Ptr x.gb,.bool false,.map (some x.nA),Ptr x.rA,.map (some x.nB),Ptr x.rB,.slice x.cA x.cl.length x.cc,.slice x.oA x.no.length x.oc,.slice x.tA x.tg.length x.tc,.slice x.hA x.hd.length x.hc])(hts:Sl F 1 x.tA x.tg.length x.tc (qBw x.tg))(hT:qCh F (x.tg.getD (x.tg.length-1) 0) x.kvL)(hw:Fw.MapAt F x.nA (lbV x.now))(hl:LbA F x.now)(s:xA)(hs:s.length≤1000):Ct prog 13 [Ptr x.gs,Str s] [F] (λr:LkR=> .tuple #[.agg #[Str s,.slice r.A (qDf (lbE x.now) s).length r.c,.slice r.bA (bsd x.kvL (Sha.tagged 11 [s]) 0 (r.s-0)).length r.bc,.bool (qAm x.kvL (Sha.tagged 11 [s]) r.s),Str (qBm x.kvL (Sha.tagged 11 [s]) r.s),Str (qBs x.kvL (Sha.tagged 11 [s]) r.s)],I (0:Nat)]) (LkP x s) (λr=> [F,r.mb,r.m]):=by
 have i7:=hI.t0
 have i8:=hI.t1
 have hel:=LbA.small (F:=F) hI.lw s
 refine Ct.walk func13 O ntmps13 O (λw0 hw0=>?_)
 refine J.g λ_ j1=>J.p (qAJ O qR7 O) O λg4 _=>J.b O<|J.c j1<|J.q λ_ j2=>J.g λ_ j3=>J.b O<|J.f ((qA4 qYj O O O).as (v':= .bool false) O) O<|J.c j3<|J.a2 ?_
 refine J.T j2<|J.g λ_ j4=>J.b O<|J.f (qAB O O) O<|J.M 9 qCi sizeOf97 O O O O O<|J.f (qAI O O isAgg97 (m:=F) xD (hc.at (i:=9) O)) O<|J.p (qAa O O (λF' hF=>qMu F' x.tA x.tg.length x.tc x.tg (hts.mono (Fa hF)) i7 xB)) O λg16 _=>J.b O<|J.p (qAa O O (λF' hF=>qFG F' (hK.mo hF) s xB)) O λg18 _=>J.p (qBr O O (λF' hF=>qE0 F' (hK.mo hF) (x.tg.getD (x.tg.length-1) 0) x.kvL (hT.mono (Fa hF)) hI.kf (Sha.tagged 11 [s]) (Sha.tagged_length _ _) 0 xB)) O ?_
 rintro⟨s19,A19,c19,m19⟩ ⟨hst19,hr19⟩
 refine J.k 3 O<|J.p (qAJ O qPN O) O λg6 _=>J.a6 (qAD (i:=3) (l:= [.slice none 0 0,.bool false,Str [],Str []]) (vs:= [.slice A19 ((bsd x.kvL (Sha.tagged 11 [s]) 0 (s19-0)).length) c19,.bool (qAm x.kvL (Sha.tagged 11 [s]) s19),Str (qBm x.kvL (Sha.tagged 11 [s]) s19),Str (qBs x.kvL (Sha.tagged 11 [s]) s19)]) O O O O O qB9 O O) O O λ_ _=>J.b O<|J.c j4<|J.q λ_ j5=>J.b1 [F,blk g6 [.slice A19 ((bsd x.kvL (Sha.tagged 11 [s]) 0 (s19-0)).length) c19,.bool (qAm x.kvL (Sha.tagged 11 [s]) s19),Str (qBm x.kvL (Sha.tagged 11 [s]) s19),Str (qBs x.kvL (Sha.tagged 11 [s]) s19)] 53] [12,13,100011] (.y 0 (.y 1 (.y 2 (.y 3 (.y 4 (.y 5 (.y 6 (.y 7 (.y 9 (.y 11 (.e 8 (.y 10 (.e 12 (.e 13 .nil)))))))))))))) Tryz.wide xF xD ?_
 refine J.L ?_
 refine J.L ?_
 refine J.j O (qAB O O) O O<|J.j O (qAA O O qCi O qGS O) O O<|J.j O (qAA O O qLd O qVW O) O O<|J.j O (qAI O O isAgg92 (m:=F) xD (hc.at (i:=3) O)) O O<|J.L ?_
 refine J.j O ((qC9 O O O qVc u9_ zeroValue51 (m:=F) xD hw).as (v':= .slice (qXz x.now s) (qDf (lbE x.now) s).length (qXy x.now s)) (qVx x.now s)) O O<|J.j O (qAW 1 O O O qEb qB9 O) O O<|J.d3 O (qA2 O O) O O O ?_
 refine J.Z O (qBr O O (λF' hF=>qK5 F' (qXz x.now s) ((qDf (lbE x.now) s).length) (qXy x.now s) (qDf (lbE x.now) s) ((hl.at s).mono (Fa hF)) xP)) O xD ?_
 rintro⟨A30,c30,m30⟩ h30
 try dsimp only at h30
 refine J.j O (qAH (places:= [(0,1),(1,1),(2,4)]) (r:= [Str (s),.slice A30 (((qDf (lbE x.now) s)).length) c30,.slice A19 ((bsd x.kvL (Sha.tagged 11 [s]) 0 (s19-0)).length) c19,.bool (qAm x.kvL (Sha.tagged 11 [s]) s19),Str (qBm x.kvL (Sha.tagged 11 [s]) s19),Str (qBs x.kvL (Sha.tagged 11 [s]) s19)]) O O O qEX qR7 (λ_=>xI) O) O O<|J.c1 O (qAD (i:=1) (l:= [Str [],.slice none 0 0,.slice none 0 0,.bool false,Str [],Str []]) (vs:= [Str (s),.slice A30 (((qDf (lbE x.now) s)).length) c30,.slice A19 ((bsd x.kvL (Sha.tagged 11 [s]) 0 (s19-0)).length) c19,.bool (qAm x.kvL (Sha.tagged 11 [s]) s19),Str (qBm x.kvL (Sha.tagged 11 [s]) s19),Str (qBs x.kvL (Sha.tagged 11 [s]) s19)]) O O O O O qJk O O) O O O λ_ _=>J.d1 O (YOp.eop (qBG O O)) O O O O ?_
 intro _ _
 refine J.a9<|J.u (J.G j5 ?_)
 exact J.A<|J.b0 hw0 (λ_ _ h=>h) (rv2 O (RV.blkA 1 O O isAgg55 qJk) O) (qAn (⟨A30,c30,m30,s19,A19,c19,m19⟩:LkR) O ⟨h30,hst19,hr19⟩ [0,2,4] O xC)
theorem el77:qCt prog 77 [.pointer none] 8:=qCt.of xI O
theorem gl_w{a:Nat}(h:a≤3):qYg (wL a) where
 len:=by rw [qCA];omega
 sm:=qTA h
 ok:=λi hi=>by
  rw [qCA] at hi
  have e:(wL a).take i=wL i:=by unfold wL;rw [←List.map_take,List.take_range,je xB]
  rw [e,show aX (wL a) i=wA i from qGc hi]
  exact add_w xB
theorem gen_w{a d:Nat}(ha:a≤3)(A:Option Addr)(c:Nat):qA0 (adH qAh d (wL a).length [] (qGE [] (wL a) (wL a).length) A c)=pW a d:=by
 unfold qA0 adH pW
 dsimp only
 rw [qCA,qZU ha];rfl
structure Bas6 (a d:Nat) (x:SvR):Prop where
 dp:x.dp=d
 hd1:x.hd.length=1
 tg1:x.tg.length=1
 h0:qA0 (x.hd.getD 0 qAc)=pW a d
 k0:x.kv.getD 0 []=qAN a
 an:x.audN=wL a
structure qPV (a d:Nat) (x:SvR):Prop extends Bas6 a d x where
 nxt:x.nxt= []
 now:x.now= []
 no:x.no= []
 cl:x.cl= []
 sz:x.bk.size=150
 e0:x.bk.e=0
theorem new6{a d:Nat}(ha:a≤3)(gd:Nat)(md:Hp)(r:NwR):qPV a d (nwS gd 300 0 300 d (wL a) md r):=by
 refine⟨⟨O,O,O,gen_w ha _ _,?_,O⟩,O,O,O,O,O,O⟩
 show qGE [] (wL a) (wL a).length=_
 rw [qCA,qZU ha]
structure W6R where
 gw:Nat
 x:SvR
 gs:List Nat
 kA:Option Addr
 kc:Nat
 gu:Nat
 uc:Nat
 ms:Hp
 mu:Hp
 H:Hp
structure Wld (a:Nat) (us:List Nat) (G mu:Hp) (gw:Nat) (x:SvR) (gs:List Nat) (kA:Option Addr) (kc gu uc:Nat):Prop where
 w:qAM G ⟨gw,0,none⟩ [Ptr x.gs,.slice kA a kc,.slice (some ⟨gu,0,none⟩) a uc]
 gl:gs.length=a
 kr:Sl G 1 kA a kc (qBw gs)
 ks:qF4 G gs
 ul:us.length=a
 ur:Row mu 3 1 (some ⟨gu,0,none⟩) a uc (qBP us)
theorem Wld.mono{a:Nat}{us:List Nat}{G G' mu:Hp}{gw:Nat}{x:SvR}{gs:List Nat}{kA:Option Addr}{kc gu uc:Nat}(h:Wld a us G mu gw x gs kA kc gu uc)(hl:Le G G'):Wld a us G' mu gw x gs kA kc gu uc:=⟨h.w.mono hl,h.gl,h.kr.mono hl,h.ks.mono hl,h.ul,h.ur⟩
structure W6P (a d:Nat) (r:W6R):Prop where
 s:Srv r.ms r.H r.x
 n:qPV a d r.x
 w:Wld a (List.replicate a 0) r.H r.mu r.gw r.x r.gs r.kA r.kc r.gu r.uc
structure W6Q where
 gw:Nat
 x:SvR
 gs:List Nat
 kA:Option Addr
 kc:Nat
 uA:Option Addr
 uc:Nat
 ms:Hp
 mu:Hp
 Gs:Hp
 mq:Hp
 G:Hp
structure W6QP (a d:Nat) (r:W6Q):Prop where
 s:Srv r.ms r.Gs r.x
 n:qPV a d r.x
 gl:r.gs.length=a
 kr:Row r.mq 77 1 r.kA a r.kc (qBw r.gs)
 ks:qF4 r.G r.gs
 ur:Row r.mu 3 1 r.uA a r.uc (qBP (List.replicate a 0))
theorem qM5{m:Hp}{e:TypeId}{sz:Nat}{A:Option Addr}{n c:Nat}{xs:List (List Value)}(h:Row m e sz A n c xs)(hn:0<n): ∃g,A=some ⟨g,0,none⟩:=by
 obtain ⟨_,_,hnc,hcase⟩:=h
 rcases hcase with ⟨_,hc,_⟩|⟨g,_,_,_,hA,_⟩
 · omega
 · exact⟨g,hA⟩
theorem qUJ(F:Hp)(hK:KF F)(hA:qAM F ⟨2,0,none⟩ qBd)(hT:qCI F)(a d:Nat)(ha:a≤3)(hd:d≤4):Ct prog 6 [I (a:Nat),I (d:Nat)] [F] (λr:W6Q=>Ptr r.gw) (λr=>W6QP a d r) (λr=> [F,r.ms,r.mu,r.Gs,r.mq,r.G,blk r.gw [Ptr r.x.gs,.slice r.kA a r.kc,.slice r.uA a r.uc] 40]):=by
 refine Ct.walk func6 O ntmps6 O (λw0 hw0=>?_)
 refine J.g λ_ j1=>?_
 refine J.b O ?_
 refine J.c j1 ?_
 refine J.g λ_ j2=>?_
 refine J.f (qAH (places:= [(0,1),(1,1),(2,1)]) (r:= [.pointer none,.slice none 0 0,.slice none 0 0]) O O O qEt zeroValue40 (λ_=>xI) O) O ?_
 refine J.p (qAZ O O O) O ?_
 intro g15 _
 refine J.b O ?_
 refine J.c j2 ?_
 refine J.g λ_ j3=>?_
 refine J.b O ?_
 refine J.c j3 ?_
 refine J.q (λ_ j4=>?_)
 refine J.g λ_ j5=>?_
 refine J.b O ?_
 refine J.c j5 ?_
 refine J.V ?_
 refine J.b6 (X:=Nat×List Nat×Option Addr×Nat×Option Addr×Nat×Option Addr×Nat×Hp×Hp×Hp×Hp) (λζ=> [(0,I (a:Nat)),(1,I (d:Nat)),(5,Ptr g15),(6,.slice ζ.2.2.2.2.2.2.1 ζ.1 ζ.2.2.2.2.2.2.2.1),(7,I (ζ.1:Nat))]) (λζ=> [F,blk g15 [.pointer none,.slice ζ.2.2.1 ζ.1 ζ.2.2.2.1,.slice ζ.2.2.2.2.1 ζ.1 ζ.2.2.2.2.2.1] 40,ζ.2.2.2.2.2.2.2.2.1,ζ.2.2.2.2.2.2.2.2.2.1,ζ.2.2.2.2.2.2.2.2.2.2.1,ζ.2.2.2.2.2.2.2.2.2.2.2]) (λζ=>ζ.1≤a∧ζ.2.1.length=ζ.1∧Row ζ.2.2.2.2.2.2.2.2.1 77 1 ζ.2.2.1 ζ.1 ζ.2.2.2.1 (qBw ζ.2.1)∧qF4 ζ.2.2.2.2.2.2.2.2.2.1 ζ.2.1∧Row ζ.2.2.2.2.2.2.2.2.2.2.1 3 1 ζ.2.2.2.2.1 ζ.1 ζ.2.2.2.2.2.1 (qBP (List.replicate ζ.1 0))∧Row ζ.2.2.2.2.2.2.2.2.2.2.2 72 4 ζ.2.2.2.2.2.2.1 ζ.1 ζ.2.2.2.2.2.2.2.1 (qBc (wL ζ.1))) (λζ=>a-ζ.1) (0,[],none,0,none,0,none,0,(λ_=>none),(λ_=>none),(λ_=>none),(λ_=>none)) (⟨jG _,O,qBh.nil,qF4.nil _,qBh.nil,qBh.nil⟩) ⟨O,O,O,O,O,trivial⟩ (λ_ h=>h.empty.empty.empty.empty.pick [0,1,2,3,4,5] xC) ?_
 rintro⟨i,gs,kA,kc,uA,uc,Aa,ca,mk,G,mu,mA⟩ ⟨hi,hgl,hkr,hks,hur,haud⟩ I0 hI0
 dsimp only at hi hgl hkr hks hur haud⊢
 refine J.q (λ_ j6=>?_)
 refine J.g λ_ j7=>?_
 refine J.k 2 O ?_
 refine J.f (qAS O O O) O ?_
 refine J.c j7 ?_
 refine J.a0 O (λh18=>?_) (λh18=>?_)
 ·
  refine J.T j6 ?_
  refine J.q (λ_ j8=>?_)
  refine J.V ?_
  refine J.g λ_ j9=>?_
  refine J.b O ?_
  refine J.f ((qAQ O O O xJ).nat (97+i) xB) O ?_
  refine J.f (qAw O O u3_ u5_) O ?_
  refine J.p (qAE (l:= [.tmp 24]) (xs:= [[B8 (UInt8.ofNat (97+i))]]) O O O O qBt el5 O xC xC xD) O ?_
  intro g25 _
  refine J.f (qBn O O qBt u5_ u9_ (m:=blk g25 [B8 (UInt8.ofNat (97+i))] 5) xD ((qA7 (q:=True) (qAg [UInt8.ofNat (97+i)]) O (by simp [qAg]) O).sl)) O ?_
  refine J.f (qBN O O O xJ) O ?_
  refine J.p (qBr O O (λF' hF=>qMj F' (hK.mo hF) (qAP i) 2 (jm O) xC)) O ?_
  rintro⟨g28,m28⟩ h28
  try dsimp only at h28
  refine J.k 5 O ?_
  refine J.c j9 ?_
  refine J.q (λ_ j10=>?_)
  refine J.g λ_ j11=>?_
  refine J.b O ?_
  refine J.f ((qAe O O O).no xC) O ?_
  refine J.c j11 ?_
  refine J.a2 ?_
  refine J.T j10 ?_
  refine J.d4 (X:=Option Addr×Nat×Option Addr×Nat×Hp×Hp) (λζ=> [(0,I (a:Nat)),(1,I (d:Nat)),(5,Ptr g15),(6,.slice Aa i ca),(7,I (i:Nat)),(8,Ptr g28)]) (λζ=> [F,blk g15 [.pointer none,.slice ζ.1 (i+1) ζ.2.1,.slice ζ.2.2.1 (i+1) ζ.2.2.2.1] 40,ζ.2.2.2.2.1,G,ζ.2.2.2.2.2,mA,m28]) (λζ=>Row ζ.2.2.2.2.1 77 1 ζ.1 (i+1) ζ.2.1 (qBw (gs++ [g28]))∧Row ζ.2.2.2.2.2 3 1 ζ.2.2.1 (i+1) ζ.2.2.2.1 (qBP (List.replicate (i+1) 0))) (λ_ j12=>?_) ?_
  ·
   refine J.b1 [F,blk g15 [.pointer none,.slice kA i kc,.slice uA i uc] 40] [17,18,19,20,100001] (.y 0 (.y 1 (.y 2 (.y 3 (.y 4 (.y 5 (.y 6 (.y 9 (.y 10 (.y 11 (.y 12 (.br (.e 7 (.br (.e 8 (.e 13 (.e 14 (.y 15 (.y 16 (.e 17 (.e 18 (.e 19 (.e 20 .nil))))))))) (.e 13 (.e 8 (.e 14 (.y 15 (.y 16 (.e 17 (.e 18 (.e 19 (.e 20 .nil))))))))))) (.e 13 (.e 7 (.e 8 (.e 14 (.y 15 (.y 16 (.e 17 (.e 18 (.e 19 (.e 20 .nil)))))))))))))))))))))) Tryz.wide xF xD ?_
   refine J.L ?_
   refine J.d3 O (qA2 O O) O O O ?_
   refine J.L ?_
   refine J.j O (qAB O O) O O ?_
   refine J.j O (qAA O O qEt O qVX O) O O ?_
   refine J.j O (qAC 1 O O O isAgg37 O) O O ?_
   refine J.L ?_
   refine J.L ?_
   refine J.j O (qAB O O) O O ?_
   refine J.j O (qAA O O qEt O qPW O) O O ?_
   refine J.j O (qAC 1 O O O isAgg38 O) O O ?_
   refine J.d5 ?_ ?_
   ·
    refine J.Z O (qAE (l:= [.tmp 39]) (xs:= [[Ptr g28]]) O O O O qTH el77 O xC xC xD) O xD ?_
    intro g40 _
    refine J.d5 ?_ ?_
    ·
     refine J.Z O (qAU (i:=2) (xs:=qBw gs) (m2:=blk g40 [Ptr g28] 77) (ys:= [[Ptr g28]]) O O O qTH qTH el77 O hkr xD ((qA7 (q:=True) (qBw [g28]) O (by simp [qBw]) O).sl) O xJ xJ) O xD ?_
     rintro⟨A41,c41,m41⟩ h41
     try dsimp only at h41
     change J _ ((41,.slice A41 (i+1) c41)::_) _ [_,_,m41,_,_,_,_,_,_] _
     rw [←qEF] at h41
     refine J.Z O (qAE (l:= [.const ((Value.int IntKind.i64 0))]) (xs:= [[I (0:Nat)]]) O O O O qDM el3 O xC xC xD) O xD ?_
     intro g46 _
     refine J.Z O (qAU (i:=4) (m2:=blk g46 [I (0:Nat)] 3) O O O qDM qDM el3 O hur xD ((qA7 (q:=True) (qBP [0]) O (by simp [qBP]) O).sl) O xJ xJ) O xD ?_
     rintro⟨A47,c47,m47⟩ h47
     try dsimp only at h47
     replace h47:Row m47 3 1 A47 (i+1) c47 (qBP (List.replicate (i+1) 0)):=by rw [zf,qFa];exact h47
     refine J.j O (qAB O O) O O ?_
     refine J.j O (qAA O O qEt O qVX O) O O ?_
     refine J.c1 O (qAT (i:=1) O O O O O qVX O xD) O O O (λ_ _=>?_)
     refine J.d1 O (YOp.eop (qAB O O)) O O O O ?_
     intro _ _
     refine J.d1 O (YOp.eop (qAA O O qEt O qPW O)) O O O O ?_
     intro _ _
     refine J.c1 O (qAT (i:=1) (l:= [.pointer none,.slice A41 (i+1) c41,.slice uA i uc]) (vs:= [.slice A47 (i+1) c47]) O O O O O qPW O xD) O O O (λ_ _=>?_)
     refine J.a9 ?_
     refine J.u ?_
     exact J.a5 (A41,c41,A47,c47,m41,m47) j12 (⟨h41,h47⟩) ⟨O,O,O,O,O,O,trivial⟩ (λ_ h=>h.pick [0,1,2,3,4,5,7] xC)
    refine J.Z O (qAE (l:= [.const ((Value.int IntKind.i64 0))]) (xs:= [[I (0:Nat)]]) O O O O qDM el3 O xC xC xD) O xD ?_
    intro g46 _
    change J _ _ _ [_,_,_,_,_,_,_,_,_,blk g46 [I (0:Nat)] 3] _
    refine J.Z O (qAU (i:=2) (xs:=qBw gs) (m2:=blk g40 [Ptr g28] 77) (ys:= [[Ptr g28]]) O O O qTH qTH el77 O hkr xD ((qA7 (q:=True) (qBw [g28]) O (by simp [qBw]) O).sl) O xJ xJ) O xD ?_
    rintro⟨A41,c41,m41⟩ h41
    try dsimp only at h41
    change J _ ((41,.slice A41 (i+1) c41)::_) _ [_,_,m41,_,_,_,_,_,_,_] _
    rw [←qEF] at h41
    refine J.Z O (qAU (i:=4) (m2:=blk g46 [I (0:Nat)] 3) O O O qDM qDM el3 O hur xD ((qA7 (q:=True) (qBP [0]) O (by simp [qBP]) O).sl) O xJ xJ) O xD ?_
    rintro⟨A47,c47,m47⟩ h47
    try dsimp only at h47
    replace h47:Row m47 3 1 A47 (i+1) c47 (qBP (List.replicate (i+1) 0)):=by rw [zf,qFa];exact h47
    refine J.j O (qAB O O) O O ?_
    refine J.j O (qAA O O qEt O qVX O) O O ?_
    refine J.c1 O (qAT (i:=1) O O O O O qVX O xD) O O O (λ_ _=>?_)
    refine J.d1 O (YOp.eop (qAB O O)) O O O O ?_
    intro _ _
    refine J.d1 O (YOp.eop (qAA O O qEt O qPW O)) O O O O ?_
    intro _ _
    refine J.c1 O (qAT (i:=1) (l:= [.pointer none,.slice A41 (i+1) c41,.slice uA i uc]) (vs:= [.slice A47 (i+1) c47]) O O O O O qPW O xD) O O O (λ_ _=>?_)
    refine J.a9 ?_
    refine J.u ?_
    exact J.a5 (A41,c41,A47,c47,m41,m47) j12 (⟨h41,h47⟩) ⟨O,O,O,O,O,O,trivial⟩ (λ_ h=>h.pick [0,1,2,3,4,5,7] xC)
   refine J.Z O (qAE (l:= [.const ((Value.int IntKind.i64 0))]) (xs:= [[I (0:Nat)]]) O O O O qDM el3 O xC xC xD) O xD ?_
   intro g46 _
   refine J.Z O (qAE (l:= [.tmp 39]) (xs:= [[Ptr g28]]) O O O O qTH el77 O xC xC xD) O xD ?_
   intro g40 _
   change J _ _ _ [_,_,_,_,_,_,_,_,_,blk g40 [Ptr g28] 77] _
   refine J.Z O (qAU (i:=2) (xs:=qBw gs) (m2:=blk g40 [Ptr g28] 77) (ys:= [[Ptr g28]]) O O O qTH qTH el77 O hkr xD ((qA7 (q:=True) (qBw [g28]) O (by simp [qBw]) O).sl) O xJ xJ) O xD ?_
   rintro⟨A41,c41,m41⟩ h41
   try dsimp only at h41
   change J _ ((41,.slice A41 (i+1) c41)::_) _ [_,_,m41,_,_,_,_,_,_,_] _
   rw [←qEF] at h41
   refine J.Z O (qAU (i:=4) (m2:=blk g46 [I (0:Nat)] 3) O O O qDM qDM el3 O hur xD ((qA7 (q:=True) (qBP [0]) O (by simp [qBP]) O).sl) O xJ xJ) O xD ?_
   rintro⟨A47,c47,m47⟩ h47
   try dsimp only at h47
   replace h47:Row m47 3 1 A47 (i+1) c47 (qBP (List.replicate (i+1) 0)):=by rw [zf,qFa];exact h47
   refine J.j O (qAB O O) O O ?_
   refine J.j O (qAA O O qEt O qVX O) O O ?_
   refine J.c1 O (qAT (i:=1) O O O O O qVX O xD) O O O (λ_ _=>?_)
   refine J.d1 O (YOp.eop (qAB O O)) O O O O ?_
   intro _ _
   refine J.d1 O (YOp.eop (qAA O O qEt O qPW O)) O O O O ?_
   intro _ _
   refine J.c1 O (qAT (i:=1) (l:= [.pointer none,.slice A41 (i+1) c41,.slice uA i uc]) (vs:= [.slice A47 (i+1) c47]) O O O O O qPW O xD) O O O (λ_ _=>?_)
   refine J.a9 ?_
   refine J.u ?_
   exact J.a5 (A41,c41,A47,c47,m41,m47) j12 (⟨h41,h47⟩) ⟨O,O,O,O,O,O,trivial⟩ (λ_ h=>h.pick [0,1,2,3,4,5,7] xC)
  rintro⟨kA2,kc2,uA2,uc2,mk2,mu2⟩ ⟨hkr2,hur2⟩
  dsimp only at hkr2 hur2⊢
  refine J.b1 [F,m28] [] (.y 0 (.y 1 (.y 2 (.y 3 (.y 7 (.br (.e 4 (.y 5 (.y 6 (.e 8 (.y 9 (.e 10 (.e 11 (.y 12 .nil)))))))) (.e 8 (.e 4 (.y 5 (.y 6 (.y 9 (.e 10 (.e 11 (.y 12 .nil)))))))))))))) Tryz.wide xF xD ?_
  refine J.L ?_
  refine J.L ?_
  refine J.j O ((qAQ O O O xJ).nat (97+i) xB) O O ?_
  refine J.j O (qAw O O u3_ u5_) O O ?_
  refine J.L ?_
  refine J.d5 ?_ ?_
  ·
   refine J.e7 (λg=>_++ [blk g [B8 (UInt8.ofNat (97+i))] 5]) O (qAE (l:= [.tmp 55]) (xs:= [[B8 (UInt8.ofNat (97+i))]]) O O O O qBt el5 O xC xC xD) O O O (λ_ _ h=>jg _ h) xD ?_
   intro g56 _
   refine J.j O (qBn O O qBt u5_ u9_ (m:=blk g56 [B8 (UInt8.ofNat (97+i))] 5) xD ((qA7 (q:=True) (qAg [UInt8.ofNat (97+i)]) O (by simp [qAg]) O).sl)) O O ?_
   refine J.j O (qBN O O O xJ) O O ?_
   refine J.Z O (qAa O O (λF' hF=>qIc F' g28 (qAP i) 2 (h28.mono (Fa hF)))) O xD ?_
   intro g60 _
   refine J.j O (qAH (places:= [(0,1),(1,3)]) (r:= [Str (([120])++([UInt8.ofNat (97+i)])),Str (Wo.opn ((qAP i))),Str (Xm.root ((qAP i)) (2)),I (2:Nat)]) O O O qOW qPa (λ_=>xI) O) O O ?_
   refine J.Z O (qAE (l:= [.tmp 61]) (xs:= [[Str (([120])++([UInt8.ofNat (97+i)])),Str (Wo.opn ((qAP i))),Str (Xm.root ((qAP i)) (2)),I (2:Nat)]]) O O O O qGd el72 O xC xC xD) O xD ?_
   intro g62 _
   refine J.Z O (qAU (i:=5) (m2:=blk g62 [Str (([120])++([UInt8.ofNat (97+i)])),Str (Wo.opn ((qAP i))),Str (Xm.root ((qAP i)) (2)),I (2:Nat)] 72) O O O qGd qGd el72 O haud xD ((qAl (q:=True) (xs:=qBc [(⟨([120])++([UInt8.ofNat (97+i)]),Wo.opn ((qAP i)),Xm.root ((qAP i)) (2),((2:Nat):Int)⟩:Aud)]) O (by intro x hx;rw [List.mem_singleton.1 hx];rfl)).sl) O xJ xJ) O xD ?_
   rintro⟨A63,c63,m63⟩ h63
   try dsimp only at h63
   replace h63:Row m63 72 4 A63 (i+1) c63 (qBc (wL (i+1))):=by rw [qPp,qFn];exact h63
   refine J.b7 ?_
   refine J.c5 [3,6,0,1,2,4,5] [G,m28,F,blk g15 [.pointer none,.slice kA2 (i+1) kc2,.slice uA2 (i+1) uc2] 40,mk2,mu2,m63] O xC ?_
   refine J.d6 (λhj=>?_)
   refine J.a9 ?_
   refine J.a3 ?_
   refine J.u (J.G j8 ?_)
   refine J.H ?_
   refine J.b O ?_
   refine J.f ((qAQ O O O xJ).nat (i+1) xB) O ?_
   refine J.b O ?_
   refine J.a4 ?_
   refine J.u ?_
   exact J.a5 (i+1,gs++ [g28],kA2,kc2,uA2,uc2,A63,c63,mk2,U [G,m28],mu2,m63) (λη (hη:_∧a-η.1<a-i)=>hI0 η hη.1 hη.2) ⟨⟨by dsimp only;omega,by dsimp only;rw [jA,hgl];rfl,hkr2,(hks.mono (qHE hj)).snoc hgl (h28.mono (qSy hj)),hur2,h63⟩,by first|omega|(dsimp only;omega)⟩ ⟨O,O,O,O,O,trivial⟩ (λ_ h=>h.pick [1,2,3,0,4,5] xC)
  refine J.Z O (qAa O O (λF' hF=>qIc F' g28 (qAP i) 2 (h28.mono (Fa hF)))) O xD ?_
  intro g60 _
  refine J.e7 (λg=>_++ [blk g [B8 (UInt8.ofNat (97+i))] 5]) O (qAE (l:= [.tmp 55]) (xs:= [[B8 (UInt8.ofNat (97+i))]]) O O O O qBt el5 O xC xC xD) O O O (λ_ _ h=>jg _ h) xD ?_
  intro g56 _
  refine J.j O (qBn O O qBt u5_ u9_ (m:=blk g56 [B8 (UInt8.ofNat (97+i))] 5) xD ((qA7 (q:=True) (qAg [UInt8.ofNat (97+i)]) O (by simp [qAg]) O).sl)) O O ?_
  refine J.j O (qBN O O O xJ) O O ?_
  refine J.j O (qAH (places:= [(0,1),(1,3)]) (r:= [Str (([120])++([UInt8.ofNat (97+i)])),Str (Wo.opn ((qAP i))),Str (Xm.root ((qAP i)) (2)),I (2:Nat)]) O O O qOW qPa (λ_=>xI) O) O O ?_
  refine J.Z O (qAE (l:= [.tmp 61]) (xs:= [[Str (([120])++([UInt8.ofNat (97+i)])),Str (Wo.opn ((qAP i))),Str (Xm.root ((qAP i)) (2)),I (2:Nat)]]) O O O O qGd el72 O xC xC xD) O xD ?_
  intro g62 _
  refine J.Z O (qAU (i:=5) (m2:=blk g62 [Str (([120])++([UInt8.ofNat (97+i)])),Str (Wo.opn ((qAP i))),Str (Xm.root ((qAP i)) (2)),I (2:Nat)] 72) O O O qGd qGd el72 O haud xD ((qAl (q:=True) (xs:=qBc [(⟨([120])++([UInt8.ofNat (97+i)]),Wo.opn ((qAP i)),Xm.root ((qAP i)) (2),((2:Nat):Int)⟩:Aud)]) O (by intro x hx;rw [List.mem_singleton.1 hx];rfl)).sl) O xJ xJ) O xD ?_
  rintro⟨A63,c63,m63⟩ h63
  try dsimp only at h63
  replace h63:Row m63 72 4 A63 (i+1) c63 (qBc (wL (i+1))):=by rw [qPp,qFn];exact h63
  refine J.b7 ?_
  refine J.c5 [3,6,0,1,2,4,5] [G,m28,F,blk g15 [.pointer none,.slice kA2 (i+1) kc2,.slice uA2 (i+1) uc2] 40,mk2,mu2,m63] O xC ?_
  refine J.d6 (λhj=>?_)
  refine J.a9 ?_
  refine J.a3 ?_
  refine J.u (J.G j8 ?_)
  refine J.H ?_
  refine J.b O ?_
  refine J.f ((qAQ O O O xJ).nat (i+1) xB) O ?_
  refine J.b O ?_
  refine J.a4 ?_
  refine J.u ?_
  exact J.a5 (i+1,gs++ [g28],kA2,kc2,uA2,uc2,A63,c63,mk2,U [G,m28],mu2,m63) (λη (hη:_∧a-η.1<a-i)=>hI0 η hη.1 hη.2) ⟨⟨by dsimp only;omega,by dsimp only;rw [jA,hgl];rfl,hkr2,(hks.mono (qHE hj)).snoc hgl (h28.mono (qSy hj)),hur2,h63⟩,by first|omega|(dsimp only;omega)⟩ ⟨O,O,O,O,O,trivial⟩ (λ_ h=>h.pick [1,2,3,0,4,5] xC)
 refine J.b3 ?_
 refine J.a1 ?_
 refine J.a1 ?_
 refine J.b4 ?_
 refine J.u (J.G j4 ?_)
 refine J.q (λ_ j13=>?_)
 obtain rfl:a=i:=by omega
 refine J.H ?_
 refine J.p (qBr O O (λF' _=>qRJ F' 300 xC xC)) O ?_
 rintro⟨g65,m65⟩ hb65
 try dsimp only at hb65
 refine J.k 5 O ?_
 refine J.c j13 ?_
 refine J.g λ_ j14=>?_
 refine J.k 3 O ?_
 refine J.p (qAK O O ent (Ct.use1 6 O (λF' hF=>(by have:=qXl F' m65 (hK.mo hF) (hA.mono (Fa hF)) (hT.mono (Fa hF)) g65 300 hb65 xC xC 0 300 xC xC d hd Aa ca (wL a) (by rw [qCA];exact haud.sl.mono (Fa hF)) (gl_w ha);rw [qCA] at this;exact this)))) O ?_
 rintro⟨ms72,Gs72,r72⟩ hS72
 try dsimp only at hS72
 obtain ⟨x,hx⟩: ∃x,x=nwS g65 300 0 300 d (wL a) m65 r72:=⟨_,rfl⟩
 rw [←hx] at hS72
 rw [show r72.gs=x.gs by rw [hx];rfl]
 refine J.k 5 O ?_
 refine J.c j14 ?_
 refine J.q (λ_ j15=>?_)
 refine J.g λ_ j16=>?_
 refine J.b O ?_
 refine J.f ((qAe O O O).no xC) O ?_
 refine J.k 2 O ?_
 refine J.D ((qA4 qYj O O O).as (v':= .bool false) O) O ?_
 refine J.b O ?_
 refine J.c j16 ?_
 refine J.a2 ?_
 refine J.T j15 ?_
 refine J.g λ_ j17=>?_
 refine J.k 2 O ?_
 refine J.f (qAB O O) O ?_
 refine J.M 0 qEt qJl O O O O O ?_
 refine J.a6 (qAT (i:=1) O O O O O qJl O xD) O O (λ_ _=>?_)
 refine J.c j17 ?_
 refine J.g λ_ j18=>?_
 refine J.k 2 O ?_
 refine J.c j18 ?_
 refine J.A ?_
 exact J.E hw0 O (⟨g15,x,gs,kA,kc,uA,uc,ms72,mu,Gs72,mk,G⟩:W6Q) O ⟨hS72,hx▸new6 ha _ _ _,hgl,hkr,hks,hur⟩ [0,6,4,7,2,3,1] O xC
theorem qKc(F:Hp)(hK:KF F)(hA:qAM F ⟨2,0,none⟩ qBd)(hT:qCI F)(a d:Nat)(h1:1≤a)(ha:a≤3)(hd:d≤4):Ct prog 6 [I (a:Nat),I (d:Nat)] [F] (λr:W6R=>Ptr r.gw) (λr=>W6P a d r) (λr=> [F,r.ms,r.mu,r.H]):=λw0 w hw=>
 (qUJ F hK hA hT a d ha hd w0 w hw).mono λe w' ⟨r,he,hp,hs⟩=>by
  obtain ⟨gu,hgu⟩:=qM5 hp.ur xB
  have hs2:=hs.pick [3,4,5,6,0,1,2] xC
  have hj:=St.joinUs (A:= [r.Gs,r.mq,r.G,blk r.gw [Ptr r.x.gs,.slice r.kA a r.kc,.slice r.uA a r.uc] 40]) (r:= [F,r.ms,r.mu]) hs2
  have hl: ∀m∈ [r.Gs,r.mq,r.G,blk r.gw [Ptr r.x.gs,.slice r.kA a r.kc,.slice r.uA a r.uc] 40],Le m (U [r.Gs,r.mq,r.G,blk r.gw [Ptr r.x.gs,.slice r.kA a r.kc,.slice r.uA a r.uc] 40]):=λm hm=>qFO hj.1 hm
  refine⟨⟨r.gw,r.x,r.gs,r.kA,r.kc,gu,r.uc,r.ms,r.mu,_⟩,he,⟨hp.s.mono (hl _ xD),hp.n,⟨?_,hp.gl,hp.kr.sl.mono (hl _ xD),hp.ks.mono (hl _ xD),jJ,by have:=hp.ur;rw [hgu] at this;exact this⟩⟩,hj.2.pick [1,2,3,0] xC⟩
  have hc:qAM (blk r.gw [Ptr r.x.gs,.slice r.kA a r.kc,.slice r.uA a r.uc] 40) ⟨r.gw,0,none⟩ [Ptr r.x.gs,.slice r.kA a r.kc,.slice (some ⟨gu,0,none⟩) a r.uc]:=by
   rw [hgu];exact qAM.blk0
  exact hc.mono (hl _ xD)
end Go.Proofs.YtcgcjaflllmlpaaGreatDoor