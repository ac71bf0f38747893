/- A part of the proof. -/
import Derived.Test.YtcgcjaflllmlpaaGreatDoorTopCfG8
import Derived.Test.YtcgcjaflllmlpaaGreatDoorTopCfG37
import Derived.Test.YtcgcjaflllmlpaaGreatDoorTopCfG41
import Derived.Test.YtcgcjaflllmlpaaGreatDoorTopCfG39
import Derived.Test.YtcgcjaflllmlpaaGreatDoorTopCfG30
set_option linter.unusedSimpArgs false
set_option linter.unusedVariables false
namespace Go.Proofs.YtcgcjaflllmlpaaGreatDoor
open Go Go.Fw Go.Proofs.Tryz
set_option maxRecDepth 100000
set_option maxHeartbeats 1000000
theorem ent28:qAD prog 28:=qAD.of func28 rfl (by kernel_rfl)
theorem ent38:qAD prog 38:=qAD.of func38 rfl (by kernel_rfl)
theorem ent73:qAD prog 73:=qAD.of func73 rfl (by kernel_rfl)
theorem el165:qCe prog 165 [.int .i64 0,.int .i64 0,Str [],Str [],.slice none 0 0] 72:=qCe.of (by kernel_rfl) rfl
def qDK(cl:List Chg)(d b:Nat):List Chg:=cl.filter λx=>decide (ofV x.k d=b)
def kvT(l:List Sm.PR)(cl:List Chg)(d:Nat):Nat→List Sm.PR
 |0=>l
 |b+1=>kvC (kvT l cl d b) (qDK cl d b)
structure qXr (cl:List Chg):Prop where
 len:cl.length≤256
 k16: ∀x∈cl,x.k.length=16
 val: ∀x∈cl,x.v.length≤1000000
theorem qXr.band{cl:List Chg}(h:qXr cl)(d b:Nat):qSQ b d (qDK cl d b) where
 len:=jb (z8 _ _) h.len
 k16:=λx hx=>h.k16 x (List.mem_filter.1 hx).1
 bnd:=λx hx=>by
  have h1:=of_decide_eq_true (List.mem_filter.1 hx).2
  unfold ofV at h1
  rwa [if_pos (h.k16 x (List.mem_filter.1 hx).1)] at h1
 val:=λx hx=>h.val x (List.mem_filter.1 hx).1
theorem qG4(cl:List Chg)(d b:Nat):(qDK cl d b).length≤cl.length:=z8 _ _
theorem qLu(l:List Sm.PR)(cl:List Chg)(d:Nat): ∀b,(kvT l cl d b).length≤l.length+b*cl.length
 |0=>by show l.length≤_;omega
 |b+1=>by
  have h1:=qLu l cl d b
  have h2:=qQ2 (kvT l cl d b) (qDK cl d b)
  have h3:=qG4 cl d b
  show(kvC _ _).length≤_
  rw [Nat.succ_mul];omega
theorem qKM{l:List Sm.PR}{cl:List Chg}(h:qXr cl)(hl:l.length≤80000)(d:Nat){b:Nat}(hb:b≤16):(kvT l cl d b).length≤90000:=by
 have h1:=qLu l cl d b
 have h2:b*cl.length≤16*256:=Nat.mul_le_mul hb h.len
 omega
theorem qFq{l:List Sm.PR}{cl:List Chg}(hf:qCJ l)(h:qXr cl)(hl:l.length≤80000)(d:Nat): ∀{b:Nat},b≤16→qCJ (kvT l cl d b)
 |0,_=>hf
 |b+1,hb=>by
  have h2:=qKM h hl d (b:=b) (by omega)
  have h3:=qG4 cl d b
  have h4:=h.len
  exact qNO (qFq hf h hl d (b:=b) (by omega)) (h.band d b).k16 (h.band d b).val (by omega)
theorem qH5{cl:List Chg}{i d b:Nat}(h:i<cl.length):qDK (cl.take (i+1)) d b=if ofV (cl.getD i qAu).k d=b then qDK (cl.take i) d b++ [cl.getD i qAu] else qDK (cl.take i) d b:=by
 unfold qDK
 rw [qDt cl i qAu h,zG]
 generalize cl.getD i qAu=x
 by_cases hc:ofV x.k d=b
 · rw [if_pos hc];simp [List.filter,hc]
 · rw [if_neg hc];simp [List.filter,hc]
structure qSD (G:Hp) (l:List Sm.PR) (cl:List Chg) (d b:Nat) (x:TrD):Prop where
 eb:x.b=b
 ed:x.d=d
 eo:x.old=Sm.ndB (kvT l cl d b) (kF b d) d
 en:x.nw=Sm.ndB (kvT l cl d (b+1)) (kF b d) d
 chg:x.st.map qBe.chg=qDK cl d b
 ok:qDL (kvT l cl d b) d x.st
 sl:Sl G 6 x.stA x.st.length x.stc (qJj x.st)
 bs:qOz G x.st
theorem qSD.mono{G G':Hp}{l:List Sm.PR}{cl:List Chg}{d b:Nat}{x:TrD}(h:qSD G l cl d b x)(hl:Le G G'):qSD G' l cl d b x:=⟨h.eb,h.ed,h.eo,h.en,h.chg,h.ok,h.sl.mono hl,h.bs.mono hl⟩
def qO1(G:Hp)(l:List Sm.PR)(cl:List Chg)(d:Nat)(tl:List TrD):Prop:= ∀j,j<tl.length→qSD G l cl d j (tl.getD j noTrD)
theorem qO1.nil(G:Hp)(l:List Sm.PR)(cl:List Chg)(d:Nat):qO1 G l cl d []:=λj h=>absurd h (zA j)
theorem qO1.mono{G G':Hp}{l:List Sm.PR}{cl:List Chg}{d:Nat}{tl:List TrD}(h:qO1 G l cl d tl)(hl:Le G G'):qO1 G' l cl d tl:=λj hj=>(h j hj).mono hl
theorem qO1.snoc{G:Hp}{l:List Sm.PR}{cl:List Chg}{d:Nat}{tl:List TrD}{x:TrD}(h:qO1 G l cl d tl)(hx:qSD G l cl d tl.length x):qO1 G l cl d (tl++ [x]):=λj hj=>by
  rw [jA,jH] at hj
  by_cases hlt:j<tl.length
  · rw [jB,jh hlt,←jB];exact h j hlt
  · obtain rfl:j=tl.length:=by omega
    rw [jB,ji (jK _),zH];exact hx
def qA1(x:RhD):Hd:=⟨x.ep,x.par,x.dep,x.aud,x.ns⟩
structure StR where
 tA:Option Addr
 tc:Nat
 mT:Hp
 hA:Option Addr
 hc:Nat
 mH:Hp
 nA:Option Addr
 nc:Nat
 gu:Nat
 tl:List TrD
 At:Option Addr
 ct:Nat
 mo:Hp
 cg:Nat
 cr:Nat
 cl:List Lb
 G:Hp
structure StP (kv:List Sm.PR) (cl:List Chg) (nxt:List Lb) (au:List Aud) (par:List UInt8) (dp rn:Nat) (tg:List Nat) (hd:List RhD) (x:StR):Prop where
 nr:Sl x.G 1 x.nA (qAp (kvT kv cl dp (2^dp)) dp).length x.nc (qAI (qAp (kvT kv cl dp (2^dp)) dp))
 rt:Row x.mT 118 1 x.tA (tg++ [x.gu]).length x.tc (qBp (tg++ [x.gu]))
 rh:Row x.mH 34 5 x.hA (hd++ [adH par dp rn hd (kvT kv cl dp (2^dp)) x.nA x.nc]).length x.hc (qCu (hd++ [adH par dp rn hd (kvT kv cl dp (2^dp)) x.nA x.nc]))
 tu:qCU x.G x.gu (kvT kv cl dp (2^dp))
 len:x.tl.length=2^dp
 ro:Row x.mo 165 5 x.At x.tl.length x.ct (qJe x.tl)
 ok:qO1 x.G kv cl dp x.tl
 mp:Fw.MapAt x.G x.cg (lbV x.cl)
 lb:LbA x.G x.cl
 pm:(lbE x.cl).Perm (lbE nxt)
 au: ∃RA rn rc,qAR x.G ⟨x.cr,0,none⟩ [.slice RA rn rc]∧Sl x.G 4 RA rn rc (qBX au)
theorem qN5(F mT mH:Hp)(hK:KF F)(gs dp nA rA nB rB:Nat)(v1 v2:Value)(tA:Option Addr)(tc:Nat)(tg:List Nat)(hrt:Row mT 118 1 tA tg.length tc (qBp tg))(htg:tg.length≤100000)(hA:Option Addr)(hc:Nat)(hd:List RhD)(hrh:Row mH 34 5 hA hd.length hc (qCu hd))(hhd:hd.length≤100000)(hdp:dp≤4)(cA:Option Addr)(cc:Nat)(cl:List Chg)(hsC:Sl F 2 cA cl.length cc (qDR cl))(hcl:qXr cl)(oA:Option Addr)(oc:Nat)(no:List (List UInt8))(nxt:List Lb)(hm:Fw.MapAt F nB (lbV nxt))(hl:LbA F nxt)(hun:qMG (lbE nxt))(hln: ∀x∈nxt,x.l.length≤1000000)(RA:Option Addr)(rn rc:Nat)(au:List Aud)(hR:qAR F ⟨rB,0,none⟩ [.slice RA rn rc])(hRs:Sl F 4 RA rn rc (qBX au))(hrn:rn≤1000000)(ht0:0<tg.length)(hh0:0<hd.length)(kv:List Sm.PR)(hT:qCU F (tg.getD (tg.length-1) 0) kv)(hf:qCJ kv)(hkl:kv.length≤80000)(hgd:(qA1 (hd.getD (hd.length-1) qAc)).good)(hns:Sl F 1 (hd.getD (hd.length-1) qAc).nsA (hd.getD (hd.length-1) qAc).ns.length (hd.getD (hd.length-1) qAc).nsc (qAI (hd.getD (hd.length-1) qAc).ns)):Ct prog 27 [Ptr gs] [blk gs [I ((dp:Nat):Int),v1,v2,.map (some nA),Ptr rA,.map (some nB),Ptr rB,.slice cA cl.length cc,.slice oA no.length oc,.slice tA tg.length tc,.slice hA hd.length hc] 99,mT,mH,F] (λx:StR=> .slice x.At x.tl.length x.ct) (StP kv cl nxt au ((qA1 (hd.getD (hd.length-1) qAc)).dig) dp rn tg hd) (λx=> [blk gs [I ((dp:Nat):Int),v1,v2,.map (some x.cg),Ptr x.cr,.map (some nB),Ptr rB,.slice none 0 0,.slice none 0 0,.slice x.tA (tg++ [x.gu]).length x.tc,.slice x.hA (hd++ [adH ((qA1 (hd.getD (hd.length-1) qAc)).dig) dp rn hd (kvT kv cl dp (2^dp)) x.nA x.nc]).length x.hc] 99,x.mT,x.mH,F,x.mo,x.G]):=by
 obtain ⟨hp1,hp16⟩:=qHd hdp
 have hcnt:cnt ((dp:Nat):Int)=2^dp:=qCt hdp
 have hcll:=hcl.len
 refine Ct.walk func27 rfl ntmps27 rfl (λw0 hw0=>?_)
 refine J.f λ_ j1=>J.b O<|J.c j1<|J.f λ_ j2=>J.b O<|J.g (qAC O O) O<|J.T 9 qCV sizeOf97 O O O O O<|J.a5 0 isAgg97 O O O O O<|J.p (qAB O O ent38 (Ct.use0 (λF' hF=>qMU F' tA tg.length tc tg (hrt.sl.mono (Fa hF)) ht0 (by omega)))) O λg18 _=>J.b O<|J.c j2<|J.f λ_ j3=>J.b O<|J.c j3<|J.k λ_ j4=>J.f λ_ j5=>J.b O<|J.g (qAC O O) O<|J.T 0 qCV z3_ O O O O O<|J.a5 0 b3_ O O O O O<|J.p (qAB O O ent51 (Ct.use0 (λF' hF=>by have:=qCF F' ((dp:Nat):Int);rw [hcnt] at this;exact this))) rfl λg23 _=>J.b rfl<|J.c j5<|J.O<|J.b4 (X:=Nat×Nat×List TrD×Option Addr×Nat×Hp×Hp) (λζ=> [(0,Ptr gs),(3,Ptr ζ.2.1),(4,.slice ζ.2.2.2.1 ζ.2.2.1.length ζ.2.2.2.2.1),(23,I ((2^dp:Nat):Int)),(24,I ((ζ.1:Nat):Int))]) (λζ=> [ζ.2.2.2.2.2.2,ζ.2.2.2.2.2.1,blk gs [I ((dp:Nat):Int),v1,v2,.map (some nA),Ptr rA,.map (some nB),Ptr rB,.slice cA cl.length cc,.slice oA no.length oc,.slice tA tg.length tc,.slice hA hd.length hc] 99,mT,mH,F]) (λζ=>ζ.1≤2^dp∧ζ.2.2.1.length=ζ.1∧Row ζ.2.2.2.2.2.1 165 5 ζ.2.2.2.1 ζ.2.2.1.length ζ.2.2.2.2.1 (qJe ζ.2.2.1)∧(∀F',Le F F'→Le ζ.2.2.2.2.2.2 F'→qCU F' ζ.2.1 (kvT kv cl dp ζ.1))∧(0<ζ.1→qCU ζ.2.2.2.2.2.2 ζ.2.1 (kvT kv cl dp ζ.1))∧qO1 ζ.2.2.2.2.2.2 kv cl dp ζ.2.2.1) (λζ=>2^dp-ζ.1) (0,tg.getD (tg.length-1) 0,[],none,0,(λ_=>none),(λ_=>none)) (⟨jG _,rfl,qBb.nil,λF' h1 _=>hT.mono h1,λh=>absurd h (Nat.lt_irrefl 0),qO1.nil _ _ _ _⟩) ⟨rfl,rfl,rfl,rfl,rfl,trivial⟩ (λ_ h=>h.empty.empty.pick [4,5,0,1,2,3] (by decide)) ?_
 rintro⟨b,gu,tl,At,ct,mt,H⟩ ⟨hb,htl,hro,hu,hu1,hok⟩ I0 hI0
 dsimp only at hb htl hro hu hu1 hok⊢
 refine J.f λ_ j6=>J.g (qAT O O O) O<|J.c j6<|J.k λ_ j7=>J.W O (λh25=>?_) (λh25=>?_)
 ·
  refine J.M j7<|J.k λ_ j8=>J.O<|J.f λ_ j9=>J.q 2 O<|J.c j9<|J.f λ_ j10=>J.b O<|J.c j10<|J.k λ_ j11=>J.f λ_ j12=>J.b O<|J.g (qAC O O) O<|J.T 7 qCV sizeOf96 O O O O O<|J.a5 2 isAgg96 O O O O O<|J.g (qAU qOw O O) O<|J.b O<|J.c j12<|J.O<|J.b4 (X:=Nat×Option Addr×Nat×Hp×List Chg) (λζ=> [(0,Ptr gs),(3,Ptr gu),(4,.slice At tl.length ct),(5,I ((b:Nat):Int)),(6,.slice ζ.2.1 ζ.2.2.2.2.length ζ.2.2.1),(23,I ((2^dp:Nat):Int)),(24,I ((b:Nat):Int)),(30,.slice cA cl.length cc),(31,I ((cl.length:Nat):Int)),(32,I ((ζ.1:Nat):Int))]) (λζ=> [H,mt,blk gs [I ((dp:Nat):Int),v1,v2,.map (some nA),Ptr rA,.map (some nB),Ptr rB,.slice cA cl.length cc,.slice oA no.length oc,.slice tA tg.length tc,.slice hA hd.length hc] 99,mT,mH,F,ζ.2.2.2.1]) (λζ=>ζ.1≤cl.length∧Row ζ.2.2.2.1 153 2 ζ.2.1 ζ.2.2.2.2.length ζ.2.2.1 (qDR ζ.2.2.2.2)∧ζ.2.2.2.2=qDK (cl.take ζ.1) dp b) (λζ=>cl.length-ζ.1) (0,none,0,(λ_=>none),[]) (⟨jG _,qBb.nil,O⟩) ⟨O,O,O,O,O,O,O,O,O,O,trivial⟩ (λ_ h=>h.empty.pick [0,1,2,3,4,5,6] (by decide)) ?_
  rintro⟨i,A6,c6,m6,l6⟩ ⟨hi,hr6,hl6⟩ I2 hI2
  dsimp only at hi hr6 hl6⊢
  refine J.f λ_ j13=>J.g (qAT O O O) O<|J.c j13<|J.k λ_ j14=>J.W O (λh33=>?_) (λh33=>?_)
  ·
   refine J.M j14<|J.k λ_ j15=>J.O<|J.k λ_ j16=>?_
   have hik:(cl.getD i qAu).k.length≤1000000:=by
    have:cl.getD i qAu∈cl:=by
     rw [jB,jC (show i<cl.length by omega)];exact jX _
    rw [hcl.k16 _ this];decide
   refine J.H<|J.g (qAH O O O qOw qFZ hsC (by omega)) O<|J.g (qAX O O isAgg153 qFZ (m:=F) (by simp) (hsC.elem (qG2 (by omega))) rfl) rfl<|J.p (qAL rfl zeroValue153 rfl) rfl λg8 _=>J.a6 (qAF (i:=7) (l:= [Str [],Str []]) (vs:= [Str ((cl.getD i qAu).k),Str ((cl.getD i qAu).v)]) rfl rfl rfl rfl rfl qFZ rfl rfl) rfl rfl λ_ _=>J.c j16<|J.k λ_ j17=>J.b0 [blk gs [I ((dp:Nat):Int),v1,v2,.map (some nA),Ptr rA,.map (some nB),Ptr rB,.slice cA cl.length cc,.slice oA no.length oc,.slice tA tg.length tc,.slice hA hd.length hc] 99,blk g8 [Str ((cl.getD i qAu).k),Str ((cl.getD i qAu).v)] 153] [] (.y 0 (.y 1 (.y 2 (.y 3 (.y 4 (.y 5 (.e 6 (.y 7 (.y 8 (.y 9 (.y 10 (.y 11 .nil)))))))))))) Tryz.wide (by decide+kernel) (by simp) ?_
   refine J.j O (qAA O O qLJ O z9_ O) O O<|J.j O (qAE 1 O O O b9_ O) O O<|J.L ?_
   refine J.j O (qAC O O) O O<|J.j O (qAA O O qCV O z3_ O) O O<|J.j O (qAE 0 O O O b3_ O) O O<|J.Z O (qAB O O ent72 (Ct.use0 (λF' hF=>qVT F' ((cl.getD i qAu).k) (by first|omega|exact hsm _|exact jk O) dp (by omega)))) O (by simp) λg43 _=>J.L ?_
   refine J.c3 (I ((ofV ((cl.getD i qAu).k) dp:Nat):Int)) ?_
   refine J.c3 (I ((ofE ((cl.getD i qAu).k):Nat):Int)) ?_
   refine J.b6 ?_
   refine J.b6 ?_
   refine J.a8<|J.u (J.D j17 ?_)
   refine J.f λ_ j18=>J.q 2 O<|J.g (qAg O O O) O<|J.c j18<|J.W O (λh48=>?_) (λh48=>?_)
   ·
    have hl6l:l6.length≤cl.length:=by rw [hl6];exact jb (qG4 _ _ _) (by rw [jF];omega)
    refine J.H<|J.b O<|J.b7 7 isAgg153 qFZ O O O O O<|J.p (qAG (l:= [.tmp 50]) (xs:= [[Str ((cl.getD i qAu).k),Str ((cl.getD i qAu).v)]]) O O O O qOw el153 O (by decide) (by decide) (by simp)) rfl λg51 _=>J.p (qAV (i:=6) (m2:=blk g51 [Str ((cl.getD i qAu).k),Str ((cl.getD i qAu).v)] 153) rfl rfl rfl qOw qOw el153 rfl hr6 (by simp) ((qAl (q:=True) (xs:=qDR [(cl.getD i qAu)]) rfl (by intro x hx;rw [List.mem_singleton.1 hx];rfl)).sl) rfl (by omega) (by omega)) rfl ?_
    rintro⟨A52,c52,m52⟩ h52
    try dsimp only at h52
    replace h52:Row m52 153 2 A52 (l6.length+1) c52 (qDR (l6++ [(cl.getD i qAu)])):=by rw [qH1];exact h52
    rw [show l6.length+1=(l6++ [(cl.getD i qAu)]).length by rw [jA];rfl] at h52⊢
    refine J.b O<|J.a3<|J.a2<|J.u (J.D j15 ?_)
    exact J.H<|J.g ((qAS O O O (by omega)).nat (i+1) (by omega)) O<|J.b O<|J.a3<|J.u<|J.a4 (i+1,A52,c52,m52,l6++ [cl.getD i qAu]) (λη (hη:_∧cl.length-η.1<cl.length-i)=>hI2 η hη.1 hη.2) ⟨⟨by dsimp only;omega,h52,by dsimp only;rw [qH5 (by omega),if_pos (by omega),←hl6]⟩,by first|omega|(dsimp only;omega)⟩ ⟨rfl,rfl,rfl,rfl,rfl,rfl,rfl,rfl,rfl,rfl,trivial⟩ (λ_ h=>h.pick [0,1,2,3,4,5,6] (by decide))
   refine J.b5<|J.a2<|J.u (J.D j15 ?_)
   exact J.H<|J.g ((qAS O O O (by omega)).nat (i+1) (by omega)) O<|J.b O<|J.a3<|J.u<|J.a4 (i+1,A6,c6,m6,l6) (λη (hη:_∧cl.length-η.1<cl.length-i)=>hI2 η hη.1 hη.2) ⟨⟨by dsimp only;omega,hr6,by dsimp only;rw [qH5 (by omega),if_neg (by omega)];exact hl6⟩,by first|omega|(dsimp only;omega)⟩ ⟨rfl,rfl,rfl,rfl,rfl,rfl,rfl,rfl,rfl,rfl,trivial⟩ (λ_ h=>h.pick [0,1,2,3,4,5,6] (by decide))
  refine J.b2<|J.a0<|J.a0<|J.b3 ?_
  refine J.u (J.D j11 ?_)
  refine J.k λ_ j19=>?_
  obtain rfl:i=cl.length:=by omega
  rw [jo] at hl6
  subst hl6
  refine J.H<|J.q 3 O<|J.g (qAC O O) O<|J.T 0 qCV z3_ O O O O O<|J.a5 2 b3_ O O O O O<|J.b O<|J.p (qAB O O ent73 (Ct.use (λF' hF=>qSh F' (hK.mo hF) gu (kvT kv cl dp b) (hu F' (Fa hF) (Fa hF)) (qFq hf hcl hkl dp (by omega)) (qKM hcl hkl dp (by omega)) b dp (by omega) (by omega) A6 (qDK cl dp b).length c6 (qDK cl dp b) (hr6.sl.mono (Fa hF)) (hcl.band dp b)))) O ?_
  rintro r62 hp62
  refine J.q 4 O<|J.p (qAL O zeroValue165 O) O λg11 _=>J.a6 (qAF (i:=10) (l:= [I 0,I 0,Str [],Str [],.slice none 0 0]) (vs:= [I ((b:Nat):Int),I ((dp:Nat):Int),Str (Sm.ndB (kvT kv cl dp b) (kF b dp) dp),Str (Sm.ndB (kvC (kvT kv cl dp b) (qDK cl dp b)) (kF b dp) dp),.slice r62.A r62.L.length r62.c]) O O O O O sizeOf165 O O) O O λ_ _=>J.q 2 O<|J.c j19 ?_
  obtain ⟨x,hx⟩: ∃x:TrD,x=⟨b,dp,Sm.ndB (kvT kv cl dp b) (kF b dp) dp,Sm.ndB (kvT kv cl dp (b+1)) (kF b dp) dp,r62.A,r62.c,r62.L⟩:=⟨_,rfl⟩
  refine J.H<|J.b O<|J.b7 10 isAgg165 sizeOf165 O O O O O<|J.p (qAG (l:= [.tmp 67]) (xs:= [[I ((b:Nat):Int),I ((dp:Nat):Int),Str (Sm.ndB (kvT kv cl dp b) (kF b dp) dp),Str (Sm.ndB (kvC (kvT kv cl dp b) (qDK cl dp b)) (kF b dp) dp),.slice r62.A r62.L.length r62.c]]) O O O O underlying43 el165 O (by decide) (by decide) (by simp)) rfl λg68 _=>J.p (qAV (i:=1) (m2:=blk g68 [I ((b:Nat):Int),I ((dp:Nat):Int),Str (Sm.ndB (kvT kv cl dp b) (kF b dp) dp),Str (Sm.ndB (kvC (kvT kv cl dp b) (qDK cl dp b)) (kF b dp) dp),.slice r62.A r62.L.length r62.c] 165) rfl rfl rfl underlying43 underlying43 el165 rfl hro (by simp) ((qAl (q:=True) (xs:=qJe [(⟨b,dp,Sm.ndB (kvT kv cl dp b) (kF b dp) dp,Sm.ndB (kvC (kvT kv cl dp b) (qDK cl dp b)) (kF b dp) dp,r62.A,r62.c,r62.L⟩:TrD)]) rfl (by intro x hx;rw [List.mem_singleton.1 hx];rfl)).sl) rfl (by omega) (by omega)) rfl ?_
  rintro⟨A69,c69,m69⟩ h69
  try dsimp only at h69
  replace h69:Row m69 165 5 A69 (tl.length+1) c69 (qJe (tl++ [x])):=by rw [qNz,hx];exact h69
  rw [show tl.length+1=(tl++ [x]).length by rw [jA];rfl] at h69⊢
  refine J.q 3 O<|J.c1 [0,7,8,9,1,2,3,4,5] [H,r62.mt,r62.ms,r62.M,m69,blk gs [I ((dp:Nat):Int),v1,v2,.map (some nA),Ptr rA,.map (some nB),Ptr rB,.slice cA cl.length cc,.slice oA no.length oc,.slice tA tg.length tc,.slice hA hd.length hc] 99,mT,mH,F] O (by decide)<|J.d1 (λhj1=>?_)
  refine J.d1 (λhj2=>?_)
  refine J.d1 (λhj3=>?_)
  refine J.a3<|J.a2<|J.u (J.D j8 ?_)
  exact J.H<|J.g ((qAS O O O (by omega)).nat (b+1) (by omega)) O<|J.b O<|J.a3<|J.u<|J.a4 (b+1,r62.g,tl++ [x],A69,c69,m69,U [U [U [H,r62.mt],r62.ms],r62.M]) (λη (hη:_∧2^dp-η.1<2^dp-b)=>hI0 η hη.1 hη.2) ⟨⟨by dsimp only;omega,by dsimp only;rw [jA,htl];rfl,h69,λF' _ h2=>hp62.tree.at.mono ((qSL hj1).trans ((qGl hj2).trans ((qGl hj3).trans h2))),λ_=>hp62.tree.at.mono ((qSL hj1).trans ((qGl hj2).trans (qGl hj3))),(hok.mono ((qGl hj1).trans ((qGl hj2).trans (qGl hj3)))).snoc (by rw [htl,hx];exact⟨rfl,rfl,rfl,rfl,hp62.chg,hp62.ok,hp62.row.sl.mono ((qSL hj2).trans (qGl hj3)),hp62.bs.mono (qSL hj3)⟩)⟩,by first|omega|(dsimp only;omega)⟩ ⟨rfl,rfl,rfl,rfl,rfl,trivial⟩ (λ_ h=>h)
 refine J.b2<|J.a0<|J.a0<|J.b3 ?_
 refine J.u (J.D j4 ?_)
 refine J.k λ_ j20=>?_
 obtain rfl:b=2^dp:=by omega
 refine J.c1 [2,3,4,5,0,1] [blk gs [I ((dp:Nat):Int),v1,v2,.map (some nA),Ptr rA,.map (some nB),Ptr rB,.slice cA cl.length cc,.slice oA no.length oc,.slice tA tg.length tc,.slice hA hd.length hc] 99,mT,mH,F,H,mt] O (by decide)<|J.H<|J.q 3 O<|J.p (qAB O O ent28 (Ct.use0 (λF' hF=>qJk F' gs (I ((dp:Nat):Int)) v1 v2 (.map (some nA)) (Ptr rA) (.map (some nB)) (Ptr rB) (.slice cA cl.length cc) (.slice oA no.length oc) (.slice tA tg.length tc) hA hd.length hc hd (hrh.sl.mono (Fa hF)) (by omega) (by omega) (qAR.blk0.mono (hF (blk gs [I ((dp:Nat):Int),v1,v2,.map (some nA),Ptr rA,.map (some nB),Ptr rB,.slice cA cl.length cc,.slice oA no.length oc,.slice tA tg.length tc,.slice hA hd.length hc] 99) (by simp)))))) rfl λg75 _=>J.p (qAB rfl rfl ent33 (Ct.use0 (λF' hF=>qCW F' (hK.mo hF) (qA1 (hd.getD (hd.length-1) qAc)) (hd.getD (hd.length-1) qAc).nsA (hd.getD (hd.length-1) qAc).nsc hgd (hns.mono (Fa hF))))) rfl λg76 _=>J.p (qAB rfl rfl ent57 (Ct.useA [blk gs [I ((dp:Nat):Int),v1,v2,.map (some nA),Ptr rA,.map (some nB),Ptr rB,.slice cA cl.length cc,.slice oA no.length oc,.slice tA tg.length tc,.slice hA hd.length hc] 99,mT,mH] [F,H,mt] (A':=λx:AdR=> [blk gs [I ((dp:Nat):Int),v1,v2,.map (some nA),Ptr rA,.map (some nB),Ptr rB,.slice cA cl.length cc,.slice oA no.length oc,.slice x.tA (tg++ [gu]).length x.tc,.slice x.hA (hd++ [adH ((qA1 (hd.getD (hd.length-1) qAc)).dig) dp rn hd (kvT kv cl dp (2^dp)) x.nA x.nc]).length x.hc] 99,x.mT,x.mH]) (new:=λx=> [x.mN]) (λF' hF=>qPq F' mT mH (hK.mo hF) gs dp rB v1 v2 (.map (some nA)) (Ptr rA) (.map (some nB)) (.slice cA cl.length cc) (.slice oA no.length oc) tA tc tg hrt htg hA hc hd hrh hhd hdp gu (kvT kv cl dp (2^dp)) (hu F' (Fa hF) (Fa hF)) (qFq hf hcl hkl dp (by omega)) RA rn rc au (hR.mono (Fa hF)) (hRs.mono (Fa hF)) ((qA1 (hd.getD (hd.length-1) qAc)).dig)))) rfl ?_
 rintro r77 hp77
 refine J.c j20<|J.k λ_ j21=>?_
 have hu0:qMG (lbE nxt):=hun
 refine J.H<|J.q 2 O<|J.g (qAC O O) O<|J.T 5 qCV qF2 O O O O O<|J.g (qAX O O isAgg95 qF2 (m:=blk gs [I ((dp:Nat):Int),v1,v2,.map (some nA),Ptr rA,.map (some nB),Ptr rB,.slice cA cl.length cc,.slice oA no.length oc,.slice r77.tA (tg++ [gu]).length r77.tc,.slice r77.hA (hd++ [adH ((qA1 (hd.getD (hd.length-1) qAc)).dig) dp rn hd (kvT kv cl dp (2^dp)) r77.nA r77.nc]).length r77.hc] 99) (by simp) (qAR.blk0.sub 5 2) rfl) rfl<|J.p (qAB rfl rfl ent56 (Ct.use (λF' hF=>qMe F' nB rB nxt (hm.mono (Fa hF)) (hl.mono (Fa hF)) hu0 hln RA rn rc au (hR.mono (Fa hF)) (hRs.mono (Fa hF)) hrn))) rfl ?_
 rintro r83 hp83
 refine J.g (qAC O O) O<|J.T 3 qCV qF2 O O O O O<|J.a6 (qAW (i:=0) O O O O O qF2 O (by simp)) rfl rfl λ_ _=>J.c j21<|J.f λ_ j22=>J.q 2 rfl<|J.g (qAC rfl rfl) rfl<|J.T 7 qCV sizeOf96 rfl rfl rfl rfl rfl<|J.a6 (qAW (i:=0) (l:= [I ((dp:Nat):Int),v1,v2,.map (some r83.g),Ptr r83.r,.map (some nB),Ptr rB,.slice cA cl.length cc,.slice oA no.length oc,.slice r77.tA (tg++ [gu]).length r77.tc,.slice r77.hA (hd++ [adH ((qA1 (hd.getD (hd.length-1) qAc)).dig) dp rn hd (kvT kv cl dp (2^dp)) r77.nA r77.nc]).length r77.hc]) (vs:= [.slice none 0 0]) rfl rfl rfl rfl rfl sizeOf96 rfl (by simp)) rfl rfl λ_ _=>J.g (qAC rfl rfl) rfl<|J.T 8 qCV qBs rfl rfl rfl rfl rfl<|J.a6 (qAW (i:=0) (l:= [I ((dp:Nat):Int),v1,v2,.map (some r83.g),Ptr r83.r,.map (some nB),Ptr rB,.slice none 0 0,.slice oA no.length oc,.slice r77.tA (tg++ [gu]).length r77.tc,.slice r77.hA (hd++ [adH ((qA1 (hd.getD (hd.length-1) qAc)).dig) dp rn hd (kvT kv cl dp (2^dp)) r77.nA r77.nc]).length r77.hc]) (vs:= [.slice none 0 0]) rfl rfl rfl rfl rfl qBs rfl (by simp)) rfl rfl λ_ _=>J.c j22<|J.f λ_ j23=>J.q 2 rfl<|J.c1 [4,6,7,8,9,5,0,1,2,3] [H,r77.mN,r83.mm,r83.M,r83.mr,mt,blk gs [I ((dp:Nat):Int),v1,v2,.map (some r83.g),Ptr r83.r,.map (some nB),Ptr rB,.slice none 0 0,.slice none 0 0,.slice r77.tA (tg++ [gu]).length r77.tc,.slice r77.hA (hd++ [adH ((qA1 (hd.getD (hd.length-1) qAc)).dig) dp rn hd (kvT kv cl dp (2^dp)) r77.nA r77.nc]).length r77.hc] 99,r77.mT,r77.mH,F] rfl (by decide)<|J.d1 (λhj1=>?_)
 refine J.d1 (λhj2=>?_)
 refine J.d1 (λhj3=>?_)
 refine J.d1 (λhj4=>?_)
 exact J.c j23<|J.A<|J.E hw0 O (⟨r77.tA,r77.tc,r77.mT,r77.hA,r77.hc,r77.mH,r77.nA,r77.nc,gu,tl,At,ct,mt,r83.g,r83.r,r83.ls,U [U [U [U [H,r77.mN],r83.mm],r83.M],r83.mr]⟩:StR) O ⟨hp77.nd.sl.mono ((qSL hj1).trans ((qGl hj2).trans ((qGl hj3).trans (qGl hj4)))),hp77.rt,hp77.rh,(hu1 (by omega)).mono ((qGl hj1).trans ((qGl hj2).trans ((qGl hj3).trans (qGl hj4)))),htl,hro,hok.mono ((qGl hj1).trans ((qGl hj2).trans ((qGl hj3).trans (qGl hj4)))),hp83.mp.at.mono ((qSL hj2).trans ((qGl hj3).trans (qGl hj4))),hp83.nx.at.mono ((qSL hj3).trans (qGl hj4)),hp83.pm,by obtain ⟨A3,n3,c3,q1,q2,_⟩:=hp83.ro.see;exact⟨A3,n3,c3,q1.mono (qSL hj4),q2.mono (qSL hj4)⟩⟩ [2,3,4,5,1,0] rfl (by decide)
theorem ent26:qAD prog 26:=qAD.of func26 rfl (by kernel_rfl)
theorem ent27:qAD prog 27:=qAD.of func27 rfl (by kernel_rfl)
structure SvR where
 gs:Nat
 dp:Nat
 nA:Nat
 rA:Nat
 nB:Nat
 rB:Nat
 gb:Nat
 nxt:List Lb
 now:List Lb
 cA:Option Addr
 cc:Nat
 cl:List Chg
 oA:Option Addr
 oc:Nat
 no:List (List UInt8)
 tA:Option Addr
 tc:Nat
 tg:List Nat
 hA:Option Addr
 hc:Nat
 hd:List RhD
 mX:Hp
 NX:Hp
 mC:Hp
 mO:Hp
 mT:Hp
 mH:Hp
 md:Hp
 N:Hp
 bk:CbR
 kv:List (List Sm.PR)
 aud:List Aud
 audN:List Aud
abbrev SvR.sb(x:SvR):Hp:=blk x.gs [I ((x.dp:Nat):Int),Ptr x.gb,.bool false,.map (some x.nA),Ptr x.rA,.map (some x.nB),Ptr x.rB,.slice x.cA x.cl.length x.cc,.slice x.oA x.no.length x.oc,.slice x.tA x.tg.length x.tc,.slice x.hA x.hd.length x.hc] 99
def SvR.hs(x:SvR):List Hp:= [x.sb,x.mX,x.NX,x.mC,x.mO,x.mT,x.mH,x.bk.blk x.gb,x.md,x.N]
abbrev SvR.kvL(x:SvR):List Sm.PR:=x.kv.getD (x.tg.length-1) []
abbrev SvR.hdL(x:SvR):RhD:=x.hd.getD (x.hd.length-1) qAc
def qSE(G:Hp)(g:Nat)(au:List Aud):Prop:= ∃RA rn rc,qAR G ⟨g,0,none⟩ [.slice RA rn rc]∧Sl G 4 RA rn rc (qBX au)
theorem qSE.mono{G G':Hp}{g:Nat}{au:List Aud}(h:qSE G g au)(hl:Le G G'):qSE G' g au:=by
 obtain ⟨A,n,c,h1,h2⟩:=h
 exact⟨A,n,c,h1.mono hl,h2.mono hl⟩
abbrev nsl(G:Hp)(h:RhD):Prop:=Sl G 1 h.nsA h.ns.length h.nsc (qAI h.ns)
structure SvP (G:Hp) (x:SvR):Prop where
 mx:Fw.MapS x.mX x.nB (lbV x.nxt)
 nx:NxS x.NX x.nxt
 rc:Row x.mC 153 2 x.cA x.cl.length x.cc (qDR x.cl)
 ro:Row x.mO 9 1 x.oA x.no.length x.oc (qAI x.no)
 rt:Row x.mT 118 1 x.tA x.tg.length x.tc (qBp x.tg)
 rh:Row x.mH 34 5 x.hA x.hd.length x.hc (qCu x.hd)
 bk:CbP x.N x.md x.bk
 nw:Fw.MapAt G x.nA (lbV x.now)
 nl:LbA G x.now
 ra:qSE G x.rA x.aud
 rb:qSE G x.rB x.audN
 tr: ∀i,i<x.tg.length→qCU G (x.tg.getD i 0) (x.kv.getD i [])
 hn: ∀i,i<x.hd.length→nsl G (x.hd.getD i qAc)
theorem SvP.mono{G G':Hp}{x:SvR}(h:SvP G x)(hl:Le G G'):SvP G' x:=
 {h with nw:=h.nw.mono hl,nl:=h.nl.mono hl,ra:=h.ra.mono hl,rb:=h.rb.mono hl,tr:=λi hi=>(h.tr i hi).mono hl,hn:=λi hi=>(h.hn i hi).mono hl}
structure SvI (x:SvR):Prop where
 dp:x.dp≤4
 un:qMG (lbE x.nxt)
 uw:qMG (lbE x.now)
 ln: ∀y∈x.nxt,y.l.length≤1000
 lw: ∀y∈x.now,y.l.length≤1000
 cl:qXr x.cl
 n9: ∀s∈x.no,s.length≤900
 nc:x.no.length=x.cl.length
 t0:0<x.tg.length
 t1:x.tg.length≤15
 th:x.hd.length=x.tg.length
 tk:x.kv.length=x.tg.length
 kf:qCJ x.kvL
 kl:x.kvL.length≤5000*x.tg.length
 hg:(qA1 x.hdL).good
 al:x.aud.length≤64
 an:x.audN.length≤64
 sz:x.bk.size≤1000
 re:x.bk.R.length≤x.bk.e
theorem lastD(l:List RhD)(x:RhD):(l++ [x]).getD ((l++ [x]).length-1) qAc=x:=by
 rw [jA,jH,Nat.add_sub_cancel,jB,ji (jK _),zH];rfl
theorem qMj{x:RhD}(h1:x.ep≤1000)(h2:x.par.length≤16)(h3:x.ns.length≤16):(qA1 x).good:=⟨by show x.ep<_;omega,by show x.par.length≤_;omega,by show x.ns.length≤_;omega⟩
theorem qVs(F:Hp)(hK:KF F)(x:SvR)(hI:SvI x)(hP:SvP F x)(h1:Le x.mX F)(h2:Le x.NX F)(h3:Le x.mC F)(h4:Le x.mO F)(hfit:x.bk.e+qCz (x.no++ [cmB x.no.length x.hd.length])≤x.bk.size):Ct prog 10 [Ptr x.gs] [x.sb,x.mT,x.mH,x.bk.blk x.gb,x.md,x.N,F] (λr:StR×WrR=> .tuple #[.agg #[N64 x.hd.length,Str (qA1 x.hdL).dig,I ((x.dp:Nat):Int),I ((x.audN.length:Nat):Int),.slice r.1.nA (qAp (kvT x.kvL x.cl x.dp (2^x.dp)) x.dp).length r.1.nc],.slice r.1.At r.1.tl.length r.1.ct,I ((0:Nat):Int)]) (λr=>StP x.kvL x.cl x.nxt x.audN (qA1 x.hdL).dig x.dp x.audN.length x.tg x.hd r.1∧CbP r.2.N r.2.md r.2.x∧CbL x.bk r.2.x (x.no++ [cmB x.no.length x.hd.length])) (λr=> [blk x.gs [I ((x.dp:Nat):Int),Ptr x.gb,.bool false,.map (some r.1.cg),Ptr r.1.cr,.map (some x.nB),Ptr x.rB,.slice none 0 0,.slice none 0 0,.slice r.1.tA (x.tg++ [r.1.gu]).length r.1.tc,.slice r.1.hA (x.hd++ [adH ((qA1 x.hdL).dig) x.dp x.audN.length x.hd (kvT x.kvL x.cl x.dp (2^x.dp)) r.1.nA r.1.nc]).length r.1.hc] 99,r.1.mT,r.1.mH,r.2.x.blk x.gb,r.2.md,r.2.N,F,r.1.G,r.1.mo]):=by
 obtain ⟨RA,rn,rc,hR,hRs⟩:=hP.rb
 obtain rfl:x.audN.length=rn:=by have:=hRs.1;rw [qDp] at this;exact this
 have hef:=hP.bk.ef
 have i1:=hI.sz
 have i2:=hI.re
 have i3:=hI.nc
 have i4:=hI.cl.len
 have i5:=hI.t1
 have i6:=hI.th
 have i7:=hI.t0
 have i8:=hI.kl
 have i9:=hI.an
 refine Ct.walk func10 rfl ntmps10 rfl (λw0 hw0=>?_)
 refine J.f λ_ j1=>J.p (qAL O qRU O) O λg2 _=>J.q 2 O<|J.c j1<|J.k λ_ j2=>J.O<|J.f λ_ j3=>J.b O<|J.g (qA6 qXt O O O) O<|J.b O<|J.c j3<|J.a1 ?_
 refine J.f λ_ j4=>J.b O<|J.g (qAC O O) O<|J.T 2 qCV z4_ O O O O O<|J.a5 0 b4_ O O O O O<|J.b O<|J.c j4<|J.a1 ?_
 refine J.b5<|J.a2<|J.u (J.D j2 ?_)
 refine J.k λ_ j5=>J.k λ_ j6=>J.c1 [3,4,5,0,1,2,6,7] [(x.bk.blk x.gb),x.md,x.N,blk x.gs [I ((x.dp:Nat):Int),Ptr x.gb,.bool false,.map (some x.nA),Ptr x.rA,.map (some x.nB),Ptr x.rB,.slice x.cA x.cl.length x.cc,.slice x.oA x.no.length x.oc,.slice x.tA x.tg.length x.tc,.slice x.hA x.hd.length x.hc] 99,x.mT,x.mH,F,blk g2 [.int .u64 0,Str [],I 0,I 0,.slice none 0 0] 34] O (by decide)<|J.H<|J.b O<|J.p (qAB O O ent26 (Ct.useA [x.bk.blk x.gb,x.md,x.N] [blk x.gs [I ((x.dp:Nat):Int),Ptr x.gb,.bool false,.map (some x.nA),Ptr x.rA,.map (some x.nB),Ptr x.rB,.slice x.cA x.cl.length x.cc,.slice x.oA x.no.length x.oc,.slice x.tA x.tg.length x.tc,.slice x.hA x.hd.length x.hc] 99,x.mT,x.mH,F,blk g2 [.int .u64 0,Str [],I 0,I 0,.slice none 0 0] 34] (A':=λy:WrR=> [y.x.blk x.gb,y.md,y.N]) (new:=λ_=> []) (λF' hF=>qPY F' x.md x.N (hK.mo hF) x.gs x.gb _ _ _ _ _ _ _ _ x.oA x.oc x.no (hP.ro.sl.mono (h4.trans (Fa hF))) (by omega) hI.n9 x.hA x.hd.length x.hc (by omega) (qAR.blk0.mono (hF (blk x.gs [I ((x.dp:Nat):Int),Ptr x.gb,.bool false,.map (some x.nA),Ptr x.rA,.map (some x.nB),Ptr x.rB,.slice x.cA x.cl.length x.cc,.slice x.oA x.no.length x.oc,.slice x.tA x.tg.length x.tc,.slice x.hA x.hd.length x.hc] 99) (by simp))) x.bk hP.bk hfit (by omega) (by omega)))) rfl ?_
 rintro r18 ⟨hb18,hL18⟩
 refine J.b O<|J.c j6<|J.f λ_ j7=>J.b O<|J.g ((qAe O O O).no (by decide)) O<|J.c j7<|J.a1 ?_
 refine J.M j5<|J.k λ_ j8=>J.c1 [3,4,5,6,7,0,1,2] [blk x.gs [I ((x.dp:Nat):Int),Ptr x.gb,.bool false,.map (some x.nA),Ptr x.rA,.map (some x.nB),Ptr x.rB,.slice x.cA x.cl.length x.cc,.slice x.oA x.no.length x.oc,.slice x.tA x.tg.length x.tc,.slice x.hA x.hd.length x.hc] 99,x.mT,x.mH,F,blk g2 [.int .u64 0,Str [],I 0,I 0,.slice none 0 0] 34,(r18.x.blk x.gb),r18.md,r18.N] O (by decide)<|J.H<|J.b O<|J.p (qAB O O ent27 (Ct.useA [blk x.gs [I ((x.dp:Nat):Int),Ptr x.gb,.bool false,.map (some x.nA),Ptr x.rA,.map (some x.nB),Ptr x.rB,.slice x.cA x.cl.length x.cc,.slice x.oA x.no.length x.oc,.slice x.tA x.tg.length x.tc,.slice x.hA x.hd.length x.hc] 99,x.mT,x.mH] [F,blk g2 [.int .u64 0,Str [],I 0,I 0,.slice none 0 0] 34,(r18.x.blk x.gb),r18.md,r18.N] (A':=λr:StR=> [blk x.gs [I ((x.dp:Nat):Int),Ptr x.gb,.bool false,.map (some r.cg),Ptr r.cr,.map (some x.nB),Ptr x.rB,.slice none 0 0,.slice none 0 0,.slice r.tA (x.tg++ [r.gu]).length r.tc,.slice r.hA (x.hd++ [adH ((qA1 x.hdL).dig) x.dp x.audN.length x.hd (kvT x.kvL x.cl x.dp (2^x.dp)) r.nA r.nc]).length r.hc] 99,r.mT,r.mH]) (new:=λr=> [r.mo,r.G]) (λF' hF=>qN5 F' x.mT x.mH (hK.mo hF) x.gs x.dp x.nA x.rA x.nB x.rB (Ptr x.gb) (.bool false) x.tA x.tc x.tg hP.rt (by omega) x.hA x.hc x.hd hP.rh (by omega) hI.dp x.cA x.cc x.cl (hP.rc.sl.mono (h3.trans (Fa hF))) hI.cl x.oA x.oc x.no x.nxt (hP.mx.at.mono (h1.trans (Fa hF))) (hP.nx.at.mono (h2.trans (Fa hF))) hI.un (λy hy=>jb (hI.ln y hy) (by decide)) RA _ rc x.audN (hR.mono (Fa hF)) (hRs.mono (Fa hF)) (by omega) hI.t0 (by omega) x.kvL ((hP.tr _ (by omega)).mono (Fa hF)) hI.kf (by omega) hI.hg ((hP.hn _ (by omega)).mono (Fa hF))))) rfl ?_
 rintro r24 hp24
 refine J.b O<|J.c j8<|J.f λ_ j9=>J.b O<|J.p (qAB O O ent28 (Ct.use0 (λF' hF=>qJk F' x.gs _ _ _ _ _ _ _ _ _ _ r24.hA (x.hd++ [(adH ((qA1 x.hdL).dig) x.dp x.audN.length x.hd (kvT x.kvL x.cl x.dp (2^x.dp)) r24.nA r24.nc)]).length r24.hc (x.hd++ [(adH ((qA1 x.hdL).dig) x.dp x.audN.length x.hd (kvT x.kvL x.cl x.dp (2^x.dp)) r24.nA r24.nc)]) (hp24.rh.sl.mono (Fa hF)) (by rw [jA];exact Nat.succ_pos _) (by rw [jA,jH];omega) (qAR.blk0.mono (hF (blk x.gs [I ((x.dp:Nat):Int),Ptr x.gb,.bool false,.map (some r24.cg),Ptr r24.cr,.map (some x.nB),Ptr x.rB,.slice none 0 0,.slice none 0 0,.slice r24.tA (x.tg++ [r24.gu]).length r24.tc,.slice r24.hA (x.hd++ [adH ((qA1 x.hdL).dig) x.dp x.audN.length x.hd (kvT x.kvL x.cl x.dp (2^x.dp)) r24.nA r24.nc]).length r24.hc] 99) (by simp)))))) rfl λg26 _=>?_
 rw [lastD]
 exact J.b O<|J.a6 (qAF (i:=4) (l:= [.int .u64 0,Str [],I 0,I 0,.slice none 0 0]) (vs:= [N64 (x.hd.length),Str ((qA1 x.hdL).dig),I ((x.dp:Nat):Int),I ((x.audN.length:Nat):Int),.slice r24.nA (qAp (kvT x.kvL x.cl x.dp (2^x.dp)) x.dp).length r24.nc]) O O O O O qBz O O) O O λ_ _=>J.q 2 O<|J.c j9<|J.A<|J.a9 hw0 (λ_ _ h=>h) (rv3 O (RV.blkA 4 O O qDT qBz) O O) (qAq (r24,r18) O ⟨hp24,hb18,hL18⟩ [0,1,2,5,6,7,3,9,8] O (by decide))
structure Srv (m G:Hp) (x:SvR):Prop where
 eq:m=U x.hs
 dj:Djs x.hs
 p:SvP G x
 i:SvI x
theorem Srv.mono{m G G':Hp}{x:SvR}(h:Srv m G x)(hl:Le G G'):Srv m G' x:={h with p:=h.p.mono hl}
theorem Srv.le{m G:Hp}{x:SvR}(h:Srv m G x){a:Hp}(ha:a∈x.hs):Le a m:=by rw [h.eq];exact qEy h.dj ha
def SvR.sub(x:SvR)(s:List UInt8)(en:En)(nt:List UInt8)(ch:Chg)(r:SbR):SvR:=
 {x with nxt:=x.nxt++ [⟨s,r.A,r.c,[en],r.mE⟩],cl:=x.cl++ [ch],no:=x.no++ [nt],mX:=r.mX,NX:=U [x.NX,r.mE],mC:=r.w.mC,cA:=r.w.cA,cc:=r.w.cc,mO:=r.w.mO,oA:=r.w.oA,oc:=r.w.oc}
theorem qPP{l:LE}{s:List UInt8}{v:List En}(h:qMG l)(hn:s∉l.map Prod.fst):qMG (l++ [(s,v)]):=by
 unfold qMG
 rw [jM,List.nodup_append]
 refine⟨h,by simp,λa ha b hb=>?_⟩
 rw [List.mem_singleton.1 hb]
 rintro rfl
 exact hn ha
theorem SvI.sub1{x:SvR}(h:SvI x){s:List UInt8}{A:Option Addr}{c:Nat}{l:List En}{m:Hp}(hg:qCq x.nxt s=none):qMG (lbE (x.nxt++ [⟨s,A,c,l,m⟩])):=by
 rw [qNL]
 exact qPP h.un (qHv.1 hg)
theorem SvI.sub2{x:SvR}(h:SvI x){s:List UInt8}{A:Option Addr}{c:Nat}{e:En}{m:Hp}: ∀y∈x.nxt++ [(⟨s,A,c,[e],m⟩:Lb)],y.l.length≤1000:=λy hy=>by
 rcases List.mem_append.1 hy with hy|hy
 · exact h.ln y hy
 · rw [List.mem_singleton.1 hy];exact jk rfl
theorem SvI.sub3{x:SvR}(h:SvI x){ch:Chg}(hc:x.cl.length<256)(hk:ch.k.length=16)(hv:ch.v.length≤1000000):qXr (x.cl++ [ch]):=by
  refine⟨?_,λy hy=>?_,λy hy=>?_⟩
  · rw [jA,jH];omega
  · rcases List.mem_append.1 hy with hy|hy
    · exact h.cl.k16 y hy
    · rw [List.mem_singleton.1 hy];exact hk
  · rcases List.mem_append.1 hy with hy|hy
    · exact h.cl.val y hy
    · rw [List.mem_singleton.1 hy];exact hv
theorem SvI.sub4{x:SvR}(h:SvI x){nt:List UInt8}(hn:nt.length≤900): ∀s∈x.no++ [nt],s.length≤900:=λy hy=>by
 rcases List.mem_append.1 hy with hy|hy
 · exact h.n9 y hy
 · rw [List.mem_singleton.1 hy];exact hn
theorem SvI.sub5{x:SvR}(h:SvI x){nt:List UInt8}{ch:Chg}:(x.no++ [nt]).length=(x.cl++ [ch]).length:=by
 rw [jA,jA,h.nc];rfl
theorem SvI.sub{x:SvR}(h:SvI x){s:List UInt8}{en:En}{nt:List UInt8}{ch:Chg}{r:SbR}(hg:qCq x.nxt s=none)(hc:x.cl.length<256)(hk:ch.k.length=16)(hv:ch.v.length≤1000000)(hn:nt.length≤900):SvI (x.sub s en nt ch r):=
 {dp:=h.dp,uw:=h.uw,lw:=h.lw,t0:=h.t0,t1:=h.t1,th:=h.th,tk:=h.tk,kf:=h.kf,kl:=h.kl,hg:=h.hg,al:=h.al,an:=h.an,sz:=h.sz,re:=h.re,un:=SvI.sub1 h hg,ln:=SvI.sub2 h,cl:=SvI.sub3 h hc hk hv,n9:=SvI.sub4 h hn,nc:=SvI.sub5 h}
theorem qSr{w0:Wd}{w:World}{a b:Hp}{r:List Hp}(h:St w0 (a::b::r) w):Dj a b∧St w0 (U [a,b]::r) w:=⟨h.dj2,h.joinU⟩
abbrev SvR.e1(x:SvR):List UInt8→Nat→List UInt8→List UInt8→Int→List UInt8→Nat→List (List UInt8)→List (List UInt8)→SbR→SvR:=λs v o r h p i ch pt y=>
 x.sub s ⟨v,o,r,h,p⟩ (117::upB s (qBG v o r h p) (sgB i ch pt)) ⟨Sha.tagged 11 [s],qCs v o r h p⟩ y
theorem qVq(F m G:Hp)(hK:KF F)(hGF:Le G F)(x:SvR)(hS:Srv m G x)(s:List UInt8)(hs2:s.length≤200)(v:Nat)(o r:List UInt8)(h:Int)(p:List UInt8)(hE:qBd v o r h p=0)(i:Nat)(A1:Option Addr)(n1 c1:Nat)(ch:List (List UInt8))(hch:Sl F 1 A1 n1 c1 (qAI ch))(A2:Option Addr)(n2 c2:Nat)(pt:List (List UInt8))(hpt:Sl F 1 A2 n2 c2 (qAI pt))(hi:i≤63)(h35:ch.length=35)(hn6:pt.length≤6)(hc16: ∀s∈ch,s.length=16)(hp16: ∀s∈pt,s.length=16)(hp3:pt.length≤3)(hno2:x.no.length<256)(hg0:qCq x.nxt s=none)
    (hJ: ∀F':Hp,Le F F'→Cz prog 64 [.agg #[Str s,N64 (v),Str (o),Str (r),I (h),Str (p),I ((i:Nat):Int),.slice A1 n1 c1,.slice A2 n2 c2],.bool false,.agg #[.int .u64 0,Str [],Str [],I 0,Str []]] F' (I ((0:Nat):Int))):
    Ct prog 25 [Ptr x.gs,.agg #[Str s,N64 (v),Str (o),Str (r),I (h),Str (p),I ((i:Nat):Int),.slice A1 n1 c1,.slice A2 n2 c2]] [m,F] (λ_:Hp×SbR=>I ((0:Nat):Int)) (λy=>Srv y.1 G (x.e1 s v o r h p i ch pt y.2)) (λy=> [y.1,F]):=λw0 w hw=>by
  have hP:=hS.p
  have hI:=hS.i
  have hcl:=hI.cl.len
  have hnc:=hI.nc
  rw [hS.eq] at hw
  have h1:=(hw.splitUs hS.dj).pick [0,1,2,3,4,5,6,7,8,9,10] (by decide)
  refine(Ct.useA [x.sb,x.mX,x.NX,x.mC,x.mO] [x.mT,x.mH,x.bk.blk x.gb,x.md,x.N,F] (A':=λy:SbR=> [blk x.gs [I ((x.dp:Nat):Int),Ptr x.gb,.bool false,.map (some x.nA),Ptr x.rA,.map (some x.nB),Ptr x.rB,.slice y.w.cA (x.cl++ [(⟨Sha.tagged 11 [s],qCs v o r h p⟩:Chg)]).length y.w.cc,.slice y.w.oA (x.no++ [117::(upB s (qBG v o r h p) (sgB i ch pt))]).length y.w.oc,.slice x.tA x.tg.length x.tc,.slice x.hA x.hd.length x.hc] 99,y.mX,x.NX,y.w.mC,y.w.mO]) (new:=λy=> [y.mE]) (λF' hF=>qSs F' x.mX x.NX x.mC x.mO (hK.mo hF) x.gs x.nB _ _ _ _ _ _ _ _ x.cA x.cc x.cl hP.rc (by omega) x.oA x.oc x.no hP.ro (by omega) x.nxt hP.mx hP.nx s hs2 v o r h p hE i A1 n1 c1 ch (hch.mono (Fa hF)) A2 n2 c2 pt (hpt.mono (Fa hF)) hi h35 hn6 hc16 hp16 hp3 hno2 hg0 (λF2 h2=>hJ F2 ((hF F (by simp)).trans h2))) w0 w h1).mono λe w' ⟨y,he,⟨q1,q2,q3,q4⟩,hst⟩=>?_
  have h2:=qSr (hst.pick [2,11,0,1,3,4,5,6,7,8,9,10] (by decide))
  have h3:=St.joinUs (A:=(x.e1 s v o r h p i ch pt y).hs) (r:= [F]) (h2.2.pick [1,2,0,3,4,5,6,7,8,9,10] (by decide))
  have hsg:=qIS (i:=i) hc16 hp16 h35
  have hul:=qIG s (qBG v o r h p) (sgB i ch pt)
  have hel:=qCE hE
  refine⟨(U (x.e1 s v o r h p i ch pt y).hs,y),he,⟨rfl,h3.1,⟨q1,hP.nx.snoc (l:= [⟨v,o,r,h,p⟩]) q2 h2.1,q3,q4,hP.rt,hP.rh,hP.bk,hP.nw,hP.nl,hP.ra,hP.rb,hP.tr,hP.hn⟩,hI.sub hg0 (by omega) (Sha.tagged_length _ _) ?_ ?_⟩,h3.2⟩
  · show(qCs v o r h p).length≤_
    unfold qCs;rw [if_pos hE,Sha.tagged_length];decide
  · show(_::_).length≤900
    rw [jD];omega
def SvR.pub(x:SvR)(r:StR×WrR):SvR:=
 {x with nA:=r.1.cg,rA:=r.1.cr,now:=r.1.cl,aud:=x.audN,cA:=none,cc:=0,cl:= [],oA:=none,oc:=0,no:= [],tA:=r.1.tA,tc:=r.1.tc,tg:=x.tg++ [r.1.gu],hA:=r.1.hA,hc:=r.1.hc,hd:=x.hd++ [adH (qA1 x.hdL).dig x.dp x.audN.length x.hd (kvT x.kvL x.cl x.dp (2^x.dp)) r.1.nA r.1.nc],mC:=λ_=>none,mO:=λ_=>none,mT:=r.1.mT,mH:=r.1.mH,md:=r.2.md,N:=r.2.N,bk:=r.2.x,kv:=x.kv++ [(kvT x.kvL x.cl x.dp (2^x.dp))]}
theorem qRJ{α:Type}(l:List α)(x no:α):(l++ [x]).getD ((l++ [x]).length-1) no=x:=by
 rw [jA,jH,Nat.add_sub_cancel,jB,ji (jK _),zH];rfl
theorem qI6{α:Type}(l:List α)(x no:α){i:Nat}(h:i<l.length):(l++ [x]).getD i no=l.getD i no:=by
 rw [jB,jh h,←jB]
theorem qFs{α:Type}(l:List α)(x no:α){i:Nat}(h:i=l.length):(l++ [x]).getD i no=x:=by
 rw [h,jB,ji (jK _),zH];rfl
theorem SvR.pub_kvL(x:SvR)(r:StR×WrR)(h:x.kv.length=x.tg.length):(x.pub r).kvL=(kvT x.kvL x.cl x.dp (2^x.dp)):=by
 show(x.kv++ [_]).getD ((x.tg++ [_]).length-1) []=_
 refine qFs _ _ _ ?_
 rw [jA,jH,h];omega
theorem SvR.pub_hdL(x:SvR)(r:StR×WrR):(x.pub r).hdL=adH (qA1 x.hdL).dig x.dp x.audN.length x.hd (kvT x.kvL x.cl x.dp (2^x.dp)) r.1.nA r.1.nc:=qRJ _ _ _
theorem SvI.pub{x:SvR}(h:SvI x)(r:StR×WrR)(ht:x.tg.length<15)(hp:StP x.kvL x.cl x.nxt x.audN (qA1 x.hdL).dig x.dp x.audN.length x.tg x.hd r.1)(hL:CbL x.bk r.2.x (x.no++ [cmB x.no.length x.hd.length]))(hn1: ∀s∈x.no,1≤qBc s.length):SvI (x.pub r):=by
  have h4:=h.dp
  have h5:=h.cl.len
  obtain ⟨_,h16⟩:=qHd h4
  have hkl:=h.kl
  have hth:=h.th
  have htk:=h.tk
  refine{dp:=h.dp,un:=h.un,ln:=h.ln,cl:=⟨jG _,(λy hy=>by cases hy),(λy hy=>by cases hy)⟩,n9:=(λy hy=>by cases hy),nc:=rfl,al:=h.an,an:=h.an,uw:=?_,lw:=?_,t0:=?_,t1:=?_,th:=?_,tk:=?_,kf:=?_,kl:=?_,hg:=?_,sz:=?_,re:=?_}
  · exact(hp.pm.map _).nodup_iff.2 h.un
  · intro y hy
    have:(y.nm,y.l)∈lbE x.nxt:=hp.pm.subset (List.mem_map.2 ⟨y,hy,rfl⟩)
    obtain ⟨z,hz,e⟩:=List.mem_map.1 this
    have:=h.ln z hz
    rw [show y.l=z.l from(congrArg Prod.snd e).symm];exact this
  · show 0<(x.tg++ [_]).length
    rw [jA];exact Nat.succ_pos _
  · show(x.tg++ [_]).length≤15
    rw [jA,jH];omega
  · show(x.hd++ [_]).length=(x.tg++ [_]).length
    rw [jA,jA,hth];rfl
  · show(x.kv++ [_]).length=(x.tg++ [_]).length
    rw [jA,jA,htk];rfl
  · rw [x.pub_kvL r htk]
    exact qFq h.kf h.cl (by omega) _ h16
  · rw [x.pub_kvL r htk]
    show _≤5000*(x.tg++ [_]).length
    rw [jA,jH]
    have:=qLu x.kvL x.cl x.dp (2^x.dp)
    have h6:2^x.dp*x.cl.length≤16*256:=Nat.mul_le_mul h16 h5
    omega
  · rw [x.pub_hdL r]
    refine qMj ?_ (qKe _) ?_
    · show x.hd.length≤_;omega
    · show(qAp _ x.dp).length≤16
      unfold qAp;rw [qBa];exact h16
  · show r.2.x.size≤_;rw [hL.sz];exact h.sz
  · show r.2.x.R.length≤r.2.x.e
    rw [hL.R,hL.e,jA,jA,jH,qCy]
    have h7: ∀l:List (List UInt8),(∀s∈l,1≤qBc s.length)→l.length≤qCz l:=λl hl=>by
      induction l with
      |nil=>exact jG _
      |cons a l ih=>
        have h8:=hl a (.head _)
        have h9:=ih λs hs=>hl s (.tail _ hs)
        unfold qCz at h9⊢
        rw [jZ,List.sum_cons,jD];omega
    have h8:=h7 x.no hn1
    have h9:=qE8 (cmB x.no.length x.hd.length).length
    have:=h.re
    omega
structure PbP (m' G G2:Hp) (x:SvR) (r:StR×WrR):Prop where
 s: ∀G3,Le G G3→Le G2 G3→Srv m' G3 (x.pub r)
 ns:nsl G2 (x.pub r).hdL
 len:r.1.tl.length=2^x.dp
 ro:Row r.1.mo 165 5 r.1.At r.1.tl.length r.1.ct (qJe r.1.tl)
 ok:qO1 G2 x.kvL x.cl x.dp r.1.tl
 bk:CbL x.bk r.2.x (x.no++ [cmB x.no.length x.hd.length])
 pm:(lbE r.1.cl).Perm (lbE x.nxt)
theorem qP6(F m G:Hp)(hK:KF F)(hGF:Le G F)(x:SvR)(hS:Srv m G x)(ht:x.tg.length<15)(hfit:x.bk.e+qCz (x.no++ [cmB x.no.length x.hd.length])≤x.bk.size):
    Ct prog 10 [Ptr x.gs] [m,F] (λy:Hp×StR×WrR=> .tuple #[.agg #[N64 x.hd.length,Str (qA1 x.hdL).dig,I ((x.dp:Nat):Int),I ((x.audN.length:Nat):Int),.slice y.2.1.nA (qAp (kvT x.kvL x.cl x.dp (2^x.dp)) x.dp).length y.2.1.nc],.slice y.2.1.At y.2.1.tl.length y.2.1.ct,I ((0:Nat):Int)]) (λy=>PbP y.1 G y.2.1.G x y.2) (λy=> [y.1,F,y.2.1.G,y.2.1.mo]):=λw0 w hw=>by
  have hP:=hS.p
  have hI:=hS.i
  have hth:=hI.th
  have htk:=hI.tk
  rw [hS.eq] at hw
  have h1:=(hw.splitUs hS.dj).pick [0,5,6,7,8,9,1,2,3,4,10] (by decide)
  refine(Ct.useA [x.sb,x.mT,x.mH,x.bk.blk x.gb,x.md,x.N] [x.mX,x.NX,x.mC,x.mO,F] (A':=λy:StR×WrR=> [blk x.gs [I ((x.dp:Nat):Int),Ptr x.gb,.bool false,.map (some y.1.cg),Ptr y.1.cr,.map (some x.nB),Ptr x.rB,.slice none 0 0,.slice none 0 0,.slice y.1.tA (x.tg++ [y.1.gu]).length y.1.tc,.slice y.1.hA (x.hd++ [adH ((qA1 x.hdL).dig) x.dp x.audN.length x.hd (kvT x.kvL x.cl x.dp (2^x.dp)) y.1.nA y.1.nc]).length y.1.hc] 99,y.1.mT,y.1.mH,y.2.x.blk x.gb,y.2.md,y.2.N]) (new:=λy=> [y.1.G,y.1.mo]) (λF' hF=>qVs F' (hK.mo hF) x hI (hP.mono (hGF.trans (Fa hF))) (Fa hF) (Fa hF) (Fa hF) (Fa hF) hfit) w0 w h1).mono λe w' ⟨y,he,⟨q1,q2,q3⟩,hst⟩=>?_
  have h2:=hst.empty.empty
  have h3:=St.joinUs (A:=(x.pub y).hs) (r:= [F,y.1.G,y.1.mo]) (h2.pick [0,6,7,13,14,1,2,3,4,5,10,11,12] (by decide))
  have hI2:=hI.pub y ht q1 q3 (λs hs=>qE8 _)
  refine⟨(U (x.pub y).hs,y),he,⟨λG3 g1 g2=>⟨rfl,h3.1,⟨hP.mx,hP.nx,qBb.nil,qBb.nil,q1.rt,q1.rh,q2,q1.mp.mono g2,q1.lb.mono g2,qSE.mono q1.au g2,hP.rb.mono g1,λj hj=>?_,λj hj=>?_⟩,hI2⟩,?_,q1.len,q1.ro,q1.ok,q3,q1.pm⟩,h3.2⟩
  · have hj2:j<x.tg.length+1:=by have:=hj;rw [show(x.pub y).tg=x.tg++ [y.1.gu] from rfl,jA,jH] at this;exact this
    show qCU G3 ((x.tg++ [_]).getD j 0) ((x.kv++ [_]).getD j [])
    by_cases hlt:j<x.tg.length
    · rw [qI6 _ _ _ hlt,qI6 _ _ _ (by omega)];exact(hP.tr j hlt).mono g1
    · rw [qFs _ _ _ (by omega),qFs _ _ _ (by omega)];exact q1.tu.mono g2
  · have hj2:j<x.hd.length+1:=by have:=hj;rw [show(x.pub y).hd=x.hd++ [_] from rfl,jA,jH] at this;exact this
    show nsl G3 ((x.hd++ [_]).getD j qAc)
    by_cases hlt:j<x.hd.length
    · rw [qI6 _ _ _ hlt];exact(hP.hn j hlt).mono g1
    · rw [qFs _ _ _ (by omega)];exact q1.nr.mono g2
  · rw [x.pub_hdL y];exact q1.nr
def nwS(gd n first count dp:Nat)(gl:List Aud)(md:Hp)(r:NwR):SvR:=
 {gs:=r.gs,dp:=dp,nA:=r.gA,rA:=r.gR,nB:=r.cp.g,rB:=r.cp.r,gb:=r.gb,nxt:= [],now:= [],cA:=none,cc:=0,cl:= [],oA:=none,oc:=0,no:= [],tA:=r.ad.tA,tc:=r.ad.tc,tg:= [r.gt],hA:=r.ad.hA,hc:=r.ad.hc,hd:= [adH qAm dp gl.length [] (qFp [] gl gl.length) r.ad.nA r.ad.nc],mX:=r.cp.mm,NX:=r.cp.M,mC:=λ_=>none,mO:=λ_=>none,mT:=r.ad.mT,mH:=r.ad.mH,md:=md,N:=λ_=>none,bk:=⟨gd,first,count/2,first,0,0,none,0,[],Dk.new n⟩,kv:= [qFp [] gl gl.length],aud:=gl,audN:=gl}
theorem qQs{α:Type}{a no:α}{i:Nat}(h:i< [a].length): [a].getD i no=a:=by
 match i,h with
 |0,_=>rfl
theorem qWu(F md:Hp)(hK:KF F)(hA:qAR F ⟨2,0,none⟩ qBY)(hT:qB5 F)(gd n:Nat)(hb:Dsk md gd (Dk.new n) none 0)(hn4:4≤n)(hn:n≤1000)(first count:Nat)(h8:8≤count)(hfc:first+count≤n)(dp:Nat)(hdp:dp≤4)(GA:Option Addr)(gc:Nat)(gl:List Aud)(hgl:Sl F 4 GA gl.length gc (qBX gl))(hg:qXq gl):
    Ct prog 21 [Ptr gd,I ((first:Nat):Int),I ((count:Nat):Int),I ((dp:Nat):Int),.slice GA gl.length gc] [md,F] (λy:Hp×Hp×NwR=> .tuple #[Ptr y.2.2.gs,I ((0:Nat):Int)]) (λy=>Srv y.1 y.2.1 (nwS gd n first count dp gl md y.2.2)) (λy=> [y.1,F,y.2.1]):=λw0 w hw=>by
  refine(qVw F md hK hA hT gd n hb hn4 hn first count h8 hfc dp hdp GA gc gl hgl hg w0 w hw).mono λe w' ⟨r,he,hp,hst⟩=>?_
  have h1:=St.joinUs (A:=(nwS gd n first count dp gl md r).hs) (r:= [F,qAP r.gA (.map #[] 0),r.mR,r.mt,r.cp.mr,r.ad.mN]) (hst.empty.empty.empty.pick [5,6,7,13,14,9,10,12,0,15,1,2,3,4,8,11] (by decide))
  have h2:=St.joinUs (A:= [qAP r.gA (.map #[] 0),r.mR,r.mt,r.cp.mr,r.ad.mN]) (r:= [U (nwS gd n first count dp gl md r).hs,F]) (h1.2.pick [2,3,4,5,6,0,1] (by decide))
  have hl: ∀a∈ [qAP r.gA (.map #[] 0),r.mR,r.mt,r.cp.mr,r.ad.mN],Le a (U [qAP r.gA (.map #[] 0),r.mR,r.mt,r.cp.mr,r.ad.mN]):=λa ha=>qEy h2.1 ha
  have hls:r.cp.ls= []:=List.map_eq_nil_iff.1 hp.cp.pm.eq_nil
  have hll:=qI0 gl (n:=gl.length) hg.len
  obtain ⟨_,h16⟩:=qHd hdp
  have hg15:=hg.len
  have hlast:(Dk.new n).last.length=n:=by unfold Dk.new;exact jJ
  have hro:qSE (U [qAP r.gA (.map #[] 0),r.mR,r.mt,r.cp.mr,r.ad.mN]) r.gR gl:=by
    obtain ⟨a,b,c,q1,q2,_⟩:=hp.ro.see
    exact qSE.mono ⟨a,b,c,q1,q2⟩ (hl _ (by simp))
  have hrb:qSE (U [qAP r.gA (.map #[] 0),r.mR,r.mt,r.cp.mr,r.ad.mN]) r.cp.r gl:=by
    obtain ⟨a,b,c,q1,q2,_⟩:=hp.cp.ro.see
    exact qSE.mono ⟨a,b,c,q1,q2⟩ (hl _ (by simp))
  have hmx:=hp.cp.mp
  have hnx:=hp.cp.nx
  rw [hls] at hmx hnx
  refine⟨(U (nwS gd n first count dp gl md r).hs,U [qAP r.gA (.map #[] 0),r.mR,r.mt,r.cp.mr,r.ad.mN],r),he,⟨rfl,h1.1,⟨hmx,hnx,qBb.nil,qBb.nil,hp.ad.rt,hp.ad.rh,?_,(MapS.nil r.gA).at.mono (hl _ (by simp)),(λy hy=>by cases hy),hro,hrb,λi hi=>?_,λi hi=>?_⟩,?_⟩,h2.2.pick [1,2,0] (by decide)⟩
  · exact⟨hb,Dk.new_ok hn4 (by omega),rfl,rfl,rfl,rfl,Sl.nil,by show first+count/2≤(Dk.new n).last.length;rw [hlast];omega,by show(Dk.new n).last.length≤1000;rw [hlast];omega,jG _,jG _⟩
  · show qCU _ ([r.gt].getD i 0) ([qFp [] gl gl.length].getD i [])
    rw [qQs hi,qQs (show i< [qFp [] gl gl.length].length from hi)]
    exact hp.tr.at.mono (hl _ (by simp))
  · show nsl _ ([adH qAm dp gl.length [] (qFp [] gl gl.length) r.ad.nA r.ad.nc].getD i qAc)
    rw [qQs hi]
    exact hp.ad.nd.sl.mono (hl _ (by simp))
  · exact{dp:=hdp,un:=List.nodup_nil,uw:=List.nodup_nil,ln:=(λy hy=>by cases hy),lw:=(λy hy=>by cases hy),cl:=⟨jG _,(λy hy=>by cases hy),(λy hy=>by cases hy)⟩,n9:=(λy hy=>by cases hy),nc:=rfl,t0:=Nat.succ_pos _,t1:=(by show 1≤15;decide),th:=rfl,tk:=rfl,kf:=qGm gl hg15,kl:=(by show(qFp [] gl gl.length).length≤5000*1;omega),hg:=qMj (jG _) (jK _) (by show(qAp _ dp).length≤16;unfold qAp;rw [qBa];exact h16),al:=(by show gl.length≤64;omega),an:=(by show gl.length≤64;omega),sz:=(by show count/2≤1000;omega),re:=jG _}
theorem Srv.cells{m G:Hp}{x:SvR}(h:Srv m G x):qAR m ⟨x.gs,0,none⟩ [I ((x.dp:Nat):Int),Ptr x.gb,.bool false,.map (some x.nA),Ptr x.rA,.map (some x.nB),Ptr x.rB,.slice x.cA x.cl.length x.cc,.slice x.oA x.no.length x.oc,.slice x.tA x.tg.length x.tc,.slice x.hA x.hd.length x.hc]:=qAR.blk0.mono (h.le (.head _))
theorem Srv.tsl{m G:Hp}{x:SvR}(h:Srv m G x):Sl m 1 x.tA x.tg.length x.tc (qBp x.tg):=h.p.rt.sl.mono (h.le (by simp [SvR.hs]))
theorem Srv.hsl{m G:Hp}{x:SvR}(h:Srv m G x):Sl m 5 x.hA x.hd.length x.hc (qCu x.hd):=h.p.rh.sl.mono (h.le (by simp [SvR.hs]))
theorem Srv.tree{m G:Hp}{x:SvR}(h:Srv m G x):qCU G (x.tg.getD (x.tg.length-1) 0) x.kvL:=h.p.tr _ (by have:=h.i.t0;omega)
theorem qTC(F:Hp)(hK:KF F){kv:List Sm.PR}(hf:qCJ kv){d:Nat}(hd:d≤4)(ep:Nat)(par:List UInt8)(au:Nat)(he:ep≤1000)(hp:par.length≤16)(A:Option Addr)(c:Nat)(hs:Sl F 1 A (qAp kv d).length c (qAI (qAp kv d))):
    Cz prog 41 [.agg #[N64 ep,Str par,I ((d:Nat):Int),I ((au:Nat):Int),.slice A (qAp kv d).length c]] F (Str (Sm.nd 128 kv)):=by
  obtain ⟨_,h16⟩:=qHd hd
  have hl:(qAp kv d).length=2^d:=by unfold qAp;rw [qBa]
  have h:=qI2 F hK ⟨ep,par,((d:Nat):Int),((au:Nat):Int),qAp kv d⟩ A c ⟨by show ep<_;omega,by show par.length≤_;omega,by show(qAp kv d).length≤_;omega⟩ hs (λs hs=>by
    unfold qAp qCN at hs
    obtain ⟨j,_,rfl⟩:=List.mem_map.1 hs
    exact jb (Sm.nd_small _ _) (by decide))
  rw [show qCI (qAp kv d) ((d:Nat):Int)=Sm.nd 128 kv from(qIt hf hd).2] at h
  exact h
theorem PbP.root{F:Hp}(hK:KF F){m G G2:Hp}{x:SvR}{r:StR×WrR}(h:PbP m G G2 x r)(hI:SvI x)(hS:Srv m F (x.pub r))(hl:Le G2 F):
    Cz prog 41 [.agg #[N64 x.hd.length,Str (qA1 x.hdL).dig,I ((x.dp:Nat):Int),I ((x.audN.length:Nat):Int),.slice r.1.nA (qAp (kvT x.kvL x.cl x.dp (2^x.dp)) x.dp).length r.1.nc]] F (Str (Sm.nd 128 (x.pub r).kvL)):=by
  have e:=x.pub_kvL r hI.tk
  have hf:=hS.i.kf
  have h1:=hI.th
  have h2:=hI.t1
  have hn:=h.ns
  rw [x.pub_hdL] at hn
  rw [e] at hf⊢
  exact qTC F hK hf hI.dp _ _ _ (by omega) (qKe _) _ _ (hn.mono hl)
structure LkR where
 A:Option Addr
 c:Nat
 m:Hp
 s:Nat
 bA:Option Addr
 bc:Nat
 mb:Hp
structure LkP (x:SvR) (s:List UInt8) (r:LkR):Prop where
 ro:Row r.m 61 5 r.A (qED (lbE x.now) s).length r.c (qHy (qED (lbE x.now) s))
 st:qKv x.kvL (Sha.tagged 11 [s]) 0 r.s
 rb:Row r.mb 9 1 r.bA (bsd x.kvL (Sha.tagged 11 [s]) 0 (r.s-0)).length r.bc (qAI (bsd x.kvL (Sha.tagged 11 [s]) 0 (r.s-0)))
theorem LbA.small{F:Hp}{ls:List Lb}(h: ∀y∈ls,y.l.length≤1000)(k:List UInt8):(qED (lbE ls) k).length≤1000:=by
 rw [qI5]
 cases hg:qCq ls k with
 |none=>exact jG _
 |some x=>exact h x (qKS hg).1
theorem qMX(F:Hp)(hK:KF F)(x:SvR)(hI:SvI x)(hc:qAR F ⟨x.gs,0,none⟩ [I ((x.dp:Nat):Int),Ptr x.gb,.bool false,.map (some x.nA),Ptr x.rA,.map (some x.nB),Ptr x.rB,.slice x.cA x.cl.length x.cc,.slice x.oA x.no.length x.oc,.slice x.tA x.tg.length x.tc,.slice x.hA x.hd.length x.hc])(hts:Sl F 1 x.tA x.tg.length x.tc (qBp x.tg))(hT:qCU F (x.tg.getD (x.tg.length-1) 0) x.kvL)(hw:Fw.MapAt F x.nA (lbV x.now))(hl:LbA F x.now)(s:List UInt8)(hs:s.length≤1000):Ct prog 13 [Ptr x.gs,Str s] [F] (λr:LkR=> .tuple #[.agg #[Str s,.slice r.A (qED (lbE x.now) s).length r.c,.slice r.bA (bsd x.kvL (Sha.tagged 11 [s]) 0 (r.s-0)).length r.bc,.bool (qAo x.kvL (Sha.tagged 11 [s]) r.s),Str (qBo x.kvL (Sha.tagged 11 [s]) r.s),Str (qBr x.kvL (Sha.tagged 11 [s]) r.s)],I ((0:Nat):Int)]) (LkP x s) (λr=> [F,r.mb,r.m]):=by
 have i7:=hI.t0
 have i8:=hI.t1
 have hel:=LbA.small (F:=F) hI.lw s
 refine Ct.walk func13 rfl ntmps13 rfl (λw0 hw0=>?_)
 refine J.f λ_ j1=>J.p (qAL O zeroValue55 O) O λg4 _=>J.b O<|J.c j1<|J.k λ_ j2=>J.f λ_ j3=>J.b O<|J.g ((qA6 qXt O O O).as (v':= .bool false) O) O<|J.c j3<|J.a1 ?_
 refine J.M j2<|J.f λ_ j4=>J.b O<|J.g (qAC O O) O<|J.T 9 qCV sizeOf97 O O O O O<|J.g (qAJ O O isAgg97 (m:=F) (by simp) (hc.at (i:=9) rfl)) rfl<|J.p (qAB rfl rfl ent38 (Ct.use0 (λF' hF=>qMU F' x.tA x.tg.length x.tc x.tg (hts.mono (Fa hF)) i7 (by omega)))) rfl λg16 _=>J.b rfl<|J.p (qAB rfl rfl ent39 (Ct.use0 (λF' hF=>qFt F' (hK.mo hF) s (by omega)))) rfl λg18 _=>J.p (qAB rfl rfl ent37 (Ct.use (λF' hF=>qEd F' (hK.mo hF) (x.tg.getD (x.tg.length-1) 0) x.kvL (hT.mono (Fa hF)) hI.kf (Sha.tagged 11 [s]) (Sha.tagged_length _ _) 0 (by omega)))) rfl ?_
 rintro⟨s19,A19,c19,m19⟩ ⟨hst19,hr19⟩
 refine J.q 3 O<|J.p (qAL O qOo O) O λg6 _=>J.a6 (qAF (i:=3) (l:= [.slice none 0 0,.bool false,Str [],Str []]) (vs:= [.slice A19 ((bsd x.kvL (Sha.tagged 11 [s]) 0 (s19-0)).length) c19,.bool (qAo x.kvL (Sha.tagged 11 [s]) s19),Str (qBo x.kvL (Sha.tagged 11 [s]) s19),Str (qBr x.kvL (Sha.tagged 11 [s]) s19)]) O O O O O qCl O O) O O λ_ _=>J.b O<|J.c j4<|J.k λ_ j5=>J.b0 [F,blk g6 [.slice A19 ((bsd x.kvL (Sha.tagged 11 [s]) 0 (s19-0)).length) c19,.bool (qAo x.kvL (Sha.tagged 11 [s]) s19),Str (qBo x.kvL (Sha.tagged 11 [s]) s19),Str (qBr x.kvL (Sha.tagged 11 [s]) s19)] 53] [12,13,100011] (.y 0 (.y 1 (.y 2 (.y 3 (.y 4 (.y 5 (.y 6 (.y 7 (.y 9 (.y 11 (.e 8 (.y 10 (.e 12 (.e 13 .nil)))))))))))))) Tryz.wide (by decide+kernel) (by simp) ?_
 refine J.L ?_
 refine J.L ?_
 refine J.j O (qAC O O) O O<|J.j O (qAA O O qCV O qF2 O) O O<|J.j O (qAA O O qLE O qUr O) O O<|J.j O (qAJ O O isAgg92 (m:=F) (by simp) (hc.at (i:=3) rfl)) rfl rfl<|J.L ?_
 refine J.j O ((qCx O O O qUx u9_ zeroValue51 (m:=F) (by simp) hw).as (v':= .slice (qW9 x.now s) (qED (lbE x.now) s).length (qW8 x.now s)) (qVF x.now s)) rfl rfl<|J.j rfl (qAY 1 rfl rfl rfl qF1 qCl rfl) rfl rfl<|J.d8 rfl (qA0 rfl rfl) rfl rfl rfl ?_
 refine J.Z O (qAB O O ent40 (Ct.use (λF' hF=>qKi F' (qW9 x.now s) ((qED (lbE x.now) s).length) (qW8 x.now s) (qED (lbE x.now) s) ((hl.at s).mono (Fa hF)) (by first|omega|assumption)))) rfl (by simp) ?_
 rintro⟨A30,c30,m30⟩ h30
 try dsimp only at h30
 refine J.j O (qAK (places:= [(0,1),(1,1),(2,4)]) (r:= [Str (s),.slice A30 (((qED (lbE x.now) s)).length) c30,.slice A19 ((bsd x.kvL (Sha.tagged 11 [s]) 0 (s19-0)).length) c19,.bool (qAo x.kvL (Sha.tagged 11 [s]) s19),Str (qBo x.kvL (Sha.tagged 11 [s]) s19),Str (qBr x.kvL (Sha.tagged 11 [s]) s19)]) O O O qSd zeroValue55 (λ_=>by kernel_rfl) O) O O<|J.c2 O (qAF (i:=1) (l:= [Str [],.slice none 0 0,.slice none 0 0,.bool false,Str [],Str []]) (vs:= [Str (s),.slice A30 (((qED (lbE x.now) s)).length) c30,.slice A19 ((bsd x.kvL (Sha.tagged 11 [s]) 0 (s19-0)).length) c19,.bool (qAo x.kvL (Sha.tagged 11 [s]) s19),Str (qBo x.kvL (Sha.tagged 11 [s]) s19),Str (qBr x.kvL (Sha.tagged 11 [s]) s19)]) O O O O O sizeOf55 O O) O O O λ_ _=>J.d6 O (YOp.eop (qBm O O)) O O O O ?_
 intro _ _
 refine J.a8<|J.u (J.D j5 ?_)
 exact J.A<|J.a9 hw0 (λ_ _ h=>h) (rv2 O (RV.blkA 1 O O isAgg55 sizeOf55) O) (qAq (⟨A30,c30,m30,s19,A19,c19,m19⟩:LkR) O ⟨h30,hst19,hr19⟩ [0,2,4] O (by decide))
end Go.Proofs.YtcgcjaflllmlpaaGreatDoor
