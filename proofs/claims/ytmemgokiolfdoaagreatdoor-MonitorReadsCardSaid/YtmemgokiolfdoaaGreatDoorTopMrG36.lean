/- A part of the proof. -/
import Derived.Test.YtmemgokiolfdoaaGreatDoorTopMrG35
import Derived.Test.YtmemgokiolfdoaaGreatDoorTopMrG33
set_option maxRecDepth 100000
set_option maxHeartbeats 1000000
set_option linter.unusedSimpArgs false
set_option linter.unusedVariables false
namespace Go.Proofs.YtmemgokiolfdoaaGreatDoor
open Go Go.Fw Go.Proofs.Tryz
theorem el59:qCR prog 59 [.int .i64 0,.int .i64 0,Str [],Str [],.slice none 0 0] 72:=qCR.of xH O
def qDK(cl:List Chg)(d b:Nat):List Chg:=cl.filter λx=>decide (ofV x.k d=b)
def kvT(l:List Sm.PR)(cl:List Chg)(d:Nat):Nat→List Sm.PR
 |0=>l
 |b+1=>kvC (kvT l cl d b) (qDK cl d b)
structure qWe (cl:List Chg):Prop where
 len:cl.length≤256
 k16: ∀x∈cl,x.k.length=16
 val: ∀x∈cl,x.v.length≤1000000
theorem qWe.band{cl:List Chg}(h:qWe cl)(d b:Nat):qRU b d (qDK cl d b) where
 len:=jg (z6 _ _) h.len
 k16:=λx hx=>h.k16 x (List.mem_filter.1 hx).1
 bnd:=λx hx=>by
  have h1:=of_decide_eq_true (List.mem_filter.1 hx).2
  unfold ofV at h1
  rwa [if_pos (h.k16 x (List.mem_filter.1 hx).1)] at h1
 val:=λx hx=>h.val x (List.mem_filter.1 hx).1
theorem qG8(cl:List Chg)(d b:Nat):(qDK cl d b).length≤cl.length:=z6 _ _
theorem qLa(l:List Sm.PR)(cl:List Chg)(d:Nat): ∀b,(kvT l cl d b).length≤l.length+b*cl.length
 |0=>by show l.length≤_;omega
 |b+1=>by
  have h1:=qLa l cl d b
  have h2:=qQE (kvT l cl d b) (qDK cl d b)
  have h3:=qG8 cl d b
  show(kvC _ _).length≤_
  rw [Nat.succ_mul];omega
theorem qJ8{l:List Sm.PR}{cl:List Chg}(h:qWe cl)(hl:l.length≤80000)(d:Nat){b:Nat}(hb:b≤16):(kvT l cl d b).length≤90000:=by
 have h1:=qLa l cl d b
 have h2:b*cl.length≤16*256:=Nat.mul_le_mul hb h.len
 omega
theorem qF1{l:List Sm.PR}{cl:List Chg}(hf:qCE l)(h:qWe cl)(hl:l.length≤80000)(d:Nat): ∀{b:Nat},b≤16→qCE (kvT l cl d b)
 |0,_=>hf
 |b+1,hb=>by
  have h2:=qJ8 h hl d (b:=b) xB
  have h3:=qG8 cl d b
  have h4:=h.len
  exact qMv (qF1 hf h hl d (b:=b) xB) (h.band d b).k16 (h.band d b).val xB
theorem qIA{cl:List Chg}{i d b:Nat}(h:i<cl.length):qDK (cl.take (i+1)) d b=if ofV (cl.getD i qAs).k d=b then qDK (cl.take i) d b++ [cl.getD i qAs] else qDK (cl.take i) d b:=by
 unfold qDK
 rw [qDt cl i qAs h,jr]
 generalize cl.getD i qAs=x
 by_cases hc:ofV x.k d=b
 · rw [if_pos hc];simp [List.filter,hc]
 · rw [if_neg hc];simp [List.filter,hc]
structure qRK (G:Hp) (l:List Sm.PR) (cl:List Chg) (d b:Nat) (x:TrD):Prop where
 eb:x.b=b
 ed:x.d=d
 eo:x.old=Sm.ndB (kvT l cl d b) (kF b d) d
 en:x.nw=Sm.ndB (kvT l cl d (b+1)) (kF b d) d
 chg:x.st.map qBa.chg=qDK cl d b
 ok:qDL (kvT l cl d b) d x.st
 sl:Sl G 6 x.stA x.st.length x.stc (qJW x.st)
 bs:qOQ G x.st
theorem qRK.mono{G G':Hp}{l:List Sm.PR}{cl:List Chg}{d b:Nat}{x:TrD}(h:qRK G l cl d b x)(hl:Le G G'):qRK G' l cl d b x:=⟨h.eb,h.ed,h.eo,h.en,h.chg,h.ok,h.sl.mono hl,h.bs.mono hl⟩
def qOT(G:Hp)(l:List Sm.PR)(cl:List Chg)(d:Nat)(tl:List TrD):Prop:= ∀j,j<tl.length→qRK G l cl d j (tl.getD j noTrD)
theorem qOT.nil(G:Hp)(l:List Sm.PR)(cl:List Chg)(d:Nat):qOT G l cl d []:=λj h=>absurd h (jw j)
theorem qOT.mono{G G':Hp}{l:List Sm.PR}{cl:List Chg}{d:Nat}{tl:List TrD}(h:qOT G l cl d tl)(hl:Le G G'):qOT G' l cl d tl:=λj hj=>(h j hj).mono hl
theorem qOT.snoc{G:Hp}{l:List Sm.PR}{cl:List Chg}{d:Nat}{tl:List TrD}{x:TrD}(h:qOT G l cl d tl)(hx:qRK G l cl d tl.length x):qOT G l cl d (tl++ [x]):=λj hj=>by
  rw [jA,jL] at hj
  by_cases hlt:j<tl.length
  · rw [jB,jb hlt,←jB];exact h j hlt
  · obtain rfl:j=tl.length:=by omega
    rw [jB,jd (jK _),zB];exact hx
def qA4(x:RhD):Hd:=⟨x.ep,x.par,x.dep,x.aud,x.ns⟩
structure StR where
 tA:Option Addr
 tc:Nat
 mT:Hp
 hA:Option Addr
 hc:Nat
 mH:Hp
 nA:Option Addr
 nc:Nat
 gu:Nat
 tl:List TrD
 At:Option Addr
 ct:Nat
 mo:Hp
 cg:Nat
 cr:Nat
 cl:List Lb
 G:Hp
structure StP (kv:List Sm.PR) (cl:List Chg) (nxt:List Lb) (au:List Aud) (par:xA) (dp rn:Nat) (tg:List Nat) (hd:List RhD) (x:StR):Prop where
 nr:Sl x.G 1 x.nA (qAr (kvT kv cl dp (2^dp)) dp).length x.nc (qAH (qAr (kvT kv cl dp (2^dp)) dp))
 rt:Row x.mT 130 1 x.tA (tg++ [x.gu]).length x.tc (qDT (tg++ [x.gu]))
 rh:Row x.mH 52 5 x.hA (hd++ [adH par dp rn hd (kvT kv cl dp (2^dp)) x.nA x.nc]).length x.hc (qDC (hd++ [adH par dp rn hd (kvT kv cl dp (2^dp)) x.nA x.nc]))
 tu:qCQ x.G x.gu (kvT kv cl dp (2^dp))
 len:x.tl.length=2^dp
 ro:Row x.mo 59 5 x.At x.tl.length x.ct (qJR x.tl)
 ok:qOT x.G kv cl dp x.tl
 mp:Fw.MapAt x.G x.cg (lbV x.cl)
 lb:LbA x.G x.cl
 pm:(lbE x.cl).Perm (lbE nxt)
 au: ∃RA rn rc,qAG x.G ⟨x.cr,0,none⟩ [.slice RA rn rc]∧Sl x.G 4 RA rn rc (qBf au)
theorem qNc(F mT mH:Hp)(hK:qAG F ⟨3,0,none⟩ (Sha.K.map W32))(gs dp nA rA nB rB:Nat)(v1 v2:Value)(tA:Option Addr)(tc:Nat)(tg:List Nat)(hrt:Row mT 130 1 tA tg.length tc (qDT tg))(htg:tg.length≤100000)(hA:Option Addr)(hc:Nat)(hd:List RhD)(hrh:Row mH 52 5 hA hd.length hc (qDC hd))(hhd:hd.length≤100000)(hdp:dp≤4)(cA:Option Addr)(cc:Nat)(cl:List Chg)(hsC:Sl F 2 cA cl.length cc (qDU cl))(hcl:qWe cl)(oA:Option Addr)(oc:Nat)(no:List xA)(nxt:List Lb)(hm:Fw.MapAt F nB (lbV nxt))(hl:LbA F nxt)(hun:qLw (lbE nxt))(hln: ∀x∈nxt,x.l.length≤1000000)(RA:Option Addr)(rn rc:Nat)(au:List Aud)(hR:qAG F ⟨rB,0,none⟩ [.slice RA rn rc])(hRs:Sl F 4 RA rn rc (qBf au))(hrn:rn≤1000000)(ht0:0<tg.length)(hh0:0<hd.length)(kv:List Sm.PR)(hT:qCQ F (tg.getD (tg.length-1) 0) kv)(hf:qCE kv)(hkl:kv.length≤80000)(hgd:(qA4 (hd.getD (hd.length-1) qAX)).good)(hns:Sl F 1 (hd.getD (hd.length-1) qAX).nsA (hd.getD (hd.length-1) qAX).ns.length (hd.getD (hd.length-1) qAX).nsc (qAH (hd.getD (hd.length-1) qAX).ns)):Ct prog 67 [Ptr gs] [blk gs [I (dp:Nat),v1,v2,.map (some nA),Ptr rA,.map (some nB),Ptr rB,.slice cA cl.length cc,.slice oA no.length oc,.slice tA tg.length tc,.slice hA hd.length hc] 129,mT,mH,F] (λx:StR=> .slice x.At x.tl.length x.ct) (StP kv cl nxt au ((qA4 (hd.getD (hd.length-1) qAX)).dig) dp rn tg hd) (λx=> [blk gs [I (dp:Nat),v1,v2,.map (some x.cg),Ptr x.cr,.map (some nB),Ptr rB,.slice none 0 0,.slice none 0 0,.slice x.tA (tg++ [x.gu]).length x.tc,.slice x.hA (hd++ [adH ((qA4 (hd.getD (hd.length-1) qAX)).dig) dp rn hd (kvT kv cl dp (2^dp)) x.nA x.nc]).length x.hc] 129,x.mT,x.mH,F,x.mo,x.G]):=by
 obtain ⟨hp1,hp16⟩:=qMS hdp
 have hcnt:cnt ((dp:Nat):Int)=2^dp:=qCs hdp
 have hcll:=hcl.len
 refine Ct.walk func67 O ntmps67 O (λw0 hw0=>?_)
 refine J.f λ_ j1=>J.b O<|J.c j1<|J.f λ_ j2=>J.b O<|J.g (qAB O O) O<|J.W 9 qBB sizeOf127 O O O O O<|J.a5 0 isAgg127 O O O O O<|J.q (qAa O O (λF' hF=>qL8 F' tA tg.length tc tg (hrt.sl.mono (Fa hF)) ht0 xB)) O λg18 _=>J.b O<|J.c j2<|J.f λ_ j3=>J.b O<|J.c j3<|J.p λ_ j4=>J.f λ_ j5=>J.b O<|J.g (qAB O O) O<|J.W 0 qBB z3_ O O O O O<|J.a5 0 b3_ O O O O O<|J.q (qAa O O (λF' hF=>by have:=qB9 F' ((dp:Nat):Int);rw [hcnt] at this;exact this)) O λg23 _=>J.b O<|J.c j5<|J.T<|J.b6 (X:=Nat×Nat×List TrD×Option Addr×Nat×Hp×Hp) (λζ=> [(0,Ptr gs),(3,Ptr ζ.2.1),(4,.slice ζ.2.2.2.1 ζ.2.2.1.length ζ.2.2.2.2.1),(23,I (2^dp:Nat)),(24,I (ζ.1:Nat))]) (λζ=> [ζ.2.2.2.2.2.2,ζ.2.2.2.2.2.1,blk gs [I (dp:Nat),v1,v2,.map (some nA),Ptr rA,.map (some nB),Ptr rB,.slice cA cl.length cc,.slice oA no.length oc,.slice tA tg.length tc,.slice hA hd.length hc] 129,mT,mH,F]) (λζ=>ζ.1≤2^dp∧ζ.2.2.1.length=ζ.1∧Row ζ.2.2.2.2.2.1 59 5 ζ.2.2.2.1 ζ.2.2.1.length ζ.2.2.2.2.1 (qJR ζ.2.2.1)∧(∀F',Le F F'→Le ζ.2.2.2.2.2.2 F'→qCQ F' ζ.2.1 (kvT kv cl dp ζ.1))∧(0<ζ.1→qCQ ζ.2.2.2.2.2.2 ζ.2.1 (kvT kv cl dp ζ.1))∧qOT ζ.2.2.2.2.2.2 kv cl dp ζ.2.2.1) (λζ=>2^dp-ζ.1) (0,tg.getD (tg.length-1) 0,[],none,0,(λ_=>none),(λ_=>none)) (⟨jF _,O,qBS.nil,λF' h1 _=>hT.mono h1,λh=>absurd h (Nat.lt_irrefl 0),qOT.nil _ _ _ _⟩) ⟨O,O,O,O,O,trivial⟩ (λ_ h=>h.empty.empty.pick [4,5,0,1,2,3] xC) ?_
 rintro⟨b,gu,tl,At,ct,mt,H⟩ ⟨hb,htl,hro,hu,hu1,hok⟩ I0 hI0
 dsimp only at hb htl hro hu hu1 hok⊢
 refine J.f λ_ j6=>J.g (qAQ O O O) O<|J.c j6<|J.p λ_ j7=>J.Z O (λh25=>?_) (λh25=>?_)
 ·
  refine J.M j7<|J.p λ_ j8=>J.T<|J.f λ_ j9=>J.j 2 O<|J.c j9<|J.f λ_ j10=>J.b O<|J.c j10<|J.p λ_ j11=>J.f λ_ j12=>J.b O<|J.g (qAB O O) O<|J.W 7 qBB sizeOf126 O O O O O<|J.a5 2 isAgg126 O O O O O<|J.g (qAP qFp O O) O<|J.b O<|J.c j12<|J.T<|J.b6 (X:=Nat×Option Addr×Nat×Hp×List Chg) (λζ=> [(0,Ptr gs),(3,Ptr gu),(4,.slice At tl.length ct),(5,I (b:Nat)),(6,.slice ζ.2.1 ζ.2.2.2.2.length ζ.2.2.1),(23,I (2^dp:Nat)),(24,I (b:Nat)),(30,.slice cA cl.length cc),(31,I (cl.length:Nat)),(32,I (ζ.1:Nat))]) (λζ=> [H,mt,blk gs [I (dp:Nat),v1,v2,.map (some nA),Ptr rA,.map (some nB),Ptr rB,.slice cA cl.length cc,.slice oA no.length oc,.slice tA tg.length tc,.slice hA hd.length hc] 129,mT,mH,F,ζ.2.2.2.1]) (λζ=>ζ.1≤cl.length∧Row ζ.2.2.2.1 155 2 ζ.2.1 ζ.2.2.2.2.length ζ.2.2.1 (qDU ζ.2.2.2.2)∧ζ.2.2.2.2=qDK (cl.take ζ.1) dp b) (λζ=>cl.length-ζ.1) (0,none,0,(λ_=>none),[]) (⟨jF _,qBS.nil,O⟩) ⟨O,O,O,O,O,O,O,O,O,O,trivial⟩ (λ_ h=>h.empty.pick [0,1,2,3,4,5,6] xC) ?_
  rintro⟨i,A6,c6,m6,l6⟩ ⟨hi,hr6,hl6⟩ I2 hI2
  dsimp only at hi hr6 hl6⊢
  refine J.f λ_ j13=>J.g (qAQ O O O) O<|J.c j13<|J.p λ_ j14=>J.Z O (λh33=>?_) (λh33=>?_)
  ·
   refine J.M j14<|J.p λ_ j15=>J.T<|J.p λ_ j16=>?_
   have hik:(cl.getD i qAs).k.length≤1000000:=by
    have:cl.getD i qAs∈cl:=by
     rw [jB,jC (show i<cl.length by omega)];exact jS _
    rw [hcl.k16 _ this];decide
   refine J.H<|J.g (qAF O O O qFp qFm hsC xB) O<|J.g (qAT O O isAgg155 qFm (m:=F) xD (hsC.elem (qG7 xB)) O) O<|J.q (qAJ O zeroValue155 O) O λg8 _=>J.a8 (qAD (i:=7) (l:= [Str [],Str []]) (vs:= [Str ((cl.getD i qAs).k),Str ((cl.getD i qAs).v)]) O O O O O qFm O O) O O λ_ _=>J.c j16<|J.p λ_ j17=>J.b1 [blk gs [I (dp:Nat),v1,v2,.map (some nA),Ptr rA,.map (some nB),Ptr rB,.slice cA cl.length cc,.slice oA no.length oc,.slice tA tg.length tc,.slice hA hd.length hc] 129,blk g8 [Str ((cl.getD i qAs).k),Str ((cl.getD i qAs).v)] 155] [] (.y 0 (.y 1 (.y 2 (.y 3 (.y 4 (.y 5 (.e 6 (.y 7 (.y 8 (.y 9 (.y 10 (.y 11 .nil)))))))))))) Tryz.wide xF xD ?_
   refine J.k O (qAA O O qK5 O z9_ O) O O<|J.k O (qAC 1 O O O b9_ O) O O<|J.L ?_
   refine J.k O (qAB O O) O O<|J.k O (qAA O O qBB O z3_ O) O O<|J.k O (qAC 0 O O O b3_ O) O O<|J.a2 O (qAa O O (λF' hF=>qUG F' ((cl.getD i qAs).k) (by first|omega|exact hsm _|exact jT O) dp xB)) O xD λg43 _=>J.L ?_
   refine J.c8 (I (ofV ((cl.getD i qAs).k) dp:Nat)) ?_
   refine J.c8 (I (ofE ((cl.getD i qAs).k):Nat)) ?_
   refine J.b7 ?_
   refine J.b7 ?_
   refine J.b0<|J.u (J.D j17 ?_)
   refine J.f λ_ j18=>J.j 2 O<|J.g (qAZ O O O) O<|J.c j18<|J.Z O (λh48=>?_) (λh48=>?_)
   ·
    have hl6l:l6.length≤cl.length:=by rw [hl6];exact jg (qG8 _ _ _) (by rw [jE];omega)
    refine J.H<|J.b O<|J.c0 7 isAgg155 qFm O O O O O<|J.q (qAE (l:= [.tmp 50]) (xs:= [[Str ((cl.getD i qAs).k),Str ((cl.getD i qAs).v)]]) O O O O qFp el155 O xC xC xD) O λg51 _=>J.q (qAW (i:=6) (m2:=blk g51 [Str ((cl.getD i qAs).k),Str ((cl.getD i qAs).v)] 155) O O O qFp qFp el155 O hr6 xD ((qAm (q:=True) (xs:=qDU [(cl.getD i qAs)]) O (by intro x hx;rw [List.mem_singleton.1 hx];rfl)).sl) O xB xB) O ?_
    rintro⟨A52,c52,m52⟩ h52
    try dsimp only at h52
    replace h52:Row m52 155 2 A52 (l6.length+1) c52 (qDU (l6++ [(cl.getD i qAs)])):=by rw [qH6];exact h52
    rw [show l6.length+1=(l6++ [(cl.getD i qAs)]).length by rw [jA];rfl] at h52⊢
    refine J.b O<|J.a4<|J.a1<|J.u (J.D j15 ?_)
    exact J.H<|J.g ((qAR O O O xB).nat (i+1) xB) O<|J.b O<|J.a4<|J.u<|J.a7 (i+1,A52,c52,m52,l6++ [cl.getD i qAs]) (λη (hη:_∧cl.length-η.1<cl.length-i)=>hI2 η hη.1 hη.2) ⟨⟨by dsimp only;omega,h52,by dsimp only;rw [qIA xB,if_pos xB,←hl6]⟩,by first|omega|(dsimp only;omega)⟩ ⟨O,O,O,O,O,O,O,O,O,O,trivial⟩ (λ_ h=>h.pick [0,1,2,3,4,5,6] xC)
   refine J.b2<|J.a1<|J.u (J.D j15 ?_)
   exact J.H<|J.g ((qAR O O O xB).nat (i+1) xB) O<|J.b O<|J.a4<|J.u<|J.a7 (i+1,A6,c6,m6,l6) (λη (hη:_∧cl.length-η.1<cl.length-i)=>hI2 η hη.1 hη.2) ⟨⟨by dsimp only;omega,hr6,by dsimp only;rw [qIA xB,if_neg xB];exact hl6⟩,by first|omega|(dsimp only;omega)⟩ ⟨O,O,O,O,O,O,O,O,O,O,trivial⟩ (λ_ h=>h.pick [0,1,2,3,4,5,6] xC)
  refine J.b4<|J.a0<|J.a0<|J.b5 ?_
  refine J.u (J.D j11 ?_)
  refine J.p λ_ j19=>?_
  obtain rfl:i=cl.length:=by omega
  rw [jn] at hl6
  subst hl6
  refine J.H<|J.j 3 O<|J.g (qAB O O) O<|J.W 0 qBB z3_ O O O O O<|J.a5 2 b3_ O O O O O<|J.b O<|J.q (qBV O O (λF' hF=>qRj F' (hK.mo hF) gu (kvT kv cl dp b) (hu F' (Fa hF) (Fa hF)) (qF1 hf hcl hkl dp xB) (qJ8 hcl hkl dp xB) b dp xB xB A6 (qDK cl dp b).length c6 (qDK cl dp b) (hr6.sl.mono (Fa hF)) (hcl.band dp b))) O ?_
  rintro r62 hp62
  refine J.j 4 O<|J.q (qAJ O zeroValue59 O) O λg11 _=>J.a8 (qAD (i:=10) (l:= [I 0,I 0,Str [],Str [],.slice none 0 0]) (vs:= [I (b:Nat),I (dp:Nat),Str (Sm.ndB (kvT kv cl dp b) (kF b dp) dp),Str (Sm.ndB (kvC (kvT kv cl dp b) (qDK cl dp b)) (kF b dp) dp),.slice r62.A r62.L.length r62.c]) O O O O O sizeOf59 O O) O O λ_ _=>J.j 2 O<|J.c j19 ?_
  obtain ⟨x,hx⟩: ∃x:TrD,x=⟨b,dp,Sm.ndB (kvT kv cl dp b) (kF b dp) dp,Sm.ndB (kvT kv cl dp (b+1)) (kF b dp) dp,r62.A,r62.c,r62.L⟩:=⟨_,rfl⟩
  refine J.H<|J.b O<|J.c0 10 isAgg59 sizeOf59 O O O O O<|J.q (qAE (l:= [.tmp 67]) (xs:= [[I (b:Nat),I (dp:Nat),Str (Sm.ndB (kvT kv cl dp b) (kF b dp) dp),Str (Sm.ndB (kvC (kvT kv cl dp b) (qDK cl dp b)) (kF b dp) dp),.slice r62.A r62.L.length r62.c]]) O O O O underlying53 el59 O xC xC xD) O λg68 _=>J.q (qAW (i:=1) (m2:=blk g68 [I (b:Nat),I (dp:Nat),Str (Sm.ndB (kvT kv cl dp b) (kF b dp) dp),Str (Sm.ndB (kvC (kvT kv cl dp b) (qDK cl dp b)) (kF b dp) dp),.slice r62.A r62.L.length r62.c] 59) O O O underlying53 underlying53 el59 O hro xD ((qAm (q:=True) (xs:=qJR [(⟨b,dp,Sm.ndB (kvT kv cl dp b) (kF b dp) dp,Sm.ndB (kvC (kvT kv cl dp b) (qDK cl dp b)) (kF b dp) dp,r62.A,r62.c,r62.L⟩:TrD)]) O (by intro x hx;rw [List.mem_singleton.1 hx];rfl)).sl) O xB xB) O ?_
  rintro⟨A69,c69,m69⟩ h69
  try dsimp only at h69
  replace h69:Row m69 59 5 A69 (tl.length+1) c69 (qJR (tl++ [x])):=by rw [qNX,hx];exact h69
  rw [show tl.length+1=(tl++ [x]).length by rw [jA];rfl] at h69⊢
  refine J.j 3 O<|J.c3 [0,7,8,9,1,2,3,4,5] [H,r62.mt,r62.ms,r62.M,m69,blk gs [I (dp:Nat),v1,v2,.map (some nA),Ptr rA,.map (some nB),Ptr rB,.slice cA cl.length cc,.slice oA no.length oc,.slice tA tg.length tc,.slice hA hd.length hc] 129,mT,mH,F] O xC<|J.d5 (λhj1=>?_)
  refine J.d5 (λhj2=>?_)
  refine J.d5 (λhj3=>?_)
  refine J.a4<|J.a1<|J.u (J.D j8 ?_)
  exact J.H<|J.g ((qAR O O O xB).nat (b+1) xB) O<|J.b O<|J.a4<|J.u<|J.a7 (b+1,r62.g,tl++ [x],A69,c69,m69,U [U [U [H,r62.mt],r62.ms],r62.M]) (λη (hη:_∧2^dp-η.1<2^dp-b)=>hI0 η hη.1 hη.2) ⟨⟨by dsimp only;omega,by dsimp only;rw [jA,htl];rfl,h69,λF' _ h2=>hp62.tree.at.mono ((qRP hj1).trans ((qGq hj2).trans ((qGq hj3).trans h2))),λ_=>hp62.tree.at.mono ((qRP hj1).trans ((qGq hj2).trans (qGq hj3))),(hok.mono ((qGq hj1).trans ((qGq hj2).trans (qGq hj3)))).snoc (by rw [htl,hx];exact⟨O,O,O,O,hp62.chg,hp62.ok,hp62.row.sl.mono ((qRP hj2).trans (qGq hj3)),hp62.bs.mono (qRP hj3)⟩)⟩,by first|omega|(dsimp only;omega)⟩ ⟨O,O,O,O,O,trivial⟩ (λ_ h=>h)
 refine J.b4<|J.a0<|J.a0<|J.b5 ?_
 refine J.u (J.D j4 ?_)
 refine J.p λ_ j20=>?_
 obtain rfl:b=2^dp:=by omega
 refine J.c3 [2,3,4,5,0,1] [blk gs [I (dp:Nat),v1,v2,.map (some nA),Ptr rA,.map (some nB),Ptr rB,.slice cA cl.length cc,.slice oA no.length oc,.slice tA tg.length tc,.slice hA hd.length hc] 129,mT,mH,F,H,mt] O xC<|J.H<|J.j 3 O<|J.q (qAa O O (λF' hF=>qJX F' gs (I (dp:Nat)) v1 v2 (.map (some nA)) (Ptr rA) (.map (some nB)) (Ptr rB) (.slice cA cl.length cc) (.slice oA no.length oc) (.slice tA tg.length tc) hA hd.length hc hd (hrh.sl.mono (Fa hF)) xB xB (qAG.blk0.mono (hF (blk gs [I (dp:Nat),v1,v2,.map (some nA),Ptr rA,.map (some nB),Ptr rB,.slice cA cl.length cc,.slice oA no.length oc,.slice tA tg.length tc,.slice hA hd.length hc] 129) xD)))) O λg75 _=>J.q (qAa O O (λF' hF=>qCS F' (hK.mo hF) (qA4 (hd.getD (hd.length-1) qAX)) (hd.getD (hd.length-1) qAX).nsA (hd.getD (hd.length-1) qAX).nsc hgd (hns.mono (Fa hF)))) O λg76 _=>J.q (qAK O O ent (Ct.useA [blk gs [I (dp:Nat),v1,v2,.map (some nA),Ptr rA,.map (some nB),Ptr rB,.slice cA cl.length cc,.slice oA no.length oc,.slice tA tg.length tc,.slice hA hd.length hc] 129,mT,mH] [F,H,mt] (A':=λx:AdR=> [blk gs [I (dp:Nat),v1,v2,.map (some nA),Ptr rA,.map (some nB),Ptr rB,.slice cA cl.length cc,.slice oA no.length oc,.slice x.tA (tg++ [gu]).length x.tc,.slice x.hA (hd++ [adH ((qA4 (hd.getD (hd.length-1) qAX)).dig) dp rn hd (kvT kv cl dp (2^dp)) x.nA x.nc]).length x.hc] 129,x.mT,x.mH]) (new:=λx=> [x.mN]) (λF' hF=>qPC F' mT mH (hK.mo hF) gs dp rB v1 v2 (.map (some nA)) (Ptr rA) (.map (some nB)) (.slice cA cl.length cc) (.slice oA no.length oc) tA tc tg hrt htg hA hc hd hrh hhd hdp gu (kvT kv cl dp (2^dp)) (hu F' (Fa hF) (Fa hF)) (qF1 hf hcl hkl dp xB) RA rn rc au (hR.mono (Fa hF)) (hRs.mono (Fa hF)) ((qA4 (hd.getD (hd.length-1) qAX)).dig)))) O ?_
 rintro r77 hp77
 refine J.c j20<|J.p λ_ j21=>?_
 have hu0:qLw (lbE nxt):=hun
 refine J.H<|J.j 2 O<|J.g (qAB O O) O<|J.W 5 qBB qCU O O O O O<|J.g (qAT O O isAgg124 qCU (m:=blk gs [I (dp:Nat),v1,v2,.map (some nA),Ptr rA,.map (some nB),Ptr rB,.slice cA cl.length cc,.slice oA no.length oc,.slice r77.tA (tg++ [gu]).length r77.tc,.slice r77.hA (hd++ [adH ((qA4 (hd.getD (hd.length-1) qAX)).dig) dp rn hd (kvT kv cl dp (2^dp)) r77.nA r77.nc]).length r77.hc] 129) xD (qAG.blk0.sub 5 2) O) O<|J.q (qBV O O (λF' hF=>qMH F' nB rB nxt (hm.mono (Fa hF)) (hl.mono (Fa hF)) hu0 hln RA rn rc au (hR.mono (Fa hF)) (hRs.mono (Fa hF)) hrn)) O ?_
 rintro r83 hp83
 refine J.g (qAB O O) O<|J.W 3 qBB qCU O O O O O<|J.a8 (qAV (i:=0) O O O O O qCU O xD) O O λ_ _=>J.c j21<|J.f λ_ j22=>J.j 2 O<|J.g (qAB O O) O<|J.W 7 qBB sizeOf126 O O O O O<|J.a8 (qAV (i:=0) (l:= [I (dp:Nat),v1,v2,.map (some r83.g),Ptr r83.r,.map (some nB),Ptr rB,.slice cA cl.length cc,.slice oA no.length oc,.slice r77.tA (tg++ [gu]).length r77.tc,.slice r77.hA (hd++ [adH ((qA4 (hd.getD (hd.length-1) qAX)).dig) dp rn hd (kvT kv cl dp (2^dp)) r77.nA r77.nc]).length r77.hc]) (vs:= [.slice none 0 0]) O O O O O sizeOf126 O xD) O O λ_ _=>J.g (qAB O O) O<|J.W 8 qBB qBt O O O O O<|J.a8 (qAV (i:=0) (l:= [I (dp:Nat),v1,v2,.map (some r83.g),Ptr r83.r,.map (some nB),Ptr rB,.slice none 0 0,.slice oA no.length oc,.slice r77.tA (tg++ [gu]).length r77.tc,.slice r77.hA (hd++ [adH ((qA4 (hd.getD (hd.length-1) qAX)).dig) dp rn hd (kvT kv cl dp (2^dp)) r77.nA r77.nc]).length r77.hc]) (vs:= [.slice none 0 0]) O O O O O qBt O xD) O O λ_ _=>J.c j22<|J.f λ_ j23=>J.j 2 O<|J.c3 [4,6,7,8,9,5,0,1,2,3] [H,r77.mN,r83.mm,r83.M,r83.mr,mt,blk gs [I (dp:Nat),v1,v2,.map (some r83.g),Ptr r83.r,.map (some nB),Ptr rB,.slice none 0 0,.slice none 0 0,.slice r77.tA (tg++ [gu]).length r77.tc,.slice r77.hA (hd++ [adH ((qA4 (hd.getD (hd.length-1) qAX)).dig) dp rn hd (kvT kv cl dp (2^dp)) r77.nA r77.nc]).length r77.hc] 129,r77.mT,r77.mH,F] O xC<|J.d5 (λhj1=>?_)
 refine J.d5 (λhj2=>?_)
 refine J.d5 (λhj3=>?_)
 refine J.d5 (λhj4=>?_)
 exact J.c j23<|J.A<|J.E hw0 O (⟨r77.tA,r77.tc,r77.mT,r77.hA,r77.hc,r77.mH,r77.nA,r77.nc,gu,tl,At,ct,mt,r83.g,r83.r,r83.ls,U [U [U [U [H,r77.mN],r83.mm],r83.M],r83.mr]⟩:StR) O ⟨hp77.nd.sl.mono ((qRP hj1).trans ((qGq hj2).trans ((qGq hj3).trans (qGq hj4)))),hp77.rt,hp77.rh,(hu1 xB).mono ((qGq hj1).trans ((qGq hj2).trans ((qGq hj3).trans (qGq hj4)))),htl,hro,hok.mono ((qGq hj1).trans ((qGq hj2).trans ((qGq hj3).trans (qGq hj4)))),hp83.mp.at.mono ((qRP hj2).trans ((qGq hj3).trans (qGq hj4))),hp83.nx.at.mono ((qRP hj3).trans (qGq hj4)),hp83.pm,by obtain ⟨A3,n3,c3,q1,q2,_⟩:=hp83.ro.see;exact⟨A3,n3,c3,q1.mono (qRP hj4),q2.mono (qRP hj4)⟩⟩ [2,3,4,5,1,0] O xC
structure SvR where
 gs:Nat
 dp:Nat
 nA:Nat
 rA:Nat
 nB:Nat
 rB:Nat
 gb:Nat
 nxt:List Lb
 now:List Lb
 cA:Option Addr
 cc:Nat
 cl:List Chg
 oA:Option Addr
 oc:Nat
 no:List xA
 tA:Option Addr
 tc:Nat
 tg:List Nat
 hA:Option Addr
 hc:Nat
 hd:List RhD
 mX:Hp
 NX:Hp
 mC:Hp
 mO:Hp
 mT:Hp
 mH:Hp
 md:Hp
 N:Hp
 bk:CbR
 kv:List (List Sm.PR)
 aud:List Aud
 audN:List Aud
abbrev SvR.sb(x:SvR):Hp:=blk x.gs [I (x.dp:Nat),Ptr x.gb,.bool false,.map (some x.nA),Ptr x.rA,.map (some x.nB),Ptr x.rB,.slice x.cA x.cl.length x.cc,.slice x.oA x.no.length x.oc,.slice x.tA x.tg.length x.tc,.slice x.hA x.hd.length x.hc] 129
def SvR.hs(x:SvR):List Hp:= [x.sb,x.mX,x.NX,x.mC,x.mO,x.mT,x.mH,x.bk.blk x.gb,x.md,x.N]
abbrev SvR.kvL(x:SvR):List Sm.PR:=x.kv.getD (x.tg.length-1) []
abbrev SvR.hdL(x:SvR):RhD:=x.hd.getD (x.hd.length-1) qAX
def qRL(G:Hp)(g:Nat)(au:List Aud):Prop:= ∃RA rn rc,qAG G ⟨g,0,none⟩ [.slice RA rn rc]∧Sl G 4 RA rn rc (qBf au)
theorem qRL.mono{G G':Hp}{g:Nat}{au:List Aud}(h:qRL G g au)(hl:Le G G'):qRL G' g au:=by
 obtain ⟨A,n,c,h1,h2⟩:=h
 exact⟨A,n,c,h1.mono hl,h2.mono hl⟩
abbrev nsl(G:Hp)(h:RhD):Prop:=Sl G 1 h.nsA h.ns.length h.nsc (qAH h.ns)
structure SvP (G:Hp) (x:SvR):Prop where
 mx:Fw.MapS x.mX x.nB (lbV x.nxt)
 nx:NxS x.NX x.nxt
 rc:Row x.mC 155 2 x.cA x.cl.length x.cc (qDU x.cl)
 ro:Row x.mO 9 1 x.oA x.no.length x.oc (qAH x.no)
 rt:Row x.mT 130 1 x.tA x.tg.length x.tc (qDT x.tg)
 rh:Row x.mH 52 5 x.hA x.hd.length x.hc (qDC x.hd)
 bk:CbP x.N x.md x.bk
 nw:Fw.MapAt G x.nA (lbV x.now)
 nl:LbA G x.now
 ra:qRL G x.rA x.aud
 rb:qRL G x.rB x.audN
 tr: ∀i,i<x.tg.length→qCQ G (x.tg.getD i 0) (x.kv.getD i [])
 hn: ∀i,i<x.hd.length→nsl G (x.hd.getD i qAX)
theorem SvP.mono{G G':Hp}{x:SvR}(h:SvP G x)(hl:Le G G'):SvP G' x:=
 {h with nw:=h.nw.mono hl,nl:=h.nl.mono hl,ra:=h.ra.mono hl,rb:=h.rb.mono hl,tr:=λi hi=>(h.tr i hi).mono hl,hn:=λi hi=>(h.hn i hi).mono hl}
structure SvI (x:SvR):Prop where
 dp:x.dp≤4
 un:qLw (lbE x.nxt)
 uw:qLw (lbE x.now)
 ln: ∀y∈x.nxt,y.l.length≤1000
 lw: ∀y∈x.now,y.l.length≤1000
 cl:qWe x.cl
 n9: ∀s∈x.no,s.length≤900
 nc:x.no.length=x.cl.length
 t0:0<x.tg.length
 t1:x.tg.length≤15
 th:x.hd.length=x.tg.length
 tk:x.kv.length=x.tg.length
 kf:qCE x.kvL
 kl:x.kvL.length≤5000*x.tg.length
 hg:(qA4 x.hdL).good
 al:x.aud.length≤64
 an:x.audN.length≤64
 sz:x.bk.size≤1000
 re:x.bk.R.length≤x.bk.e
theorem lastD(l:List RhD)(x:RhD):(l++ [x]).getD ((l++ [x]).length-1) qAX=x:=by
 rw [jA,jL,Nat.add_sub_cancel,jB,jd (jK _),zB];rfl
theorem qML{x:RhD}(h1:x.ep≤1000)(h2:x.par.length≤16)(h3:x.ns.length≤16):(qA4 x).good:=⟨by show x.ep<_;omega,by show x.par.length≤_;omega,by show x.ns.length≤_;omega⟩
theorem qUb(F:Hp)(hK:qAG F ⟨3,0,none⟩ (Sha.K.map W32))(x:SvR)(hI:SvI x)(hP:SvP F x)(h1:Le x.mX F)(h2:Le x.NX F)(h3:Le x.mC F)(h4:Le x.mO F)(hfit:x.bk.e+qC2 (x.no++ [cmB x.no.length x.hd.length])≤x.bk.size):Ct prog 14 [Ptr x.gs] [x.sb,x.mT,x.mH,x.bk.blk x.gb,x.md,x.N,F] (λr:StR×WrR=> .tuple #[.agg #[N64 x.hd.length,Str (qA4 x.hdL).dig,I (x.dp:Nat),I (x.audN.length:Nat),.slice r.1.nA (qAr (kvT x.kvL x.cl x.dp (2^x.dp)) x.dp).length r.1.nc],.slice r.1.At r.1.tl.length r.1.ct,I (0:Nat)]) (λr=>StP x.kvL x.cl x.nxt x.audN (qA4 x.hdL).dig x.dp x.audN.length x.tg x.hd r.1∧CbP r.2.N r.2.md r.2.x∧CbL x.bk r.2.x (x.no++ [cmB x.no.length x.hd.length])) (λr=> [blk x.gs [I (x.dp:Nat),Ptr x.gb,.bool false,.map (some r.1.cg),Ptr r.1.cr,.map (some x.nB),Ptr x.rB,.slice none 0 0,.slice none 0 0,.slice r.1.tA (x.tg++ [r.1.gu]).length r.1.tc,.slice r.1.hA (x.hd++ [adH ((qA4 x.hdL).dig) x.dp x.audN.length x.hd (kvT x.kvL x.cl x.dp (2^x.dp)) r.1.nA r.1.nc]).length r.1.hc] 129,r.1.mT,r.1.mH,r.2.x.blk x.gb,r.2.md,r.2.N,F,r.1.G,r.1.mo]):=by
 obtain ⟨RA,rn,rc,hR,hRs⟩:=hP.rb
 obtain rfl:x.audN.length=rn:=by have:=hRs.1;rw [qDo] at this;exact this
 have hef:=hP.bk.ef
 have i1:=hI.sz
 have i2:=hI.re
 have i3:=hI.nc
 have i4:=hI.cl.len
 have i5:=hI.t1
 have i6:=hI.th
 have i7:=hI.t0
 have i8:=hI.kl
 have i9:=hI.an
 refine Ct.walk func14 O ntmps14 O (λw0 hw0=>?_)
 refine J.f λ_ j1=>J.q (qAJ O qWC O) O λg2 _=>J.j 2 O<|J.c j1<|J.p λ_ j2=>J.T<|J.f λ_ j3=>J.b O<|J.g (qA2 qWs O O O) O<|J.b O<|J.c j3<|J.a3 ?_
 refine J.f λ_ j4=>J.b O<|J.g (qAB O O) O<|J.W 2 qBB z4_ O O O O O<|J.a5 0 b4_ O O O O O<|J.b O<|J.c j4<|J.a3 ?_
 refine J.b2<|J.a1<|J.u (J.D j2 ?_)
 refine J.p λ_ j5=>J.p λ_ j6=>J.c3 [3,4,5,0,1,2,6,7] [(x.bk.blk x.gb),x.md,x.N,blk x.gs [I (x.dp:Nat),Ptr x.gb,.bool false,.map (some x.nA),Ptr x.rA,.map (some x.nB),Ptr x.rB,.slice x.cA x.cl.length x.cc,.slice x.oA x.no.length x.oc,.slice x.tA x.tg.length x.tc,.slice x.hA x.hd.length x.hc] 129,x.mT,x.mH,F,blk g2 [.int .u64 0,Str [],I 0,I 0,.slice none 0 0] 52] O xC<|J.H<|J.b O<|J.q (qAK O O ent (Ct.useA [x.bk.blk x.gb,x.md,x.N] [blk x.gs [I (x.dp:Nat),Ptr x.gb,.bool false,.map (some x.nA),Ptr x.rA,.map (some x.nB),Ptr x.rB,.slice x.cA x.cl.length x.cc,.slice x.oA x.no.length x.oc,.slice x.tA x.tg.length x.tc,.slice x.hA x.hd.length x.hc] 129,x.mT,x.mH,F,blk g2 [.int .u64 0,Str [],I 0,I 0,.slice none 0 0] 52] (A':=λy:WrR=> [y.x.blk x.gb,y.md,y.N]) (new:=λ_=> []) (λF' hF=>qOz F' x.md x.N (hK.mo hF) x.gs x.gb _ _ _ _ _ _ _ _ x.oA x.oc x.no (hP.ro.sl.mono (h4.trans (Fa hF))) xB hI.n9 x.hA x.hd.length x.hc xB (qAG.blk0.mono (hF (blk x.gs [I (x.dp:Nat),Ptr x.gb,.bool false,.map (some x.nA),Ptr x.rA,.map (some x.nB),Ptr x.rB,.slice x.cA x.cl.length x.cc,.slice x.oA x.no.length x.oc,.slice x.tA x.tg.length x.tc,.slice x.hA x.hd.length x.hc] 129) xD)) x.bk hP.bk hfit xB xB))) O ?_
 rintro r18 ⟨hb18,hL18⟩
 refine J.b O<|J.c j6<|J.f λ_ j7=>J.b O<|J.g ((qAY O O O).no xC) O<|J.c j7<|J.a3 ?_
 refine J.M j5<|J.p λ_ j8=>J.c3 [3,4,5,6,7,0,1,2] [blk x.gs [I (x.dp:Nat),Ptr x.gb,.bool false,.map (some x.nA),Ptr x.rA,.map (some x.nB),Ptr x.rB,.slice x.cA x.cl.length x.cc,.slice x.oA x.no.length x.oc,.slice x.tA x.tg.length x.tc,.slice x.hA x.hd.length x.hc] 129,x.mT,x.mH,F,blk g2 [.int .u64 0,Str [],I 0,I 0,.slice none 0 0] 52,(r18.x.blk x.gb),r18.md,r18.N] O xC<|J.H<|J.b O<|J.q (qAK O O ent (Ct.useA [blk x.gs [I (x.dp:Nat),Ptr x.gb,.bool false,.map (some x.nA),Ptr x.rA,.map (some x.nB),Ptr x.rB,.slice x.cA x.cl.length x.cc,.slice x.oA x.no.length x.oc,.slice x.tA x.tg.length x.tc,.slice x.hA x.hd.length x.hc] 129,x.mT,x.mH] [F,blk g2 [.int .u64 0,Str [],I 0,I 0,.slice none 0 0] 52,(r18.x.blk x.gb),r18.md,r18.N] (A':=λr:StR=> [blk x.gs [I (x.dp:Nat),Ptr x.gb,.bool false,.map (some r.cg),Ptr r.cr,.map (some x.nB),Ptr x.rB,.slice none 0 0,.slice none 0 0,.slice r.tA (x.tg++ [r.gu]).length r.tc,.slice r.hA (x.hd++ [adH ((qA4 x.hdL).dig) x.dp x.audN.length x.hd (kvT x.kvL x.cl x.dp (2^x.dp)) r.nA r.nc]).length r.hc] 129,r.mT,r.mH]) (new:=λr=> [r.mo,r.G]) (λF' hF=>qNc F' x.mT x.mH (hK.mo hF) x.gs x.dp x.nA x.rA x.nB x.rB (Ptr x.gb) (.bool false) x.tA x.tc x.tg hP.rt xB x.hA x.hc x.hd hP.rh xB hI.dp x.cA x.cc x.cl (hP.rc.sl.mono (h3.trans (Fa hF))) hI.cl x.oA x.oc x.no x.nxt (hP.mx.at.mono (h1.trans (Fa hF))) (hP.nx.at.mono (h2.trans (Fa hF))) hI.un (λy hy=>jg (hI.ln y hy) xC) RA _ rc x.audN (hR.mono (Fa hF)) (hRs.mono (Fa hF)) xB hI.t0 xB x.kvL ((hP.tr _ xB).mono (Fa hF)) hI.kf xB hI.hg ((hP.hn _ xB).mono (Fa hF))))) O ?_
 rintro r24 hp24
 refine J.b O<|J.c j8<|J.f λ_ j9=>J.b O<|J.q (qAa O O (λF' hF=>qJX F' x.gs _ _ _ _ _ _ _ _ _ _ r24.hA (x.hd++ [(adH ((qA4 x.hdL).dig) x.dp x.audN.length x.hd (kvT x.kvL x.cl x.dp (2^x.dp)) r24.nA r24.nc)]).length r24.hc (x.hd++ [(adH ((qA4 x.hdL).dig) x.dp x.audN.length x.hd (kvT x.kvL x.cl x.dp (2^x.dp)) r24.nA r24.nc)]) (hp24.rh.sl.mono (Fa hF)) (by rw [jA];exact Nat.succ_pos _) (by rw [jA,jL];omega) (qAG.blk0.mono (hF (blk x.gs [I (x.dp:Nat),Ptr x.gb,.bool false,.map (some r24.cg),Ptr r24.cr,.map (some x.nB),Ptr x.rB,.slice none 0 0,.slice none 0 0,.slice r24.tA (x.tg++ [r24.gu]).length r24.tc,.slice r24.hA (x.hd++ [adH ((qA4 x.hdL).dig) x.dp x.audN.length x.hd (kvT x.kvL x.cl x.dp (2^x.dp)) r24.nA r24.nc]).length r24.hc] 129) xD)))) O λg26 _=>?_
 rw [lastD]
 exact J.b O<|J.a8 (qAD (i:=4) (l:= [.int .u64 0,Str [],I 0,I 0,.slice none 0 0]) (vs:= [N64 (x.hd.length),Str ((qA4 x.hdL).dig),I (x.dp:Nat),I (x.audN.length:Nat),.slice r24.nA (qAr (kvT x.kvL x.cl x.dp (2^x.dp)) x.dp).length r24.nc]) O O O O O qC6 O O) O O λ_ _=>J.j 2 O<|J.c j9<|J.A<|J.a9 hw0 (λ_ _ h=>h) (rv3 O (RV.blkA 4 O O qFl qC6) O O) (qAg (r24,r18) O ⟨hp24,hb18,hL18⟩ [0,1,2,5,6,7,3,9,8] O xC)
structure Srv (m G:Hp) (x:SvR):Prop where
 eq:m=U x.hs
 dj:Djs x.hs
 p:SvP G x
 i:SvI x
theorem Srv.mono{m G G':Hp}{x:SvR}(h:Srv m G x)(hl:Le G G'):Srv m G' x:={h with p:=h.p.mono hl}
theorem Srv.le{m G:Hp}{x:SvR}(h:Srv m G x){a:Hp}(ha:a∈x.hs):Le a m:=by rw [h.eq];exact qFV h.dj ha
def SvR.sub(x:SvR)(s:xA)(en:En)(nt:xA)(ch:Chg)(r:SbR):SvR:=
 {x with nxt:=x.nxt++ [⟨s,r.A,r.c,[en],r.mE⟩],cl:=x.cl++ [ch],no:=x.no++ [nt],mX:=r.mX,NX:=U [x.NX,r.mE],mC:=r.w.mC,cA:=r.w.cA,cc:=r.w.cc,mO:=r.w.mO,oA:=r.w.oA,oc:=r.w.oc}
theorem qOo{l:LE}{s:xA}{v:List En}(h:qLw l)(hn:s∉l.map Prod.fst):qLw (l++ [(s,v)]):=by
 unfold qLw
 rw [jO,List.nodup_append]
 refine⟨h,by simp,λa ha b hb=>?_⟩
 rw [List.mem_singleton.1 hb]
 rintro rfl
 exact hn ha
theorem SvI.sub1{x:SvR}(h:SvI x){s:xA}{A:Option Addr}{c:Nat}{l:List En}{m:Hp}(hg:qCp x.nxt s=none):qLw (lbE (x.nxt++ [⟨s,A,c,l,m⟩])):=by
 rw [qMs]
 exact qOo h.un (qH1.1 hg)
theorem SvI.sub2{x:SvR}(h:SvI x){s:xA}{A:Option Addr}{c:Nat}{e:En}{m:Hp}: ∀y∈x.nxt++ [(⟨s,A,c,[e],m⟩:Lb)],y.l.length≤1000:=λy hy=>by
 rcases List.mem_append.1 hy with hy|hy
 · exact h.ln y hy
 · rw [List.mem_singleton.1 hy];exact jT O
theorem SvI.sub3{x:SvR}(h:SvI x){ch:Chg}(hc:x.cl.length<256)(hk:ch.k.length=16)(hv:ch.v.length≤1000000):qWe (x.cl++ [ch]):=by
  refine⟨?_,λy hy=>?_,λy hy=>?_⟩
  · rw [jA,jL];omega
  · rcases List.mem_append.1 hy with hy|hy
    · exact h.cl.k16 y hy
    · rw [List.mem_singleton.1 hy];exact hk
  · rcases List.mem_append.1 hy with hy|hy
    · exact h.cl.val y hy
    · rw [List.mem_singleton.1 hy];exact hv
theorem SvI.sub4{x:SvR}(h:SvI x){nt:xA}(hn:nt.length≤900): ∀s∈x.no++ [nt],s.length≤900:=λy hy=>by
 rcases List.mem_append.1 hy with hy|hy
 · exact h.n9 y hy
 · rw [List.mem_singleton.1 hy];exact hn
theorem SvI.sub5{x:SvR}(h:SvI x){nt:xA}{ch:Chg}:(x.no++ [nt]).length=(x.cl++ [ch]).length:=by
 rw [jA,jA,h.nc];rfl
theorem SvI.sub{x:SvR}(h:SvI x){s:xA}{en:En}{nt:xA}{ch:Chg}{r:SbR}(hg:qCp x.nxt s=none)(hc:x.cl.length<256)(hk:ch.k.length=16)(hv:ch.v.length≤1000000)(hn:nt.length≤900):SvI (x.sub s en nt ch r):=
 {dp:=h.dp,uw:=h.uw,lw:=h.lw,t0:=h.t0,t1:=h.t1,th:=h.th,tk:=h.tk,kf:=h.kf,kl:=h.kl,hg:=h.hg,al:=h.al,an:=h.an,sz:=h.sz,re:=h.re,un:=SvI.sub1 h hg,ln:=SvI.sub2 h,cl:=SvI.sub3 h hc hk hv,n9:=SvI.sub4 h hn,nc:=SvI.sub5 h}
theorem qRr{w0:Wd}{w:World}{a b:Hp}{r:List Hp}(h:St w0 (a::b::r) w):Dj a b∧St w0 (U [a,b]::r) w:=⟨h.dj2,h.joinU⟩
abbrev SvR.e1(x:SvR):xA→Nat→xA→xA→Int→xA→Nat→List xA→List xA→SbR→SvR:=λs v o r h p i ch pt y=>
 x.sub s ⟨v,o,r,h,p⟩ (117::upB s (qBG v o r h p) (sgB i ch pt)) ⟨Sha.tagged 11 [s],qCr v o r h p⟩ y
theorem qUa(F m G:Hp)(hK:qAG F ⟨3,0,none⟩ (Sha.K.map W32))(hGF:Le G F)(x:SvR)(hS:Srv m G x)(s:xA)(hs2:s.length≤200)(v:Nat)(o r:xA)(h:Int)(p:xA)(hE:qBg v o r h p=0)(i:Nat)(A1:Option Addr)(n1 c1:Nat)(ch:List xA)(hch:Sl F 1 A1 n1 c1 (qAH ch))(A2:Option Addr)(n2 c2:Nat)(pt:List xA)(hpt:Sl F 1 A2 n2 c2 (qAH pt))(hi:i≤63)(h35:ch.length=35)(hn6:pt.length≤6)(hc16: ∀s∈ch,s.length=16)(hp16: ∀s∈pt,s.length=16)(hp3:pt.length≤3)(hno2:x.no.length<256)(hg0:qCp x.nxt s=none)
    (hJ: ∀F':Hp,Le F F'→Cz prog 103 [.agg #[Str s,N64 (v),Str (o),Str (r),I (h),Str (p),I (i:Nat),.slice A1 n1 c1,.slice A2 n2 c2],.bool false,.agg #[.int .u64 0,Str [],Str [],I 0,Str []]] F' (I (0:Nat))):
    Ct prog 36 [Ptr x.gs,.agg #[Str s,N64 (v),Str (o),Str (r),I (h),Str (p),I (i:Nat),.slice A1 n1 c1,.slice A2 n2 c2]] [m,F] (λ_:Hp×SbR=>I (0:Nat)) (λy=>Srv y.1 G (x.e1 s v o r h p i ch pt y.2)) (λy=> [y.1,F]):=λw0 w hw=>by
  have hP:=hS.p
  have hI:=hS.i
  have hcl:=hI.cl.len
  have hnc:=hI.nc
  rw [hS.eq] at hw
  have h1:=(hw.splitUs hS.dj).pick [0,1,2,3,4,5,6,7,8,9,10] xC
  refine(Ct.useA [x.sb,x.mX,x.NX,x.mC,x.mO] [x.mT,x.mH,x.bk.blk x.gb,x.md,x.N,F] (A':=λy:SbR=> [blk x.gs [I (x.dp:Nat),Ptr x.gb,.bool false,.map (some x.nA),Ptr x.rA,.map (some x.nB),Ptr x.rB,.slice y.w.cA (x.cl++ [(⟨Sha.tagged 11 [s],qCr v o r h p⟩:Chg)]).length y.w.cc,.slice y.w.oA (x.no++ [117::(upB s (qBG v o r h p) (sgB i ch pt))]).length y.w.oc,.slice x.tA x.tg.length x.tc,.slice x.hA x.hd.length x.hc] 129,y.mX,x.NX,y.w.mC,y.w.mO]) (new:=λy=> [y.mE]) (λF' hF=>qRs F' x.mX x.NX x.mC x.mO (hK.mo hF) x.gs x.nB _ _ _ _ _ _ _ _ x.cA x.cc x.cl hP.rc xB x.oA x.oc x.no hP.ro xB x.nxt hP.mx hP.nx s hs2 v o r h p hE i A1 n1 c1 ch (hch.mono (Fa hF)) A2 n2 c2 pt (hpt.mono (Fa hF)) hi h35 hn6 hc16 hp16 hp3 hno2 hg0 (λF2 h2=>hJ F2 ((hF F xD).trans h2))) w0 w h1).mono λe w' ⟨y,he,⟨q1,q2,q3,q4⟩,hst⟩=>?_
  have h2:=qRr (hst.pick [2,11,0,1,3,4,5,6,7,8,9,10] xC)
  have h3:=St.joinUs (A:=(x.e1 s v o r h p i ch pt y).hs) (r:= [F]) (h2.2.pick [1,2,0,3,4,5,6,7,8,9,10] xC)
  have hsg:=qIR (i:=i) hc16 hp16 h35
  have hul:=qII s (qBG v o r h p) (sgB i ch pt)
  have hel:=qB8 hE
  refine⟨(U (x.e1 s v o r h p i ch pt y).hs,y),he,⟨O,h3.1,⟨q1,hP.nx.snoc (l:= [⟨v,o,r,h,p⟩]) q2 h2.1,q3,q4,hP.rt,hP.rh,hP.bk,hP.nw,hP.nl,hP.ra,hP.rb,hP.tr,hP.hn⟩,hI.sub hg0 xB (Sha.tagged_length _ _) ?_ ?_⟩,h3.2⟩
  · show(qCr v o r h p).length≤_
    unfold qCr;rw [if_pos hE,Sha.tagged_length];decide
  · show(_::_).length≤900
    rw [jD];omega
def SvR.pub(x:SvR)(r:StR×WrR):SvR:=
 {x with nA:=r.1.cg,rA:=r.1.cr,now:=r.1.cl,aud:=x.audN,cA:=none,cc:=0,cl:= [],oA:=none,oc:=0,no:= [],tA:=r.1.tA,tc:=r.1.tc,tg:=x.tg++ [r.1.gu],hA:=r.1.hA,hc:=r.1.hc,hd:=x.hd++ [adH (qA4 x.hdL).dig x.dp x.audN.length x.hd (kvT x.kvL x.cl x.dp (2^x.dp)) r.1.nA r.1.nc],mC:=λ_=>none,mO:=λ_=>none,mT:=r.1.mT,mH:=r.1.mH,md:=r.2.md,N:=r.2.N,bk:=r.2.x,kv:=x.kv++ [(kvT x.kvL x.cl x.dp (2^x.dp))]}
theorem qQY{α:Type}(l:List α)(x no:α):(l++ [x]).getD ((l++ [x]).length-1) no=x:=by
 rw [jA,jL,Nat.add_sub_cancel,jB,jd (jK _),zB];rfl
theorem qE4{α:Type}(l:List α)(x no:α){i:Nat}(h:i<l.length):(l++ [x]).getD i no=l.getD i no:=by
 rw [jB,jb h,←jB]
theorem qF3{α:Type}(l:List α)(x no:α){i:Nat}(h:i=l.length):(l++ [x]).getD i no=x:=by
 rw [h,jB,jd (jK _),zB];rfl
theorem SvR.pub_kvL(x:SvR)(r:StR×WrR)(h:x.kv.length=x.tg.length):(x.pub r).kvL=(kvT x.kvL x.cl x.dp (2^x.dp)):=by
 show(x.kv++ [_]).getD ((x.tg++ [_]).length-1) []=_
 refine qF3 _ _ _ ?_
 rw [jA,jL,h];omega
theorem SvR.pub_hdL(x:SvR)(r:StR×WrR):(x.pub r).hdL=adH (qA4 x.hdL).dig x.dp x.audN.length x.hd (kvT x.kvL x.cl x.dp (2^x.dp)) r.1.nA r.1.nc:=qQY _ _ _
theorem SvI.pub{x:SvR}(h:SvI x)(r:StR×WrR)(ht:x.tg.length<15)(hp:StP x.kvL x.cl x.nxt x.audN (qA4 x.hdL).dig x.dp x.audN.length x.tg x.hd r.1)(hL:CbL x.bk r.2.x (x.no++ [cmB x.no.length x.hd.length]))(hn1: ∀s∈x.no,1≤qBX s.length):SvI (x.pub r):=by
  have h4:=h.dp
  have h5:=h.cl.len
  obtain ⟨_,h16⟩:=qMS h4
  have hkl:=h.kl
  have hth:=h.th
  have htk:=h.tk
  refine{dp:=h.dp,un:=h.un,ln:=h.ln,cl:=⟨jF _,(λy hy=>by cases hy),(λy hy=>by cases hy)⟩,n9:=(λy hy=>by cases hy),nc:=rfl,al:=h.an,an:=h.an,uw:=?_,lw:=?_,t0:=?_,t1:=?_,th:=?_,tk:=?_,kf:=?_,kl:=?_,hg:=?_,sz:=?_,re:=?_}
  · exact(hp.pm.map _).nodup_iff.2 h.un
  · intro y hy
    have:(y.nm,y.l)∈lbE x.nxt:=hp.pm.subset (List.mem_map.2 ⟨y,hy,O⟩)
    obtain ⟨z,hz,e⟩:=List.mem_map.1 this
    have:=h.ln z hz
    rw [show y.l=z.l from(congrArg Prod.snd e).symm];exact this
  · show 0<(x.tg++ [_]).length
    rw [jA];exact Nat.succ_pos _
  · show(x.tg++ [_]).length≤15
    rw [jA,jL];omega
  · show(x.hd++ [_]).length=(x.tg++ [_]).length
    rw [jA,jA,hth];rfl
  · show(x.kv++ [_]).length=(x.tg++ [_]).length
    rw [jA,jA,htk];rfl
  · rw [x.pub_kvL r htk]
    exact qF1 h.kf h.cl xB _ h16
  · rw [x.pub_kvL r htk]
    show _≤5000*(x.tg++ [_]).length
    rw [jA,jL]
    have:=qLa x.kvL x.cl x.dp (2^x.dp)
    have h6:2^x.dp*x.cl.length≤16*256:=Nat.mul_le_mul h16 h5
    omega
  · rw [x.pub_hdL r]
    refine qML ?_ (qQk _) ?_
    · show x.hd.length≤_;omega
    · show(qAr _ x.dp).length≤16
      unfold qAr;rw [qBz];exact h16
  · show r.2.x.size≤_;rw [hL.sz];exact h.sz
  · show r.2.x.R.length≤r.2.x.e
    rw [hL.R,hL.e,jA,jA,jL,qC1]
    have h7: ∀l:List xA,(∀s∈l,1≤qBX s.length)→l.length≤qC2 l:=λl hl=>by
      induction l with
      |nil=>exact jF _
      |cons a l ih=>
        have h8:=hl a (.head _)
        have h9:=ih λs hs=>hl s (.tail _ hs)
        unfold qC2 at h9⊢
        rw [jf,List.sum_cons,jD];omega
    have h8:=h7 x.no hn1
    have h9:=qFM (cmB x.no.length x.hd.length).length
    have:=h.re
    omega
structure PbP (m' G G2:Hp) (x:SvR) (r:StR×WrR):Prop where
 s: ∀G3,Le G G3→Le G2 G3→Srv m' G3 (x.pub r)
 ns:nsl G2 (x.pub r).hdL
 len:r.1.tl.length=2^x.dp
 ro:Row r.1.mo 59 5 r.1.At r.1.tl.length r.1.ct (qJR r.1.tl)
 ok:qOT G2 x.kvL x.cl x.dp r.1.tl
 bk:CbL x.bk r.2.x (x.no++ [cmB x.no.length x.hd.length])
 pm:(lbE r.1.cl).Perm (lbE x.nxt)
theorem qVC(F m G:Hp)(hK:qAG F ⟨3,0,none⟩ (Sha.K.map W32))(hGF:Le G F)(x:SvR)(hS:Srv m G x)(ht:x.tg.length<15)(hfit:x.bk.e+qC2 (x.no++ [cmB x.no.length x.hd.length])≤x.bk.size):
    Ct prog 14 [Ptr x.gs] [m,F] (λy:Hp×StR×WrR=> .tuple #[.agg #[N64 x.hd.length,Str (qA4 x.hdL).dig,I (x.dp:Nat),I (x.audN.length:Nat),.slice y.2.1.nA (qAr (kvT x.kvL x.cl x.dp (2^x.dp)) x.dp).length y.2.1.nc],.slice y.2.1.At y.2.1.tl.length y.2.1.ct,I (0:Nat)]) (λy=>PbP y.1 G y.2.1.G x y.2) (λy=> [y.1,F,y.2.1.G,y.2.1.mo]):=λw0 w hw=>by
  have hP:=hS.p
  have hI:=hS.i
  have hth:=hI.th
  have htk:=hI.tk
  rw [hS.eq] at hw
  have h1:=(hw.splitUs hS.dj).pick [0,5,6,7,8,9,1,2,3,4,10] xC
  refine(Ct.useA [x.sb,x.mT,x.mH,x.bk.blk x.gb,x.md,x.N] [x.mX,x.NX,x.mC,x.mO,F] (A':=λy:StR×WrR=> [blk x.gs [I (x.dp:Nat),Ptr x.gb,.bool false,.map (some y.1.cg),Ptr y.1.cr,.map (some x.nB),Ptr x.rB,.slice none 0 0,.slice none 0 0,.slice y.1.tA (x.tg++ [y.1.gu]).length y.1.tc,.slice y.1.hA (x.hd++ [adH ((qA4 x.hdL).dig) x.dp x.audN.length x.hd (kvT x.kvL x.cl x.dp (2^x.dp)) y.1.nA y.1.nc]).length y.1.hc] 129,y.1.mT,y.1.mH,y.2.x.blk x.gb,y.2.md,y.2.N]) (new:=λy=> [y.1.G,y.1.mo]) (λF' hF=>qUb F' (hK.mo hF) x hI (hP.mono (hGF.trans (Fa hF))) (Fa hF) (Fa hF) (Fa hF) (Fa hF) hfit) w0 w h1).mono λe w' ⟨y,he,⟨q1,q2,q3⟩,hst⟩=>?_
  have h2:=hst.empty.empty
  have h3:=St.joinUs (A:=(x.pub y).hs) (r:= [F,y.1.G,y.1.mo]) (h2.pick [0,6,7,13,14,1,2,3,4,5,10,11,12] xC)
  have hI2:=hI.pub y ht q1 q3 (λs hs=>qFM _)
  refine⟨(U (x.pub y).hs,y),he,⟨λG3 g1 g2=>⟨O,h3.1,⟨hP.mx,hP.nx,qBS.nil,qBS.nil,q1.rt,q1.rh,q2,q1.mp.mono g2,q1.lb.mono g2,qRL.mono q1.au g2,hP.rb.mono g1,λj hj=>?_,λj hj=>?_⟩,hI2⟩,?_,q1.len,q1.ro,q1.ok,q3,q1.pm⟩,h3.2⟩
  · have hj2:j<x.tg.length+1:=by have:=hj;rw [show(x.pub y).tg=x.tg++ [y.1.gu] from rfl,jA,jL] at this;exact this
    show qCQ G3 ((x.tg++ [_]).getD j 0) ((x.kv++ [_]).getD j [])
    by_cases hlt:j<x.tg.length
    · rw [qE4 _ _ _ hlt,qE4 _ _ _ xB];exact(hP.tr j hlt).mono g1
    · rw [qF3 _ _ _ xB,qF3 _ _ _ xB];exact q1.tu.mono g2
  · have hj2:j<x.hd.length+1:=by have:=hj;rw [show(x.pub y).hd=x.hd++ [_] from rfl,jA,jL] at this;exact this
    show nsl G3 ((x.hd++ [_]).getD j qAX)
    by_cases hlt:j<x.hd.length
    · rw [qE4 _ _ _ hlt];exact(hP.hn j hlt).mono g1
    · rw [qF3 _ _ _ xB];exact q1.nr.mono g2
  · rw [x.pub_hdL y];exact q1.nr
def nwS(gd n first count dp:Nat)(gl:List Aud)(md:Hp)(r:NwR):SvR:=
 {gs:=r.gs,dp:=dp,nA:=r.gA,rA:=r.gR,nB:=r.cp.g,rB:=r.cp.r,gb:=r.gb,nxt:= [],now:= [],cA:=none,cc:=0,cl:= [],oA:=none,oc:=0,no:= [],tA:=r.ad.tA,tc:=r.ad.tc,tg:= [r.gt],hA:=r.ad.hA,hc:=r.ad.hc,hd:= [adH qAk dp gl.length [] (qF0 [] gl gl.length) r.ad.nA r.ad.nc],mX:=r.cp.mm,NX:=r.cp.M,mC:=λ_=>none,mO:=λ_=>none,mT:=r.ad.mT,mH:=r.ad.mH,md:=md,N:=λ_=>none,bk:=⟨gd,first,count/2,first,0,0,none,0,[],Dk.new n⟩,kv:= [qF0 [] gl gl.length],aud:=gl,audN:=gl}
theorem qP4{α:Type}{a no:α}{i:Nat}(h:i< [a].length): [a].getD i no=a:=by
 match i,h with
 |0,_=>rfl
theorem qVe(F md:Hp)(hK:qAG F ⟨3,0,none⟩ (Sha.K.map W32))(hA:qAG F ⟨0,0,none⟩ qBW)(hT:qB0 F)(gd n:Nat)(hb:Dsk md gd (Dk.new n) none 0)(hn4:4≤n)(hn:n≤1000)(first count:Nat)(h8:8≤count)(hfc:first+count≤n)(dp:Nat)(hdp:dp≤4)(GA:Option Addr)(gc:Nat)(gl:List Aud)(hgl:Sl F 4 GA gl.length gc (qBf gl))(hg:qWd gl):
    Ct prog 9 [Ptr gd,I (first:Nat),I (count:Nat),I (dp:Nat),.slice GA gl.length gc] [md,F] (λy:Hp×Hp×NwR=> .tuple #[Ptr y.2.2.gs,I (0:Nat)]) (λy=>Srv y.1 y.2.1 (nwS gd n first count dp gl md y.2.2)) (λy=> [y.1,F,y.2.1]):=λw0 w hw=>by
  refine(qUf F md hK hA hT gd n hb hn4 hn first count h8 hfc dp hdp GA gc gl hgl hg w0 w hw).mono λe w' ⟨r,he,hp,hst⟩=>?_
  have h1:=St.joinUs (A:=(nwS gd n first count dp gl md r).hs) (r:= [F,qAM r.gA (.map #[] 0),r.mR,r.mt,r.cp.mr,r.ad.mN]) (hst.empty.empty.empty.pick [5,6,7,13,14,9,10,12,0,15,1,2,3,4,8,11] xC)
  have h2:=St.joinUs (A:= [qAM r.gA (.map #[] 0),r.mR,r.mt,r.cp.mr,r.ad.mN]) (r:= [U (nwS gd n first count dp gl md r).hs,F]) (h1.2.pick [2,3,4,5,6,0,1] xC)
  have hl: ∀a∈ [qAM r.gA (.map #[] 0),r.mR,r.mt,r.cp.mr,r.ad.mN],Le a (U [qAM r.gA (.map #[] 0),r.mR,r.mt,r.cp.mr,r.ad.mN]):=λa ha=>qFV h2.1 ha
  have hls:r.cp.ls= []:=List.map_eq_nil_iff.1 hp.cp.pm.eq_nil
  have hll:=qIs gl (n:=gl.length) hg.len
  obtain ⟨_,h16⟩:=qMS hdp
  have hg15:=hg.len
  have hlast:(Dk.new n).last.length=n:=by unfold Dk.new;exact jJ
  have hro:qRL (U [qAM r.gA (.map #[] 0),r.mR,r.mt,r.cp.mr,r.ad.mN]) r.gR gl:=by
    obtain ⟨a,b,c,q1,q2,_⟩:=hp.ro.see
    exact qRL.mono ⟨a,b,c,q1,q2⟩ (hl _ xD)
  have hrb:qRL (U [qAM r.gA (.map #[] 0),r.mR,r.mt,r.cp.mr,r.ad.mN]) r.cp.r gl:=by
    obtain ⟨a,b,c,q1,q2,_⟩:=hp.cp.ro.see
    exact qRL.mono ⟨a,b,c,q1,q2⟩ (hl _ xD)
  have hmx:=hp.cp.mp
  have hnx:=hp.cp.nx
  rw [hls] at hmx hnx
  refine⟨(U (nwS gd n first count dp gl md r).hs,U [qAM r.gA (.map #[] 0),r.mR,r.mt,r.cp.mr,r.ad.mN],r),he,⟨O,h1.1,⟨hmx,hnx,qBS.nil,qBS.nil,hp.ad.rt,hp.ad.rh,?_,(MapS.nil r.gA).at.mono (hl _ xD),(λy hy=>by cases hy),hro,hrb,λi hi=>?_,λi hi=>?_⟩,?_⟩,h2.2.pick [1,2,0] xC⟩
  · exact⟨hb,Dk.new_ok hn4 xB,O,O,O,O,Sl.nil,by show first+count/2≤(Dk.new n).last.length;rw [hlast];omega,by show(Dk.new n).last.length≤1000;rw [hlast];omega,jF _,jF _⟩
  · show qCQ _ ([r.gt].getD i 0) ([qF0 [] gl gl.length].getD i [])
    rw [qP4 hi,qP4 (show i< [qF0 [] gl gl.length].length from hi)]
    exact hp.tr.at.mono (hl _ xD)
  · show nsl _ ([adH qAk dp gl.length [] (qF0 [] gl gl.length) r.ad.nA r.ad.nc].getD i qAX)
    rw [qP4 hi]
    exact hp.ad.nd.sl.mono (hl _ xD)
  · exact{dp:=hdp,un:=List.nodup_nil,uw:=List.nodup_nil,ln:=(λy hy=>by cases hy),lw:=(λy hy=>by cases hy),cl:=⟨jF _,(λy hy=>by cases hy),(λy hy=>by cases hy)⟩,n9:=(λy hy=>by cases hy),nc:=rfl,t0:=Nat.succ_pos _,t1:=(by show 1≤15;decide),th:=rfl,tk:=rfl,kf:=qGr gl hg15,kl:=(by show(qF0 [] gl gl.length).length≤5000*1;omega),hg:=qML (jF _) (jK _) (by show(qAr _ dp).length≤16;unfold qAr;rw [qBz];exact h16),al:=(by show gl.length≤64;omega),an:=(by show gl.length≤64;omega),sz:=(by show count/2≤1000;omega),re:=jF _}
theorem Srv.cells{m G:Hp}{x:SvR}(h:Srv m G x):qAG m ⟨x.gs,0,none⟩ [I (x.dp:Nat),Ptr x.gb,.bool false,.map (some x.nA),Ptr x.rA,.map (some x.nB),Ptr x.rB,.slice x.cA x.cl.length x.cc,.slice x.oA x.no.length x.oc,.slice x.tA x.tg.length x.tc,.slice x.hA x.hd.length x.hc]:=qAG.blk0.mono (h.le (.head _))
theorem Srv.tsl{m G:Hp}{x:SvR}(h:Srv m G x):Sl m 1 x.tA x.tg.length x.tc (qDT x.tg):=h.p.rt.sl.mono (h.le (by simp [SvR.hs]))
theorem Srv.hsl{m G:Hp}{x:SvR}(h:Srv m G x):Sl m 5 x.hA x.hd.length x.hc (qDC x.hd):=h.p.rh.sl.mono (h.le (by simp [SvR.hs]))
theorem Srv.tree{m G:Hp}{x:SvR}(h:Srv m G x):qCQ G (x.tg.getD (x.tg.length-1) 0) x.kvL:=h.p.tr _ (by have:=h.i.t0;omega)
structure LkR where
 A:Option Addr
 c:Nat
 m:Hp
 s:Nat
 bA:Option Addr
 bc:Nat
 mb:Hp
structure LkP (x:SvR) (s:xA) (r:LkR):Prop where
 ro:Row r.m 102 5 r.A (qEC (lbE x.now) s).length r.c (qCT (qEC (lbE x.now) s))
 st:qJE x.kvL (Sha.tagged 11 [s]) 0 r.s
 rb:Row r.mb 9 1 r.bA (bsd x.kvL (Sha.tagged 11 [s]) 0 (r.s-0)).length r.bc (qAH (bsd x.kvL (Sha.tagged 11 [s]) 0 (r.s-0)))
theorem LbA.small{F:Hp}{ls:List Lb}(h: ∀y∈ls,y.l.length≤1000)(k:xA):(qEC (lbE ls) k).length≤1000:=by
 rw [qIu]
 cases hg:qCp ls k with
 |none=>exact jF _
 |some x=>exact h x (qKE hg).1
theorem qMB(F:Hp)(hK:qAG F ⟨3,0,none⟩ (Sha.K.map W32))(x:SvR)(hI:SvI x)(hc:qAG F ⟨x.gs,0,none⟩ [I (x.dp:Nat),Ptr x.gb,.bool false,.map (some x.nA),Ptr x.rA,.map (some x.nB),Ptr x.rB,.slice x.cA x.cl.length x.cc,.slice x.oA x.no.length x.oc,.slice x.tA x.tg.length x.tc,.slice x.hA x.hd.length x.hc])(hts:Sl F 1 x.tA x.tg.length x.tc (qDT x.tg))(hT:qCQ F (x.tg.getD (x.tg.length-1) 0) x.kvL)(hw:Fw.MapAt F x.nA (lbV x.now))(hl:LbA F x.now)(s:xA)(hs:s.length≤1000):Ct prog 31 [Ptr x.gs,Str s] [F] (λr:LkR=> .tuple #[.agg #[Str s,.slice r.A (qEC (lbE x.now) s).length r.c,.slice r.bA (bsd x.kvL (Sha.tagged 11 [s]) 0 (r.s-0)).length r.bc,.bool (qAn x.kvL (Sha.tagged 11 [s]) r.s),Str (qBj x.kvL (Sha.tagged 11 [s]) r.s),Str (qBl x.kvL (Sha.tagged 11 [s]) r.s)],I (0:Nat)]) (LkP x s) (λr=> [F,r.mb,r.m]):=by
 have i7:=hI.t0
 have i8:=hI.t1
 have hel:=LbA.small (F:=F) hI.lw s
 refine Ct.walk func31 O ntmps31 O (λw0 hw0=>?_)
 refine J.f λ_ j1=>J.q (qAJ O zeroValue89 O) O λg4 _=>J.b O<|J.c j1<|J.p λ_ j2=>J.f λ_ j3=>J.b O<|J.g ((qA2 qWs O O O).as (v':= .bool false) O) O<|J.c j3<|J.a3 ?_
 refine J.M j2<|J.f λ_ j4=>J.b O<|J.g (qAB O O) O<|J.W 9 qBB sizeOf127 O O O O O<|J.g (qAI O O isAgg127 (m:=F) xD (hc.at (i:=9) O)) O<|J.q (qAa O O (λF' hF=>qL8 F' x.tA x.tg.length x.tc x.tg (hts.mono (Fa hF)) i7 xB)) O λg16 _=>J.b O<|J.q (qAa O O (λF' hF=>qF4 F' (hK.mo hF) s xB)) O λg18 _=>J.q (qBV O O (λF' hF=>qEe F' (hK.mo hF) (x.tg.getD (x.tg.length-1) 0) x.kvL (hT.mono (Fa hF)) hI.kf (Sha.tagged 11 [s]) (Sha.tagged_length _ _) 0 xB)) O ?_
 rintro⟨s19,A19,c19,m19⟩ ⟨hst19,hr19⟩
 refine J.j 3 O<|J.q (qAJ O qOE O) O λg6 _=>J.a8 (qAD (i:=3) (l:= [.slice none 0 0,.bool false,Str [],Str []]) (vs:= [.slice A19 ((bsd x.kvL (Sha.tagged 11 [s]) 0 (s19-0)).length) c19,.bool (qAn x.kvL (Sha.tagged 11 [s]) s19),Str (qBj x.kvL (Sha.tagged 11 [s]) s19),Str (qBl x.kvL (Sha.tagged 11 [s]) s19)]) O O O O O qCl O O) O O λ_ _=>J.b O<|J.c j4<|J.p λ_ j5=>J.b1 [F,blk g6 [.slice A19 ((bsd x.kvL (Sha.tagged 11 [s]) 0 (s19-0)).length) c19,.bool (qAn x.kvL (Sha.tagged 11 [s]) s19),Str (qBj x.kvL (Sha.tagged 11 [s]) s19),Str (qBl x.kvL (Sha.tagged 11 [s]) s19)] 87] [12,13,100011] (.y 0 (.y 1 (.y 2 (.y 3 (.y 4 (.y 5 (.y 6 (.y 7 (.y 9 (.y 11 (.e 8 (.y 10 (.e 12 (.e 13 .nil)))))))))))))) Tryz.wide xF xD ?_
 refine J.L ?_
 refine J.L ?_
 refine J.k O (qAB O O) O O<|J.k O (qAA O O qBB O qCU O) O O<|J.k O (qAA O O qEI O sizeOf120 O) O O<|J.k O (qAI O O isAgg120 (m:=F) xD (hc.at (i:=3) O)) O O<|J.L ?_
 refine J.k O ((qC0 O O O qJP u9_ zeroValue85 (m:=F) xD hw).as (v':= .slice (qVt x.now s) (qEC (lbE x.now) s).length (qVs x.now s)) (qT4 x.now s)) O O<|J.k O (qAe 1 O O O qGC qCl O) O O<|J.d1 O (qAz O O) O O O ?_
 refine J.a2 O (qBV O O (λF' hF=>qE9 F' (qVt x.now s) ((qEC (lbE x.now) s).length) (qVs x.now s) (qEC (lbE x.now) s) ((hl.at s).mono (Fa hF)) xO)) O xD ?_
 rintro⟨A30,c30,m30⟩ h30
 try dsimp only at h30
 refine J.k O (qAL (places:= [(0,1),(1,1),(2,4)]) (r:= [Str (s),.slice A30 (((qEC (lbE x.now) s)).length) c30,.slice A19 ((bsd x.kvL (Sha.tagged 11 [s]) 0 (s19-0)).length) c19,.bool (qAn x.kvL (Sha.tagged 11 [s]) s19),Str (qBj x.kvL (Sha.tagged 11 [s]) s19),Str (qBl x.kvL (Sha.tagged 11 [s]) s19)]) O O O qNR zeroValue89 (λ_=>xH) O) O O<|J.c1 O (qAD (i:=1) (l:= [Str [],.slice none 0 0,.slice none 0 0,.bool false,Str [],Str []]) (vs:= [Str (s),.slice A30 (((qEC (lbE x.now) s)).length) c30,.slice A19 ((bsd x.kvL (Sha.tagged 11 [s]) 0 (s19-0)).length) c19,.bool (qAn x.kvL (Sha.tagged 11 [s]) s19),Str (qBj x.kvL (Sha.tagged 11 [s]) s19),Str (qBl x.kvL (Sha.tagged 11 [s]) s19)]) O O O O O sizeOf89 O O) O O O λ_ _=>J.d4 O (YOp.eop (qA9 O O)) O O O O ?_
 intro _ _
 refine J.b0<|J.u (J.D j5 ?_)
 exact J.A<|J.a9 hw0 (λ_ _ h=>h) (rv2 O (RV.blkA 1 O O isAgg89 sizeOf89) O) (qAg (⟨A30,c30,m30,s19,A19,c19,m19⟩:LkR) O ⟨h30,hst19,hr19⟩ [0,2,4] O xC)
theorem qLb(F:Hp)(x:Hd)(A:Option Addr)(c:Nat)(hg:x.good)(hsl:Sl F 1 A x.nodes.length c (qAH x.nodes)):
    Cz prog 158 [.agg #[N64 x.ep,Str x.par,I x.dep,I x.aud,.slice A x.nodes.length c]] F (I x.gen):=by
  refine Ct.walk func158 O ntmps158 O (λw0 hw0=>?_)
  refine J.f λ_ j1=>J.q (qAd O O O) O λg1 _=>J.b O<|J.c j1 ?_
  refine J.f λ_ j2=>J.c0 1 qFl qC6 O O O O O<|J.q (qAa O O (λF' hF=>qGw F' x A c hg (hsl.mono (Fa hF)))) O λg5 _=>J.b O<|J.c j2 ?_
  refine J.p λ_ j3=>J.T<|J.f λ_ j4=>J.b O<|J.g (qAY O O O) O<|J.b O<|J.c j4 ?_
  refine J.Z O (λh6=>?_) (λh6=>?_)
  ·
    refine J.f λ_ j5=>J.j 2 O<|J.c j5 ?_
    exact J.A<|J.a6<|J.V<|J.E hw0 O () (congrArg I (gen_1 xB).symm) trivial [0] O xC
  refine J.f λ_ j6=>J.W 0 qDs qD8 O O O O O<|J.a5 1 qFC O O O O O<|J.g (qAY O O O) O<|J.b O<|J.c j6 ?_
  refine J.Z O (λh10=>?_) (λh10=>?_)
  ·
    refine J.f λ_ j7=>J.b O<|J.c j7 ?_
    exact J.A<|J.a6<|J.V<|J.E hw0 O () (congrArg I (gen_2 xB xB).symm) trivial [0] O xC
  refine J.p λ_ j8=>J.b1 [F,blk g1 [N64 x.ep,Str x.par,I x.dep,I x.aud,.slice A x.nodes.length c] 52] [] (.y 0 (.y 1 (.e 2 (.y 3 (.y 4 .nil))))) Tryz.wide xF xD ?_
  refine J.k O (qAA O O qDs O z9_ O) O O<|J.k O (qAC 1 O O O b9_ O) O O<|J.a2 O (qAa O O (λF' hF=>qGa F' 16 xC xC)) O xD λg17 _=>J.k O (qCy O O O) O O<|J.b7 ?_
  refine J.b0<|J.u (J.D j8 ?_)
  refine J.Z O (λh14=>?_) (λh14=>?_)
  ·
    change x.par≠qAk at h14
    refine J.f λ_ j9=>J.b O<|J.c j9 ?_
    exact J.A<|J.a6<|J.V<|J.E hw0 O () (congrArg I (gen_3 xB xB h14).symm) trivial [0] O xC
  change¬x.par≠qAk at h14
  refine J.b2<|J.a1<|J.u (J.D j3 ?_)
  refine J.f λ_ j10=>J.b O<|J.c j10 ?_
  exact J.A<|J.E hw0 O () (congrArg I (qXV xB xB h14).symm) trivial [0] O xC
theorem qQo(F:Hp)(A:Option Addr)(n c:Nat)(l:List RhD)(hs:Sl F 5 A n c (qDC l))(hnb:n≤1000000):Ct prog 65 [.slice A n c] [F] (λx:Option Addr×Nat×Hp=> .slice x.1 (l).length x.2.1) (λx=>Row x.2.2 52 5 x.1 (l).length x.2.1 (qDC l)) (λx=> [F,x.2.2]):=by
 have hkn:l.length=n:=by have:=hs.1;simpa [qDC] using this
 refine Ct.walk func65 O ntmps65 O (λw0 hw0=>?_)
 refine J.f λ_ j1=>J.b O<|J.c j1 ?_
 refine J.p λ_ j2=>J.f λ_ j3=>J.b O<|J.g ((qEh qGM O O O).as (v':= .bool (decide (A.isNone=true))) (congrArg Value.bool (by cases A<;>rfl))) O<|J.c j3 ?_
 refine J.Z O (λh4=>?_) (λh4=>?_)
 ·
  refine J.f λ_ j4=>J.b O<|J.c j4 ?_
  refine J.A<|J.V ?_
  have hk0:l= []:=by
   refine jV ?_
   rcases yI n with h|h
   · omega
   · obtain ⟨g,o,rfl⟩:=hs.at h;cases h4
  exact J.c5 [0,1] [F,(λ_=>none)] O xC<|J.E hw0 O (none,0,(λ_=>none)) (by rw [hk0];rfl) (by rw [hk0];exact qBS.nil) [0,1] O xC
 refine J.M j2 ?_
 refine J.f λ_ j5=>J.q (qBh O qGM el52) O λg5 _=>J.b O<|J.q (qAW (i:=1) (m2:=F) O O O qGM qGM el52 O (qAm (q:=True) (xs:=qDC ([])) O (by intro x hx;first|exact absurd hx (zD)|(rw [List.mem_singleton.1 hx];rfl))) xD (hs) (qVW _) xB xB) O ?_
 rintro⟨A7,c7,m7⟩ h7
 try dsimp only at h7
 replace h7:Row m7 52 5 A7 (0+n) c7 (qDC (l)):=h7
 refine J.b O<|J.c j5 ?_
 refine J.A ?_
 rw [show 0+n=l.length by omega] at h7
 exact J.E hw0 O (A7,c7,m7) (by rw [←hkn,jj]) h7 [0,1] O xC
theorem qMD(F:Hp)(x:SvR)(hc:qAG F ⟨x.gs,0,none⟩ [I (x.dp:Nat),Ptr x.gb,.bool false,.map (some x.nA),Ptr x.rA,.map (some x.nB),Ptr x.rB,.slice x.cA x.cl.length x.cc,.slice x.oA x.no.length x.oc,.slice x.tA x.tg.length x.tc,.slice x.hA x.hd.length x.hc])(hs:Sl F 5 x.hA x.hd.length x.hc (qDC x.hd))(hnb:x.hd.length≤1000000):Ct prog 13 [Ptr x.gs] [F] (λq:Option Addr×Nat×Hp=> .slice q.1 x.hd.length q.2.1) (λq=>Row q.2.2 52 5 q.1 x.hd.length q.2.1 (qDC x.hd)) (λq=> [F,q.2.2]):=by
 refine Ct.walk func13 O ntmps13 O (λw0 hw0=>?_)
 refine J.f λ_ j1=>J.b O<|J.c j1 ?_
 refine J.p λ_ j2=>J.f λ_ j3=>J.b O<|J.g ((qA2 qWs O O O).as (v':= .bool false) O) O<|J.c j3 ?_
 refine J.a3 ?_
 refine J.M j2 ?_
 refine J.f λ_ j4=>J.b O<|J.g (qAB O O) O<|J.W 10 qBB qKp O O O O O<|J.g (qAI O O qOS (m:=F) xD (hc.at (i:=10) O)) O<|J.q (qBV O O (λF' hF=>qQo F' x.hA x.hd.length x.hc x.hd (hs.mono (Fa hF)) xO)) O ?_
 rintro⟨A9,c9,m9⟩ h9
 try dsimp only at h9
 refine J.b O<|J.c j4 ?_
 exact J.A<|J.E hw0 O (A9,c9,m9) O h9 [0,1] O xC
theorem qWL(F:Hp)(h:RhD)(hg:(qA4 h).good)(hns:nsl F h)(hgen:(qA4 h).gen=0)(sl nd:Nat)(h1:1≤nd)(h2:nd≤sl)(h3:sl≤h.aud):Ct prog 89 [.agg #[N64 (h.ep),Str (h.par),I (h.dep:Nat),I (h.aud:Nat),.slice h.nsA h.ns.length h.nsc],.agg #[I (sl:Nat),I (nd:Nat)]] [F] (λr:Nat×Nat=> .tuple #[Ptr r.1,I (0:Nat)]) (λ_=>True) (λr=> [F,blk r.1 [I (sl:Nat),I (nd:Nat),.slice (some ⟨r.2,0,none⟩) 1 1] 279,blk r.2 [N64 (h.ep),Str (h.par),I (h.dep:Nat),I (h.aud:Nat),.slice h.nsA h.ns.length h.nsc] 52]):=by
 refine Ct.walk func89 O ntmps89 O (λw0 hw0=>?_)
 refine J.f λ_ j1=>J.q (qAd O O O) O λg2 _=>J.q (qAd O O O) O λg3 _=>J.j 2 O<|J.c j1 ?_
 refine J.p λ_ j2=>J.f λ_ j3=>J.c0 1 qFl qC6 O O O O O<|J.q (qAa O O (λF' hF=>(by have:=qLb F' (qA4 h) h.nsA h.nsc hg (hns.mono (Fa hF));rw [hgen] at this;exact this))) O λg8 _=>J.b O<|J.c j3 ?_
 refine J.f λ_ j4=>J.b O<|J.g ((qAY O O O).no xC) O<|J.c j4 ?_
 refine J.a3 ?_
 refine J.M j2 ?_
 refine J.p λ_ j5=>J.T<|J.f λ_ j6=>J.W 1 qHG z3_ O O O O O<|J.a5 2 b3_ O O O O O<|J.g ((qAQ O O O).no xB) O<|J.b O<|J.G (qAA O O qHG O z3_ O) O<|J.G (qAC 2 O O O b3_ O) O<|J.G (qAA O O qHG O z3_ O) O<|J.G (qAC 2 O O O b3_ O) O<|J.G ((qA0 O O O).no xB) O<|J.j 2 O<|J.c j6 ?_
 refine J.a3 ?_
 refine J.f λ_ j7=>J.W 3 qDs z3_ O O O O O<|J.a5 1 b3_ O O O O O<|J.W 0 qHG z3_ O O O O O<|J.a5 2 b3_ O O O O O<|J.g ((qAQ O O O).no xB) O<|J.b O<|J.c j7 ?_
 refine J.a3 ?_
 refine J.b2<|J.a1<|J.u (J.D j5 ?_)
 refine J.f λ_ j8=>J.c0 2 isAgg191 sizeOf191 O O O O O<|J.c0 1 qFl qC6 O O O O O<|J.q (qAE (l:= [.tmp 30]) (xs:= [[N64 (h.ep),Str (h.par),I (h.dep:Nat),I (h.aud:Nat),.slice h.nsA h.ns.length h.nsc]]) O O O O qGM el52 O xC xC xD) O λg31 _=>J.g (qAL (places:= [(0,2),(2,1)]) (r:= [I (sl:Nat),I (nd:Nat),.slice (some ⟨g31,0,none⟩) 1 1]) O O O qJN zeroValue279 (λ_=>xH) O) O<|J.q (qAd O O O) O λg33 _=>J.j 2 O<|J.c j8 ?_
 exact J.A<|J.a9 hw0 (λ_ _ h=>h) (qBk O O O) (qAg (g33,g31) O trivial [0,4,3] O xC)
theorem qM9(F:Hp)(gc sl nd:Nat)(A:Option Addr)(n c:Nat)(l:List RhD)(hs:Sl F 5 A n c (qDC l))(h0:0<n)(hn:n≤1000000)(hC:qAG F ⟨gc,0,none⟩ [I (sl:Nat),I (nd:Nat),.slice A n c]):Cz prog 172 [Ptr gc] F (.agg #[N64 ((l.getD (n-1) qAX).ep),Str ((l.getD (n-1) qAX).par),I ((l.getD (n-1) qAX).dep:Nat),I ((l.getD (n-1) qAX).aud:Nat),.slice (l.getD (n-1) qAX).nsA (l.getD (n-1) qAX).ns.length (l.getD (n-1) qAX).nsc]):=by
 have hln:l.length=n:=by have:=hs.1;simpa [qDC] using this
 refine Ct.walk func172 O ntmps172 O (λw0 hw0=>?_)
 refine J.f λ_ j1=>J.q (qAJ O qWC O) O λg2 _=>J.c j1 ?_
 refine J.p λ_ j2=>J.b1 [F] [12] (.y 0 (.y 1 (.y 2 (.y 3 (.y 4 (.y 5 (.y 6 (.y 7 (.y 8 (.y 9 (.y 10 (.y 11 (.e 12 .nil))))))))))))) Tryz.wide xF xD ?_
 refine J.L ?_
 refine J.k O (qAB O O) O O<|J.k O (qAA O O qJN O qKp O) O O<|J.k O (qAI O O qOS (m:=F) xD (hC.at (i:=2) O)) O O<|J.L ?_
 refine J.k O (qAB O O) O O<|J.k O (qAA O O qJN O qKp O) O O<|J.k O (qAI O O qOS (m:=F) xD (hC.at (i:=2) O)) O O<|J.k O (qAP qGM O O) O O<|J.k O ((qA1 O O O xB).nat (n-1) xB) O O<|J.k O (qAF O O O qGM qC6 hs xB) O O<|J.k O (qAT O O qFl qC6 (m:=F) xD (hs.elem (qEd xB)) O) O O<|J.c1 O (qAD (i:=1) (l:= [.int .u64 0,Str [],I 0,I 0,.slice none 0 0]) (vs:= [N64 ((l.getD (n-1) qAX).ep),Str ((l.getD (n-1) qAX).par),I ((l.getD (n-1) qAX).dep:Nat),I ((l.getD (n-1) qAX).aud:Nat),.slice (l.getD (n-1) qAX).nsA (l.getD (n-1) qAX).ns.length (l.getD (n-1) qAX).nsc]) O O O O O qC6 O O) O O O λ_ _=>J.b0<|J.u (J.D j2 ?_)
 exact J.A<|J.a9 hw0 (λ_ _ h=>h) (rv1 O (RV.blkA 1 O O qFl qC6)) (qAg () O trivial [0] O xC)
theorem qWQ(F:Hp)(gc sl nd:Nat)(A:Option Addr)(n c:Nat)(l:List RhD)(hs:Sl F 5 A n c (qDC l))(h0:0<n)(hn:n≤1000000)(hC:qAG F ⟨gc,0,none⟩ [I (sl:Nat),I (nd:Nat),.slice A n c]):Cz prog 173 [Ptr gc] F (I ((l.getD (n-2) qAX).aud:Nat)):=by
 have hln:l.length=n:=by have:=hs.1;simpa [qDC] using this
 refine Ct.walk func173 O ntmps173 O (λw0 hw0=>?_)
 refine J.f λ_ j1=>J.b O<|J.c j1 ?_
 refine J.p λ_ j2=>J.f λ_ j3=>J.b O<|J.g ((qA2 underlying91 O O O).as (v':= .bool false) O) O<|J.c j3 ?_
 refine J.a3 ?_
 refine J.M j2 ?_
 refine J.p λ_ j4=>J.b1 [F] [] (.y 0 (.y 1 (.y 2 (.y 3 (.y 4 (.y 5 (.y 6 (.y 7 (.y 8 (.y 9 (.y 10 (.y 11 (.y 12 (.y 13 (.y 14 .nil))))))))))))))) Tryz.wide xF xD ?_
 refine J.L ?_
 refine J.k O (qAB O O) O O<|J.k O (qAA O O qJN O qKp O) O O<|J.k O (qAI O O qOS (m:=F) xD (hC.at (i:=2) O)) O O<|J.L ?_
 refine J.k O (qAB O O) O O<|J.k O (qAA O O qJN O qKp O) O O<|J.k O (qAI O O qOS (m:=F) xD (hC.at (i:=2) O)) O O<|J.k O (qAP qGM O O) O O<|J.k O (qA1 O O O xB) O O<|J.k O ((qHm O O O).nat (n-2) xB) O O<|J.k O (qAF O O O qGM qC6 hs xB) O O<|J.k O (qEk O O qDs O z3_ hs xB O) O O<|J.k O (qAI O O b3_ (m:=F) xD (hs.part (qEd xB) 3 1)) O O<|J.b7 ?_
 refine J.b0<|J.u (J.D j4 ?_)
 exact J.A<|J.E hw0 O () O trivial [0] O xC
def ixE(q:En→Bool)(l:List En):Int:=if l.any q=true then((l.findIdx q:Nat):Int) else-1
theorem qXP{q:En→Bool}{l:List En}{k:Nat}(h:k<l.length)(hp:q (l.getD k qBD)=true)(hn: ∀j<k,q (l.getD j qBD)=false):ixE q l=((k:Nat):Int):=by
 have hk:l.getD k qBD=l[k]:=by rw [jB,jC h];rfl
 unfold ixE
 rw [if_pos (List.any_eq_true.2 ⟨l[k],jS h,hk▸hp⟩)]
 congr 1
 rw [List.findIdx_eq h]
 refine⟨hk▸hp,λj hj=>?_⟩
 have:=hn j hj
 rw [jB,jC xB] at this
 exact this
theorem qXN{q:En→Bool}{l:List En}(hn: ∀j<l.length,q (l.getD j qBD)=false):ixE q l= -1:=by
 unfold ixE
 rw [if_neg]
 intro h
 obtain ⟨x,hx,hp⟩:=List.any_eq_true.1 h
 obtain ⟨j,hj,rfl⟩:=zT hx
 have:=hn j hj
 rw [jB,jC hj] at this
 rw [show(some l[j]).getD qBD=l[j] from rfl,hp] at this
 cases this
theorem qS0{q:En→Bool}{l:List En}(h:ixE q l= -1):l.filter (λk=>!q k)=l:=by
  unfold ixE at h
  split at h
  · omega
  · rename_i h1
    refine List.filter_eq_self.2 λx hx=>?_
    cases hq:q x with
    |false=>rfl
    |true=>exact absurd (List.any_eq_true.2 ⟨x,hx,hq⟩) h1
theorem qXO{q:En→Bool}{l:List En}(h: ¬ixE q l= -1): ∃i:Nat,ixE q l=((i:Nat):Int)∧i<l.length∧l.take i=(l.take (i+1)).filter (λk=>!q k):=by
  unfold ixE at h⊢
  split at h
  · rename_i h1
    rw [if_pos h1]
    have hi:l.findIdx q<l.length:=List.findIdx_lt_length_of_exists (by simpa using h1)
    refine⟨l.findIdx q,O,hi,?_⟩
    rw [jI hi,jr,show [l[l.findIdx q]].filter (λk=>!q k)= [] from List.filter_eq_nil_iff.2 λx hx=>by rw [List.mem_singleton.1 hx,List.findIdx_getElem (w:=hi)];simp,jU]
    refine(List.filter_eq_self.2 λx hx=>?_).symm
    obtain ⟨j,hj,rfl⟩:=zT hx
    rw [jE] at hj
    have hjk:j<l.findIdx q:=xB
    have:=List.not_of_lt_findIdx hjk
    rw [List.getElem_take];simpa using this
  · exact absurd O h
theorem qKS{q:En→Bool}{l L:List En}{w j:Nat}(hw:w<j)(hj:j<l.length)(hL:L.length=l.length)(h1:L.take w=(l.take j).filter (λk=>!q k))(h2:L.drop j=l.drop j)(hq:q (L.getD j qBD)=false):
    (L.set w (L.getD j qBD)).take (w+1)=(l.take (j+1)).filter (λk=>!q k)∧(L.set w (L.getD j qBD)).drop (j+1)=l.drop (j+1):=by
  have e0:L.getD j qBD=l[j]:=by
    have:=congrArg (λz=>z.getD 0 qBD) h2
    simpa [jB,jp,jC hj] using this
  constructor
  · rw [jI (by rw [jk];omega),List.take_set_of_le (jK _),h1,jI hj,jr,List.getElem_set_self,e0]
    congr 1
    rw [e0] at hq
    exact(List.filter_eq_self.2 λx hx=>by rw [List.mem_singleton.1 hx,hq];rfl).symm
  · rw [List.drop_set_of_lt xB]
    have:=congrArg (List.drop 1) h2
    simpa [zh,Nat.add_comm] using this
theorem qKT{q:En→Bool}{l L:List En}{w j:Nat}(hj:j<l.length)(h1:L.take w=(l.take j).filter (λk=>!q k))(h2:L.drop j=l.drop j)(hq:q (L.getD j qBD)=true):
    L.take w=(l.take (j+1)).filter (λk=>!q k)∧L.drop (j+1)=l.drop (j+1):=by
  have e0:L.getD j qBD=l[j]:=by
    have:=congrArg (λz=>z.getD 0 qBD) h2
    simpa [jB,jp,jC hj] using this
  constructor
  · rw [h1,jI hj,jr]
    rw [e0] at hq
    rw [show [l[j]].filter (λk=>!q k)= [] from List.filter_eq_nil_iff.2 λx hx=>by rw [List.mem_singleton.1 hx,hq];simp,jU]
  · have:=congrArg (List.drop 1) h2
    simpa [zh,Nat.add_comm] using this
abbrev Pk:=xA×xA×Int
def pkK(p:Pk):Value:= .agg #[Str p.1,Str p.2.1,I p.2.2]
theorem eqPk(x y:Pk)(w:World):(Op.equalIn 10000 32 (pkK x) (pkK y)).run prog w= .ok (decide (x=y)) w:=by
 obtain ⟨o,r,h⟩:=x
 obtain ⟨o',r',h'⟩:=y
 rw [show(decide ((o,r,h)=(o',r',h')):Bool)=decide (o=o'∧r=r'∧h=h') from decide_eq_decide.2 xD]
 exact qUD 9998 o r h o' r' h' w
theorem ckPk(x:Pk)(e:Bool)(w:World):(Instr.checkKey e 10000 32 (pkK x)).run prog w= .ok () w:=by
 have a3:=b3_
 have ag:=b9_
 have us:=run_underlying (w:=w) qKt
 have c2: ∀(v:Int),(Instr.checkKey e 9999 3 (.int .i64 v)).run prog w= .ok () w:=λv=>MapKept.run_checkKey (d:= .int .i64) u3_ (k:= .int .i64 v) (show IntKind.i64=IntKind.i64 from rfl) e 9998
 have c3: ∀(v:xA),(Instr.checkKey e 9999 9 (Str v)).run prog w= .ok () w:=λv=>MapKept.run_checkKey (d:= .string) u9_ (k:=Str v) trivial e 9998
 unfold pkK
 rw [show(10000:Nat)=9999+1 from rfl]
 unfold Instr.checkKey
 simp only [Sem.run_bind,us,Result.andThen_ok]
 rw [←Array.forIn_toList]
 simp [part,a3,ag,c2,c3,Result.andThen]
theorem qXL:qRM pkK prog 32 where
 wide:=by kernel_rfl
 ck:=ckPk
 eq a b w:=eqPk a b w
 inj a b h:=by
  obtain ⟨o,r,h1⟩:=a
  obtain ⟨o',r',h2⟩:=b
  unfold pkK at h
  simp at h
  obtain ⟨e1,e2,e3⟩:=h
  rw [e1,e2,e3]
def qFW(own:List Pk):List (Pk×Value):=own.map λk=>(k,.bool true)
theorem qJ9(own:List Pk)(k:Pk):qIt (qFW own) k=if k∈own then some (.bool true) else none:=by
  induction own with
  |nil=>rfl
  |cons a r ih=>
    show(if a=k then some (Value.bool true) else qIt (qFW r) k)=_
    by_cases h:a=k
    · rw [if_pos h,if_pos (by rw [h];exact .head _)]
    · rw [if_neg h,ih]
      by_cases h2:k∈r
      · rw [if_pos h2,if_pos (.tail _ h2)]
      · rw [if_neg h2,if_neg (λe=>by cases e with|head=>exact h rfl|tail _ e=>exact h2 e)]
theorem qN3(own:List Pk)(k:Pk):qFW own++ [(k,.bool true)]=qFW (own++ [k]):=by unfold qFW;rw [jO];rfl
def qTr(own:List Pk)(x:En):Bool:=decide ((x.o,x.r,x.h)∈own)
def qOO(own:List Pk)(l:List En):List En:=l.filter λx=>!qTr own x
theorem qJ3(F:Hp)(gm gk:Nat)(lb:xA)(A:Option Addr)(n c:Nat)(l:List En)(hs:Sl F 5 A n c (qCT l))(hn:n≤1000000)(hM:qAG F ⟨gm,0,none⟩ [Str lb,.map (some gk),.slice A n c]):Ct prog 34 [Ptr gm] [F] (λx:Option Addr×Nat×Hp=> .slice x.1 (l).length x.2.1) (λx=>Row x.2.2 102 5 x.1 (l).length x.2.1 (qCT l)) (λx=> [F,x.2.2]):=by
 refine Ct.walk func34 O ntmps34 O (λw0 hw0=>?_)
 refine J.f λ_ j1=>J.b O<|J.c j1<|J.p λ_ j2=>J.f λ_ j3=>J.b O<|J.g ((qA2 underlying76 O O O).as (v':= .bool false) O) O<|J.c j3<|J.a3 ?_
 refine J.M j2<|J.f λ_ j4=>J.b O<|J.g (qAB O O) O<|J.W 2 qJO qNK O O O O O<|J.g (qAI O O qQ9 (m:=F) xD (hM.at (i:=2) O)) O<|J.q (qBV O O (λF' hF=>qE9 F' A n c l (hs.mono (Fa hF)) xO)) O ?_
 rintro⟨A9,c9,m9⟩ h9
 try dsimp only at h9
 exact J.b O<|J.c j4<|J.A<|J.E hw0 O (A9,c9,m9) O h9 [0,1] O xC
theorem qO1(F:Hp)(x:En)(gm gk:Nat)(lb:xA)(A:Option Addr)(n c:Nat)(l:List En)(hs:Sl F 5 A n c (qCT l))(hn:n≤1000000)(hM:qAG F ⟨gm,0,none⟩ [Str lb,.map (some gk),.slice A n c])(own:List Pk)(hk:qHS pkK F gk (qFW own))(gq:Nat)(hq:qAG F ⟨gq,0,none⟩ [Ptr gm]):Cz prog 182 [.agg #[N64 (x.v),Str (x.o),Str (x.r),I (x.h),Str (x.p)],Ptr gq] F (.bool (qTr own x)):=by
 refine Ct.walk func182 O ntmps182 O (λw0 hw0=>?_)
 refine J.f λ_ j1=>J.q (qAd O O O) O λg2 _=>J.b O<|J.c j1<|J.p λ_ j2=>J.b1 [F,blk g2 [N64 (x.v),Str (x.o),Str (x.r),I (x.h),Str (x.p)] 102] [] (.y 0 (.y 1 (.y 2 (.y 3 (.y 4 (.y 5 (.y 6 (.y 7 .nil)))))))) Tryz.wide xF xD ?_
 refine J.k O (qAI O O isAgg76 (m:=F) xD (hq)) O O<|J.k O (qAB O O) O O<|J.k O (qAA O O qJO O sizeOf193 O) O O<|J.k O (qAI O O isAgg193 (m:=F) xD (hM.at (i:=1) O)) O O<|J.k O (qAA O O qCv O qDp O) O O<|J.k O (qAT O O qKf qDp (m:=blk g2 [N64 (x.v),Str (x.o),Str (x.r),I (x.h),Str (x.p)] 102) xD (qAG.blk0.sub 1 3) O) O O<|J.k O ((qGj (K:=pkK) (l:=qFW own) (s:=(x.o,x.r,x.h)) qXL O O O underlying193 e4_ (m:=F) xD hk).as (v':= .bool (qTr own x)) (by rw [qJ9];unfold qTr;split<;>simp [*])) O O<|J.b7 ?_
 refine J.b0<|J.u (J.D j2 ?_)
 exact J.A<|J.E hw0 O () O trivial [0] O xC
theorem qV9(F:Hp)(A:Option Addr)(n c:Nat)(l:List En)(hs:Sl F 5 A n c (qCT l))(hn:n≤1000000)(gm gk:Nat)(lb:xA)(A0:Option Addr)(n0 c0:Nat)(l0:List En)(hs0:Sl F 5 A0 n0 c0 (qCT l0))(hn0:n0≤1000000)(hM:qAG F ⟨gm,0,none⟩ [Str lb,.map (some gk),.slice A0 n0 c0])(own:List Pk)(hk:qHS pkK F gk (qFW own))(gq:Nat)(hq:qAG F ⟨gq,0,none⟩ [Ptr gm]):Cz prog 243 [.slice A n c,.func (.func 182) #[] #[Ptr gq]] F (I (ixE (qTr own) l)):=by
 have hkn:l.length=n:=by have:=hs.1;simpa [qCT] using this
 refine Ct.walk func243 O ntmps243 O (λw0 hw0=>?_)
 refine J.f λ_ j1=>J.b O<|J.c j1<|J.p λ_ j2=>J.f λ_ j3=>J.b O<|J.g (qAP qCt O O) O<|J.b O<|J.c j3<|J.T<|J.b6 (X:=Nat) (λζ=> [(0,.slice A n c),(1,.func (.func 182) #[] #[Ptr gq]),(7,I (n:Nat)),(8,I (ζ:Nat))]) (λζ=> [F]) (λζ=>ζ≤n∧ ∀j<ζ,qTr own (l.getD j qBD)=false) (λζ=>n-ζ) 0 (⟨jF _,λj h=>absurd h (jw j)⟩) ⟨O,O,O,O,trivial⟩ (λ_ h=>h) ?_
 rintro k ⟨hk2,hno⟩ I0 hI0
 refine J.f λ_ j4=>J.g (qAQ O O O) O<|J.c j4<|J.p λ_ j5=>J.Z O (λh9=>?_) (λh9=>?_)
 ·
  refine J.M j5<|J.p λ_ j6=>J.T<|J.f λ_ j7=>J.j 2 O<|J.c j7<|J.f λ_ j8=>J.j 3 O<|J.g (qAF O O O qCt qAw hs xB) O<|J.g (qAT O O qBZ qAw (m:=F) xD (hs.elem (qD2 xB)) O) O<|J.q (qCM O O O ent (Ct.use0 (λF' hF=>qO1 F' (l.getD k qBD) gm gk lb A0 n0 c0 l0 (hs0.mono (Fa hF)) hn0 (hM.mono (Fa hF)) own (hk.mono (Fa hF)) gq (hq.mono (Fa hF))))) O λg16 _=>J.c j8<|J.c6 O (λh16=>?_) (λh16=>?_)
  ·
   exact J.f λ_ j9=>J.j 2 O<|J.c j9<|J.A<|J.a6<|J.V<|J.V<|J.a6<|J.V<|J.E hw0 O () (by rw [qXP (k:=k) xB (by simpa using h16) hno]) trivial [0] O xC
  refine J.b2<|J.a1<|J.u (J.D j6 ?_)
  exact J.H<|J.g ((qAR O O O xB).nat (k+1) xB) O<|J.b O<|J.a4<|J.u<|J.a7 (k+1) (λη (hη:_∧n-η<n-k)=>hI0 η hη.1 hη.2) ⟨⟨xB,λj hj=>by rcases Nat.lt_succ_iff_lt_or_eq.1 hj with h|rfl;exact hno j h;simpa using h16⟩,by first|omega|(dsimp only;omega)⟩ ⟨O,O,O,O,trivial⟩ (λ_ h=>h)
 refine J.b4<|J.a0<|J.a0<|J.b5 ?_
 refine J.u (J.D j2 ?_)
 exact J.f λ_ j10=>J.b O<|J.c j10<|J.A<|J.E hw0 O () (by rw [qXN (λj hj=>hno j xB)]) trivial [0] O xC
end Go.Proofs.YtmemgokiolfdoaaGreatDoor