/- A part of the proof. -/
import Derived.Test.YtllnfioplpipiaaGreatDoorTopOrG8
import Derived.Test.YtllnfioplpipiaaGreatDoorTopOrG33
import Derived.Test.YtllnfioplpipiaaGreatDoorTopOrG39
import Derived.Test.YtllnfioplpipiaaGreatDoorTopOrG37
set_option linter.unusedSimpArgs false
set_option linter.unusedVariables false
namespace Go.Proofs.YtllnfioplpipiaaGreatDoor
open Go Go.Fw Go.Proofs.Tryz
set_option maxRecDepth 100000
set_option maxHeartbeats 1000000
theorem ent48:qAD prog 48:=qAD.of func48 rfl (by kernel_rfl)
theorem ent73:qAD prog 73:=qAD.of func73 rfl (by kernel_rfl)
theorem ent113:qAD prog 113:=qAD.of func113 rfl (by kernel_rfl)
theorem el72:qCQ prog 72 [.int .i64 0,.int .i64 0,Str [],Str [],.slice none 0 0] 72:=qCQ.of (by kernel_rfl) rfl
def qBw(cl:List Chg)(d b:Nat):List Chg:=cl.filter λx=>decide (ofV x.k d=b)
def kvT(l:List Sm.PR)(cl:List Chg)(d:Nat):Nat→List Sm.PR
 |0=>l
 |b+1=>kvC (kvT l cl d b) (qBw cl d b)
structure qTw (cl:List Chg):Prop where
 len:cl.length≤256
 k16: ∀x∈cl,x.k.length=16
 val: ∀x∈cl,x.v.length≤1000000
theorem qTw.band{cl:List Chg}(h:qTw cl)(d b:Nat):qO4 b d (qBw cl d b) where
 len:=Nat.le_trans (List.length_filter_le _ _) h.len
 k16:=λx hx=>h.k16 x (List.mem_filter.1 hx).1
 bnd:=λx hx=>by
  have h1:=of_decide_eq_true (List.mem_filter.1 hx).2
  unfold ofV at h1
  rwa [if_pos (h.k16 x (List.mem_filter.1 hx).1)] at h1
 val:=λx hx=>h.val x (List.mem_filter.1 hx).1
theorem qFs(cl:List Chg)(d b:Nat):(qBw cl d b).length≤cl.length:=List.length_filter_le _ _
theorem qJz(l:List Sm.PR)(cl:List Chg)(d:Nat): ∀b,(kvT l cl d b).length≤l.length+b*cl.length
 |0=>by show l.length≤_;omega
 |b+1=>by
  have h1:=qJz l cl d b
  have h2:=qN4 (kvT l cl d b) (qBw cl d b)
  have h3:=qFs cl d b
  show(kvC _ _).length≤_
  rw [Nat.succ_mul];omega
theorem qIg{l:List Sm.PR}{cl:List Chg}(h:qTw cl)(hl:l.length≤80000)(d:Nat){b:Nat}(hb:b≤16):(kvT l cl d b).length≤90000:=by
 have h1:=qJz l cl d b
 have h2:b*cl.length≤16*256:=Nat.mul_le_mul hb h.len
 omega
theorem qEs{l:List Sm.PR}{cl:List Chg}(hf:qCI l)(h:qTw cl)(hl:l.length≤80000)(d:Nat): ∀{b:Nat},b≤16→qCI (kvT l cl d b)
 |0,_=>hf
 |b+1,hb=>by
  have h2:=qIg h hl d (b:=b) (by omega)
  have h3:=qFs cl d b
  have h4:=h.len
  exact qK8 (qEs hf h hl d (b:=b) (by omega)) (h.band d b).k16 (h.band d b).val (by omega)
theorem qGm{cl:List Chg}{i d b:Nat}(h:i<cl.length):qBw (cl.take (i+1)) d b=if ofV (cl.getD i qAU).k d=b then qBw (cl.take i) d b++ [cl.getD i qAU] else qBw (cl.take i) d b:=by
 unfold qBw
 rw [qDB cl i qAU h,List.filter_append]
 generalize cl.getD i qAU=x
 by_cases hc:ofV x.k d=b
 · rw [if_pos hc];simp [List.filter,hc]
 · rw [if_neg hc];simp [List.filter,hc]
structure qOt (G:Hp) (l:List Sm.PR) (cl:List Chg) (d b:Nat) (x:TrD):Prop where
 eb:x.b=b
 ed:x.d=d
 eo:x.old=Sm.ndB (kvT l cl d b) (kF b d) d
 en:x.nw=Sm.ndB (kvT l cl d (b+1)) (kF b d) d
 chg:x.st.map qBP.chg=qBw cl d b
 ok:qCn (kvT l cl d b) d x.st
 sl:Sl G 6 x.stA x.st.length x.stc (qG3 x.st)
 bs:qMK G x.st
theorem qOt.mono{G G':Hp}{l:List Sm.PR}{cl:List Chg}{d b:Nat}{x:TrD}(h:qOt G l cl d b x)(hl:Le G G'):qOt G' l cl d b x:=⟨h.eb,h.ed,h.eo,h.en,h.chg,h.ok,h.sl.mono hl,h.bs.mono hl⟩
def qMO(G:Hp)(l:List Sm.PR)(cl:List Chg)(d:Nat)(tl:List TrD):Prop:= ∀j,j<tl.length→qOt G l cl d j (tl.getD j noTrD)
theorem qMO.nil(G:Hp)(l:List Sm.PR)(cl:List Chg)(d:Nat):qMO G l cl d []:=λj h=>absurd h (Nat.not_lt_zero j)
theorem qMO.mono{G G':Hp}{l:List Sm.PR}{cl:List Chg}{d:Nat}{tl:List TrD}(h:qMO G l cl d tl)(hl:Le G G'):qMO G' l cl d tl:=λj hj=>(h j hj).mono hl
theorem qMO.snoc{G:Hp}{l:List Sm.PR}{cl:List Chg}{d:Nat}{tl:List TrD}{x:TrD}(h:qMO G l cl d tl)(hx:qOt G l cl d tl.length x):qMO G l cl d (tl++ [x]):=λj hj=>by
  rw [List.length_append,List.length_singleton] at hj
  by_cases hlt:j<tl.length
  · rw [List.getD_eq_getElem?_getD,List.getElem?_append_left hlt,←List.getD_eq_getElem?_getD];exact h j hlt
  · obtain rfl:j=tl.length:=by omega
    rw [List.getD_eq_getElem?_getD,List.getElem?_append_right (Nat.le_refl _),Nat.sub_self];exact hx
def qBu(x:RhD):Hd:=⟨x.ep,x.par,x.dep,x.aud,x.ns⟩
structure StR where
 tA:Option Addr
 tc:Nat
 mT:Hp
 hA:Option Addr
 hc:Nat
 mH:Hp
 nA:Option Addr
 nc:Nat
 gu:Nat
 tl:List TrD
 At:Option Addr
 ct:Nat
 mo:Hp
 cg:Nat
 cr:Nat
 cl:List Lb
 G:Hp
structure StP (kv:List Sm.PR) (cl:List Chg) (nxt:List Lb) (au:List Aud) (par:List UInt8) (dp rn:Nat) (tg:List Nat) (hd:List RhD) (x:StR):Prop where
 nr:Sl x.G 1 x.nA (qAg (kvT kv cl dp (2^dp)) dp).length x.nc (qAG (qAg (kvT kv cl dp (2^dp)) dp))
 rt:Row x.mT 103 1 x.tA (tg++ [x.gu]).length x.tc (qCu (tg++ [x.gu]))
 rh:Row x.mH 52 5 x.hA (hd++ [adH par dp rn hd (kvT kv cl dp (2^dp)) x.nA x.nc]).length x.hc (qIH (hd++ [adH par dp rn hd (kvT kv cl dp (2^dp)) x.nA x.nc]))
 tu:qCF x.G x.gu (kvT kv cl dp (2^dp))
 len:x.tl.length=2^dp
 ro:Row x.mo 72 5 x.At x.tl.length x.ct (qGz x.tl)
 ok:qMO x.G kv cl dp x.tl
 mp:Fw.MapAt x.G x.cg (lbV x.cl)
 lb:LbA x.G x.cl
 pm:(lbE x.cl).Perm (lbE nxt)
 au: ∃RA rn rc,qAL x.G ⟨x.cr,0,none⟩ [.slice RA rn rc]∧Sl x.G 4 RA rn rc (qBK au)
theorem qLg(F mT mH:Hp)(hK:KF F)(gs dp nA rA nB rB:Nat)(v1 v2:Value)(tA:Option Addr)(tc:Nat)(tg:List Nat)(hrt:Row mT 103 1 tA tg.length tc (qCu tg))(htg:tg.length≤100000)(hA:Option Addr)(hc:Nat)(hd:List RhD)(hrh:Row mH 52 5 hA hd.length hc (qIH hd))(hhd:hd.length≤100000)(hdp:dp≤4)(cA:Option Addr)(cc:Nat)(cl:List Chg)(hsC:Sl F 2 cA cl.length cc (qCW cl))(hcl:qTw cl)(oA:Option Addr)(oc:Nat)(no:List (List UInt8))(nxt:List Lb)(hm:Fw.MapAt F nB (lbV nxt))(hl:LbA F nxt)(hun:qKJ (lbE nxt))(hln: ∀x∈nxt,x.l.length≤1000000)(RA:Option Addr)(rn rc:Nat)(au:List Aud)(hR:qAL F ⟨rB,0,none⟩ [.slice RA rn rc])(hRs:Sl F 4 RA rn rc (qBK au))(hrn:rn≤1000000)(ht0:0<tg.length)(hh0:0<hd.length)(kv:List Sm.PR)(hT:qCF F (tg.getD (tg.length-1) 0) kv)(hf:qCI kv)(hkl:kv.length≤80000)(hgd:(qBu (hd.getD (hd.length-1) qAo)).good)(hns:Sl F 1 (hd.getD (hd.length-1) qAo).nsA (hd.getD (hd.length-1) qAo).ns.length (hd.getD (hd.length-1) qAo).nsc (qAG (hd.getD (hd.length-1) qAo).ns)):Ct prog 47 [Ptr gs] [blk gs [I ((dp:Nat):Int),v1,v2,.map (some nA),Ptr rA,.map (some nB),Ptr rB,.slice cA cl.length cc,.slice oA no.length oc,.slice tA tg.length tc,.slice hA hd.length hc] 102,mT,mH,F] (λx:StR=> .slice x.At x.tl.length x.ct) (StP kv cl nxt au ((qBu (hd.getD (hd.length-1) qAo)).dig) dp rn tg hd) (λx=> [blk gs [I ((dp:Nat):Int),v1,v2,.map (some x.cg),Ptr x.cr,.map (some nB),Ptr rB,.slice none 0 0,.slice none 0 0,.slice x.tA (tg++ [x.gu]).length x.tc,.slice x.hA (hd++ [adH ((qBu (hd.getD (hd.length-1) qAo)).dig) dp rn hd (kvT kv cl dp (2^dp)) x.nA x.nc]).length x.hc] 102,x.mT,x.mH,F,x.mo,x.G]):=by
 obtain ⟨hp1,hp16⟩:=qIN hdp
 have hcnt:cnt ((dp:Nat):Int)=2^dp:=qDd hdp
 have hcll:=hcl.len
 refine Ct.walk func47 rfl ntmps47 rfl (λw0 hw0=>?_)
 change J _ [(0,_)] _ _ _
 refine J.g λK1 hK1=>J.b O<|J.c hK1<|J.u 0 ?_
 refine J.g λK2 hK2=>J.b O<|J.f (qAC O O) O<|J.a3 9 qA7 sizeOf100 O O O O O<|J.f (qAE 0 (v:= .slice tA tg.length tc) O O O isAgg100 O) O<|J.k (qAA O O ent73 (Ct.use0 (λF' hF=>qKY F' tA tg.length tc tg (hrt.sl.mono (hF mT (by simp))) ht0 (by omega)))) rfl λg18 _=>J.b rfl<|J.c hK2<|J.E 0 3 ?_
 refine J.g λK3 hK3=>J.b O<|J.c hK3<|J.G 0 3 4 ?_
 refine J.j λK4 hK4=>J.g λK5 hK5=>J.b O<|J.f (qAC O O) O<|J.a3 0 qA7 z3_ O O O O O<|J.f (qAE 0 (v:=I ((dp:Nat):Int)) O O O b3_ O) O<|J.k (qAA O O ent27 (Ct.use0 (λF' hF=>by have:=qCC F' ((dp:Nat):Int);rw [hcnt] at this;exact this))) rfl λg23 _=>J.b rfl<|J.c hK5<|J.a0 0 3 4 23 24 ?_
 refine J.V<|J.b6 (X:=Nat×Nat×List TrD×Option Addr×Nat×Hp×Hp) (λζ=> [(0,Ptr gs),(3,Ptr ζ.2.1),(4,.slice ζ.2.2.2.1 ζ.2.2.1.length ζ.2.2.2.2.1),(23,I ((2^dp:Nat):Int)),(24,I ((ζ.1:Nat):Int))]) (λζ=> [ζ.2.2.2.2.2.2,ζ.2.2.2.2.2.1,blk gs [I ((dp:Nat):Int),v1,v2,.map (some nA),Ptr rA,.map (some nB),Ptr rB,.slice cA cl.length cc,.slice oA no.length oc,.slice tA tg.length tc,.slice hA hd.length hc] 102,mT,mH,F]) (λζ=>ζ.1≤2^dp∧ζ.2.2.1.length=ζ.1∧Row ζ.2.2.2.2.2.1 72 5 ζ.2.2.2.1 ζ.2.2.1.length ζ.2.2.2.2.1 (qGz ζ.2.2.1)∧(∀F',Le F F'→Le ζ.2.2.2.2.2.2 F'→qCF F' ζ.2.1 (kvT kv cl dp ζ.1))∧(0<ζ.1→qCF ζ.2.2.2.2.2.2 ζ.2.1 (kvT kv cl dp ζ.1))∧qMO ζ.2.2.2.2.2.2 kv cl dp ζ.2.2.1) (λζ=>2^dp-ζ.1) (0,tg.getD (tg.length-1) 0,[],none,0,(λ_=>none),(λ_=>none)) (⟨Nat.zero_le _,O,qBU.nil,λF' h1 _=>hT.mono h1,λh=>absurd h (Nat.lt_irrefl 0),qMO.nil _ _ _ _⟩) ⟨O,O,O,O,O,trivial⟩ (λ_ h=>h.empty.empty.pick [4,5,0,1,2,3] (by decide)) ?_
 rintro⟨b,gu,tl,At,ct,mt,H⟩ ⟨hb,htl,hro,hu,hu1,hok⟩ I0 hI0
 dsimp only at hb htl hro hu hu1 hok⊢
 refine J.g λK6 hK6=>J.f (qAT O O O) O<|J.c hK6<|J.b8 0 3 4 23 24 25 ?_
 refine J.j λK7 hK7=>J.a2 O (λh25=>?_) (λh25=>?_)
 ·
  refine J.W hK7<|J.a0 0 3 4 23 24 ?_
  refine J.j λK8 hK8=>J.V<|J.g λK9 hK9=>J.p 2 O<|J.c hK9<|J.b8 0 3 4 5 23 24 ?_
  refine J.g λK10 hK10=>J.b O<|J.c hK10<|J.c2 0 3 4 5 6 23 24 ?_
  refine J.j λK11 hK11=>J.g λK12 hK12=>J.b O<|J.f (qAC O O) O<|J.a3 7 qA7 sizeOf99 O O O O O<|J.f (qAE 2 (v:= .slice cA cl.length cc) O O O isAgg99 O) O<|J.f (qAP qMH O O) O<|J.b O<|J.c hK12<|J.e5 0 3 4 5 6 23 24 30 31 32 ?_
  refine J.V<|J.b6 (X:=Nat×Option Addr×Nat×Hp×List Chg) (λζ=> [(0,Ptr gs),(3,Ptr gu),(4,.slice At tl.length ct),(5,I ((b:Nat):Int)),(6,.slice ζ.2.1 ζ.2.2.2.2.length ζ.2.2.1),(23,I ((2^dp:Nat):Int)),(24,I ((b:Nat):Int)),(30,.slice cA cl.length cc),(31,I ((cl.length:Nat):Int)),(32,I ((ζ.1:Nat):Int))]) (λζ=> [H,mt,blk gs [I ((dp:Nat):Int),v1,v2,.map (some nA),Ptr rA,.map (some nB),Ptr rB,.slice cA cl.length cc,.slice oA no.length oc,.slice tA tg.length tc,.slice hA hd.length hc] 102,mT,mH,F,ζ.2.2.2.1]) (λζ=>ζ.1≤cl.length∧Row ζ.2.2.2.1 122 2 ζ.2.1 ζ.2.2.2.2.length ζ.2.2.1 (qCW ζ.2.2.2.2)∧ζ.2.2.2.2=qBw (cl.take ζ.1) dp b) (λζ=>cl.length-ζ.1) (0,none,0,(λ_=>none),[]) (⟨Nat.zero_le _,qBU.nil,O⟩) ⟨O,O,O,O,O,O,O,O,O,O,trivial⟩ (λ_ h=>h.empty.pick [0,1,2,3,4,5,6] (by decide)) ?_
  rintro⟨i,A6,c6,m6,l6⟩ ⟨hi,hr6,hl6⟩ I2 hI2
  dsimp only at hi hr6 hl6⊢
  refine J.g λK13 hK13=>J.f (qAT O O O) O<|J.c hK13<|J.f1 0 3 4 5 6 23 24 30 31 32 33 ?_
  refine J.j λK14 hK14=>J.a2 O (λh33=>?_) (λh33=>?_)
  ·
   refine J.W hK14<|J.e5 0 3 4 5 6 23 24 30 31 32 ?_
   refine J.j λK15 hK15=>J.V<|J.j λK16 hK16=>?_
   have hik:(cl.getD i qAU).k.length≤1000000:=by
    have:cl.getD i qAU∈cl:=by
     rw [List.getD_eq_getElem?_getD,List.getElem?_eq_getElem (show i<cl.length by omega)];exact List.getElem_mem _
    rw [hcl.k16 _ this];decide
   refine J.L<|J.f (qAH (i:=i) O O O qMH qEa hsC (by omega)) O<|J.f (qAd (vs:= [Str ((cl.getD i qAU).k),Str ((cl.getD i qAU).v)]) O O isAgg122 qEa (m:=F) (by simp) (hsC.elem (qFq (by omega))) rfl) rfl<|J.k (qAN (l:= [Str [],Str []]) rfl zeroValue122 rfl) rfl λg8 _=>?_
   change J _ _ _ [H,mt,blk gs [I ((dp:Nat):Int),v1,v2,.map (some nA),Ptr rA,.map (some nB),Ptr rB,.slice cA cl.length cc,.slice oA no.length oc,.slice tA tg.length tc,.slice hA hd.length hc] 102,mT,mH,F,m6,blk g8 [Str [],Str []] 122] _
   refine J.b0 (qAI (i:=7) (l:= [Str [],Str []]) (vs:= [Str ((cl.getD i qAU).k),Str ((cl.getD i qAU).v)]) O O O O O qEa O O) O O λ_ _=>?_
   change J _ _ _ [_,_,_,_,_,_,_,blk g8 [Str ((cl.getD i qAU).k),Str ((cl.getD i qAU).v)] 122] _
   refine J.c hK16<|J.f1 0 3 4 5 6 8 23 24 30 31 32 ?_
   refine J.j λK17 hK17=>J.c1 [blk gs [I ((dp:Nat):Int),v1,v2,.map (some nA),Ptr rA,.map (some nB),Ptr rB,.slice cA cl.length cc,.slice oA no.length oc,.slice tA tg.length tc,.slice hA hd.length hc] 102,blk g8 [Str ((cl.getD i qAU).k),Str ((cl.getD i qAU).v)] 122] [] (.y 0 (.y 1 (.y 2 (.y 3 (.y 4 (.y 5 (.e 6 (.y 7 (.y 8 (.y 9 (.y 10 (.y 11 .nil)))))))))))) Tryz.wide (by decide+kernel) (by simp) ?_
   refine J.q O (qAB (j:=0) O O qJV O z9_ O) O O<|J.q O (qAE 1 (v:=Str ((cl.getD i qAU).k)) O O O b9_ O) O O<|J.T ?_
   refine J.q O (qAC O O) O O<|J.q O (qAB (j:=0) O O qA7 O z3_ O) O O<|J.q O (qAE 0 (v:=I ((dp:Nat):Int)) O O O b3_ O) O O<|J.a9 O (qAA O O ent112 (Ct.use0 (λF' hF=>qRh F' ((cl.getD i qAU).k) (by first|omega|exact hsm _|exact Nat.le_of_ble_eq_true O) dp (by omega)))) O (by simp) λg43 _=>J.T ?_
   refine J.d9 (I ((ofV ((cl.getD i qAU).k) dp:Nat):Int)) ?_
   refine J.d9 (I ((ofE ((cl.getD i qAU).k):Nat):Int)) ?_
   refine J.c6 ?_
   refine J.c6 ?_
   refine J.b9<|J.A (J.H hK17 ?_)
   refine J.f2 0 3 4 5 6 8 9 23 24 30 31 32 ?_
   refine J.g λK18 hK18=>J.p 2 O<|J.f (qAY O O O) O<|J.c hK18<|J.f2 0 3 4 5 6 8 23 24 30 31 32 48 ?_
   refine J.a2 O (λh48=>?_) (λh48=>?_)
   ·
    have hl6l:l6.length≤cl.length:=by rw [hl6];exact Nat.le_trans (qFs _ _ _) (by rw [List.length_take];omega)
    refine J.L<|J.b O<|J.c9 7 isAgg122 qEa O O O O O<|J.k (qAF (l:= [.tmp 50]) (xs:= [[Str ((cl.getD i qAU).k),Str ((cl.getD i qAU).v)]]) O O O O qMH el122 O (by decide) (by decide) (by simp)) rfl λg51 _=>?_
    change J _ _ _ [_,_,_,_,_,_,_,_,blk g51 [Str ((cl.getD i qAU).k),Str ((cl.getD i qAU).v)] 122] _
    refine J.k (qAW (i:=6) (xs:=qCW l6) (m2:=blk g51 [Str ((cl.getD i qAU).k),Str ((cl.getD i qAU).v)] 122) (ys:= [[Str ((cl.getD i qAU).k),Str ((cl.getD i qAU).v)]]) O O O qMH qMH el122 O hr6 (by simp) ((qAk (q:=True) (xs:=qCW [(cl.getD i qAU)]) rfl (by intro x hx;rw [List.mem_singleton.1 hx];rfl)).sl) rfl (by omega) (by omega)) rfl ?_
    rintro⟨A52,c52,m52⟩ h52
    try dsimp only at h52
    change J _ ((52,.slice A52 (l6.length+1) c52)::_) _ [_,_,_,_,_,_,m52,_,_] _
    replace h52:Row m52 122 2 A52 (l6.length+1) c52 (qCW (l6++ [(cl.getD i qAU)])):=by rw [qGh];exact h52
    rw [show l6.length+1=(l6++ [(cl.getD i qAU)]).length by rw [List.length_append];rfl] at h52⊢
    refine J.b O<|J.a7<|J.a6<|J.A (J.H hK15 ?_)
    refine J.e5 0 3 4 5 6 23 24 30 31 32 ?_
    exact J.L<|J.f ((qAO O O O (by omega)).nat (i+1) (by omega)) O<|J.b O<|J.a7<|J.A<|J.a8 (i+1,A52,c52,m52,l6++ [cl.getD i qAU]) (λη (hη:_∧cl.length-η.1<cl.length-i)=>hI2 η hη.1 hη.2) ⟨⟨by dsimp only;omega,h52,by dsimp only;rw [qGm (by omega),if_pos (by omega),←hl6]⟩,by first|omega|(dsimp only;omega)⟩ ⟨rfl,rfl,rfl,rfl,rfl,rfl,rfl,rfl,rfl,rfl,trivial⟩ (λ_ h=>h.pick [0,1,2,3,4,5,6] (by decide))
   refine J.b7<|J.a6<|J.A (J.H hK15 ?_)
   refine J.e5 0 3 4 5 6 23 24 30 31 32 ?_
   exact J.L<|J.f ((qAO O O O (by omega)).nat (i+1) (by omega)) O<|J.b O<|J.a7<|J.A<|J.a8 (i+1,A6,c6,m6,l6) (λη (hη:_∧cl.length-η.1<cl.length-i)=>hI2 η hη.1 hη.2) ⟨⟨by dsimp only;omega,hr6,by dsimp only;rw [qGm (by omega),if_neg (by omega)];exact hl6⟩,by first|omega|(dsimp only;omega)⟩ ⟨rfl,rfl,rfl,rfl,rfl,rfl,rfl,rfl,rfl,rfl,trivial⟩ (λ_ h=>h.pick [0,1,2,3,4,5,6] (by decide))
  refine J.b4<|J.a1<|J.a1<|J.b5 ?_
  refine J.A (J.H hK11 ?_)
  refine J.c2 0 3 4 5 6 23 24 ?_
  refine J.j λK19 hK19=>?_
  obtain rfl:i=cl.length:=by omega
  rw [List.take_length] at hl6
  subst hl6
  refine J.L<|J.p 3 O<|J.f (qAC O O) O<|J.a3 0 qA7 z3_ O O O O O<|J.f (qAE 2 (v:=I ((dp:Nat):Int)) O O O b3_ O) O<|J.b O<|J.k (qAA O O ent113 (Ct.use (new:=λr:MkR=> [r.mt,r.ms,r.M]) (λF' hF=>qPG F' (hK.mo hF) gu (kvT kv cl dp b) (hu F' (hF F (by simp)) (hF H (by simp))) (qEs hf hcl hkl dp (by omega)) (qIg hcl hkl dp (by omega)) b dp (by omega) (by omega) A6 (qBw cl dp b).length c6 (qBw cl dp b) (hr6.sl.mono (hF m6 (by simp))) (hcl.band dp b)))) rfl ?_
  rintro r62 hp62
  change J _ ((62,.tuple #[.agg #[I ((b:Nat):Int),I ((dp:Nat):Int),Str (Sm.ndB (kvT kv cl dp b) (kF b dp) dp),Str (Sm.ndB (kvC (kvT kv cl dp b) (qBw cl dp b)) (kF b dp) dp),.slice r62.A r62.L.length r62.c],Ptr r62.g,I 0])::_) _ [H,mt,blk gs [I ((dp:Nat):Int),v1,v2,.map (some nA),Ptr rA,.map (some nB),Ptr rB,.slice cA cl.length cc,.slice oA no.length oc,.slice tA tg.length tc,.slice hA hd.length hc] 102,mT,mH,F,m6,r62.mt,r62.ms,r62.M] _
  refine J.p 4 O<|J.k (qAN (l:= [I 0,I 0,Str [],Str [],.slice none 0 0]) O zeroValue72 O) O λg11 _=>?_
  change J _ _ _ [_,_,_,_,_,_,_,_,_,_,blk g11 [I 0,I 0,Str [],Str [],.slice none 0 0] 72] _
  refine J.b0 (qAI (i:=10) (l:= [I 0,I 0,Str [],Str [],.slice none 0 0]) (vs:= [I ((b:Nat):Int),I ((dp:Nat):Int),Str (Sm.ndB (kvT kv cl dp b) (kF b dp) dp),Str (Sm.ndB (kvC (kvT kv cl dp b) (qBw cl dp b)) (kF b dp) dp),.slice r62.A r62.L.length r62.c]) O O O O O sizeOf72 O O) O O λ_ _=>?_
  change J _ _ _ [_,_,_,_,_,_,_,_,_,_,blk g11 [I ((b:Nat):Int),I ((dp:Nat):Int),Str (Sm.ndB (kvT kv cl dp b) (kF b dp) dp),Str (Sm.ndB (kvC (kvT kv cl dp b) (qBw cl dp b)) (kF b dp) dp),.slice r62.A r62.L.length r62.c] 72] _
  refine J.p 2 O<|J.c hK19<|J.b8 0 4 11 12 23 24 ?_
  obtain ⟨x,hx⟩: ∃x:TrD,x=⟨b,dp,Sm.ndB (kvT kv cl dp b) (kF b dp) dp,Sm.ndB (kvT kv cl dp (b+1)) (kF b dp) dp,r62.A,r62.c,r62.L⟩:=⟨_,rfl⟩
  refine J.L<|J.b O<|J.c9 10 isAgg72 sizeOf72 O O O O O<|J.k (qAF (l:= [.tmp 67]) (xs:= [[I ((b:Nat):Int),I ((dp:Nat):Int),Str (Sm.ndB (kvT kv cl dp b) (kF b dp) dp),Str (Sm.ndB (kvC (kvT kv cl dp b) (qBw cl dp b)) (kF b dp) dp),.slice r62.A r62.L.length r62.c]]) O O O O underlying53 el72 O (by decide) (by decide) (by simp)) rfl λg68 _=>?_
  change J _ _ _ [_,_,_,_,_,_,_,_,_,_,_,blk g68 [I ((b:Nat):Int),I ((dp:Nat):Int),Str (Sm.ndB (kvT kv cl dp b) (kF b dp) dp),Str (Sm.ndB (kvC (kvT kv cl dp b) (qBw cl dp b)) (kF b dp) dp),.slice r62.A r62.L.length r62.c] 72] _
  refine J.k (qAW (i:=1) (xs:=qGz tl) (m2:=blk g68 [I ((b:Nat):Int),I ((dp:Nat):Int),Str (Sm.ndB (kvT kv cl dp b) (kF b dp) dp),Str (Sm.ndB (kvC (kvT kv cl dp b) (qBw cl dp b)) (kF b dp) dp),.slice r62.A r62.L.length r62.c] 72) (ys:= [[I ((b:Nat):Int),I ((dp:Nat):Int),Str (Sm.ndB (kvT kv cl dp b) (kF b dp) dp),Str (Sm.ndB (kvC (kvT kv cl dp b) (qBw cl dp b)) (kF b dp) dp),.slice r62.A r62.L.length r62.c]]) O O O underlying53 underlying53 el72 O hro (by simp) ((qAk (q:=True) (xs:=qGz [(⟨b,dp,Sm.ndB (kvT kv cl dp b) (kF b dp) dp,Sm.ndB (kvC (kvT kv cl dp b) (qBw cl dp b)) (kF b dp) dp,r62.A,r62.c,r62.L⟩:TrD)]) rfl (by intro x hx;rw [List.mem_singleton.1 hx];rfl)).sl) rfl (by omega) (by omega)) rfl ?_
  rintro⟨A69,c69,m69⟩ h69
  try dsimp only at h69
  change J _ ((69,.slice A69 (tl.length+1) c69)::_) _ [_,m69,_,_,_,_,_,_,_,_,_,_] _
  replace h69:Row m69 72 5 A69 (tl.length+1) c69 (qGz (tl++ [x])):=by rw [qLc,hx];exact h69
  rw [show tl.length+1=(tl++ [x]).length by rw [List.length_append];rfl] at h69⊢
  refine J.p 3 O<|J.c8 [0,7,8,9,1,2,3,4,5] [H,r62.mt,r62.ms,r62.M,m69,blk gs [I ((dp:Nat):Int),v1,v2,.map (some nA),Ptr rA,.map (some nB),Ptr rB,.slice cA cl.length cc,.slice oA no.length oc,.slice tA tg.length tc,.slice hA hd.length hc] 102,mT,mH,F] O (by decide)<|J.e4 (λhj1=>?_)
  refine J.e4 (λhj2=>?_)
  refine J.e4 (λhj3=>?_)
  refine J.a7<|J.a6<|J.A (J.H hK8 ?_)
  refine J.a0 0 3 4 23 24 ?_
  exact J.L<|J.f ((qAO O O O (by omega)).nat (b+1) (by omega)) O<|J.b O<|J.a7<|J.A<|J.a8 (b+1,r62.g,tl++ [x],A69,c69,m69,U [U [U [H,r62.mt],r62.ms],r62.M]) (λη (hη:_∧2^dp-η.1<2^dp-b)=>hI0 η hη.1 hη.2) ⟨⟨by dsimp only;omega,by dsimp only;rw [List.length_append,htl];rfl,h69,λF' _ h2=>hp62.tree.at.mono ((qNw hj1).trans ((qEr hj2).trans ((qEr hj3).trans h2))),λ_=>hp62.tree.at.mono ((qNw hj1).trans ((qEr hj2).trans (qEr hj3))),(hok.mono ((qEr hj1).trans ((qEr hj2).trans (qEr hj3)))).snoc (by rw [htl,hx];exact⟨rfl,rfl,rfl,rfl,hp62.chg,hp62.ok,hp62.row.sl.mono ((qNw hj2).trans (qEr hj3)),hp62.bs.mono (qNw hj3)⟩)⟩,by first|omega|(dsimp only;omega)⟩ ⟨rfl,rfl,rfl,rfl,rfl,trivial⟩ (λ_ h=>h)
 refine J.b4<|J.a1<|J.a1<|J.b5 ?_
 refine J.A (J.H hK4 ?_)
 refine J.G 0 3 4 ?_
 refine J.j λK20 hK20=>?_
 obtain rfl:b=2^dp:=by omega
 refine J.c8 [2,3,4,5,0,1] [blk gs [I ((dp:Nat):Int),v1,v2,.map (some nA),Ptr rA,.map (some nB),Ptr rB,.slice cA cl.length cc,.slice oA no.length oc,.slice tA tg.length tc,.slice hA hd.length hc] 102,mT,mH,F,H,mt] O (by decide)<|J.L<|J.p 3 O<|J.k (qAA O O ent48 (Ct.use0 (λF' hF=>qIA F' gs (I ((dp:Nat):Int)) v1 v2 (.map (some nA)) (Ptr rA) (.map (some nB)) (Ptr rB) (.slice cA cl.length cc) (.slice oA no.length oc) (.slice tA tg.length tc) hA hd.length hc hd (hrh.sl.mono (hF mH (by simp))) (by omega) (by omega) (qAL.blk0.mono (hF (blk gs [I ((dp:Nat):Int),v1,v2,.map (some nA),Ptr rA,.map (some nB),Ptr rB,.slice cA cl.length cc,.slice oA no.length oc,.slice tA tg.length tc,.slice hA hd.length hc] 102) (by simp)))))) rfl λg75 _=>J.k (qAA rfl rfl ent59 (Ct.use0 (λF' hF=>qL8 F' (hK.mo hF) (qBu (hd.getD (hd.length-1) qAo)) (hd.getD (hd.length-1) qAo).nsA (hd.getD (hd.length-1) qAo).nsc hgd (hns.mono (hF F (by simp)))))) rfl λg76 _=>J.k (qAA rfl rfl ent33 (Ct.useA [blk gs [I ((dp:Nat):Int),v1,v2,.map (some nA),Ptr rA,.map (some nB),Ptr rB,.slice cA cl.length cc,.slice oA no.length oc,.slice tA tg.length tc,.slice hA hd.length hc] 102,mT,mH] [F,H,mt] (A':=λx:AdR=> [blk gs [I ((dp:Nat):Int),v1,v2,.map (some nA),Ptr rA,.map (some nB),Ptr rB,.slice cA cl.length cc,.slice oA no.length oc,.slice x.tA (tg++ [gu]).length x.tc,.slice x.hA (hd++ [adH ((qBu (hd.getD (hd.length-1) qAo)).dig) dp rn hd (kvT kv cl dp (2^dp)) x.nA x.nc]).length x.hc] 102,x.mT,x.mH]) (new:=λx=> [x.mN]) (λF' hF=>qM2 F' mT mH (hK.mo hF) gs dp rB v1 v2 (.map (some nA)) (Ptr rA) (.map (some nB)) (.slice cA cl.length cc) (.slice oA no.length oc) tA tc tg hrt htg hA hc hd hrh hhd hdp gu (kvT kv cl dp (2^dp)) (hu F' (hF F (by simp)) (hF H (by simp))) (qEs hf hcl hkl dp (by omega)) RA rn rc au (hR.mono (hF F (by simp))) (hRs.mono (hF F (by simp))) ((qBu (hd.getD (hd.length-1) qAo)).dig)))) rfl ?_
 rintro r77 hp77
 change J _ _ _ [blk gs [I ((dp:Nat):Int),v1,v2,.map (some nA),Ptr rA,.map (some nB),Ptr rB,.slice cA cl.length cc,.slice oA no.length oc,.slice r77.tA (tg++ [gu]).length r77.tc,.slice r77.hA (hd++ [adH ((qBu (hd.getD (hd.length-1) qAo)).dig) dp rn hd (kvT kv cl dp (2^dp)) r77.nA r77.nc]).length r77.hc] 102,r77.mT,r77.mH,F,H,mt,r77.mN] _
 refine J.c hK20<|J.E 0 4 ?_
 refine J.j λK21 hK21=>?_
 have hu0:qKJ (lbE nxt):=hun
 refine J.L<|J.p 2 O<|J.f (qAC O O) O<|J.a3 5 qA7 qFx O O O O O<|J.f (qAd (vs:= [.map (some nB),Ptr rB]) O O isAgg97 qFx (m:=blk gs [I ((dp:Nat):Int),v1,v2,.map (some nA),Ptr rA,.map (some nB),Ptr rB,.slice cA cl.length cc,.slice oA no.length oc,.slice r77.tA (tg++ [gu]).length r77.tc,.slice r77.hA (hd++ [adH ((qBu (hd.getD (hd.length-1) qAo)).dig) dp rn hd (kvT kv cl dp (2^dp)) r77.nA r77.nc]).length r77.hc] 102) (by simp) (qAL.blk0.sub 5 2) rfl) rfl<|J.k (qAA rfl rfl ent32 (Ct.use (new:=λx:CpR=> [x.mm,x.M,x.mr]) (λF' hF=>qKc F' nB rB nxt (hm.mono (hF F (by simp))) (hl.mono (hF F (by simp))) hu0 hln RA rn rc au (hR.mono (hF F (by simp))) (hRs.mono (hF F (by simp))) hrn))) rfl ?_
 rintro r83 hp83
 change J _ ((83,.agg #[.map (some r83.g),Ptr r83.r])::_) _ [_,_,_,_,_,_,_,r83.mm,r83.M,r83.mr] _
 refine J.f (qAC O O) O<|J.a3 3 qA7 qFx O O O O O<|J.b0 (qAZ (i:=0) (l:= [I ((dp:Nat):Int),v1,v2,.map (some nA),Ptr rA,.map (some nB),Ptr rB,.slice cA cl.length cc,.slice oA no.length oc,.slice r77.tA (tg++ [gu]).length r77.tc,.slice r77.hA (hd++ [adH ((qBu (hd.getD (hd.length-1) qAo)).dig) dp rn hd (kvT kv cl dp (2^dp)) r77.nA r77.nc]).length r77.hc]) (vs:= [.map (some r83.g),Ptr r83.r]) O O O O O qFx O (by simp)) rfl rfl λ_ _=>?_
 change J _ _ _ [blk gs [I ((dp:Nat):Int),v1,v2,.map (some r83.g),Ptr r83.r,.map (some nB),Ptr rB,.slice cA cl.length cc,.slice oA no.length oc,.slice r77.tA (tg++ [gu]).length r77.tc,.slice r77.hA (hd++ [adH ((qBu (hd.getD (hd.length-1) qAo)).dig) dp rn hd (kvT kv cl dp (2^dp)) r77.nA r77.nc]).length r77.hc] 102,_,_,_,_,_,_,_,_,_] _
 refine J.c hK21<|J.E 0 4 ?_
 refine J.g λK22 hK22=>J.p 2 O<|J.f (qAC O O) O<|J.a3 7 qA7 sizeOf99 O O O O O<|J.b0 (qAZ (i:=0) (l:= [I ((dp:Nat):Int),v1,v2,.map (some r83.g),Ptr r83.r,.map (some nB),Ptr rB,.slice cA cl.length cc,.slice oA no.length oc,.slice r77.tA (tg++ [gu]).length r77.tc,.slice r77.hA (hd++ [adH ((qBu (hd.getD (hd.length-1) qAo)).dig) dp rn hd (kvT kv cl dp (2^dp)) r77.nA r77.nc]).length r77.hc]) (vs:= [.slice none 0 0]) O O O O O sizeOf99 O (by simp)) rfl rfl λ_ _=>?_
 change J _ _ _ [blk gs [I ((dp:Nat):Int),v1,v2,.map (some r83.g),Ptr r83.r,.map (some nB),Ptr rB,.slice none 0 0,.slice oA no.length oc,.slice r77.tA (tg++ [gu]).length r77.tc,.slice r77.hA (hd++ [adH ((qBu (hd.getD (hd.length-1) qAo)).dig) dp rn hd (kvT kv cl dp (2^dp)) r77.nA r77.nc]).length r77.hc] 102,_,_,_,_,_,_,_,_,_] _
 refine J.f (qAC O O) O<|J.a3 8 qA7 qBf O O O O O<|J.b0 (qAZ (i:=0) (l:= [I ((dp:Nat):Int),v1,v2,.map (some r83.g),Ptr r83.r,.map (some nB),Ptr rB,.slice none 0 0,.slice oA no.length oc,.slice r77.tA (tg++ [gu]).length r77.tc,.slice r77.hA (hd++ [adH ((qBu (hd.getD (hd.length-1) qAo)).dig) dp rn hd (kvT kv cl dp (2^dp)) r77.nA r77.nc]).length r77.hc]) (vs:= [.slice none 0 0]) O O O O O qBf O (by simp)) rfl rfl λ_ _=>?_
 change J _ _ _ [blk gs [I ((dp:Nat):Int),v1,v2,.map (some r83.g),Ptr r83.r,.map (some nB),Ptr rB,.slice none 0 0,.slice none 0 0,.slice r77.tA (tg++ [gu]).length r77.tc,.slice r77.hA (hd++ [adH ((qBu (hd.getD (hd.length-1) qAo)).dig) dp rn hd (kvT kv cl dp (2^dp)) r77.nA r77.nc]).length r77.hc] 102,_,_,_,_,_,_,_,_,_] _
 refine J.c hK22<|J.u 4 ?_
 refine J.g λK23 hK23=>J.p 2 O<|J.c8 [4,6,7,8,9,5,0,1,2,3] [H,r77.mN,r83.mm,r83.M,r83.mr,mt,blk gs [I ((dp:Nat):Int),v1,v2,.map (some r83.g),Ptr r83.r,.map (some nB),Ptr rB,.slice none 0 0,.slice none 0 0,.slice r77.tA (tg++ [gu]).length r77.tc,.slice r77.hA (hd++ [adH ((qBu (hd.getD (hd.length-1) qAo)).dig) dp rn hd (kvT kv cl dp (2^dp)) r77.nA r77.nc]).length r77.hc] 102,r77.mT,r77.mH,F] O (by decide)<|J.e4 (λhj1=>?_)
 refine J.e4 (λhj2=>?_)
 refine J.e4 (λhj3=>?_)
 refine J.e4 (λhj4=>?_)
 refine J.c hK23<|J.u 2 ?_
 exact J.D<|J.M hw0 O (⟨r77.tA,r77.tc,r77.mT,r77.hA,r77.hc,r77.mH,r77.nA,r77.nc,gu,tl,At,ct,mt,r83.g,r83.r,r83.ls,U [U [U [U [H,r77.mN],r83.mm],r83.M],r83.mr]⟩:StR) O ⟨hp77.nd.sl.mono ((qNw hj1).trans ((qEr hj2).trans ((qEr hj3).trans (qEr hj4)))),hp77.rt,hp77.rh,(hu1 (by omega)).mono ((qEr hj1).trans ((qEr hj2).trans ((qEr hj3).trans (qEr hj4)))),htl,hro,hok.mono ((qEr hj1).trans ((qEr hj2).trans ((qEr hj3).trans (qEr hj4)))),hp83.mp.at.mono ((qNw hj2).trans ((qEr hj3).trans (qEr hj4))),hp83.nx.at.mono ((qNw hj3).trans (qEr hj4)),hp83.pm,by obtain ⟨A3,n3,c3,q1,q2,_⟩:=hp83.ro.see;exact⟨A3,n3,c3,q1.mono (qNw hj4),q2.mono (qNw hj4)⟩⟩ [2,3,4,5,1,0] rfl (by decide)
theorem ent46:qAD prog 46:=qAD.of func46 rfl (by kernel_rfl)
theorem ent47:qAD prog 47:=qAD.of func47 rfl (by kernel_rfl)
structure SvR where
 gs:Nat
 dp:Nat
 nA:Nat
 rA:Nat
 nB:Nat
 rB:Nat
 gb:Nat
 nxt:List Lb
 now:List Lb
 cA:Option Addr
 cc:Nat
 cl:List Chg
 oA:Option Addr
 oc:Nat
 no:List (List UInt8)
 tA:Option Addr
 tc:Nat
 tg:List Nat
 hA:Option Addr
 hc:Nat
 hd:List RhD
 mX:Hp
 NX:Hp
 mC:Hp
 mO:Hp
 mT:Hp
 mH:Hp
 md:Hp
 N:Hp
 bk:CbR
 kv:List (List Sm.PR)
 aud:List Aud
 audN:List Aud
abbrev SvR.sb(x:SvR):Hp:=blk x.gs [I ((x.dp:Nat):Int),Ptr x.gb,.bool false,.map (some x.nA),Ptr x.rA,.map (some x.nB),Ptr x.rB,.slice x.cA x.cl.length x.cc,.slice x.oA x.no.length x.oc,.slice x.tA x.tg.length x.tc,.slice x.hA x.hd.length x.hc] 102
def SvR.hs(x:SvR):List Hp:= [x.sb,x.mX,x.NX,x.mC,x.mO,x.mT,x.mH,x.bk.blk x.gb,x.md,x.N]
abbrev SvR.kvL(x:SvR):List Sm.PR:=x.kv.getD (x.tg.length-1) []
abbrev SvR.hdL(x:SvR):RhD:=x.hd.getD (x.hd.length-1) qAo
def qO3(G:Hp)(g:Nat)(au:List Aud):Prop:= ∃RA rn rc,qAL G ⟨g,0,none⟩ [.slice RA rn rc]∧Sl G 4 RA rn rc (qBK au)
theorem qO3.mono{G G':Hp}{g:Nat}{au:List Aud}(h:qO3 G g au)(hl:Le G G'):qO3 G' g au:=by
 obtain ⟨A,n,c,h1,h2⟩:=h
 exact⟨A,n,c,h1.mono hl,h2.mono hl⟩
abbrev nsl(G:Hp)(h:RhD):Prop:=Sl G 1 h.nsA h.ns.length h.nsc (qAG h.ns)
structure SvP (G:Hp) (x:SvR):Prop where
 mx:Fw.MapS x.mX x.nB (lbV x.nxt)
 nx:NxS x.NX x.nxt
 rc:Row x.mC 122 2 x.cA x.cl.length x.cc (qCW x.cl)
 ro:Row x.mO 9 1 x.oA x.no.length x.oc (qAG x.no)
 rt:Row x.mT 103 1 x.tA x.tg.length x.tc (qCu x.tg)
 rh:Row x.mH 52 5 x.hA x.hd.length x.hc (qIH x.hd)
 bk:CbP x.N x.md x.bk
 nw:Fw.MapAt G x.nA (lbV x.now)
 nl:LbA G x.now
 ra:qO3 G x.rA x.aud
 rb:qO3 G x.rB x.audN
 tr: ∀i,i<x.tg.length→qCF G (x.tg.getD i 0) (x.kv.getD i [])
 hn: ∀i,i<x.hd.length→nsl G (x.hd.getD i qAo)
theorem SvP.mono{G G':Hp}{x:SvR}(h:SvP G x)(hl:Le G G'):SvP G' x:=
 {h with nw:=h.nw.mono hl,nl:=h.nl.mono hl,ra:=h.ra.mono hl,rb:=h.rb.mono hl,tr:=λi hi=>(h.tr i hi).mono hl,hn:=λi hi=>(h.hn i hi).mono hl}
structure SvI (x:SvR):Prop where
 dp:x.dp≤4
 un:qKJ (lbE x.nxt)
 uw:qKJ (lbE x.now)
 ln: ∀y∈x.nxt,y.l.length≤1000
 lw: ∀y∈x.now,y.l.length≤1000
 cl:qTw x.cl
 n9: ∀s∈x.no,s.length≤900
 nc:x.no.length=x.cl.length
 t0:0<x.tg.length
 t1:x.tg.length≤15
 th:x.hd.length=x.tg.length
 tk:x.kv.length=x.tg.length
 kf:qCI x.kvL
 kl:x.kvL.length≤5000*x.tg.length
 hg:(qBu x.hdL).good
 al:x.aud.length≤64
 an:x.audN.length≤64
 sz:x.bk.size≤1000
 re:x.bk.R.length≤x.bk.e
theorem lastD(l:List RhD)(x:RhD):(l++ [x]).getD ((l++ [x]).length-1) qAo=x:=by
 rw [List.length_append,List.length_singleton,Nat.add_sub_cancel,List.getD_eq_getElem?_getD,List.getElem?_append_right (Nat.le_refl _),Nat.sub_self];rfl
theorem qKf{x:RhD}(h1:x.ep≤1000)(h2:x.par.length≤16)(h3:x.ns.length≤16):(qBu x).good:=⟨by show x.ep<_;omega,by show x.par.length≤_;omega,by show x.ns.length≤_;omega⟩
theorem qR3(F:Hp)(hK:KF F)(x:SvR)(hI:SvI x)(hP:SvP F x)(h1:Le x.mX F)(h2:Le x.NX F)(h3:Le x.mC F)(h4:Le x.mO F)(hfit:x.bk.e+qCU (x.no++ [cmB x.no.length x.hd.length])≤x.bk.size):Ct prog 13 [Ptr x.gs] [x.sb,x.mT,x.mH,x.bk.blk x.gb,x.md,x.N,F] (λr:StR×WrR=> .tuple #[.agg #[N64 x.hd.length,Str (qBu x.hdL).dig,I ((x.dp:Nat):Int),I ((x.audN.length:Nat):Int),.slice r.1.nA (qAg (kvT x.kvL x.cl x.dp (2^x.dp)) x.dp).length r.1.nc],.slice r.1.At r.1.tl.length r.1.ct,I ((0:Nat):Int)]) (λr=>StP x.kvL x.cl x.nxt x.audN (qBu x.hdL).dig x.dp x.audN.length x.tg x.hd r.1∧CbP r.2.N r.2.md r.2.x∧CbL x.bk r.2.x (x.no++ [cmB x.no.length x.hd.length])) (λr=> [blk x.gs [I ((x.dp:Nat):Int),Ptr x.gb,.bool false,.map (some r.1.cg),Ptr r.1.cr,.map (some x.nB),Ptr x.rB,.slice none 0 0,.slice none 0 0,.slice r.1.tA (x.tg++ [r.1.gu]).length r.1.tc,.slice r.1.hA (x.hd++ [adH ((qBu x.hdL).dig) x.dp x.audN.length x.hd (kvT x.kvL x.cl x.dp (2^x.dp)) r.1.nA r.1.nc]).length r.1.hc] 102,r.1.mT,r.1.mH,r.2.x.blk x.gb,r.2.md,r.2.N,F,r.1.G,r.1.mo]):=by
 obtain ⟨RA,rn,rc,hR,hRs⟩:=hP.rb
 obtain rfl:x.audN.length=rn:=by have:=hRs.1;rw [qFt] at this;exact this
 have hef:=hP.bk.ef
 have i1:=hI.sz
 have i2:=hI.re
 have i3:=hI.nc
 have i4:=hI.cl.len
 have i5:=hI.t1
 have i6:=hI.th
 have i7:=hI.t0
 have i8:=hI.kl
 have i9:=hI.an
 refine Ct.walk func13 rfl ntmps13 rfl (λw0 hw0=>?_)
 change J _ [(0,_)] _ _ _
 refine J.g λK1 hK1=>J.k (qAN (l:= [.int .u64 0,Str [],I 0,I 0,.slice none 0 0]) O qRe O) O λg2 _=>?_
 change J _ _ _ [blk x.gs [I ((x.dp:Nat):Int),Ptr x.gb,.bool false,.map (some x.nA),Ptr x.rA,.map (some x.nB),Ptr x.rB,.slice x.cA x.cl.length x.cc,.slice x.oA x.no.length x.oc,.slice x.tA x.tg.length x.tc,.slice x.hA x.hd.length x.hc] 102,x.mT,x.mH,(x.bk.blk x.gb),x.md,x.N,F,blk g2 [.int .u64 0,Str [],I 0,I 0,.slice none 0 0] 52] _
 refine J.p 2 O<|J.c hK1<|J.E 0 2 ?_
 refine J.j λK2 hK2=>J.V<|J.g λK3 hK3=>J.b O<|J.f (qA6 underlying28 O O O) O<|J.b O<|J.c hK3<|J.G 0 2 7 ?_
 refine J.a5 ?_
 refine J.g λK4 hK4=>J.b O<|J.f (qAC O O) O<|J.a3 2 qA7 z4_ O O O O O<|J.f (qAE 0 (v:= .bool false) O O O b4_ O) O<|J.b O<|J.c hK4<|J.G 0 2 11 ?_
 refine J.a5 ?_
 refine J.b7<|J.a6<|J.A (J.H hK2 ?_)
 refine J.E 0 2 ?_
 refine J.j λK5 hK5=>J.j λK6 hK6=>J.c8 [3,4,5,0,1,2,6,7] [(x.bk.blk x.gb),x.md,x.N,blk x.gs [I ((x.dp:Nat):Int),Ptr x.gb,.bool false,.map (some x.nA),Ptr x.rA,.map (some x.nB),Ptr x.rB,.slice x.cA x.cl.length x.cc,.slice x.oA x.no.length x.oc,.slice x.tA x.tg.length x.tc,.slice x.hA x.hd.length x.hc] 102,x.mT,x.mH,F,blk g2 [.int .u64 0,Str [],I 0,I 0,.slice none 0 0] 52] O (by decide)<|J.L<|J.b O<|J.k (qAA O O ent46 (Ct.useA [x.bk.blk x.gb,x.md,x.N] [blk x.gs [I ((x.dp:Nat):Int),Ptr x.gb,.bool false,.map (some x.nA),Ptr x.rA,.map (some x.nB),Ptr x.rB,.slice x.cA x.cl.length x.cc,.slice x.oA x.no.length x.oc,.slice x.tA x.tg.length x.tc,.slice x.hA x.hd.length x.hc] 102,x.mT,x.mH,F,blk g2 [.int .u64 0,Str [],I 0,I 0,.slice none 0 0] 52] (A':=λy:WrR=> [y.x.blk x.gb,y.md,y.N]) (new:=λ_=> []) (λF' hF=>qMn F' x.md x.N (hK.mo hF) x.gs x.gb _ _ _ _ _ _ _ _ x.oA x.oc x.no (hP.ro.sl.mono (h4.trans (hF F (by simp)))) (by omega) hI.n9 x.hA x.hd.length x.hc (by omega) (qAL.blk0.mono (hF (blk x.gs [I ((x.dp:Nat):Int),Ptr x.gb,.bool false,.map (some x.nA),Ptr x.rA,.map (some x.nB),Ptr x.rB,.slice x.cA x.cl.length x.cc,.slice x.oA x.no.length x.oc,.slice x.tA x.tg.length x.tc,.slice x.hA x.hd.length x.hc] 102) (by simp))) x.bk hP.bk hfit (by omega) (by omega)))) rfl ?_
 rintro r18 ⟨hb18,hL18⟩
 change J _ _ _ [(r18.x.blk x.gb),r18.md,r18.N,blk x.gs [I ((x.dp:Nat):Int),Ptr x.gb,.bool false,.map (some x.nA),Ptr x.rA,.map (some x.nB),Ptr x.rB,.slice x.cA x.cl.length x.cc,.slice x.oA x.no.length x.oc,.slice x.tA x.tg.length x.tc,.slice x.hA x.hd.length x.hc] 102,x.mT,x.mH,F,blk g2 [.int .u64 0,Str [],I 0,I 0,.slice none 0 0] 52] _
 refine J.b O<|J.c hK6<|J.G 0 2 5 ?_
 refine J.g λK7 hK7=>J.b O<|J.f ((qAb O O O).no (by decide)) O<|J.c hK7<|J.O 0 2 5 20 ?_
 refine J.a5 ?_
 refine J.W hK5<|J.E 0 2 ?_
 refine J.j λK8 hK8=>J.c8 [3,4,5,6,7,0,1,2] [blk x.gs [I ((x.dp:Nat):Int),Ptr x.gb,.bool false,.map (some x.nA),Ptr x.rA,.map (some x.nB),Ptr x.rB,.slice x.cA x.cl.length x.cc,.slice x.oA x.no.length x.oc,.slice x.tA x.tg.length x.tc,.slice x.hA x.hd.length x.hc] 102,x.mT,x.mH,F,blk g2 [.int .u64 0,Str [],I 0,I 0,.slice none 0 0] 52,(r18.x.blk x.gb),r18.md,r18.N] O (by decide)<|J.L<|J.b O<|J.k (qAA O O ent47 (Ct.useA [blk x.gs [I ((x.dp:Nat):Int),Ptr x.gb,.bool false,.map (some x.nA),Ptr x.rA,.map (some x.nB),Ptr x.rB,.slice x.cA x.cl.length x.cc,.slice x.oA x.no.length x.oc,.slice x.tA x.tg.length x.tc,.slice x.hA x.hd.length x.hc] 102,x.mT,x.mH] [F,blk g2 [.int .u64 0,Str [],I 0,I 0,.slice none 0 0] 52,(r18.x.blk x.gb),r18.md,r18.N] (A':=λr:StR=> [blk x.gs [I ((x.dp:Nat):Int),Ptr x.gb,.bool false,.map (some r.cg),Ptr r.cr,.map (some x.nB),Ptr x.rB,.slice none 0 0,.slice none 0 0,.slice r.tA (x.tg++ [r.gu]).length r.tc,.slice r.hA (x.hd++ [adH ((qBu x.hdL).dig) x.dp x.audN.length x.hd (kvT x.kvL x.cl x.dp (2^x.dp)) r.nA r.nc]).length r.hc] 102,r.mT,r.mH]) (new:=λr=> [r.mo,r.G]) (λF' hF=>qLg F' x.mT x.mH (hK.mo hF) x.gs x.dp x.nA x.rA x.nB x.rB (Ptr x.gb) (.bool false) x.tA x.tc x.tg hP.rt (by omega) x.hA x.hc x.hd hP.rh (by omega) hI.dp x.cA x.cc x.cl (hP.rc.sl.mono (h3.trans (hF F (by simp)))) hI.cl x.oA x.oc x.no x.nxt (hP.mx.at.mono (h1.trans (hF F (by simp)))) (hP.nx.at.mono (h2.trans (hF F (by simp)))) hI.un (λy hy=>Nat.le_trans (hI.ln y hy) (by decide)) RA _ rc x.audN (hR.mono (hF F (by simp))) (hRs.mono (hF F (by simp))) (by omega) hI.t0 (by omega) x.kvL ((hP.tr _ (by omega)).mono (hF F (by simp))) hI.kf (by omega) hI.hg ((hP.hn _ (by omega)).mono (hF F (by simp)))))) rfl ?_
 rintro r24 hp24
 change J _ ((24,.slice r24.At r24.tl.length r24.ct)::_) _ [blk x.gs [I ((x.dp:Nat):Int),Ptr x.gb,.bool false,.map (some r24.cg),Ptr r24.cr,.map (some x.nB),Ptr x.rB,.slice none 0 0,.slice none 0 0,.slice r24.tA (x.tg++ [r24.gu]).length r24.tc,.slice r24.hA (x.hd++ [adH ((qBu x.hdL).dig) x.dp x.audN.length x.hd (kvT x.kvL x.cl x.dp (2^x.dp)) r24.nA r24.nc]).length r24.hc] 102,r24.mT,r24.mH,F,blk g2 [.int .u64 0,Str [],I 0,I 0,.slice none 0 0] 52,(r18.x.blk x.gb),r18.md,r18.N,r24.mo,r24.G] _
 refine J.b O<|J.c hK8<|J.G 0 2 6 ?_
 refine J.g λK9 hK9=>J.b O<|J.k (qAA O O ent48 (Ct.use0 (λF' hF=>qIA F' x.gs _ _ _ _ _ _ _ _ _ _ r24.hA (x.hd++ [(adH ((qBu x.hdL).dig) x.dp x.audN.length x.hd (kvT x.kvL x.cl x.dp (2^x.dp)) r24.nA r24.nc)]).length r24.hc (x.hd++ [(adH ((qBu x.hdL).dig) x.dp x.audN.length x.hd (kvT x.kvL x.cl x.dp (2^x.dp)) r24.nA r24.nc)]) (hp24.rh.sl.mono (hF r24.mH (by simp))) (by rw [List.length_append];exact Nat.succ_pos _) (by rw [List.length_append,List.length_singleton];omega) (qAL.blk0.mono (hF (blk x.gs [I ((x.dp:Nat):Int),Ptr x.gb,.bool false,.map (some r24.cg),Ptr r24.cr,.map (some x.nB),Ptr x.rB,.slice none 0 0,.slice none 0 0,.slice r24.tA (x.tg++ [r24.gu]).length r24.tc,.slice r24.hA (x.hd++ [adH ((qBu x.hdL).dig) x.dp x.audN.length x.hd (kvT x.kvL x.cl x.dp (2^x.dp)) r24.nA r24.nc]).length r24.hc] 102) (by simp)))))) rfl λg26 _=>?_
 rw [lastD]
 refine J.b O<|J.b0 (qAI (i:=4) (l:= [.int .u64 0,Str [],I 0,I 0,.slice none 0 0]) (vs:= [N64 (x.hd.length),Str ((qBu x.hdL).dig),I ((x.dp:Nat):Int),I ((x.audN.length:Nat):Int),.slice r24.nA (qAg (kvT x.kvL x.cl x.dp (2^x.dp)) x.dp).length r24.nc]) O O O O O qHw O O) O O λ_ _=>?_
 change J _ _ _ [_,_,_,_,blk g2 [N64 (x.hd.length),Str ((qBu x.hdL).dig),I ((x.dp:Nat):Int),I ((x.audN.length:Nat):Int),.slice r24.nA (qAg (kvT x.kvL x.cl x.dp (2^x.dp)) x.dp).length r24.nc] 52,_,_,_,_,_] _
 refine J.p 2 O<|J.c hK9<|J.G 2 3 4 ?_
 exact J.D<|J.b2 hw0 (λ_ _ h=>h) (rv3 O (RV.blkA 4 O O isAgg52 qHw) O O) (qAn (r24,r18) O ⟨hp24,hb18,hL18⟩ [0,1,2,5,6,7,3,9,8] O (by decide))
structure Srv (m G:Hp) (x:SvR):Prop where
 eq:m=U x.hs
 dj:Djs x.hs
 p:SvP G x
 i:SvI x
theorem Srv.mono{m G G':Hp}{x:SvR}(h:Srv m G x)(hl:Le G G'):Srv m G' x:={h with p:=h.p.mono hl}
theorem Srv.le{m G:Hp}{x:SvR}(h:Srv m G x){a:Hp}(ha:a∈x.hs):Le a m:=by rw [h.eq];exact qEf h.dj ha
def SvR.sub(x:SvR)(s:List UInt8)(en:En)(nt:List UInt8)(ch:Chg)(r:SbR):SvR:=
 {x with nxt:=x.nxt++ [⟨s,r.A,r.c,[en],r.mE⟩],cl:=x.cl++ [ch],no:=x.no++ [nt],mX:=r.mX,NX:=U [x.NX,r.mE],mC:=r.w.mC,cA:=r.w.cA,cc:=r.w.cc,mO:=r.w.mO,oA:=r.w.oA,oc:=r.w.oc}
theorem qMe{l:LE}{s:List UInt8}{v:List En}(h:qKJ l)(hn:s∉l.map Prod.fst):qKJ (l++ [(s,v)]):=by
 unfold qKJ
 rw [List.map_append,List.nodup_append]
 refine⟨h,by simp,λa ha b hb=>?_⟩
 rw [List.mem_singleton.1 hb]
 rintro rfl
 exact hn ha
theorem SvI.sub{x:SvR}(h:SvI x){s:List UInt8}{en:En}{nt:List UInt8}{ch:Chg}{r:SbR}(hg:qCH x.nxt s=none)(hc:x.cl.length<256)(hk:ch.k.length=16)(hv:ch.v.length≤1000000)(hn:nt.length≤900):SvI (x.sub s en nt ch r):=
  { dp:=h.dp,uw:=h.uw,lw:=h.lw,t0:=h.t0,t1:=h.t1,th:=h.th,tk:=h.tk,kf:=h.kf,kl:=h.kl,hg:=h.hg,al:=h.al,an:=h.an,sz:=h.sz,re:=h.re
    un:=by
      show qKJ (lbE (x.nxt++ [_]))
      rw [qHW]
      exact qMe h.un (qDI.1 hg)
    ln:=λy hy=>by
      rcases List.mem_append.1 (show y∈x.nxt++ [_] from hy) with hy|hy
      · exact h.ln y hy
      · rw [List.mem_singleton.1 hy];exact Nat.le_of_ble_eq_true rfl
    cl:=⟨by show(x.cl++ [ch]).length≤_;rw [List.length_append,List.length_singleton];omega,λy hy=>by
        rcases List.mem_append.1 (show y∈x.cl++ [ch] from hy) with hy|hy
        · exact h.cl.k16 y hy
        · rw [List.mem_singleton.1 hy];exact hk,λy hy=>by
        rcases List.mem_append.1 (show y∈x.cl++ [ch] from hy) with hy|hy
        · exact h.cl.val y hy
        · rw [List.mem_singleton.1 hy];exact hv⟩
    n9:=λy hy=>by
      rcases List.mem_append.1 (show y∈x.no++ [nt] from hy) with hy|hy
      · exact h.n9 y hy
      · rw [List.mem_singleton.1 hy];exact hn
    nc:=by
      show(x.no++ [nt]).length=(x.cl++ [ch]).length
      rw [List.length_append,List.length_append,h.nc];rfl}
theorem qPO{w0:Wd}{w:World}{a b:Hp}{r:List Hp}(h:St w0 (a::b::r) w):Dj a b∧St w0 (U [a,b]::r) w:=⟨h.dj2,h.joinU⟩
abbrev SvR.e1(x:SvR):List UInt8→Nat→List UInt8→List UInt8→Int→List UInt8→Nat→List (List UInt8)→List (List UInt8)→SbR→SvR:=λs v o r h p i ch pt y=>
 x.sub s ⟨v,o,r,h,p⟩ (117::upB s (qA3 v o r h p) (sgB i ch pt)) ⟨Sha.tagged 11 [s],qCA v o r h p⟩ y
theorem qR2(F m G:Hp)(hK:KF F)(hGF:Le G F)(x:SvR)(hS:Srv m G x)(s:List UInt8)(hs2:s.length≤200)(v:Nat)(o r:List UInt8)(h:Int)(p:List UInt8)(hE:qBS v o r h p=0)(i:Nat)(A1:Option Addr)(n1 c1:Nat)(ch:List (List UInt8))(hch:Sl F 1 A1 n1 c1 (qAG ch))(A2:Option Addr)(n2 c2:Nat)(pt:List (List UInt8))(hpt:Sl F 1 A2 n2 c2 (qAG pt))(hi:i≤63)(h35:ch.length=35)(hn6:pt.length≤6)(hc16: ∀s∈ch,s.length=16)(hp16: ∀s∈pt,s.length=16)(hp3:pt.length≤3)(hno2:x.no.length<256)(hg0:qCH x.nxt s=none)
    (hJ: ∀F':Hp,Le F F'→Ct prog 41 [.agg #[Str s,N64 (v),Str (o),Str (r),I (h),Str (p),I ((i:Nat):Int),.slice A1 n1 c1,.slice A2 n2 c2],.bool false,.agg #[.int .u64 0,Str [],Str [],I 0,Str []]] [F'] (λ_:Unit=>I ((0:Nat):Int)) (λ_=>True) (λ_=> [F'])):
    Ct prog 10 [Ptr x.gs,.agg #[Str s,N64 (v),Str (o),Str (r),I (h),Str (p),I ((i:Nat):Int),.slice A1 n1 c1,.slice A2 n2 c2]] [m,F] (λ_:Hp×SbR=>I ((0:Nat):Int)) (λy=>Srv y.1 G (x.e1 s v o r h p i ch pt y.2)) (λy=> [y.1,F]):=λw0 w hw=>by
  have hP:=hS.p
  have hI:=hS.i
  have hcl:=hI.cl.len
  have hnc:=hI.nc
  rw [hS.eq] at hw
  have h1:=(hw.splitUs hS.dj).pick [0,1,2,3,4,5,6,7,8,9,10] (by decide)
  refine(Ct.useA [x.sb,x.mX,x.NX,x.mC,x.mO] [x.mT,x.mH,x.bk.blk x.gb,x.md,x.N,F] (A':=λy:SbR=> [blk x.gs [I ((x.dp:Nat):Int),Ptr x.gb,.bool false,.map (some x.nA),Ptr x.rA,.map (some x.nB),Ptr x.rB,.slice y.w.cA (x.cl++ [(⟨Sha.tagged 11 [s],qCA v o r h p⟩:Chg)]).length y.w.cc,.slice y.w.oA (x.no++ [117::(upB s (qA3 v o r h p) (sgB i ch pt))]).length y.w.oc,.slice x.tA x.tg.length x.tc,.slice x.hA x.hd.length x.hc] 102,y.mX,x.NX,y.w.mC,y.w.mO]) (new:=λy=> [y.mE]) (λF' hF=>qPP F' x.mX x.NX x.mC x.mO (hK.mo hF) x.gs x.nB _ _ _ _ _ _ _ _ x.cA x.cc x.cl hP.rc (by omega) x.oA x.oc x.no hP.ro (by omega) x.nxt hP.mx hP.nx s hs2 v o r h p hE i A1 n1 c1 ch (hch.mono (hF F (by simp))) A2 n2 c2 pt (hpt.mono (hF F (by simp))) hi h35 hn6 hc16 hp16 hp3 hno2 hg0 (λF2 h2=>hJ F2 ((hF F (by simp)).trans h2))) w0 w h1).mono λe w' ⟨y,he,⟨q1,q2,q3,q4⟩,hst⟩=>?_
  have h2:=qPO (hst.pick [2,11,0,1,3,4,5,6,7,8,9,10] (by decide))
  have h3:=St.joinUs (A:=(x.e1 s v o r h p i ch pt y).hs) (r:= [F]) (h2.2.pick [1,2,0,3,4,5,6,7,8,9,10] (by decide))
  have hsg:=qG8 (i:=i) hc16 hp16 h35
  have hul:=qGv s (qA3 v o r h p) (sgB i ch pt)
  have hel:=qBn hE
  refine⟨(U (x.e1 s v o r h p i ch pt y).hs,y),he,⟨rfl,h3.1,⟨q1,hP.nx.snoc (l:= [⟨v,o,r,h,p⟩]) q2 h2.1,q3,q4,hP.rt,hP.rh,hP.bk,hP.nw,hP.nl,hP.ra,hP.rb,hP.tr,hP.hn⟩,hI.sub hg0 (by omega) (Sha.tagged_length _ _) ?_ ?_⟩,h3.2⟩
  · show(qCA v o r h p).length≤_
    unfold qCA;rw [if_pos hE,Sha.tagged_length];decide
  · show(_::_).length≤900
    rw [List.length_cons];omega
def SvR.pub(x:SvR)(r:StR×WrR):SvR:=
  { x with nA:=r.1.cg,rA:=r.1.cr,now:=r.1.cl,aud:=x.audN,cA:=none,cc:=0,cl:= [],oA:=none,oc:=0,no:= [],tA:=r.1.tA,tc:=r.1.tc,tg:=x.tg++ [r.1.gu],hA:=r.1.hA,hc:=r.1.hc
           hd:=x.hd++ [adH (qBu x.hdL).dig x.dp x.audN.length x.hd (kvT x.kvL x.cl x.dp (2^x.dp)) r.1.nA r.1.nc],mC:=λ_=>none,mO:=λ_=>none,mT:=r.1.mT,mH:=r.1.mH,md:=r.2.md,N:=r.2.N,bk:=r.2.x,kv:=x.kv++ [(kvT x.kvL x.cl x.dp (2^x.dp))]}
theorem qOI{α:Type}(l:List α)(x no:α):(l++ [x]).getD ((l++ [x]).length-1) no=x:=by
 rw [List.length_append,List.length_singleton,Nat.add_sub_cancel,List.getD_eq_getElem?_getD,List.getElem?_append_right (Nat.le_refl _),Nat.sub_self];rfl
theorem qHa{α:Type}(l:List α)(x no:α){i:Nat}(h:i<l.length):(l++ [x]).getD i no=l.getD i no:=by
 rw [List.getD_eq_getElem?_getD,List.getElem?_append_left h,←List.getD_eq_getElem?_getD]
theorem qEu{α:Type}(l:List α)(x no:α){i:Nat}(h:i=l.length):(l++ [x]).getD i no=x:=by
 rw [h,List.getD_eq_getElem?_getD,List.getElem?_append_right (Nat.le_refl _),Nat.sub_self];rfl
theorem SvR.pub_kvL(x:SvR)(r:StR×WrR)(h:x.kv.length=x.tg.length):(x.pub r).kvL=(kvT x.kvL x.cl x.dp (2^x.dp)):=by
 show(x.kv++ [_]).getD ((x.tg++ [_]).length-1) []=_
 refine qEu _ _ _ ?_
 rw [List.length_append,List.length_singleton,h];omega
theorem SvR.pub_hdL(x:SvR)(r:StR×WrR):(x.pub r).hdL=adH (qBu x.hdL).dig x.dp x.audN.length x.hd (kvT x.kvL x.cl x.dp (2^x.dp)) r.1.nA r.1.nc:=qOI _ _ _
theorem SvI.pub{x:SvR}(h:SvI x)(r:StR×WrR)(ht:x.tg.length<15)(hp:StP x.kvL x.cl x.nxt x.audN (qBu x.hdL).dig x.dp x.audN.length x.tg x.hd r.1)(hL:CbL x.bk r.2.x (x.no++ [cmB x.no.length x.hd.length]))(hn1: ∀s∈x.no,1≤qBM s.length):SvI (x.pub r):=by
  have h4:=h.dp
  have h5:=h.cl.len
  obtain ⟨_,h16⟩:=qIN h4
  have hkl:=h.kl
  have hth:=h.th
  have htk:=h.tk
  refine{dp:=h.dp,un:=h.un,ln:=h.ln,cl:=⟨Nat.zero_le _,(λy hy=>by cases hy),(λy hy=>by cases hy)⟩,n9:=(λy hy=>by cases hy),nc:=rfl,al:=h.an,an:=h.an,uw:=?_,lw:=?_,t0:=?_,t1:=?_,th:=?_,tk:=?_,kf:=?_,kl:=?_,hg:=?_,sz:=?_,re:=?_}
  · exact(hp.pm.map _).nodup_iff.2 h.un
  · intro y hy
    have:(y.nm,y.l)∈lbE x.nxt:=hp.pm.subset (List.mem_map.2 ⟨y,hy,rfl⟩)
    obtain ⟨z,hz,e⟩:=List.mem_map.1 this
    have:=h.ln z hz
    rw [show y.l=z.l from(congrArg Prod.snd e).symm];exact this
  · show 0<(x.tg++ [_]).length
    rw [List.length_append];exact Nat.succ_pos _
  · show(x.tg++ [_]).length≤15
    rw [List.length_append,List.length_singleton];omega
  · show(x.hd++ [_]).length=(x.tg++ [_]).length
    rw [List.length_append,List.length_append,hth];rfl
  · show(x.kv++ [_]).length=(x.tg++ [_]).length
    rw [List.length_append,List.length_append,htk];rfl
  · rw [x.pub_kvL r htk]
    exact qEs h.kf h.cl (by omega) _ h16
  · rw [x.pub_kvL r htk]
    show _≤5000*(x.tg++ [_]).length
    rw [List.length_append,List.length_singleton]
    have:=qJz x.kvL x.cl x.dp (2^x.dp)
    have h6:2^x.dp*x.cl.length≤16*256:=Nat.mul_le_mul h16 h5
    omega
  · rw [x.pub_hdL r]
    refine qKf ?_ (qIx _) ?_
    · show x.hd.length≤_;omega
    · show(qAg _ x.dp).length≤16
      unfold qAg;rw [qBz];exact h16
  · show r.2.x.size≤_;rw [hL.sz];exact h.sz
  · show r.2.x.R.length≤r.2.x.e
    rw [hL.R,hL.e,List.length_append,List.length_append,List.length_singleton,qB0]
    have h7: ∀l:List (List UInt8),(∀s∈l,1≤qBM s.length)→l.length≤qCU l:=λl hl=>by
      induction l with
      |nil=>exact Nat.zero_le _
      |cons a l ih=>
        have h8:=hl a (.head _)
        have h9:=ih λs hs=>hl s (.tail _ hs)
        unfold qCU at h9⊢
        rw [List.map_cons,List.sum_cons,List.length_cons];omega
    have h8:=h7 x.no hn1
    have h9:=qEG (cmB x.no.length x.hd.length).length
    have:=h.re
    omega
structure PbP (m' G G2:Hp) (x:SvR) (r:StR×WrR):Prop where
 s: ∀G3,Le G G3→Le G2 G3→Srv m' G3 (x.pub r)
 ns:nsl G2 (x.pub r).hdL
 len:r.1.tl.length=2^x.dp
 ro:Row r.1.mo 72 5 r.1.At r.1.tl.length r.1.ct (qGz r.1.tl)
 ok:qMO G2 x.kvL x.cl x.dp r.1.tl
 bk:CbL x.bk r.2.x (x.no++ [cmB x.no.length x.hd.length])
 pm:(lbE r.1.cl).Perm (lbE x.nxt)
theorem qHD(F m G:Hp)(hK:KF F)(hGF:Le G F)(x:SvR)(hS:Srv m G x)(ht:x.tg.length<15)(hfit:x.bk.e+qCU (x.no++ [cmB x.no.length x.hd.length])≤x.bk.size):
    Ct prog 13 [Ptr x.gs] [m,F] (λy:Hp×StR×WrR=> .tuple #[.agg #[N64 x.hd.length,Str (qBu x.hdL).dig,I ((x.dp:Nat):Int),I ((x.audN.length:Nat):Int),.slice y.2.1.nA (qAg (kvT x.kvL x.cl x.dp (2^x.dp)) x.dp).length y.2.1.nc],.slice y.2.1.At y.2.1.tl.length y.2.1.ct,I ((0:Nat):Int)]) (λy=>PbP y.1 G y.2.1.G x y.2) (λy=> [y.1,F,y.2.1.G,y.2.1.mo]):=λw0 w hw=>by
  have hP:=hS.p
  have hI:=hS.i
  have hth:=hI.th
  have htk:=hI.tk
  rw [hS.eq] at hw
  have h1:=(hw.splitUs hS.dj).pick [0,5,6,7,8,9,1,2,3,4,10] (by decide)
  refine(Ct.useA [x.sb,x.mT,x.mH,x.bk.blk x.gb,x.md,x.N] [x.mX,x.NX,x.mC,x.mO,F] (A':=λy:StR×WrR=> [blk x.gs [I ((x.dp:Nat):Int),Ptr x.gb,.bool false,.map (some y.1.cg),Ptr y.1.cr,.map (some x.nB),Ptr x.rB,.slice none 0 0,.slice none 0 0,.slice y.1.tA (x.tg++ [y.1.gu]).length y.1.tc,.slice y.1.hA (x.hd++ [adH ((qBu x.hdL).dig) x.dp x.audN.length x.hd (kvT x.kvL x.cl x.dp (2^x.dp)) y.1.nA y.1.nc]).length y.1.hc] 102,y.1.mT,y.1.mH,y.2.x.blk x.gb,y.2.md,y.2.N]) (new:=λy=> [y.1.G,y.1.mo]) (λF' hF=>qR3 F' (hK.mo hF) x hI (hP.mono (hGF.trans (hF F (by simp)))) (hF _ (by simp)) (hF _ (by simp)) (hF _ (by simp)) (hF _ (by simp)) hfit) w0 w h1).mono λe w' ⟨y,he,⟨q1,q2,q3⟩,hst⟩=>?_
  have h2:=hst.empty.empty
  have h3:=St.joinUs (A:=(x.pub y).hs) (r:= [F,y.1.G,y.1.mo]) (h2.pick [0,6,7,13,14,1,2,3,4,5,10,11,12] (by decide))
  have hI2:=hI.pub y ht q1 q3 (λs hs=>qEG _)
  refine⟨(U (x.pub y).hs,y),he,⟨λG3 g1 g2=>⟨rfl,h3.1,⟨hP.mx,hP.nx,qBU.nil,qBU.nil,q1.rt,q1.rh,q2,q1.mp.mono g2,q1.lb.mono g2,qO3.mono q1.au g2,hP.rb.mono g1,λj hj=>?_,λj hj=>?_⟩,hI2⟩,?_,q1.len,q1.ro,q1.ok,q3,q1.pm⟩,h3.2⟩
  · have hj2:j<x.tg.length+1:=by have:=hj;rw [show(x.pub y).tg=x.tg++ [y.1.gu] from rfl,List.length_append,List.length_singleton] at this;exact this
    show qCF G3 ((x.tg++ [_]).getD j 0) ((x.kv++ [_]).getD j [])
    by_cases hlt:j<x.tg.length
    · rw [qHa _ _ _ hlt,qHa _ _ _ (by omega)];exact(hP.tr j hlt).mono g1
    · rw [qEu _ _ _ (by omega),qEu _ _ _ (by omega)];exact q1.tu.mono g2
  · have hj2:j<x.hd.length+1:=by have:=hj;rw [show(x.pub y).hd=x.hd++ [_] from rfl,List.length_append,List.length_singleton] at this;exact this
    show nsl G3 ((x.hd++ [_]).getD j qAo)
    by_cases hlt:j<x.hd.length
    · rw [qHa _ _ _ hlt];exact(hP.hn j hlt).mono g1
    · rw [qEu _ _ _ (by omega)];exact q1.nr.mono g2
  · rw [x.pub_hdL y];exact q1.nr
end Go.Proofs.YtllnfioplpipiaaGreatDoor
