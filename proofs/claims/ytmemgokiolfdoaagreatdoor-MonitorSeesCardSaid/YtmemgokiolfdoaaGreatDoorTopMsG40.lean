/- A part of the proof. -/
import Derived.Test.YtmemgokiolfdoaaGreatDoorTopMsG39
import Derived.Test.YtmemgokiolfdoaaGreatDoorTopMsG36
set_option maxRecDepth 100000
set_option maxHeartbeats 1000000
set_option linter.unusedSimpArgs false
set_option linter.unusedVariables false
namespace Go.Proofs.YtmemgokiolfdoaaGreatDoor
open Go Go.Fw Go.Proofs.Tryz
structure CaR where
 hd:List RhD
 A:Option Addr
 c:Nat
 m:Hp
 N:Hp
structure CaP (hd:List RhD) (y:RhD) (E:Int) (r:CaR):Prop where
 row:Row r.m 52 5 r.A r.hd.length r.c (qDQ r.hd)
 no:E≠0→r.hd=hd
 yes:E=0→ ∃A c,r.hd=hd++ [⟨y.ep,y.par,y.dep,y.aud,A,c,y.ns⟩]∧Sl r.N 1 A y.ns.length c (qAH y.ns)
theorem qPJ(F mh:Hp)(hK:qAG F ⟨3,0,none⟩ (Sha.K.map W32))(gc sl nd:Nat)(A:Option Addr)(c:Nat)(l:List RhD)(hR:Row mh 52 5 A l.length c (qDQ l))(h0:0<l.length)(hn:l.length≤1000)(hg:(qA7 (l.getD (l.length-1) qAY)).good)(hxs:nsl F (l.getD (l.length-1) qAY))(hsm: ∀s∈(l.getD (l.length-1) qAY).ns,s.length≤1048576)(d ac:Nat)(hd:d≤4)(hxd:(l.getD (l.length-1) qAY).dep=d)(hx:(qA7 (l.getD (l.length-1) qAY)).err=0)(h1:1≤nd)(h2:nd≤sl)(h3:sl≤ac)(h4:ac≤64)(hac:(l.getD (l.length-2) qAY).aud=ac)(W:Nat→List Int)(hW:qVb (qA7 (l.getD (l.length-1) qAY)).dig (2^d) ac sl W)(y:RhD)(hgy:(qA7 y).good)(hsy:nsl F y)(hyn:y.ns.length≤1000000)(Av:Option Addr)(nv cv:Nat)(vs:List VtD)(hvs:Sl F 15 Av nv cv (qYe vs))(hnv:nv≤100000)(hvo: ∀i,i<vs.length→qS0 F (vs.getD i qAr)):Ct prog 95 [Ptr gc,.agg #[N64 (y.ep),Str (y.par),I (y.dep:Nat),I (y.aud:Nat),.slice y.nsA y.ns.length y.nsc,.slice Av nv cv]] [blk gc [I (sl:Nat),I (nd:Nat),.slice A l.length c] 279,mh,F] (λ_:CaR=>I (qFw (qA7 (l.getD (l.length-1) qAY)) (qA7 y) W sl (2^d) nd vs)) (CaP l y (qFw (qA7 (l.getD (l.length-1) qAY)) (qA7 y) W sl (2^d) nd vs)) (λr=> [blk gc [I (sl:Nat),I (nd:Nat),.slice r.A r.hd.length r.c] 279,r.m,F,r.N]):=by
 refine Ct.walk func95 O ntmps95 O (λw0 hw0=>?_)
 refine J.f λ_ j1=>J.q (qAb O O O) O λg3 _=>J.b O<|J.c j1<|J.k λ_ j2=>J.f λ_ j3=>J.b O<|J.g (qA6 underlying91 O O O) O<|J.c j3<|J.a3 ?_
 refine J.M j2<|J.d9 (X:=Unit) (λζ=> [(0,Ptr gc),(3,Ptr g3)]) (λζ=> [blk gc [I (sl:Nat),I (nd:Nat),.slice A l.length c] 279,mh,F,blk g3 [N64 (y.ep),Str (y.par),I (y.dep:Nat),I (y.aud:Nat),.slice y.nsA y.ns.length y.nsc,.slice Av nv cv] 209]) (λζ=>(qFw (qA7 (l.getD (l.length-1) qAY)) (qA7 y) W sl (2^d) nd vs)=0) (λ_ j4=>?_) ?_
 ·
  refine J.k λ_ j5=>J.b1 [F,blk g3 [N64 (y.ep),Str (y.par),I (y.dep:Nat),I (y.aud:Nat),.slice y.nsA y.ns.length y.nsc,.slice Av nv cv] 209,blk gc [I (sl:Nat),I (nd:Nat),.slice A l.length c] 279,mh] [] (.y 0 (.y 1 (.y 3 (.y 5 (.y 6 (.y 7 (.y 8 (.e 2 (.e 4 (.e 9 (.y 10 .nil))))))))))) Tryz.wide xF xD ?_
  refine J.j O (qAU 1 O O O isAgg209 sizeOf209 O) O O<|J.L ?_
  refine J.L ?_
  refine J.L ?_
  refine J.j O (qAB O O) O O<|J.j O (qAA O O qJ7 O sizeOf191 O) O O<|J.j O (qAP O O isAgg191 sizeOf191 (m:=blk gc [I (sl:Nat),I (nd:Nat),.slice A l.length c] 279) xD (qAG.blk0.sub 0 2) O) O O<|J.a1 O (qAZ O O (λF' hF=>qN6 F' (gc) sl nd A l.length c l (hR.sl.mono (Fa hF)) h0 xB (qAG.blk0.mono (hF (blk gc [I (sl:Nat),I (nd:Nat),.slice A l.length c] 279) xD)))) O xD λg11 _=>J.a1 O (qAZ O O (λF' hF=>(by have:=qYN F' (gc) sl nd A l.length c l (hR.sl.mono (Fa hF)) h0 xB (qAG.blk0.mono (hF (blk gc [I (sl:Nat),I (nd:Nat),.slice A l.length c] 279) xD));rw [hac] at this;exact this))) O xD λg13 _=>J.a1 O (qAZ O O (λF' hF=>qST F' (hK.mo hF) (qA7 (l.getD (l.length-1) qAY)) (l.getD (l.length-1) qAY).nsA (l.getD (l.length-1) qAY).nsc hg (hxs.mono (Fa hF)) (qA7 y) y.nsA y.nsc hgy (hsy.mono (Fa hF)) hsm d ac sl nd hd (congrArg (λn:Nat=>(n:Int)) hxd) hx h1 h2 h3 h4 W hW Av nv cv vs (hvs.mono (Fa hF)) hnv (λi hi=>(hvo i hi).mono (Fa hF)))) O xD λg18 _=>J.b7 ?_
  refine J.b0<|J.u (J.D j5 ?_)
  refine J.f λ_ j6=>J.b O<|J.g (qAV O O O) O<|J.c j6<|J.Z O (λh20=>?_) (λh20=>?_)
  ·
   exact J.f λ_ j7=>J.p 2 O<|J.c6 [0,1,2,4] [blk gc [I (sl:Nat),I (nd:Nat),.slice A l.length c] 279,mh,F,(λ_=>none)] O xC<|J.c j7<|J.A<|J.V<|J.E hw0 O (⟨l,A,c,mh,λ_=>none⟩:CaR) O ⟨hR,λ_=>rfl,λe=>absurd e h20⟩ [0,1,2,3] O xC
  exact J.b2<|J.u<|J.a8 () j4 ((Decidable.not_not.1 h20)) ⟨O,O,trivial⟩ (λ_ h=>h)
 rintro _ hE
 refine J.f λ_ j8=>J.W 0 qPw qDP O O O O O<|J.g (qAP O O qGA qDP (m:=blk g3 [N64 (y.ep),Str (y.par),I (y.dep:Nat),I (y.aud:Nat),.slice y.nsA y.ns.length y.nsc,.slice Av nv cv] 209) xD (qAG.blk0.sub 0 5) O) O<|J.q (qAJ O qYA O) O λg6 _=>J.a7 (qAC (i:=4) (l:= [.int .u64 0,Str [],I 0,I 0,.slice none 0 0]) (vs:= [N64 (y.ep),Str (y.par),I (y.dep:Nat),I (y.aud:Nat),.slice y.nsA y.ns.length y.nsc]) O O O O O qDP O O) O O λ_ _=>J.c j8<|J.f λ_ j9=>J.W 4 qEJ qB9 O O O O O<|J.a6 4 qCQ O O O O O<|J.q (qBb O O (λF' hF=>qJo F' y.nsA y.ns.length y.nsc y.ns (hsy.mono (Fa hF)) xB)) O ?_
 rintro⟨A26,c26,m26⟩ h26
 try dsimp only at h26
 refine J.W 4 qEJ qB9 O O O O O<|J.a7 (qAW (i:=4) O O O O O qB9 O xD) O O λ_ _=>?_
 change J _ _ _ [_,_,_,_,blk g6 [N64 (y.ep),Str (y.par),I (y.dep:Nat),I (y.aud:Nat),.slice A26 y.ns.length c26] 52,_] _
 refine J.c j9<|J.k λ_ j10=>?_
 obtain ⟨x35,hx35⟩: ∃x:RhD,x=⟨y.ep,y.par,y.dep,y.aud,A26,c26,y.ns⟩:=⟨_,rfl⟩
 refine J.b1 [blk gc [I (sl:Nat),I (nd:Nat),.slice A l.length c] 279,blk g6 [N64 (y.ep),Str (y.par),I (y.dep:Nat),I (y.aud:Nat),.slice A26 y.ns.length c26] 52,F] [10] (.y 0 (.y 1 (.y 2 (.y 3 (.y 4 (.y 5 (.e 6 (.e 7 (.y 8 (.y 9 (.e 10 .nil))))))))))) Tryz.wide xF xD ?_
 refine J.L ?_
 refine J.L ?_
 refine J.j O (qAB O O) O O<|J.j O (qAA O O qJ7 O qLj O) O O<|J.j O (qAD 0 O O O qPY O) O O<|J.j O (qAU 1 O O O qGA qDP O) O O<|J.a1 O (qAE (l:= [.tmp 33]) (xs:= [[N64 (y.ep),Str (y.par),I (y.dep:Nat),I (y.aud:Nat),.slice A26 y.ns.length c26]]) O O O O qGl el52 O xC xC xD) O xD λg34 _=>J.a1 O (qAX (i:=1) (m2:=blk g34 [N64 (y.ep),Str (y.par),I (y.dep:Nat),I (y.aud:Nat),.slice A26 y.ns.length c26] 52) O O O qGl qGl el52 O hR xD ((qAm (q:=True) (xs:=qDQ [(⟨y.ep,y.par,y.dep,y.aud,A26,c26,y.ns⟩:RhD)]) O (by intro x hx;rw [List.mem_singleton.1 hx];rfl)).sl) O xB xB) O xD ?_
 rintro⟨A35,c35,m35⟩ h35
 try dsimp only at h35
 replace h35:Row m35 52 5 A35 (l.length+1) c35 (qDQ (l++ [x35])):=by rw [qKT,hx35];exact h35
 rw [show l.length+1=(l++ [x35]).length by rw [jA];rfl] at h35⊢
 refine J.j O (qAB O O) O O<|J.j O (qAA O O qJ7 O qLj O) O O<|J.c1 O (qAW (i:=0) O O O O O qLj O xD) O O O λ_ _=>J.b0<|J.u (J.D j10 ?_)
 exact J.f λ_ j11=>J.b O<|J.c j11<|J.A<|J.E hw0 O (⟨l++ [x35],A35,c35,m35,m26⟩:CaR) (by rw [hE]) ⟨h35,λe=>absurd hE e,λ_=>⟨A26,c26,by rw [hx35],h26.sl⟩⟩ [0,1,2,5] O xC
attribute [local irreducible] Sha.tagged Wo.pub Wo.publicOf Wo.signs Wo.ends Wo.digs Wo.walk Wo.opn Mk.root Mk.path Mk.climb Xm.root sgC sgP
theorem hdOk{l:List Sm.PR}(hf:qCS l){ep:Nat}(he:ep≤4294967295){par:xA}(hp:par.length=16){d:Nat}(hd:d≤4){a:Nat}(ha:a≤64):(⟨ep,par,((d:Nat):Int),((a:Nat):Int),qAo l d⟩:Hd).err=0:=by
  refine qZm ?_ ?_ λs hs=>?_
  · unfold Hd.out
    dsimp only
    rw [qDC hd]
    have:=qXE hd
    omega
  · show¬(qAo l d).length≠cnt (d:Int)
    rw [qBy,qDC hd];exact λh=>h O
  · unfold qAo qCc at hs
    obtain ⟨j,_,rfl⟩:=List.mem_map.1 hs
    rcases qJR (Sm.bel_wf hf.once hf.k16 (qIW j d) (d:=d) xB) with h|⟨h1,h2⟩
    · exact .inl h
    · exact .inr ⟨h1,h2.imp (λh=>UInt8.toNat_inj.1 h) (λh=>UInt8.toNat_inj.1 h)⟩
theorem qPp{v:VtD}{W:Nat→List Int}{sl n:Nat}{x y:Hd}(hy:y.dig≠ [])(he:v.ep=y.ep)(hh:v.hd=y.dig)(hs:qL6 W sl n v.b v.nm=true)(h1:qSy x v=true)(h2:qTG v=true):qLm x y W sl n v=0:=by
 unfold qLm
 rw [if_neg (λh=>h.elim hy (λh=>h.elim (λh=>h he) (λh=>h hh))),hs,if_neg xC,h1,if_neg xC,h2,if_neg xC]
theorem qQO{x y:Hd}{W:Nat→List Int}{sl n nd:Nat}{vs:List VtD}(h1: ∀i,i<vs.length→qKM vs i=false)(h2: ∀i,i<vs.length→qLm x y W sl n (vs.getD i qAr)=0): ∀k,k≤vs.length→qHt x y W sl n nd vs k=if∀b,b<n→nd≤qMk vs b then 0 else 16
 |0,_=>rfl
 |k+1,hk=>by
  rw [qHt,h1 _ xB,if_neg xC,if_pos (h2 _ xB)]
  exact qQO h1 h2 k xB
theorem qYK{x y:Hd}{W:Nat→List Int}{sl n nd:Nat}{vs:List VtD}(hn:x.next y=0)(h1: ∀i,i<vs.length→qKM vs i=false)(h2: ∀i,i<vs.length→qLm x y W sl n (vs.getD i qAr)=0):qFw x y W sl n nd vs=((if∀b,b<n→nd≤qMk vs b then 0 else 16:Nat):Int):=by
 unfold qFw
 rw [if_pos hn,qQO h1 h2 _ (jJ _)]
theorem qTe{W:Nat→List Int}{sl n b nm i:Nat}(hb:b<n)(hi:i<sl)(hl:sl≤(W b).length)(h:((nm:Nat):Int)=(W b).getD i 0):qL6 W sl n b nm=true:=by
  have hf: ∀(l:List Int) (x:Int) (k:Nat),x∈l→0≤Wd.find l x k:=λl x=>by
    induction l with
    |nil=>intro k hx;cases hx
    |cons y r ih=>
      intro k hx
      unfold Wd.find
      by_cases e:x=y
      · rw [if_pos e];omega
      · rw [if_neg e]
        rcases List.mem_cons.1 hx with h|h
        · exact absurd h e
        · exact ih (k+1) h
  unfold qL6
  rw [decide_eq_true hb,Bool.true_and]
  refine decide_eq_true (hf _ _ _ ?_)
  rw [h,jB,jC xB]
  exact List.mem_take_iff_getElem.2 ⟨i,xB,O⟩
theorem qQh{m G G2:Hp}{x:SvR}{r:StR×WrR}(h:PbP m G G2 x r)(hI:SvI x)(k:xA):qBC (lbE (x.pub r).now) k=qBC (lbE x.nxt) k:=(qR0 hI.un h.pm.symm k).symm
theorem qHS: ∀(l:List Sm.PR) (k v:xA),Sm.getP (Sm.putP l k v) k=some v
  | [],k,v=>if_pos rfl
  |p::r,k,v=>by
    show Sm.getP (if p.1=k then(k,v)::r else p::Sm.putP r k v) k=_
    by_cases h:p.1=k
    · rw [if_pos h];exact if_pos O
    · rw [if_neg h]
      show(if p.1=k then some p.2 else Sm.getP (Sm.putP r k v) k)=_
      rw [if_neg h];exact qHS r k v
abbrev enW(sd:xA):En:=⟨1,Wo.opn sd,Xm.root sd 0,((0:Nat):Int),qAk⟩
theorem qZM(k:xA):ofV k 0=0:=by
  unfold ofV
  split
  · have h:qFz k 0<1:=qJs k 0
    omega
  · rfl
theorem qVn(gh:Nat)(p:RhD):Row (blk gh p.cells 52) 52 5 (some ⟨gh,0,none⟩) 1 1 (qDQ [p]):=qAm (q:=True) (xs:=qDQ [p]) O (by intro x hx;rw [List.mem_singleton.1 hx];rfl)
theorem qEm(kv:List Sm.PR): ∀s∈qAo kv 0,s.length≤1048576:=λs hs=>by
 unfold qAo qCc at hs
 obtain ⟨j,_,rfl⟩:=List.mem_map.1 hs
 exact jg (Sm.nd_small _ _) xC
theorem qFJ(kv:List Sm.PR):(qAo kv 0).length=1:=by unfold qAo;rw [qBy]
theorem qN5(n e:Nat):qBi (cmB n e).length=1:=by rw [qSK];rfl
def SDA:xA:= [97,117,100,105,116,111,114]
def EVE:xA:= [101,118,101]
theorem qGw:(Xm.root SDA 3).length=16:=Mk.root_16 _ _
abbrev auE:Aud:=⟨EVE,Wo.opn SDA,Xm.root SDA 3,3⟩
theorem qI9:qBN (Wo.opn SDA) (Xm.root SDA 3) 3=0:=if_pos ⟨xC,xC,Wo.opn_length _,qGw⟩
theorem codeE:qMj EVE=0:=by
 unfold qMj
 rw [show normal EVE=(EVE,0) from qIO (l:= [101,118,101]) xC xC xC];rfl
theorem glE:qYc [auE] where
 len:=by decide
 sm:=λx hx=>by
  rw [List.mem_singleton.1 hx]
  exact⟨jf O,by show(Wo.opn SDA).length≤_;rw [Wo.opn_length];decide,by show(Xm.root SDA 3).length≤_;rw [qGw];decide⟩
 ok:=λi hi=>by
  match i,hi with
  |0,_=>
   have hm:qUW EVE (Wo.opn SDA) (Xm.root SDA 3) 3=0:=by
    unfold qUW
    rw [codeE,if_neg xC,qI9]
   show qOF [] EVE (Wo.opn SDA) (Xm.root SDA 3) 3=0
   unfold qOF
   rw [hm,if_neg xC,if_neg xD,if_neg xC]
def qTI:xA:=qWE auE
theorem qPs:qTI=Sha.tagged 16 [EVE,qBd (Wo.opn SDA) (Xm.root SDA 3) ((3:Nat):Int)]:=by
 have e:qTI=if qBN (Wo.opn SDA) (Xm.root SDA 3) 3=0 then Sha.tagged 16 [EVE,qBd (Wo.opn SDA) (Xm.root SDA 3) 3] else []:=rfl
 rw [e,if_pos qI9];rfl
theorem qWM:qTI.length=16:=by rw [qPs,Sha.tagged_length]
def qXu:List Sm.PR:= [(qAM 0,qTI)]
theorem layE:qGP [] [auE] 1=qXu:=by rw [qMW _ 1 xB];rfl
theorem fineE:qCS qXu:=by
 refine⟨List.pairwise_singleton _ _,λp hp=>?_,λp hp=>?_,xC⟩
 · rw [List.mem_singleton.1 hp];exact qBm 0
 · rw [List.mem_singleton.1 hp];show qTI.length≤_;rw [qWM];decide
def pE:Hd:=⟨0,qAk,((0:Nat):Int),((1:Nat):Int),qAo qXu 0⟩
theorem qZE:pE.err=0:=hdOk fineE (ep:=0) xC (par:=qAk) O (d:=0) xB (a:=1) xB
theorem qXJ:pE.good:=⟨by show 0<_;decide,by show qAk.length≤_;decide,by show(qAo qXu 0).length≤_;rw [qFJ];decide⟩
theorem qZD:pE.gen=0:=qZh (by rw [qZE];decide) (λh=>h O) (λh=>h O)
structure BasE (x:SvR):Prop where
 dp:x.dp=0
 hd1:x.hd.length=1
 tg1:x.tg.length=1
 h0:qA7 (x.hd.getD 0 qAY)=pE
 k0:x.kv.getD 0 []=qXu
 an:x.audN= [auE]
structure qS2 (x:SvR):Prop extends BasE x where
 nxt:x.nxt= []
 now:x.now= []
 no:x.no= []
 cl:x.cl= []
 sz:x.bk.size=300
 e0:x.bk.e=0
theorem newE(gd:Nat)(md:Hp)(r:NwR):qS2 (nwS gd 600 0 600 0 [auE] md r):=by
  refine⟨⟨O,O,O,?_,?_,O⟩,O,O,O,O,O,O⟩
  · show qA7 (adH qAk 0 1 [] (qGP [] [auE] 1) _ _)=_
    rw [layE];rfl
  · show qGP [] [auE] 1=_;exact layE
def hdE(kv:List Sm.PR):Hd:=⟨1,pE.dig,((0:Nat):Int),((1:Nat):Int),qAo kv 0⟩
def WE:Nat→List Int:=λ_=> [0]
theorem qZs(dg:xA):qVb dg (2^0) 1 1 WE:=λb _=>by
 refine⟨Sha.Strm.new (Wd.seedOf dg b),?_⟩
 unfold Wd.wins Wd.wins Wd.drawN
 rfl
theorem cert1{x y:Hd}{v:VtD}(hn:x.next y=0)(hb:v.b=0)(h:qLm x y WE 1 (2^0) v=0):qFw x y WE 1 (2^0) 1 [v]=0:=by
  rw [qYK hn (λi hi=>?_) (λi hi=>?_),if_pos]
  · rfl
  · intro b hb2
    obtain rfl:b=0:=by have:b<1:=hb2;omega
    unfold qMk
    rw [zx (by rw [hb];rfl)];exact Nat.le_add_left 1 _
  · obtain rfl:i=0:=by have:i<1:=hi;omega
    rfl
  · obtain rfl:i=0:=by have:i<1:=hi;omega
    exact h
structure PubE (x:SvR):Prop where
 hd2:x.hd.length=2
 tg2:x.tg.length=2
 h0:qA7 (x.hd.getD 0 qAY)=pE
 k0:x.kv.getD 0 []=qXu
 au:x.aud= [auE]
theorem BasE.pub{x:SvR}(h:BasE x)(hI:SvI x)(r:StR×WrR):PubE (x.pub r)∧qA7 (x.pub r).hdL=hdE (x.pub r).kvL∧(x.pub r).hd.getD 0 qAY=x.hd.getD 0 qAY:=by
  have e0: ∀l:List RhD,∀z:RhD,0<l.length→(l++ [z]).getD 0 qAY=l.getD 0 qAY:=λl z hl=>by
    rw [jB,jc hl,←jB]
  have hk1:x.kv.length=1:=hI.tk.trans h.tg1
  refine⟨⟨?_,?_,?_,?_,h.an⟩,?_,e0 _ _ (by rw [h.hd1];decide)⟩
  · show(x.hd++ [_]).length=2;rw [jA,h.hd1];rfl
  · show(x.tg++ [_]).length=2;rw [jA,h.tg1];rfl
  · show qA7 ((x.hd++ [_]).getD 0 qAY)=_;rw [e0 _ _ (by rw [h.hd1];decide)];exact h.h0
  · show(x.kv++ [_]).getD 0 []=_
    rw [jB,jc xB,←jB];exact h.k0
  · rw [SvR.pub_kvL _ r hI.tk,SvR.pub_hdL]
    have e1:x.hdL=x.hd.getD 0 qAY:=by show x.hd.getD (x.hd.length-1) qAY=_;rw [h.hd1]
    rw [e1,h.h0]
    unfold qA7 adH hdE
    dsimp only
    rw [h.hd1,h.an,h.dp];rfl
end Go.Proofs.YtmemgokiolfdoaaGreatDoor
namespace Go.Proofs.YtmemgokiolfdoaaGreatDoor
open Go Go.Fw Go.Proofs.Tryz
structure EpE (e:Nat) (x:SvR):Prop where
 dp:x.dp=0
 hl:x.hd.length=e+1
 tl:x.tg.length=e+1
 an:x.audN= [auE]
 hdr: ∃par:xA,par.length=16∧qA7 x.hdL=⟨e,par,((0:Nat):Int),((1:Nat):Int),qAo x.kvL 0⟩
 get:Sm.getP x.kvL (qAM 0)=some qTI
theorem BasE.ep{x:SvR}(h:BasE x):EpE 0 x:=by
 have e1:x.hdL=x.hd.getD 0 qAY:=by show x.hd.getD (x.hd.length-1) qAY=_;rw [h.hd1]
 have e2:x.kvL=qXu:=by show x.kv.getD (x.tg.length-1) []=_;rw [h.tg1];exact h.k0
 exact⟨h.dp,h.hd1,h.tg1,h.an,⟨qAk,O,by rw [e1,h.h0,e2];rfl⟩,by rw [e2];exact if_pos O⟩
def vtE(kv:List Sm.PR)(y:Hd)(i:Nat)(A1:Option Addr)(c1:Nat)(A2:Option Addr)(c2:Nat)(s:Nat)(A3:Option Addr)(c3:Nat):VtD:=⟨y.ep,0,y.dig,0,i,A1,c1,(sgC SDA i (atM y.ep 0 0 y.dig)),A2,c2,(sgP SDA 3 i),EVE,Wo.opn SDA,Xm.root SDA 3,3,A3,c3,(bsd kv (qAM 0) 0 (s-0)),qAl kv (qAM 0) s,qBk kv (qAM 0) s,qBo kv (qAM 0) s⟩
theorem qYo{G:Hp}{kv:List Sm.PR}(hf:qCS kv){y:Hd}{i:Nat}{A1:Option Addr}{c1:Nat}{A2:Option Addr}{c2 s:Nat}{A3:Option Addr}{c3:Nat}(he:y.ep≤4294967295)(hy:y.dig.length=16)(hi:i<2^3)(hst:qJy kv (qAM 0) 0 s)
    (h1:Sl G 1 A1 (sgC SDA i (atM y.ep 0 0 y.dig)).length c1 (qAH (sgC SDA i (atM y.ep 0 0 y.dig)))) (h2:Sl G 1 A2 (sgP SDA 3 i).length c2 (qAH (sgP SDA 3 i))) (h3:Sl G 1 A3 (bsd kv (qAM 0) 0 (s-0)).length c3 (qAH (bsd kv (qAM 0) 0 (s-0)))):qS0 G (vtE kv y i A1 c1 A2 c2 s A3 c3) where
  ch:=h1
  pt:=h2
  bs:=h3
  good:=qEN hf (qBm 0) hst
  pvl:=qEQ hf (qAM 0) s
  ch35:=qFX _ _ _
  ch16:=qKJ _ _ _
  ptl:=qDy _ _ _
  pt16:=qKI _ hi
  h6:=(by show 3≤6;decide)
  hi:=hi
  an:=jf O
  op:=(by show(Wo.opn SDA).length≤_;rw [Wo.opn_length];decide)
  rt:=(by show(Xm.root SDA 3).length≤_;rw [qGw];decide)
  pe:=qI9
  b16:=(by show 0<16;decide)
  nm64:=(by show 0<64;decide)
  ep:=he
  hd:=hy
theorem qTD{kv:List Sm.PR}(hf:qCS kv)(hg:Sm.getP kv (qAM 0)=some qTI){e:Nat}{par:xA}{y:Hd}{i:Nat}{A1:Option Addr}{c1:Nat}{A2:Option Addr}{c2 s:Nat}{A3:Option Addr}{c3:Nat}(hy:y.dig.length=16)(hi:i<2^3)(hst:qJy kv (qAM 0) 0 s):
    qLm ⟨e,par,((0:Nat):Int),((1:Nat):Int),qAo kv 0⟩ y WE 1 (2^0) (vtE kv y i A1 c1 A2 c2 s A3 c3)=0:=by
  refine qPp (λe=>by rw [e] at hy;cases hy) O O (qTe (i:=0) (show 0<2^0 by decide) (show 0<1 by decide) (jJ 1) O) ?_ ?_
  · have h:=qKZ hf (qBm 0) hst
    rw [hg,Sm.ndB_zero] at h
    unfold qSy
    rw [show valV (vtE kv y i A1 c1 A2 c2 s A3 c3)=qTI from qPs.symm,show qCW (qAo kv 0) ((0:Nat):Int)=Sm.nd 128 kv from(qJQ hf (d:=0) xC).2]
    exact h
  · have e:=Wo.recPub SDA i (Xm.digest (Wo.opn SDA) i (atM y.ep 0 0 y.dig)) (by rw [Xm.digest_length];decide)
    unfold qTG
    refine decide_eq_true ?_
    show Mk.climb (Wo.publicOf (Wo.opn SDA) i (Wo.ends (Wo.opn SDA) i (Wo.digs (Xm.digest (Wo.opn SDA) i (atM y.ep 0 0 y.dig))) (sgC SDA i (atM y.ep 0 0 y.dig)) 35)) i (sgP SDA 3 i)=Xm.root SDA 3
    unfold sgC
    rw [e]
    exact qHd SDA 3 _ hi
theorem EpE.pub_hd{e:Nat}{x:SvR}(h:EpE e x)(hI:SvI x)(r:StR×WrR):qA7 (x.pub r).hdL=⟨e+1,(qA7 x.hdL).dig,((0:Nat):Int),((1:Nat):Int),qAo (x.pub r).kvL 0⟩:=by
 rw [SvR.pub_kvL _ r hI.tk,SvR.pub_hdL]
 unfold qA7 adH
 dsimp only
 rw [h.hl,h.an,h.dp];rfl
theorem EpE.pub{e:Nat}{x:SvR}(h:EpE e x)(he:e≤1000)(hI:SvI x)(r:StR×WrR)(hg:Sm.getP (x.pub r).kvL (qAM 0)=some qTI):EpE (e+1) (x.pub r):=by
 obtain ⟨par,hp,hh⟩:=h.hdr
 refine⟨h.dp,?_,?_,h.an,⟨(qA7 x.hdL).dig,?_,h.pub_hd hI r⟩,hg⟩
 · show(x.hd++ [_]).length=_;rw [jA,h.hl];rfl
 · show(x.tg++ [_]).length=_;rw [jA,h.tl];rfl
 · rw [hh];exact qJi (hdOk hI.kf xB hp xB (a:=1) xB)
theorem qJb{e:Nat}(he:e≤1000){par:xA}(hp:par.length=16){kv kv2:List Sm.PR}(hf:qCS kv)(hf2:qCS kv2){z w:Hd}(hz:z=⟨e,par,((0:Nat):Int),((1:Nat):Int),qAo kv 0⟩)(hw:w=⟨e+1,z.dig,((0:Nat):Int),((1:Nat):Int),qAo kv2 0⟩):z.err=0∧z.good∧z.dig.length=16∧w.err=0∧w.good∧w.dig.length=16∧z.next w=0:=by
 subst hz hw
 have h1:=hdOk hf (ep:=e) xB hp (d:=0) xB (a:=1) xB
 have h2:=qJi h1
 have h3:=hdOk hf2 (ep:=e+1) xB h2 (d:=0) xB (a:=1) xB
 refine⟨h1,⟨by show e<_;omega,by show par.length≤_;omega,by show(qAo kv 0).length≤_;rw [qFJ];decide⟩,h2,h3,⟨by show e+1<_;omega,by show(Hd.dig _).length≤_;rw [h2];decide,by show(qAo kv2 0).length≤_;rw [qFJ];decide⟩,qJi h3,?_⟩
 refine qVw (by rw [h3];decide) ?_ ?_ ?_
 · show¬(e+1=0∨e+1-1≠e);omega
 · exact λq=>q.elim (λq=>by rw [q] at h2;exact absurd h2 xC) (λq=>q O)
 · show¬(((0:Nat):Int)≠((0:Nat):Int)∨((1:Nat):Int)<((1:Nat):Int));omega
structure RgR where
 gr:Nat
 gk:Nat
 gc:Nat
 gh:Nat
 x:SvR
 p:RhD
 ms:Hp
 G:Hp
 km:Hp
structure RgP (r:RgR):Prop where
 s:Srv r.ms r.G r.x
 n:qS2 r.x
 p:r.x.hd.getD 0 qAY=r.p
 pn:nsl r.G r.p
 key:qOH r.km r.gk SDA 3
theorem qKv(F:Hp)(hK:qAG F ⟨3,0,none⟩ (Sha.K.map W32))(hA:qAG F ⟨0,0,none⟩ qBT)(hT:qBv F):Ct prog 24 [] [F] (λr:RgR=>Ptr r.gr) RgP (λr=> [F,r.ms,r.G,r.km,blk r.gc [I (1:Nat),I (1:Nat),.slice (some ⟨r.gh,0,none⟩) 1 1] 279,blk r.gh [N64 (r.p.ep),Str (r.p.par),I (r.p.dep:Nat),I (r.p.aud:Nat),.slice r.p.nsA r.p.ns.length r.p.nsc] 52,blk r.gr [Ptr r.x.gs,Ptr r.gc,Ptr r.gk,I (0:Nat)] 93]):=by
 refine Ct.walk func24 O ntmps24 O (λw0 hw0=>?_)
 refine J.f λ_ j1=>J.b O<|J.c j1<|J.f λ_ j2=>J.q (qBb O O (λF' hF=>qMv F' (hK.mo hF) SDA 3 xC xC)) O ?_
 rintro⟨g10,m10⟩ h10
 try dsimp only at h10
 refine J.p 5 O<|J.c j2<|J.f λ_ j3=>J.q (qBb O O (λF' _=>qRJ F' 600 xC xC)) O ?_
 rintro⟨g14,m14⟩ hb14
 try dsimp only at hb14
 refine J.p 5 O<|J.c j3<|J.k λ_ j4=>J.f λ_ j5=>J.b O<|J.g ((qAV O O O).no xC) O<|J.p 2 O<|J.G ((qAV O O O).no xC) O<|J.b O<|J.c j5<|J.a3 ?_
 refine J.M j4<|J.f λ_ j6=>J.p 2 O<|J.q (qAZ O O (λF' hF=>qEw F' g10 SDA 3 (h10.mono (Fa hF)))) O λg26 _=>J.g (qAL (places:= [(0,1),(1,3)]) (r:= [Str ([101,118,101]),Str (Wo.opn SDA),Str (Xm.root SDA 3),I (3:Nat)]) O O O qPT qSD (λ_=>xI) O) O<|J.q (qAE (l:= [.tmp 27]) (xs:= [[Str ([101,118,101]),Str (Wo.opn SDA),Str (Xm.root SDA 3),I (3:Nat)]]) O O O O qDm el34 O xC xC xD) O λg28 _=>J.q (qAK O O ent (Ct.use1 2 O (λF' hF=>qXi F' m14 (hK.mo hF) (hA.mono (Fa hF)) (hT.mono (Fa hF)) g14 600 hb14 xC xC 0 600 xC xC 0 xC (some ⟨g28,0,none⟩) 1 [auE] ((qAm (q:=True) (xs:=qBr [auE]) O (by intro x hx;rw [List.mem_singleton.1 hx];rfl)).sl.mono (hF (blk g28 [Str [101,118,101],Str (Wo.opn SDA),Str (Xm.root SDA 3),I (3:Nat)] 34) xD)) glE))) O ?_
 rintro⟨ms29,Gs29,r29⟩ hS29
 try dsimp only at hS29
 obtain ⟨x,hx⟩: ∃x,x=nwS g14 600 0 600 0 [auE] m14 r29:=⟨_,rfl⟩
 rw [←hx] at hS29
 rw [show r29.gs=x.gs by rw [hx];rfl]
 have hN:qS2 x:=by rw [hx];exact newE _ _ _
 have hhd1:=hN.hd1
 obtain ⟨p,hp⟩: ∃p,x.hd.getD 0 qAY=p:=⟨_,rfl⟩
 have hp0:qA7 p=pE:=by rw [←hp];exact hN.h0
 have hpg:(qA7 p).good:=by rw [hp0];exact qXJ
 have hpn:nsl Gs29 p:=by have:=hS29.p.hn 0 (by rw [hN.hd1];decide);rw [hp] at this;exact this
 have hpgen:(qA7 p).gen=0:=by rw [hp0];exact qZD
 have hpa:p.aud=1:=yJ (congrArg Hd.aud hp0)
 refine J.p 5 O<|J.c j6<|J.k λ_ j7=>J.f λ_ j8=>J.b O<|J.g ((qAV O O O).no xC) O<|J.p 2 O<|J.d0 (qBb O O (λF' hF=>qM9 F' x (hS29.cells.mono (Fa hF)) (hS29.hsl.mono (Fa hF)) xB)) O ?_
 rintro⟨A36,c36,m36⟩ h36
 try dsimp only at h36
 refine J.G (qAO qGl O O) O<|J.G ((qAV O O O).no (by show¬_;omega)) O<|J.b O<|J.c j8<|J.a3 ?_
 refine J.M j7<|J.f λ_ j9=>J.b O<|J.q (qBb O O (λF' hF=>qM9 F' x (hS29.cells.mono (Fa hF)) (hS29.hsl.mono (Fa hF)) xB)) O ?_
 rintro⟨A42,c42,m42⟩ h42
 try dsimp only at h42
 refine J.g (qAF (i:=0) O O O qGl qDP h42.sl xB) O<|J.g (qAP O O qGA qDP (m:=m42) xD (by have:=h42.sl.elem (qE4 (l:=x.hd) (k:=0) xB);rw [hp] at this;exact this) O) O<|J.g (qAL (places:= [(0,1),(1,1)]) (r:= [I (1:Nat),I (1:Nat)]) O O O qHp zeroValue191 (λ_=>xI) O) O<|J.q (qBb O O (λF' hF=>qYJ F' p hpg (hpn.mono (Fa hF)) hpgen 1 1 xC xC xB)) O ?_
 rintro⟨gc,gh⟩ _
 refine J.p 5 O<|J.c j9<|J.k λ_ j10=>J.f λ_ j11=>J.b O<|J.g ((qAV O O O).no xC) O<|J.c j11<|J.a3 ?_
 exact J.M j10<|J.f λ_ j12=>J.p 3 O<|J.g (qAL (places:= [(0,1),(1,1),(2,1),(3,1)]) (r:= [Ptr x.gs,Ptr gc,Ptr g10,I 0]) O O O qLn zeroValue93 (λ_=>xI) O) O<|J.q (qAb O O O) O λg55 _=>J.b O<|J.c j12<|J.A<|J.E hw0 O (⟨g55,g10,gc,gh,x,p,ms29,Gs29,m10⟩:RgR) O ⟨hS29,hN,hp,hpn,h10⟩ [0,2,4,1,7,8,9] O xC
attribute [local irreducible] Sha.tagged Wo.pub Wo.publicOf Wo.signs Wo.ends Wo.digs Wo.walk Wo.opn Mk.root Mk.path Mk.climb Xm.root sgC sgP qBH qBX sgB normal qAM SN.tagN
theorem qSA{v:Nat}{o r:xA}{h:Int}{p:xA}(hE:qBX v o r h p=0):(qCO v o r h p).length=16:=by unfold qCO;rw [if_pos hE,Sha.tagged_length]
theorem qV9{v:Nat}{seed:xA}{kh:Nat}{p:xA}(h1:1≤v)(h2:v≤4294967295)(h3:kh≤6)(hp:p.length=16):qBX v (Wo.opn seed) (Xm.root seed kh) ((kh:Nat):Int) p=0:=(en_0 xB xB xB xB (Wo.opn_length _) (Mk.root_16 _ _) hp).1
theorem qKx:normal [97,108,105,99,101]=([97,108,105,99,101],0):=qIO (l:= [97,108,105,99,101]) xC xC xC
theorem qZO{x y:En}(h1:x.v<4294967295)(h2:y.v=x.v+1)(h3:x.val.length=16)(h4:y.p=x.val):x.next y=0:=by
 unfold En.next
 rw [if_neg xB,if_neg]
 rintro(h|h)
 · rw [h] at h3;cases h3
 · exact h h4
theorem entE(sd:xA):qBX 1 (Wo.opn sd) (Xm.root sd 0) ((0:Nat):Int) qAk=0:=qV9 xC xC xC O
def SvR.put(x:SvR)(s sd:xA)(y:SbR):SvR:=x.e1 s 1 (Wo.opn sd) (Xm.root sd 0) ((0:Nat):Int) qAk 0 (sgC sd 0 (qEd s 1 (Wo.opn sd) (Xm.root sd 0) ((0:Nat):Int) qAk)) (sgP sd 0 0) y
theorem qWZ(F m G:Hp)(hK:qAG F ⟨3,0,none⟩ (Sha.K.map W32))(hA:qAG F ⟨0,0,none⟩ qBT)(hT:qBv F)(hGF:Le G F)(x:SvR)(hS:Srv m G x)(s:xA)(hs2:s.length≤200)(hN:normal s=(s,0))(sd:xA)(A1:Option Addr)(c1:Nat)(hch:Sl F 1 A1 (sgC sd 0 (qEd s 1 (Wo.opn sd) (Xm.root sd 0) ((0:Nat):Int) qAk)).length c1 (qAH (sgC sd 0 (qEd s 1 (Wo.opn sd) (Xm.root sd 0) ((0:Nat):Int) qAk))))(A2:Option Addr)(c2:Nat)(hpt:Sl F 1 A2 (sgP sd 0 0).length c2 (qAH (sgP sd 0 0)))(hno2:x.no.length<256)(hg0:qBC (lbE x.nxt) s= []):
    Ct prog 36 [Ptr x.gs,.agg #[Str s,N64 1,Str (Wo.opn sd),Str (Xm.root sd 0),I (0:Nat),Str qAk,I (0:Nat),.slice A1 (sgC sd 0 (qEd s 1 (Wo.opn sd) (Xm.root sd 0) ((0:Nat):Int) qAk)).length c1,.slice A2 (sgP sd 0 0).length c2]] [m,F] (λ_:Hp×SbR=>I (0:Nat)) (λy=>Srv y.1 G (x.put s sd y.2)) (λy=> [y.1,F]):=by
  refine qP4 F m G hK hGF x hS s hs2 1 (Wo.opn sd) (Xm.root sd 0) ((0:Nat):Int) qAk (entE sd) 0 A1 _ c1 (sgC sd 0 (qEd s 1 (Wo.opn sd) (Xm.root sd 0) ((0:Nat):Int) qAk)) hch A2 _ c2 (sgP sd 0 0) hpt xC (qFX _ _ _) (by rw [qDy];decide) (qKJ _ _ _) (qKI _ xC) (by rw [qDy];decide) hno2 (by rw [hg0];decide) false qAz (qUl hg0) (λF' hF=>?_)
  have hj:=qO8 F' (hK.mono hF) (hA.mono hF) (hT.mono hF) s xB hN 1 (Wo.opn sd) (Xm.root sd 0) ((0:Nat):Int) qAk (entE sd) 0 A1 _ c1 A2 _ c2 true (λF2 h2=>qMu F2 (hK.mono (hF.trans h2)) sd 0 0 _ A1 _ c1 (hch.mono (hF.trans h2)) A2 _ c2 (hpt.mono (hF.trans h2)) (by rw [qE6];decide) xC xC)
  rw [if_neg (by rw [En.hist1 _ rfl rfl];exact λh=>h O),if_pos rfl] at hj
  exact hj
abbrev OWS(n:Nat):xA:= [111,119,110,101,114,UInt8.ofNat (97+n)]
theorem qCE(F:Hp)(hK:qAG F ⟨3,0,none⟩ (Sha.K.map W32))(n:Nat)(hn:n≤3):Ct prog 27 [I (n:Nat)] [F] (λr:Nat×Hp=>Ptr r.1) (λr=>qOH r.2 r.1 (OWS n) 0) (λr=> [F,r.2]):=by
 refine Ct.walk func27 O ntmps27 O (λw0 hw0=>?_)
 refine J.f λ_ j1=>J.b O<|J.c j1<|J.f λ_ j2=>J.b O<|J.g ((qAR O O O xB).nat (97+n) xB) O<|J.g (qAx O O u3_ u5_) O<|J.q (qAE (l:= [.tmp 8]) (xs:= [[B8 (UInt8.ofNat (97+n))]]) O O O O qBu el5 O xC xC xD) O λg9 _=>J.g (qB3 O O qBu u5_ u9_ (m:=blk g9 [B8 (UInt8.ofNat (97+n))] 5) xD ((qBO (q:=True) (qAf [UInt8.ofNat (97+n)]) O (by simp [qAf]) O).sl)) O<|J.g (qBe O O O xD) O<|J.q (qBb O O (λF' hF=>qMv F' (hK.mo hF) (OWS n) 0 (jf O) xC)) O ?_
 rintro⟨g12,m12⟩ h12
 try dsimp only at h12
 exact J.p 5 O<|J.c j2<|J.f λ_ j3=>J.p 2 O<|J.c j3<|J.A<|J.E hw0 O (g12,m12) O h12 [0,2] O xC
theorem qQR(F ms G:Hp)(hK:qAG F ⟨3,0,none⟩ (Sha.K.map W32))(hA:qAG F ⟨0,0,none⟩ qBT)(hT:qBv F)(hGF:Le G F)(x:SvR)(hS:Srv ms G x)(gr:Nat)(vc vk vu va:Value)(hw:qAG F ⟨gr,0,none⟩ [Ptr x.gs,vc,vk,vu])(s:xA)(hs2:s.length≤200)(hN:normal s=(s,0))(n:Nat)(hn:n≤3)(hno2:x.no.length<256)(hg0:qBC (lbE x.nxt) s= [])(hnow:qBC (lbE x.now) s= []):Ct prog 29 [Ptr gr,Str s,I (n:Nat),va] [ms,F] (λ_:Hp×SbR=> .bool true) (λy=>Srv y.1 G (x.put s (OWS n) y.2)) (λy=> [y.1,F]):=by
 refine Ct.walk func29 O ntmps29 O (λw0 hw0=>?_)
 refine J.f λ_ j1=>J.b O<|J.c j1<|J.f λ_ j2=>J.b O<|J.g (qAB O O) O<|J.W 0 qLn qVe O O O O O<|J.g (qAI O O isAgg28 (m:=F) xD (hw.at (i:=0) O)) O<|J.b O<|J.q (qBb O O (λF' hF=>qGJ F' (hK.mo hF) x hS.i (hS.cells.mono (Fa hF)) (hS.tsl.mono (Fa hF)) (hS.tree.mono (hGF.trans (Fa hF))) (hS.p.nw.mono (hGF.trans (Fa hF))) (hS.p.nl.mono (hGF.trans (Fa hF))) s xB)) O ?_
 rintro r22 hr22
 rw [hnow]
 refine J.p 3 O<|J.q (qAJ O qYk O) O λg9 _=>J.a7 (qAC (i:=4) (l:= [Str [],.slice none 0 0,.slice none 0 0,.bool false,Str [],Str []]) (vs:= [Str s,.slice r22.A ([]:List En).length r22.c,.slice r22.bA (bsd x.kvL (Sha.tagged 11 [s]) 0 (r22.s-0)).length r22.bc,.bool (qAl x.kvL (Sha.tagged 11 [s]) r22.s),Str (qBk x.kvL (Sha.tagged 11 [s]) r22.s),Str (qBo x.kvL (Sha.tagged 11 [s]) r22.s)]) O O O O O qS4 O O) O O λ_ _=>J.b O<|J.c j2<|J.f λ_ j3=>J.b O<|J.q (qBb O O (λF' hF=>qCE F' (hK.mo hF) n xB)) O ?_
 rintro⟨g26,m26⟩ h26
 try dsimp only at h26
 refine J.q (qAZ O O (λF' hF=>qEw F' g26 (OWS n) 0 (h26.mono (Fa hF)))) O λg27 _=>J.g (qAL (places:= [(0,1),(1,3),(4,1)]) (r:= [N64 (1),Str (Wo.opn (OWS n)),Str (Xm.root (OWS n) 0),I (0:Nat),Str ([0,0,0,0,0,0,0,0,0,0,0,0,0,0,0,0])]) O O O qCA qDe (λ_=>xI) O) O<|J.b O<|J.q (qBb O O (λF' hF=>qCE F' (hK.mo hF) n xB)) O ?_
 rintro⟨g30,m30⟩ h30
 try dsimp only at h30
 refine J.q (qAJ O qDe O) O λg11 _=>J.a7 (qAC (i:=7) (l:= [.int .u64 0,Str [],Str [],I 0,Str []]) (vs:= [N64 (1),Str (Wo.opn (OWS n)),Str (Xm.root (OWS n) 0),I (0:Nat),Str (qAk)]) O O O O O qAj O O) O O λ_ _=>J.b O<|J.c j3<|J.k λ_ j4=>J.f λ_ j5=>J.W 1 qLy qLi O O O O O<|J.a6 4 qOD O O O O O<|J.g (qAO qCK O O) O<|J.b O<|J.c j5<|J.f λ_ j6=>J.b O<|J.g ((qA5 O O O).no xC) O<|J.c j6<|J.a3 ?_
 refine J.M j4<|J.f λ_ j7=>J.p 2 O<|J.c0 7 qBB qAj O O O O O<|J.q (qBb O O (λF' hF=>qNN F' (hK.mo hF) g30 (OWS n) 0 (h30.mono (Fa hF)) (jf O) xC 0 xC s xB 1 (Wo.opn (OWS n)) (Xm.root (OWS n) 0) ((0:Nat):Int) qAk (entE (OWS n)))) O ?_
 rintro⟨⟨A54,c54,m54⟩,⟨B54,d54,n54⟩⟩ ⟨h54,k54⟩
 refine J.p 3 O<|J.q (qAJ O zeroValue108 O) O λg14 _=>J.a7 (qAC (i:=10) (l:= [Str [],.int .u64 0,Str [],Str [],I 0,Str [],I 0,.slice none 0 0,.slice none 0 0]) (vs:= [Str (s),N64 (1),Str (Wo.opn (OWS n)),Str (Xm.root (OWS n) 0),I (0:Nat),Str (qAk),I (0:Nat),.slice A54 (sgC (OWS n) 0 (qEd s 1 (Wo.opn (OWS n)) (Xm.root (OWS n) 0) ((0:Nat):Int) qAk)).length c54,.slice B54 (sgP (OWS n) 0 0).length d54]) O O O O O qHm O O) O O λ_ _=>J.b O<|J.c j7<|J.k λ_ j8=>J.b1 [F,blk g14 [Str (s),N64 (1),Str (Wo.opn (OWS n)),Str (Xm.root (OWS n) 0),I (0:Nat),Str (qAk),I (0:Nat),.slice A54 (sgC (OWS n) 0 (qEd s 1 (Wo.opn (OWS n)) (Xm.root (OWS n) 0) ((0:Nat):Int) qAk)).length c54,.slice B54 (sgP (OWS n) 0 0).length d54] 108] [] (.y 0 (.y 1 (.y 2 (.y 3 (.y 4 (.y 5 (.y 6 (.y 7 (.e 8 (.y 9 (.y 10 (.y 11 .nil)))))))))))) Tryz.wide xF xD ?_
 refine J.L ?_
 refine J.j O ((qAe O O O).yes xC) O O<|J.L ?_
 refine J.b8 O (qA2 O O) O O<|J.b8 O (qAB O O) O O<|J.b8 O (qAA O O qLn O qVe O) O O<|J.b8 O (qAI O O isAgg28 (m:=F) xD (hw.at (i:=0) O)) O O<|J.b8 O (qAU 1 O O O isAgg108 qHm O) O O<|J.e0 O (qAK O O ent (Ct.use1 0 O (λF' hF=>qWZ F' ms G (hK.mo hF) (hA.mono (Fa hF)) (hT.mono (Fa hF)) (hGF.trans (Fa hF)) x hS s hs2 hN (OWS n) A54 c54 (h54.sl.mono (Fa hF)) B54 d54 (k54.sl.mono (Fa hF)) hno2 hg0))) (Wan.is O O O O O) O O xD ?_
 rintro⟨ms65,y65⟩ hS65
 try dsimp only at hS65
 refine J.b8 O ((qAe O O O).yes xC) O O<|J.d2 ?_
 refine J.b7 ?_
 refine J.b0<|J.u (J.D j8 ?_)
 exact J.A<|J.E hw0 O (ms65,y65) O hS65 [0,1] O xC
end Go.Proofs.YtmemgokiolfdoaaGreatDoor
namespace Go.Proofs.YtmemgokiolfdoaaGreatDoor
open Go Go.Fw Go.Proofs.Tryz
theorem el206:qCY prog 206 [.int .u64 0,.int .i64 0,Str [],.int .i64 0,.int .i64 0,.slice none 0 0,.slice none 0 0,Str [],Str [],Str [],.int .i64 0,.slice none 0 0,.bool false,Str [],Str []] 216:=qCY.of xI O
structure RpR where
 y:StR×WrR
 mp:Hp
 yl:RhD
 A:Option Addr
 c:Nat
 m:Hp
 H:Hp
structure RpP (H:Hp) (x:SvR) (hd:List RhD) (r:RpR):Prop where
 le:Le H r.H
 s:Srv r.mp r.H (x.pub r.y)
 pb:PbP r.mp H r.y.1.G x r.y
 row:Row r.m 52 5 r.A (hd.length+1) r.c (qDQ (hd++ [r.yl]))
 yl:qA7 r.yl=qA7 (x.pub r.y).hdL
 yn:nsl r.H r.yl
theorem qQS(F H ms mh:Hp)(hK:qAG F ⟨3,0,none⟩ (Sha.K.map W32))(x:SvR)(hS:Srv ms H x)(e:Nat)(he:e≤10)(hE:EpE e x)(hfit:x.bk.e+qCh (x.no++ [cmB x.no.length x.hd.length])≤x.bk.size)(gr gc gk u:Nat)(hu:u≤1000)(hkey:qOH H gk SDA 3)(A:Option Addr)(c:Nat)(hd:List RhD)(hR:Row mh 52 5 A hd.length c (qDQ hd))(h0:0<hd.length)(hn:hd.length≤100)(hl:qA7 (hd.getD (hd.length-1) qAY)=qA7 x.hdL)(hac:(hd.getD (hd.length-2) qAY).aud=1)(hXn:nsl H (hd.getD (hd.length-1) qAY)):Ct prog 30 [Ptr gr] [blk gc [I (1:Nat),I (1:Nat),.slice A hd.length c] 279,mh,blk gr [Ptr x.gs,Ptr gc,Ptr gk,I (u:Nat)] 93,ms,H,F] (λ_:RpR=> .bool true) (RpP H x hd) (λr=> [blk gc [I (1:Nat),I (1:Nat),.slice r.A (hd.length+1) r.c] 279,r.m,blk gr [Ptr x.gs,Ptr gc,Ptr gk,I (u+1:Nat)] 93,r.mp,r.H,F]):=by
 refine Ct.walk func30 O ntmps30 O (λw0 hw0=>?_)
 refine J.f λ_ j1=>J.b O<|J.c j1<|J.f λ_ j2=>J.b O<|J.g (qAB O O) O<|J.W 0 qLn qVe O O O O O<|J.a6 2 isAgg28 O O O O O<|J.q (qAK O O ent (Ct.use1 3 O (λF' hF=>qXC F' ms H (hK.mo hF) (Fa hF) x hS (by rw [hE.tl];omega) hfit))) O ?_
 rintro⟨mp,y15⟩ hp15
 try dsimp only at hp15
 change J _ ((15,.tuple #[.agg #[N64 ((adH (qA7 x.hdL).dig x.dp x.audN.length x.hd (kvT x.kvL x.cl x.dp (2^x.dp)) y15.1.nA y15.1.nc).ep),Str ((adH (qA7 x.hdL).dig x.dp x.audN.length x.hd (kvT x.kvL x.cl x.dp (2^x.dp)) y15.1.nA y15.1.nc).par),I ((adH (qA7 x.hdL).dig x.dp x.audN.length x.hd (kvT x.kvL x.cl x.dp (2^x.dp)) y15.1.nA y15.1.nc).dep:Nat),I ((adH (qA7 x.hdL).dig x.dp x.audN.length x.hd (kvT x.kvL x.cl x.dp (2^x.dp)) y15.1.nA y15.1.nc).aud:Nat),.slice (adH (qA7 x.hdL).dig x.dp x.audN.length x.hd (kvT x.kvL x.cl x.dp (2^x.dp)) y15.1.nA y15.1.nc).nsA (adH (qA7 x.hdL).dig x.dp x.audN.length x.hd (kvT x.kvL x.cl x.dp (2^x.dp)) y15.1.nA y15.1.nc).ns.length (adH (qA7 x.hdL).dig x.dp x.audN.length x.hd (kvT x.kvL x.cl x.dp (2^x.dp)) y15.1.nA y15.1.nc).nsc],.slice y15.1.At y15.1.tl.length y15.1.ct,I (0:Nat)])::_) _ [blk gc [I (1:Nat),I (1:Nat),.slice A hd.length c] 279,mh,blk gr [Ptr x.gs,Ptr gc,Ptr gk,I (u:Nat)] 93,mp,H,F,y15.1.G,y15.1.mo] _
 obtain ⟨yh,hyh⟩: ∃z:RhD,z=(adH (qA7 x.hdL).dig x.dp x.audN.length x.hd (kvT x.kvL x.cl x.dp (2^x.dp)) y15.1.nA y15.1.nc):=⟨_,rfl⟩
 rw [←hyh]
 have hI:=hS.i
 have hyt:qA7 yh=⟨e+1,(qA7 x.hdL).dig,((0:Nat):Int),((1:Nat):Int),qAo (x.pub y15).kvL 0⟩:=by rw [hyh,←SvR.pub_hdL];exact hE.pub_hd hI y15
 have hkf:=hI.kf
 obtain ⟨par,hpar,hxh⟩:=hE.hdr
 have hye:yh.ep=e+1:=congrArg Hd.ep hyt
 have hpa:x.hdL.aud=1:=yJ (congrArg Hd.aud hxh)
 have hhl:=hE.hl
 have htl:=hE.tl
 have htk:=hI.tk
 have hl2:(x.pub y15).hd.length=e+2:=by show(x.hd++ [_]).length=_;rw [jA,hhl];rfl
 have ht2:(x.pub y15).tg.length=e+2:=by show(x.tg++ [_]).length=_;rw [jA,htl];rfl
 have hau2:(x.pub y15).aud= [auE]:=hE.an
 have hkp:(x.pub y15).kv.getD e []=x.kvL:=by
  show(x.kv++ [_]).getD e []=x.kv.getD (x.tg.length-1) []
  rw [qCj _ _ _ xB,htl];rfl
 have hhp:(x.pub y15).hd.getD e qAY=x.hdL:=by
  show(x.hd++ [_]).getD e qAY=x.hd.getD (x.hd.length-1) qAY
  rw [qCj _ _ _ xB,hhl];rfl
 refine J.p 4 O<|J.q (qAJ O qYA O) O λg3 _=>J.a7 (qAC (i:=8) (l:= [.int .u64 0,Str [],I 0,I 0,.slice none 0 0]) (vs:= [N64 (yh.ep),Str (yh.par),I (yh.dep:Nat),I (yh.aud:Nat),.slice yh.nsA yh.ns.length yh.nsc]) O O O O O qDP O O) O O λ_ _=>J.p 2 O<|J.c2 [4,6,0,1,2,3,5,8] [H,y15.1.G,blk gc [I (1:Nat),I (1:Nat),.slice A hd.length c] 279,mh,blk gr [Ptr x.gs,Ptr gc,Ptr gk,I (u:Nat)] 93,mp,F,blk g3 [N64 (yh.ep),Str (yh.par),I (yh.dep:Nat),I (yh.aud:Nat),.slice yh.nsA yh.ns.length yh.nsc] 52] O xC<|J.d5 (λhj=>?_)
 refine J.c j2<|J.k λ_ j3=>J.k λ_ j4=>?_
 have hS2:Srv mp (U [H,y15.1.G]) (x.pub y15):=hp15.s _ (qSw hj) (qYj hj)
 have hkf2:=hS2.i.kf
 obtain ⟨z1,z2,z3,w1,w2,w3,hnx⟩:=qJb xB hpar hkf hkf2 hxh hyt
 have hyn:nsl (U [H,y15.1.G]) yh:=by have:=hp15.ns;rw [SvR.pub_hdL,←hyh] at this;exact this.mono (qYj hj)
 have hyns:yh.ns=qAo (x.pub y15).kvL 0:=congrArg Hd.nodes hyt
 have hyl:yh.ns.length≤1000000:=by rw [hyns,qFJ];decide
 have hkey2:qOH (U [H,y15.1.G]) gk SDA 3:=hkey.mono (qSw hj)
 have hXn2:nsl (U [H,y15.1.G]) (hd.getD (hd.length-1) qAY):=hXn.mono (qSw hj)
 refine J.c2 [1,2,3,4,0,5,6] [blk gc [I (1:Nat),I (1:Nat),.slice A hd.length c] 279,mh,blk gr [Ptr x.gs,Ptr gc,Ptr gk,I (u:Nat)] 93,mp,U [H,y15.1.G],F,blk g3 [N64 (yh.ep),Str (yh.par),I (yh.dep:Nat),I (yh.aud:Nat),.slice yh.nsA yh.ns.length yh.nsc] 52] O xC<|J.H<|J.b O<|J.g ((qAV O O O).no xC) O<|J.c j4<|J.a3 ?_
 refine J.M j3<|J.d9 (X:=Nat) (λζ=> [(0,Ptr gr),(3,Ptr g3),(6,Ptr ζ)]) (λζ=> [blk gc [I (1:Nat),I (1:Nat),.slice A hd.length c] 279,mh,blk gr [Ptr x.gs,Ptr gc,Ptr gk,I (u:Nat)] 93,mp,U [H,y15.1.G],F,blk g3 [N64 (yh.ep),Str (yh.par),I (yh.dep:Nat),I (yh.aud:Nat),.slice yh.nsA yh.ns.length yh.nsc] 52,blk ζ [N64 (yh.ep),I 0,Str ((qA7 yh).dig),I 0,I 0,.slice none 0 0,.slice none 0 0] 199]) (λζ=>True) (λ_ j5=>?_) ?_
 ·
  refine J.b1 [blk g3 [N64 (yh.ep),Str (yh.par),I (yh.dep:Nat),I (yh.aud:Nat),.slice yh.nsA yh.ns.length yh.nsc] 52,F] [6] (.y 0 (.y 1 (.y 2 (.br (.e 3 (.y 4 (.e 5 (.e 6 .nil)))) (.e 5 (.e 3 (.y 4 (.e 6 .nil)))))))) Tryz.wide xF xD ?_
  refine J.j O (qAA O O qEJ O qDs O) O O<|J.j O (qAD 0 O O O qEv O) O O<|J.j O (qAU 0 O O O qGA qDP O) O O<|J.d6 ?_ ?_
  ·
   exact J.a1 O (qAZ O O (λF' hF=>qCo F' (hK.mo hF) (qA7 yh) yh.nsA yh.nsc w2 (hyn.mono (Fa hF)))) O xD λg24 _=>J.j O (qAL (places:= [(0,1),(1,1),(2,1),(3,1),(4,3)]) (r:= [N64 (yh.ep),I 0,Str ((qA7 yh).dig),I 0,I 0,.slice none 0 0,.slice none 0 0]) O O O qCe zeroValue199 (λ_=>xI) xI) O O<|J.a1 O (qAJ O zeroValue199 O) O xD λg6 _=>J.c1 O (qAC (i:=7) (l:= [.int .u64 0,I 0,Str [],I 0,I 0,.slice none 0 0,.slice none 0 0]) (vs:= [N64 (yh.ep),I 0,Str ((qA7 yh).dig),I 0,I 0,.slice none 0 0,.slice none 0 0]) O O O O O qDD O O) O O O λ_ _=>J.b0<|J.u<|J.a8 (g6) j5 (trivial) ⟨O,O,O,trivial⟩ (λ_ h=>h)
  exact J.a1 O (qAJ O zeroValue199 O) O xD λg6 _=>J.a1 O (qAZ O O (λF' hF=>qCo F' (hK.mo hF) (qA7 yh) yh.nsA yh.nsc w2 (hyn.mono (Fa hF)))) O xD λg24 _=>J.j O (qAL (places:= [(0,1),(1,1),(2,1),(3,1),(4,3)]) (r:= [N64 (yh.ep),I 0,Str ((qA7 yh).dig),I 0,I 0,.slice none 0 0,.slice none 0 0]) O O O qCe zeroValue199 (λ_=>xI) xI) O O<|J.c1 O (qAC (i:=7) (l:= [.int .u64 0,I 0,Str [],I 0,I 0,.slice none 0 0,.slice none 0 0]) (vs:= [N64 (yh.ep),I 0,Str ((qA7 yh).dig),I 0,I 0,.slice none 0 0,.slice none 0 0]) O O O O O qDD O O) O O O λ_ _=>J.b0<|J.u<|J.a8 (g6) j5 (trivial) ⟨O,O,O,trivial⟩ (λ_ h=>h)
 rintro g6 _
 refine J.k λ_ j6=>J.b1 [blk gr [Ptr x.gs,Ptr gc,Ptr gk,I (u:Nat)] 93,blk g6 [N64 (yh.ep),I 0,Str ((qA7 yh).dig),I 0,I 0,.slice none 0 0,.slice none 0 0] 199] [16,100014] (.y 0 (.y 1 (.y 2 (.y 3 (.y 4 (.y 5 (.y 6 (.y 7 (.y 8 (.y 9 (.e 10 (.e 11 (.y 12 (.y 13 (.y 14 (.y 15 (.e 16 .nil))))))))))))))))) Tryz.wide xF xD ?_
 refine J.L ?_
 refine J.j O (qAB O O) O O<|J.j O (qAA O O qLn O sizeOf36 O) O O<|J.j O (qAD 0 O O O isAgg36 O) O O<|J.L ?_
 refine J.j O (qAB O O) O O<|J.j O (qAA O O qLn O z3_ O) O O<|J.j O (qAD 0 O O O b3_ O) O O<|J.j O ((qNZ 3 O O O xC xC).nat (u%8) xB) O O<|J.j O (qAU 1 O O O isAgg199 qDD O) O O<|J.a1 O (qAZ O O (λF' hF=>qHg F' (hK.mo hF) yh.ep 0 0 (qA7 yh).dig 0 none none 0 0 0 0 xB xB xB w3)) O xD λg37 _=>J.a1 O (qBb O O (λF' hF=>qJz F' (hK.mo hF) gk SDA 3 (hkey2.mono (Fa hF)) (jf O) xC (u%8) (Nat.mod_lt _ xC) (atM yh.ep 0 0 (qA7 yh).dig) (by rw [qSi];decide))) O xD ?_
 rintro⟨⟨A1,c1,m1⟩,A2,c2,m2⟩ ⟨hs1,hs2⟩
 refine J.L ?_
 refine J.c7 (.agg #[I (u%8:Nat),.slice A1 (sgC SDA (u%8) (atM yh.ep 0 0 (qA7 yh).dig)).length c1,.slice A2 (sgP SDA 3 (u%8)).length c2]) ?_
 refine J.d1 O (qAT O O O) O O O ?_
 refine J.j O (qAA O O qCe O qCy O) O O<|J.c1 O (qAW (i:=7) O O O O O qCy O xD) O O O λ_ _=>J.b0<|J.u (J.D j6 ?_)
 refine J.f λ_ j7=>J.b O<|J.g (qAB O O) O<|J.W 3 qLn z3_ O O O O O<|J.a6 2 b3_ O O O O O<|J.g ((qAR O O O xB).nat (u+1) xB) O<|J.g (qAB O O) O<|J.W 3 qLn z3_ O O O O O<|J.a7 (qAW (i:=2) O O O O O z3_ O xD) O O λ_ _=>?_
 change J _ _ _ [_,_,blk gr [Ptr x.gs,Ptr gc,Ptr gk,I (u+1:Nat)] 93,_,_,_,_,_,_,_] _
 refine J.c j7<|J.d9 (X:=MbR×Nat×Nat) (λζ=> [(0,Ptr gr),(3,Ptr g3),(6,Ptr g6),(7,Ptr ζ.2.1),(8,Ptr ζ.2.2),(9,I (0:Nat))]) (λζ=> [blk gc [I (1:Nat),I (1:Nat),.slice A hd.length c] 279,mh,blk gr [Ptr x.gs,Ptr gc,Ptr gk,I (u+1:Nat)] 93,mp,U [H,y15.1.G],F,blk g3 [N64 (yh.ep),Str (yh.par),I (yh.dep:Nat),I (yh.aud:Nat),.slice yh.nsA yh.ns.length yh.nsc] 52,blk g6 [N64 (yh.ep),I 0,Str ((qA7 yh).dig),I 0,I (u%8:Nat),.slice A1 (sgC SDA (u%8) (atM yh.ep 0 0 (qA7 yh).dig)).length c1,.slice A2 (sgP SDA 3 (u%8)).length c2] 199,m1,m2,ζ.1.m,blk ζ.2.1 [Str EVE,Str (Wo.opn SDA),Str (Xm.root SDA 3),I (3:Nat)] 34,blk ζ.2.2 [.slice ζ.1.A (bsd x.kvL (qAM 0) 0 (ζ.1.s-0)).length ζ.1.c,.bool (qAl x.kvL (qAM 0) ζ.1.s),Str (qBk x.kvL (qAM 0) ζ.1.s),Str (qBo x.kvL (qAM 0) ζ.1.s)] 87]) (λζ=>MbP (x.pub y15) e 0 ζ.1) (λ_ j8=>?_) ?_
 ·
  refine J.b1 [blk gr [Ptr x.gs,Ptr gc,Ptr gk,I (u+1:Nat)] 93,blk g3 [N64 (yh.ep),Str (yh.par),I (yh.dep:Nat),I (yh.aud:Nat),.slice yh.nsA yh.ns.length yh.nsc] 52] [14,15,16,100010,100011] (.y 0 (.y 1 (.y 2 (.y 3 (.y 4 (.y 5 (.y 6 (.br (.e 7 (.y 8 (.y 9 (.y 10 (.y 11 (.br (.e 12 (.e 13 (.e 14 (.e 15 (.e 16 .nil))))) (.e 13 (.e 12 (.e 14 (.e 15 (.e 16 .nil))))))))))) (.br (.e 12 (.br (.e 7 (.y 8 (.y 9 (.y 10 (.y 11 (.e 13 (.e 14 (.e 15 (.e 16 .nil))))))))) (.e 13 (.e 7 (.y 8 (.y 9 (.y 10 (.y 11 (.e 14 (.e 15 (.e 16 .nil))))))))))) (.e 13 (.br (.e 7 (.y 8 (.y 9 (.y 10 (.y 11 (.e 12 (.e 14 (.e 15 (.e 16 .nil))))))))) (.e 12 (.e 7 (.y 8 (.y 9 (.y 10 (.y 11 (.e 14 (.e 15 (.e 16 .nil)))))))))))))))))))) Tryz.wide xF xD ?_
  refine J.L ?_
  refine J.j O (qAB O O) O O<|J.j O (qAA O O qLn O qVe O) O O<|J.j O (qAD 0 O O O isAgg28 O) O O<|J.j O (qAA O O qEJ O qDs O) O O<|J.j O (qAD 1 O O O qEv O) O O<|J.j O ((qQ2 (a:=yh.ep) (b:=1) O O O xB).as (v':=N64 e) (congrArg N64 xB)) O O<|J.d6 ?_ ?_
  ·
   refine J.a1 O (qAK O O ent (Ct.use (new:=λr:MbR=> [r.m]) (λF' hF=>by have:=qGs F' (hK.mo hF) (x.pub y15) (hS2.cells.mono (Fa hF)) (hS2.tsl.mono (Fa hF)) (hS2.hsl.mono (Fa hF)) xB (hS2.p.ra.mono (Fa hF)) e 0 xB xB (by rw [hhp,hpa];decide) (by rw [hau2];decide) (by rw [hau2];decide) ((hS2.p.tr e xB).mono (Fa hF)) (by rw [hkp];exact hkf);rw [hkp,hau2] at this;exact this))) O xD ?_
   rintro q hq
   refine J.L ?_
   refine J.c7 (.agg #[Str EVE,Str (Wo.opn SDA),Str (Xm.root SDA 3),I (3:Nat)]) ?_
   refine J.d1 O (qAT O O O) O O O ?_
   refine J.d1 O (qAT O O O) O O O ?_
   refine J.d6 ?_ ?_
   ·
    refine J.a1 O (qAJ (l:= [Str [],Str [],Str [],I 0]) O qSD O) O xD λg7 _=>J.a1 O (qAJ (l:= [.slice none 0 0,.bool false,Str [],Str []]) O qPH O) O xD λg8 _=>J.c1 O (qAC (i:=11) (l:= [Str [],Str [],Str [],I 0]) (vs:= [Str EVE,Str (Wo.opn SDA),Str (Xm.root SDA 3),I (3:Nat)]) O O O O O qDq O O) O O O λ_ _=>J.c1 O (qAC (i:=12) (l:= [.slice none 0 0,.bool false,Str [],Str []]) (vs:= [.slice q.A (bsd x.kvL (qAM 0) 0 (q.s-0)).length q.c,.bool (qAl x.kvL (qAM 0) q.s),Str (qBk x.kvL (qAM 0) q.s),Str (qBo x.kvL (qAM 0) q.s)]) O O O O O qC6 O O) O O O λ_ _=>J.d4 O (YOp.eop (qBF O O)) O O O O ?_
    intro _ _
    exact J.b0<|J.u<|J.a8 (q,g7,g8) j8 (hq) ⟨O,O,O,O,O,O,trivial⟩ (λ_ h=>h)
   refine J.a1 O (qAJ (l:= [.slice none 0 0,.bool false,Str [],Str []]) O qPH O) O xD λg8 _=>J.a1 O (qAJ (l:= [Str [],Str [],Str [],I 0]) O qSD O) O xD λg7 _=>J.c1 O (qAC (i:=12) (l:= [Str [],Str [],Str [],I 0]) (vs:= [Str EVE,Str (Wo.opn SDA),Str (Xm.root SDA 3),I (3:Nat)]) O O O O O qDq O O) O O O λ_ _=>J.c1 O (qAC (i:=11) (l:= [.slice none 0 0,.bool false,Str [],Str []]) (vs:= [.slice q.A (bsd x.kvL (qAM 0) 0 (q.s-0)).length q.c,.bool (qAl x.kvL (qAM 0) q.s),Str (qBk x.kvL (qAM 0) q.s),Str (qBo x.kvL (qAM 0) q.s)]) O O O O O qC6 O O) O O O λ_ _=>J.d4 O (YOp.eop (qBF O O)) O O O O ?_
   intro _ _
   exact J.b0<|J.u<|J.a8 (q,g7,g8) j8 (hq) ⟨O,O,O,O,O,O,trivial⟩ (λ_ h=>h.pick [0,1,2,3,4,5,6,7,8,9,10,12,11] xC)
  refine J.d6 ?_ ?_
  ·
   refine J.a1 O (qAJ (l:= [Str [],Str [],Str [],I 0]) O qSD O) O xD λg7 _=>J.d6 ?_ ?_
   ·
    refine J.a1 O (qAK O O ent (Ct.use (new:=λr:MbR=> [r.m]) (λF' hF=>by have:=qGs F' (hK.mo hF) (x.pub y15) (hS2.cells.mono (Fa hF)) (hS2.tsl.mono (Fa hF)) (hS2.hsl.mono (Fa hF)) xB (hS2.p.ra.mono (Fa hF)) e 0 xB xB (by rw [hhp,hpa];decide) (by rw [hau2];decide) (by rw [hau2];decide) ((hS2.p.tr e xB).mono (Fa hF)) (by rw [hkp];exact hkf);rw [hkp,hau2] at this;exact this))) O xD ?_
    rintro q hq
    refine J.L ?_
    refine J.c7 (.agg #[Str EVE,Str (Wo.opn SDA),Str (Xm.root SDA 3),I (3:Nat)]) ?_
    refine J.d1 O (qAT O O O) O O O ?_
    refine J.d1 O (qAT O O O) O O O ?_
    refine J.a1 O (qAJ (l:= [.slice none 0 0,.bool false,Str [],Str []]) O qPH O) O xD λg8 _=>J.c1 O (qAC (i:=10) (l:= [Str [],Str [],Str [],I 0]) (vs:= [Str EVE,Str (Wo.opn SDA),Str (Xm.root SDA 3),I (3:Nat)]) O O O O O qDq O O) O O O λ_ _=>J.c1 O (qAC (i:=12) (l:= [.slice none 0 0,.bool false,Str [],Str []]) (vs:= [.slice q.A (bsd x.kvL (qAM 0) 0 (q.s-0)).length q.c,.bool (qAl x.kvL (qAM 0) q.s),Str (qBk x.kvL (qAM 0) q.s),Str (qBo x.kvL (qAM 0) q.s)]) O O O O O qC6 O O) O O O λ_ _=>J.d4 O (YOp.eop (qBF O O)) O O O O ?_
    intro _ _
    exact J.b0<|J.u<|J.a8 (q,g7,g8) j8 (hq) ⟨O,O,O,O,O,O,trivial⟩ (λ_ h=>h.pick [0,1,2,3,4,5,6,7,8,9,11,10,12] xC)
   refine J.a1 O (qAJ (l:= [.slice none 0 0,.bool false,Str [],Str []]) O qPH O) O xD λg8 _=>J.a1 O (qAK O O ent (Ct.use (new:=λr:MbR=> [r.m]) (λF' hF=>by have:=qGs F' (hK.mo hF) (x.pub y15) (hS2.cells.mono (Fa hF)) (hS2.tsl.mono (Fa hF)) (hS2.hsl.mono (Fa hF)) xB (hS2.p.ra.mono (Fa hF)) e 0 xB xB (by rw [hhp,hpa];decide) (by rw [hau2];decide) (by rw [hau2];decide) ((hS2.p.tr e xB).mono (Fa hF)) (by rw [hkp];exact hkf);rw [hkp,hau2] at this;exact this))) O xD ?_
   rintro q hq
   refine J.L ?_
   refine J.c7 (.agg #[Str EVE,Str (Wo.opn SDA),Str (Xm.root SDA 3),I (3:Nat)]) ?_
   refine J.d1 O (qAT O O O) O O O ?_
   refine J.d1 O (qAT O O O) O O O ?_
   refine J.c1 O (qAC (i:=10) (l:= [Str [],Str [],Str [],I 0]) (vs:= [Str EVE,Str (Wo.opn SDA),Str (Xm.root SDA 3),I (3:Nat)]) O O O O O qDq O O) O O O λ_ _=>J.c1 O (qAC (i:=11) (l:= [.slice none 0 0,.bool false,Str [],Str []]) (vs:= [.slice q.A (bsd x.kvL (qAM 0) 0 (q.s-0)).length q.c,.bool (qAl x.kvL (qAM 0) q.s),Str (qBk x.kvL (qAM 0) q.s),Str (qBo x.kvL (qAM 0) q.s)]) O O O O O qC6 O O) O O O λ_ _=>J.d4 O (YOp.eop (qBF O O)) O O O O ?_
   intro _ _
   exact J.b0<|J.u<|J.a8 (q,g7,g8) j8 (hq) ⟨O,O,O,O,O,O,trivial⟩ (λ_ h=>h.pick [0,1,2,3,4,5,6,7,8,9,12,10,11] xC)
  refine J.a1 O (qAJ (l:= [.slice none 0 0,.bool false,Str [],Str []]) O qPH O) O xD λg8 _=>J.d6 ?_ ?_
  ·
   refine J.a1 O (qAK O O ent (Ct.use (new:=λr:MbR=> [r.m]) (λF' hF=>by have:=qGs F' (hK.mo hF) (x.pub y15) (hS2.cells.mono (Fa hF)) (hS2.tsl.mono (Fa hF)) (hS2.hsl.mono (Fa hF)) xB (hS2.p.ra.mono (Fa hF)) e 0 xB xB (by rw [hhp,hpa];decide) (by rw [hau2];decide) (by rw [hau2];decide) ((hS2.p.tr e xB).mono (Fa hF)) (by rw [hkp];exact hkf);rw [hkp,hau2] at this;exact this))) O xD ?_
   rintro q hq
   refine J.L ?_
   refine J.c7 (.agg #[Str EVE,Str (Wo.opn SDA),Str (Xm.root SDA 3),I (3:Nat)]) ?_
   refine J.d1 O (qAT O O O) O O O ?_
   refine J.d1 O (qAT O O O) O O O ?_
   refine J.a1 O (qAJ (l:= [Str [],Str [],Str [],I 0]) O qSD O) O xD λg7 _=>J.c1 O (qAC (i:=12) (l:= [Str [],Str [],Str [],I 0]) (vs:= [Str EVE,Str (Wo.opn SDA),Str (Xm.root SDA 3),I (3:Nat)]) O O O O O qDq O O) O O O λ_ _=>J.c1 O (qAC (i:=10) (l:= [.slice none 0 0,.bool false,Str [],Str []]) (vs:= [.slice q.A (bsd x.kvL (qAM 0) 0 (q.s-0)).length q.c,.bool (qAl x.kvL (qAM 0) q.s),Str (qBk x.kvL (qAM 0) q.s),Str (qBo x.kvL (qAM 0) q.s)]) O O O O O qC6 O O) O O O λ_ _=>J.d4 O (YOp.eop (qBF O O)) O O O O ?_
   intro _ _
   exact J.b0<|J.u<|J.a8 (q,g7,g8) j8 (hq) ⟨O,O,O,O,O,O,trivial⟩ (λ_ h=>h.pick [0,1,2,3,4,5,6,7,8,9,11,12,10] xC)
  refine J.a1 O (qAJ (l:= [Str [],Str [],Str [],I 0]) O qSD O) O xD λg7 _=>J.a1 O (qAK O O ent (Ct.use (new:=λr:MbR=> [r.m]) (λF' hF=>by have:=qGs F' (hK.mo hF) (x.pub y15) (hS2.cells.mono (Fa hF)) (hS2.tsl.mono (Fa hF)) (hS2.hsl.mono (Fa hF)) xB (hS2.p.ra.mono (Fa hF)) e 0 xB xB (by rw [hhp,hpa];decide) (by rw [hau2];decide) (by rw [hau2];decide) ((hS2.p.tr e xB).mono (Fa hF)) (by rw [hkp];exact hkf);rw [hkp,hau2] at this;exact this))) O xD ?_
  rintro q hq
  refine J.L ?_
  refine J.c7 (.agg #[Str EVE,Str (Wo.opn SDA),Str (Xm.root SDA 3),I (3:Nat)]) ?_
  refine J.d1 O (qAT O O O) O O O ?_
  refine J.d1 O (qAT O O O) O O O ?_
  refine J.c1 O (qAC (i:=11) (l:= [Str [],Str [],Str [],I 0]) (vs:= [Str EVE,Str (Wo.opn SDA),Str (Xm.root SDA 3),I (3:Nat)]) O O O O O qDq O O) O O O λ_ _=>J.c1 O (qAC (i:=10) (l:= [.slice none 0 0,.bool false,Str [],Str []]) (vs:= [.slice q.A (bsd x.kvL (qAM 0) 0 (q.s-0)).length q.c,.bool (qAl x.kvL (qAM 0) q.s),Str (qBk x.kvL (qAM 0) q.s),Str (qBo x.kvL (qAM 0) q.s)]) O O O O O qC6 O O) O O O λ_ _=>J.d4 O (YOp.eop (qBF O O)) O O O O ?_
  intro _ _
  exact J.b0<|J.u<|J.a8 (q,g7,g8) j8 (hq) ⟨O,O,O,O,O,O,trivial⟩ (λ_ h=>h.pick [0,1,2,3,4,5,6,7,8,9,12,11,10] xC)
 rintro⟨q,g7,g8⟩ hq
 dsimp only at hq⊢
 have hst:=hq.st
 have hrb:=hq.rb
 rw [hkp] at hst hrb
 refine J.k λ_ j9=>?_
 have hXg:(qA7 (hd.getD (hd.length-1) qAY)).good:=by rw [hl];exact z2
 have hXe:(qA7 (hd.getD (hd.length-1) qAY)).err=0:=by rw [hl];exact z1
 have hXd:(hd.getD (hd.length-1) qAY).dep=0:=by have:=congrArg Hd.dep (hl.trans hxh);exact yJ this
 have hXs: ∀s∈(hd.getD (hd.length-1) qAY).ns,s.length≤1048576:=by rw [show(hd.getD (hd.length-1) qAY).ns=qAo x.kvL 0 from congrArg Hd.nodes (hl.trans hxh)];exact qEm _
 have hu8:u%8<2^3:=Nat.mod_lt _ xC
 have hce:qFw (qA7 (hd.getD (hd.length-1) qAY)) (qA7 yh) WE 1 (2^0) 1 [(vtE x.kvL (qA7 yh) (u%8) A1 c1 A2 c2 q.s q.A q.c)]=0:=by rw [hl,hxh];exact cert1 (by rw [←hxh];exact hnx) O (qTD hkf hE.get w3 hu8 hst)
 refine J.b1 [blk gr [Ptr x.gs,Ptr gc,Ptr gk,I (u+1:Nat)] 93,blk g3 [N64 (yh.ep),Str (yh.par),I (yh.dep:Nat),I (yh.aud:Nat),.slice yh.nsA yh.ns.length yh.nsc] 52,blk g6 [N64 (yh.ep),I 0,Str ((qA7 yh).dig),I 0,I (u%8:Nat),.slice A1 (sgC SDA (u%8) (atM yh.ep 0 0 (qA7 yh).dig)).length c1,.slice A2 (sgP SDA 3 (u%8)).length c2] 199,blk g7 [Str EVE,Str (Wo.opn SDA),Str (Xm.root SDA 3),I (3:Nat)] 34,blk g8 [.slice q.A (bsd x.kvL (qAM 0) 0 (q.s-0)).length q.c,.bool (qAl x.kvL (qAM 0) q.s),Str (qBk x.kvL (qAM 0) q.s),Str (qBo x.kvL (qAM 0) q.s)] 87] [] (.y 0 (.y 1 (.y 2 (.y 3 (.y 4 (.y 5 (.y 6 (.y 7 (.y 8 (.y 9 (.y 10 (.y 11 (.e 12 (.y 13 (.e 14 (.y 15 (.y 16 (.y 17 .nil)))))))))))))))))) Tryz.wide xF xD ?_
 refine J.L ?_
 refine J.j O ((qAe O O O).yes xC) O O<|J.L ?_
 refine J.b8 O (qA2 O O) O O<|J.b8 O (qAB O O) O O<|J.b8 O (qAA O O qLn O sizeOf91 O) O O<|J.b8 O (qAD 0 O O O isAgg91 O) O O<|J.b8 O (qAU 1 O O O qGA qDP O) O O<|J.b8 O (qAU 2 O O O isAgg199 qDD O) O O<|J.b8 O (qAU 3 O O O qLY qDq O) O O<|J.b8 O (qAU 4 O O O qGa qC6 O) O O<|J.b8 O (qAL (places:= [(0,7),(7,4),(11,4)]) (r:= [N64 (yh.ep),I 0,Str ((qA7 yh).dig),I 0,I (u%8:Nat),.slice A1 (sgC SDA (u%8) (atM yh.ep 0 0 (qA7 yh).dig)).length c1,.slice A2 (sgP SDA 3 (u%8)).length c2,Str EVE,Str (Wo.opn SDA),Str (Xm.root SDA 3),I (3:Nat),.slice q.A (bsd x.kvL (qAM 0) 0 (q.s-0)).length q.c,.bool (qAl x.kvL (qAM 0) q.s),Str (qBk x.kvL (qAM 0) q.s),Str (qBo x.kvL (qAM 0) q.s)]) O O O qEg zeroValue206 (λ_=>xI) xI) O O<|J.e0 O (qAE (l:= [.tmp 72]) (xs:= [[N64 (yh.ep),I 0,Str ((qA7 yh).dig),I 0,I (u%8:Nat),.slice A1 (sgC SDA (u%8) (atM yh.ep 0 0 (qA7 yh).dig)).length c1,.slice A2 (sgP SDA 3 (u%8)).length c2,Str EVE,Str (Wo.opn SDA),Str (Xm.root SDA 3),I (3:Nat),.slice q.A (bsd x.kvL (qAM 0) 0 (q.s-0)).length q.c,.bool (qAl x.kvL (qAM 0) q.s),Str (qBk x.kvL (qAM 0) q.s),Str (qBo x.kvL (qAM 0) q.s)]]) O O O O underlying207 el206 O xC xC xD) (Wan.is O O O O O) O O xD ?_
 intro g73 _
 refine J.b8 O (qAL (places:= [(0,5),(5,1)]) (r:= [N64 (yh.ep),Str (yh.par),I (yh.dep:Nat),I (yh.aud:Nat),.slice yh.nsA yh.ns.length yh.nsc,.slice (some ⟨g73,0,none⟩) 1 1]) O O O qPw zeroValue209 (λ_=>xI) O) O O<|J.e0 O (qAK O O ent (Ct.useA [blk gc [I (1:Nat),I (1:Nat),.slice A hd.length c] 279,mh] [blk gr [Ptr x.gs,Ptr gc,Ptr gk,I (u+1:Nat)] 93,mp,U [H,y15.1.G],F,blk g3 [N64 (yh.ep),Str (yh.par),I (yh.dep:Nat),I (yh.aud:Nat),.slice yh.nsA yh.ns.length yh.nsc] 52,blk g6 [N64 (yh.ep),I 0,Str ((qA7 yh).dig),I 0,I (u%8:Nat),.slice A1 (sgC SDA (u%8) (atM yh.ep 0 0 (qA7 yh).dig)).length c1,.slice A2 (sgP SDA 3 (u%8)).length c2] 199,m1,m2,q.m,blk g7 [Str EVE,Str (Wo.opn SDA),Str (Xm.root SDA 3),I (3:Nat)] 34,blk g8 [.slice q.A (bsd x.kvL (qAM 0) 0 (q.s-0)).length q.c,.bool (qAl x.kvL (qAM 0) q.s),Str (qBk x.kvL (qAM 0) q.s),Str (qBo x.kvL (qAM 0) q.s)] 87,blk g73 [N64 (yh.ep),I 0,Str ((qA7 yh).dig),I 0,I (u%8:Nat),.slice A1 (sgC SDA (u%8) (atM yh.ep 0 0 (qA7 yh).dig)).length c1,.slice A2 (sgP SDA 3 (u%8)).length c2,Str EVE,Str (Wo.opn SDA),Str (Xm.root SDA 3),I (3:Nat),.slice q.A (bsd x.kvL (qAM 0) 0 (q.s-0)).length q.c,.bool (qAl x.kvL (qAM 0) q.s),Str (qBk x.kvL (qAM 0) q.s),Str (qBo x.kvL (qAM 0) q.s)] 206] (A':=λr:CaR=> [blk gc [I (1:Nat),I (1:Nat),.slice r.A r.hd.length r.c] 279,r.m]) (new:=λr=> [r.N]) (λF' hF=>by have:=qPJ F' mh (hK.mo hF) gc 1 1 A c hd hR h0 xB hXg (hXn2.mono (Fa hF)) hXs 0 1 xC hXd hXe xC xC xC xC hac WE (qZs _) yh w2 (hyn.mono (Fa hF)) hyl (some ⟨g73,0,none⟩) 1 1 [(vtE x.kvL (qA7 yh) (u%8) A1 c1 A2 c2 q.s q.A q.c)] ((qAm (q:=True) (xs:=qYe [(vtE x.kvL (qA7 yh) (u%8) A1 c1 A2 c2 q.s q.A q.c)]) O (by intro z hz;rw [List.mem_singleton.1 hz];rfl)).sl.mono (hF (blk g73 [N64 (yh.ep),I 0,Str ((qA7 yh).dig),I 0,I (u%8:Nat),.slice A1 (sgC SDA (u%8) (atM yh.ep 0 0 (qA7 yh).dig)).length c1,.slice A2 (sgP SDA 3 (u%8)).length c2,Str EVE,Str (Wo.opn SDA),Str (Xm.root SDA 3),I (3:Nat),.slice q.A (bsd x.kvL (qAM 0) 0 (q.s-0)).length q.c,.bool (qAl x.kvL (qAM 0) q.s),Str (qBk x.kvL (qAM 0) q.s),Str (qBo x.kvL (qAM 0) q.s)] 206) xD)) xC (λi hi=>by obtain rfl:i=0:=by{have:i<1:=hi;omega};exact qYo hkf (by show yh.ep≤_;omega) w3 hu8 hst (hs1.sl.mono (Fa hF)) (hs2.sl.mono (Fa hF)) (hrb.sl.mono (Fa hF)));rw [hce] at this;exact this))) (Wan.is O O O O O) O O xD ?_
 rintro⟨hd5,A5,c5,mc,Nc⟩ ha5
 try dsimp only at ha5
 obtain ⟨A6,c6,hl6,hn6⟩:=ha5.yes rfl
 dsimp only at hl6 hn6
 obtain ⟨yl,hyl_⟩: ∃z:RhD,z=⟨yh.ep,yh.par,yh.dep,yh.aud,A6,c6,yh.ns⟩:=⟨_,rfl⟩
 rw [←hyl_] at hl6
 have hl5:hd5.length=hd.length+1:=by rw [hl6,jA];rfl
 have hylt:qA7 yl=qA7 yh:=by rw [hyl_];rfl
 have hyln:nsl Nc yl:=by rw [hyl_];exact hn6
 refine J.b8 O ((qAe O O O).yes xC) O O<|J.d2 ?_
 refine J.b7 ?_
 refine J.c2 [4,14,0,1,2,3,5] [U [H,y15.1.G],Nc,blk gc [I (1:Nat),I (1:Nat),.slice A5 hd5.length c5] 279,mc,blk gr [Ptr x.gs,Ptr gc,Ptr gk,I (u+1:Nat)] 93,mp,F] O xC<|J.d5 (λhj2=>?_)
 refine J.b0<|J.u (J.D j9 ?_)
 exact J.A<|J.E hw0 O (⟨y15,mp,yl,A5,c5,mc,U [U [H,y15.1.G],Nc]⟩:RpR) O ⟨(qSw hj).trans (qSw hj2),hS2.mono (qSw hj2),hp15,by rw [←hl5,←hl6];exact ha5.row,by rw [hylt,hyh,←SvR.pub_hdL],hyln.mono (qYj hj2)⟩ [1,2,3,4,0,5] (by rw [←hl5];rfl) xC
theorem qQc(s sd:xA)(hs:s.length≤20):qBi (117::upB s (qBH 1 (Wo.opn sd) (Xm.root sd 0) ((0:Nat):Int) qAk) (sgB 0 (sgC sd 0 (qEd s 1 (Wo.opn sd) (Xm.root sd 0) ((0:Nat):Int) qAk)) (sgP sd 0 0))).length≤18:=by
 have h1:=qI4 (i:=0) (qKJ sd 0 (qEd s 1 (Wo.opn sd) (Xm.root sd 0) ((0:Nat):Int) qAk)) (qKI sd (h:=0) (i:=0) xC) (qFX sd 0 (qEd s 1 (Wo.opn sd) (Xm.root sd 0) ((0:Nat):Int) qAk))
 have h2:=qIs s (qBH 1 (Wo.opn sd) (Xm.root sd 0) ((0:Nat):Int) qAk) (sgB 0 (sgC sd 0 (qEd s 1 (Wo.opn sd) (Xm.root sd 0) ((0:Nat):Int) qAk)) (sgP sd 0 0))
 have h3:=qB8 (entE sd)
 have h5:(sgP sd 0 0).length=0:=qDy _ _ _
 rw [jD,h2,h3,h1,h5]
 unfold qBi
 split<;>omega
theorem EpE.put{e:Nat}{x:SvR}(h:EpE e x)(s sd:xA)(y:SbR):EpE e (x.put s sd y):=⟨h.dp,h.hl,h.tl,h.an,h.hdr,h.get⟩
theorem qS2.room{x:SvR}(h:qS2 x){s sd:xA}(hs:s.length≤20)(y:SbR):(x.put s sd y).bk.e+qCh ((x.put s sd y).no++ [cmB (x.put s sd y).no.length (x.put s sd y).hd.length])≤(x.put s sd y).bk.size:=by
 show x.bk.e+qCh ((x.no++ [_])++ [cmB _ _])≤x.bk.size
 rw [qCF,qN5,h.no,h.e0,h.sz,qCF]
 have:=qQc s sd hs
 have e:qCh []=0:=rfl
 rw [e];omega
theorem qS2.get{x:SvR}(h:qS2 x){s sd:xA}(y:SbR)(hI:SvI (x.put s sd y))(r:StR×WrR):Sm.getP ((x.put s sd y).pub r).kvL (Sha.tagged 11 [s])=some (enW sd).val:=by
 rw [SvR.pub_kvL _ r hI.tk]
 have hc:(x.put s sd y).cl= [⟨Sha.tagged 11 [s],(enW sd).val⟩]:=by show x.cl++ [_]=_;rw [h.cl];rfl
 have hb:qCz [(⟨Sha.tagged 11 [s],(enW sd).val⟩:Chg)] 0 0= [⟨Sha.tagged 11 [s],(enW sd).val⟩]:=by
  unfold qCz
  rw [zx (by rw [qZM];rfl)];rfl
 rw [hc,show(x.put s sd y).dp=0 from h.dp]
 show Sm.getP (kvC _ (qCz _ 0 0)) _=_
 rw [hb]
 exact qHS _ _ _
theorem qS2.now_{x:SvR}(h:qS2 x){s sd:xA}(y:SbR)(hI:SvI (x.put s sd y)){m G G2:Hp}{r:StR×WrR}(hp:PbP m G G2 (x.put s sd y) r):qBC (lbE ((x.put s sd y).pub r).now) s= [enW sd]:=by
 refine(qQh hp hI _).trans ?_
 show qBC (lbE (qDG x.nxt _)) s=_
 rw [qRe,qNy,if_pos rfl,h.nxt];rfl
theorem qZw{kv:List Sm.PR}(hf:qCS kv){k:xA}(hk:k.length=16){s0:Nat}(hst:qJy kv k 0 s0){yl:RhD}{e:Nat}{par:xA}(hy:qA7 yl=⟨e,par,((0:Nat):Int),((1:Nat):Int),qAo kv 0⟩){l:List En}{z:En}(hh:En.hist l=0)(h0: ¬l.length=0)(hz:l.getD (l.length-1) qAz=z)(hg:Sm.getP kv k=some z.val):qJw (qCW yl.ns ((yl.dep:Nat):Int)) k l (bsd kv k 0 (s0-0)) (qAl kv k s0) (qBk kv k s0) (qBo kv k s0)=(z,true,0):=by
 have e1:yl.ns=qAo kv 0:=congrArg Hd.nodes hy
 have e2:yl.dep=0:=yJ (congrArg Hd.dep hy)
 rw [←hz]
 refine qZx h0 (by rw [hh];decide) ?_
 have e:=qKZ hf hk hst
 rw [hg,Sm.ndB_zero] at e
 rw [hz,e1,e2,(qJQ hf (d:=0) xC).2]
 exact e
theorem qU7(sd:xA):(enW sd).good:=⟨by show 1<_;decide,by show(Wo.opn sd).length≤_;rw [Wo.opn_length];decide,by show(Xm.root sd 0).length≤_;rw [show(Xm.root sd 0).length=16 from Mk.root_16 _ _];decide,by show qAk.length≤_;decide⟩
attribute [local irreducible] Sha.tagged Wo.pub Wo.publicOf Wo.signs Wo.ends Wo.digs Wo.walk Wo.opn Mk.root Mk.path Mk.climb Xm.root sgC sgP qBH qBX sgB qAM kvT
theorem qL5(F:Hp)(hK:qAG F ⟨3,0,none⟩ (Sha.K.map W32))(hA:qAG F ⟨0,0,none⟩ qBT)(hT:qBv F):Cz prog 19 [] F (.bool true):=by
 refine Ct.walk func19 O ntmps19 O (λw0 hw0=>?_)
 refine J.f λ_ j1=>J.b O<|J.c j1<|J.f λ_ j2=>J.q (qBb O O (λF' hF=>qKv F' (hK.mo hF) (hA.mono (Fa hF)) (hT.mono (Fa hF)))) O ?_
 rintro⟨gr,gk,gc,gh,x,p,ms,G,km⟩ hP
 try dsimp only at hP
 obtain ⟨hS0,hN,hp,hpn,hkey0⟩:=hP
 dsimp only at hS0 hN hp hpn hkey0
 refine J.b O<|J.c2 [2,3,4,5,6,1,0] [G,km,blk gc [I (1:Nat),I (1:Nat),.slice (some ⟨gh,0,none⟩) 1 1] 279,blk gh [N64 (p.ep),Str (p.par),I (p.dep:Nat),I (p.aud:Nat),.slice p.nsA p.ns.length p.nsc] 52,blk gr [Ptr x.gs,Ptr gc,Ptr gk,I (0:Nat)] 93,ms,F] O xC<|J.d5 (λhj0=>?_)
 refine J.c j2<|J.k λ_ j3=>?_
 have hS:Srv ms (U [G,km]) x:=hS0.mono (qSw hj0)
 have hkey:qOH (U [G,km]) gk SDA 3:=hkey0.mono (qYj hj0)
 have hpn1:nsl (U [G,km]) p:=hpn.mono (qSw hj0)
 have hpa:p.aud=1:=yJ (congrArg Hd.aud (show qA7 p=pE by rw [←hp];exact hN.h0))
 refine J.c2 [1,2,3,4,0,5] [blk gc [I (1:Nat),I (1:Nat),.slice (some ⟨gh,0,none⟩) 1 1] 279,blk gh [N64 (p.ep),Str (p.par),I (p.dep:Nat),I (p.aud:Nat),.slice p.nsA p.ns.length p.nsc] 52,blk gr [Ptr x.gs,Ptr gc,Ptr gk,I (0:Nat)] 93,ms,U [G,km],F] O xC<|J.H<|J.q (qBb O O (λF' hF=>qRS F' (hA.mono (Fa hF)) (hT.mono (Fa hF)) [97,108,105,99,101] xC qKx)) O ?_
 rintro⟨gm,gq⟩ _
 refine J.p 5 O<|J.c j3<|J.k λ_ j4=>J.f λ_ j5=>J.b O<|J.g ((qA6 underlying74 O O O).as (v':= .bool false) O) O<|J.p 2 O<|J.G ((qAV O O O).no xC) O<|J.p 3 O<|J.d0 (qAK O O ent (Ct.use1 3 O (λF' hF=>qQR F' ms (U [G,km]) (hK.mo hF) (hA.mono (Fa hF)) (hT.mono (Fa hF)) (Fa hF) x hS gr (Ptr gc) (Ptr gk) (I (0:Nat)) (I (0:Nat)) (qAG.blk0.mono (hF (blk gr [Ptr x.gs,Ptr gc,Ptr gk,I (0:Nat)] 93) xD)) [97,108,105,99,101] xC qKx 0 xC (by rw [hN.no];decide) (by rw [hN.nxt];rfl) (by rw [hN.now];rfl)))) O ?_
 rintro⟨ms1,y1⟩ hS1
 try dsimp only at hS1
 have hE1:EpE 0 (x.put [97,108,105,99,101] (OWS 0) y1):=(hN.toBasE.ep).put _ _ _
 have hI1:=hS1.i
 have hl1:qA7 (([p]:List RhD).getD (([p]:List RhD).length-1) qAY)=qA7 (x.put [97,108,105,99,101] (OWS 0) y1).hdL:=by
  show qA7 p=qA7 (x.hd.getD (x.hd.length-1) qAY)
  rw [hN.hd1,←hp]
 refine J.G (qAs O O) O<|J.p 3 O<|J.d0 (qAK O O ent (Ct.useA [blk gc [I (1:Nat),I (1:Nat),.slice (some ⟨gh,0,none⟩) 1 1] 279,blk gh [N64 (p.ep),Str (p.par),I (p.dep:Nat),I (p.aud:Nat),.slice p.nsA p.ns.length p.nsc] 52,blk gr [Ptr x.gs,Ptr gc,Ptr gk,I (0:Nat)] 93,ms1,U [G,km]] [F,qAN gq (.map #[] 0),blk gm [Str [97,108,105,99,101],.map (some gq),.slice none 0 0] 195] (A':=λr:RpR=> [blk gc [I (1:Nat),I (1:Nat),.slice r.A (([p]:List RhD).length+1) r.c] 279,r.m,blk gr [Ptr (x.put [97,108,105,99,101] (OWS 0) y1).gs,Ptr gc,Ptr gk,I (0+1:Nat)] 93,r.mp,r.H]) (new:=λ_=> []) (λF' hF=>qQS F' (U [G,km]) ms1 (blk gh [N64 (p.ep),Str (p.par),I (p.dep:Nat),I (p.aud:Nat),.slice p.nsA p.ns.length p.nsc] 52) (hK.mo hF) (x.put [97,108,105,99,101] (OWS 0) y1) hS1 0 xC hE1 (hN.room xC y1) gr gc gk 0 xC hkey (some ⟨gh,0,none⟩) 1 [p] (qVn gh p) (by show 0<1;decide) (by show 1≤100;decide) hl1 hpa hpn1))) O ?_
 rintro⟨y26,mp,yl,A26,c26,m26,H2⟩ hR26
 try dsimp only at hR26
 obtain ⟨hle26,hS2,hpb26,hrow26,hyl26,hyn26⟩:=hR26
 dsimp only at hle26 hS2 hpb26 hrow26 hyl26 hyn26
 have hnw:=hN.now_ y1 hI1 hpb26
 have hgt:=hN.get y1 hI1 y26
 have hkf2:=hS2.i.kf
 have hyt:qA7 yl=⟨0+1,(qA7 (x.put [97,108,105,99,101] (OWS 0) y1).hdL).dig,((0:Nat):Int),((1:Nat):Int),qAo ((x.put [97,108,105,99,101] (OWS 0) y1).pub y26).kvL 0⟩:=hyl26.trans (hE1.pub_hd hI1 y26)
 obtain ⟨par0,hpar0,hx0⟩:=hE1.hdr
 obtain ⟨_,_,_,_,w2,_,_⟩:=qJb xC hpar0 hI1.kf hkf2 hx0 hyt
 refine J.G (qAs O O) O<|J.b O<|J.c j5<|J.a3 ?_
 refine J.M j4<|J.f λ_ j6=>J.b O<|J.q (qBb O O (λF' hF=>qCE F' (hK.mo hF) 0 xB)) O ?_
 rintro⟨g30,m30⟩ h30
 try dsimp only at h30
 refine J.q (qAZ O O (λF' hF=>qEw F' g30 (OWS 0) 0 (h30.mono (Fa hF)))) O λg31 _=>J.c2 [7,6,0,1,2,3,4,5,8] [blk gm [Str [97,108,105,99,101],.map (some gq),.slice none 0 0] 195,qAN gq (.map #[] 0),blk gc [I (1:Nat),I (1:Nat),.slice A26 (([p]:List RhD).length+1) c26] 279,m26,blk gr [Ptr (x.put [97,108,105,99,101] (OWS 0) y1).gs,Ptr gc,Ptr gk,I (0+1:Nat)] 93,mp,H2,F,m30] O xC<|J.q (qAK O O ent (Ct.useA [blk gm [Str [97,108,105,99,101],.map (some gq),.slice none 0 0] 195,qAN gq (.map #[] 0)] [blk gc [I (1:Nat),I (1:Nat),.slice A26 (([p]:List RhD).length+1) c26] 279,m26,blk gr [Ptr (x.put [97,108,105,99,101] (OWS 0) y1).gs,Ptr gc,Ptr gk,I (0+1:Nat)] 93,mp,H2,F,m30] (A':=λm:Hp=> [blk gm [Str [97,108,105,99,101],.map (some gq),.slice none 0 0] 195,m]) (new:=λ_=> []) (λF' hF=>qRR F' (qAN gq (.map #[] 0)) gm gq [97,108,105,99,101] none 0 0 [] (qF0.nil pkK gq) ((Wo.opn (OWS 0),Xm.root (OWS 0) 0,0):Pk) xD))) O ?_
 rintro mk32 hk32
 refine J.c j6<|J.f λ_ j7=>J.b O<|J.g (qAB O O) O<|J.W 0 qLn qVe O O O O O<|J.a6 4 isAgg28 O O O O O<|J.q (qBb O O (λF' hF=>qGJ F' (hK.mo hF) ((x.put [97,108,105,99,101] (OWS 0) y1).pub y26) hS2.i (hS2.cells.mono (Fa hF)) (hS2.tsl.mono (Fa hF)) (hS2.tree.mono (Fa hF)) (hS2.p.nw.mono (Fa hF)) (hS2.p.nl.mono (Fa hF)) [97,108,105,99,101] xC)) O ?_
 rintro r38 hr38
 have hro38:=hr38.ro
 rw [hnw] at hro38⊢
 refine J.p 3 O<|J.q (qAJ O qYk O) O λg4 _=>J.a7 (qAC (i:=11) (l:= [Str [],.slice none 0 0,.slice none 0 0,.bool false,Str [],Str []]) (vs:= [Str [97,108,105,99,101],.slice r38.A ([(enW (OWS 0))]:List En).length r38.c,.slice r38.bA (bsd ((x.put [97,108,105,99,101] (OWS 0) y1).pub y26).kvL (Sha.tagged 11 [[97,108,105,99,101]]) 0 (r38.s-0)).length r38.bc,.bool (qAl ((x.put [97,108,105,99,101] (OWS 0) y1).pub y26).kvL (Sha.tagged 11 [[97,108,105,99,101]]) r38.s),Str (qBk ((x.put [97,108,105,99,101] (OWS 0) y1).pub y26).kvL (Sha.tagged 11 [[97,108,105,99,101]]) r38.s),Str (qBo ((x.put [97,108,105,99,101] (OWS 0) y1).pub y26).kvL (Sha.tagged 11 [[97,108,105,99,101]]) r38.s)]) O O O O O qS4 O O) O O λ_ _=>J.b O<|J.c j7<|J.k λ_ j8=>J.c6 [0,12,1,2,3,4,5,6,7,11,9,10] [blk gm [Str [97,108,105,99,101],.map (some gq),.slice none 0 0] 195,(λ_=>none),mk32,blk gc [I (1:Nat),I (1:Nat),.slice A26 (([p]:List RhD).length+1) c26] 279,m26,blk gr [Ptr (x.put [97,108,105,99,101] (OWS 0) y1).gs,Ptr gc,Ptr gk,I (0+1:Nat)] 93,mp,H2,F,blk g4 [Str [97,108,105,99,101],.slice r38.A ([(enW (OWS 0))]:List En).length r38.c,.slice r38.bA (bsd ((x.put [97,108,105,99,101] (OWS 0) y1).pub y26).kvL (Sha.tagged 11 [[97,108,105,99,101]]) 0 (r38.s-0)).length r38.bc,.bool (qAl ((x.put [97,108,105,99,101] (OWS 0) y1).pub y26).kvL (Sha.tagged 11 [[97,108,105,99,101]]) r38.s),Str (qBk ((x.put [97,108,105,99,101] (OWS 0) y1).pub y26).kvL (Sha.tagged 11 [[97,108,105,99,101]]) r38.s),Str (qBo ((x.put [97,108,105,99,101] (OWS 0) y1).pub y26).kvL (Sha.tagged 11 [[97,108,105,99,101]]) r38.s)] 89,r38.mb,r38.m] O xC<|J.b1 [blk gr [Ptr (x.put [97,108,105,99,101] (OWS 0) y1).gs,Ptr gc,Ptr gk,I (0+1:Nat)] 93,blk g4 [Str [97,108,105,99,101],.slice r38.A ([(enW (OWS 0))]:List En).length r38.c,.slice r38.bA (bsd ((x.put [97,108,105,99,101] (OWS 0) y1).pub y26).kvL (Sha.tagged 11 [[97,108,105,99,101]]) 0 (r38.s-0)).length r38.bc,.bool (qAl ((x.put [97,108,105,99,101] (OWS 0) y1).pub y26).kvL (Sha.tagged 11 [[97,108,105,99,101]]) r38.s),Str (qBk ((x.put [97,108,105,99,101] (OWS 0) y1).pub y26).kvL (Sha.tagged 11 [[97,108,105,99,101]]) r38.s),Str (qBo ((x.put [97,108,105,99,101] (OWS 0) y1).pub y26).kvL (Sha.tagged 11 [[97,108,105,99,101]]) r38.s)] 89] [] (.y 0 (.y 1 (.y 2 (.y 3 (.y 4 (.y 5 (.e 6 (.y 7 (.y 8 (.y 9 (.y 10 (.y 11 .nil)))))))))))) Tryz.wide xF xD ?_
 refine J.L ?_
 refine J.L ?_
 refine J.j O (qAB O O) O O<|J.j O (qAA O O qLn O sizeOf91 O) O O<|J.j O (qAD 0 O O O isAgg91 O) O O<|J.j O (qAU 1 O O O isAgg89 qS4 O) O O<|J.a1 O (qAK O O ent (Ct.useA [blk gm [Str [97,108,105,99,101],.map (some gq),.slice none 0 0] 195,(λ_=>none)] [mk32,blk gc [I (1:Nat),I (1:Nat),.slice A26 (([p]:List RhD).length+1) c26] 279,m26,blk gr [Ptr (x.put [97,108,105,99,101] (OWS 0) y1).gs,Ptr gc,Ptr gk,I (0+1:Nat)] 93,mp,H2,F,blk g4 [Str [97,108,105,99,101],.slice r38.A ([(enW (OWS 0))]:List En).length r38.c,.slice r38.bA (bsd ((x.put [97,108,105,99,101] (OWS 0) y1).pub y26).kvL (Sha.tagged 11 [[97,108,105,99,101]]) 0 (r38.s-0)).length r38.bc,.bool (qAl ((x.put [97,108,105,99,101] (OWS 0) y1).pub y26).kvL (Sha.tagged 11 [[97,108,105,99,101]]) r38.s),Str (qBk ((x.put [97,108,105,99,101] (OWS 0) y1).pub y26).kvL (Sha.tagged 11 [[97,108,105,99,101]]) r38.s),Str (qBo ((x.put [97,108,105,99,101] (OWS 0) y1).pub y26).kvL (Sha.tagged 11 [[97,108,105,99,101]]) r38.s)] 89,r38.mb,r38.m] (A':=λr:SeR=> [blk gm [Str [97,108,105,99,101],.map (some gq),.slice r.A (qOc [97,108,105,99,101] [97,108,105,99,101] 0 [] ([(enW (OWS 0))]:List En)).length r.c] 195,r.m]) (new:=λ_=> []) (λF' hF=>qRP F' (λ_=>none) gm gq [97,108,105,99,101] none 0 [] qBZ.nil xC [((Wo.opn (OWS 0),Xm.root (OWS 0) 0,0):Pk)] (hk32.at.mono (Fa hF)) [97,108,105,99,101] r38.A ([(enW (OWS 0))]:List En).length r38.c ([(enW (OWS 0))]:List En) (hro38.sl.mono (Fa hF)) xC r38.bA _ r38.bc _ _ _ (Ptr gc) (enW (OWS 0)) true 0 (λF'' hl=>by have:=qSS F'' (hK.mono ((hF F xD).trans hl)) gc 1 1 A26 2 c26 ([p]++ [yl]) (hrow26.sl.mono ((hF m26 xD).trans hl)) xC xC (qAG.blk0.mono ((hF (blk gc [I (1:Nat),I (1:Nat),.slice A26 (([p]:List RhD).length+1) c26] 279) xD).trans hl)) w2 (hyn26.mono ((hF H2 xD).trans hl)) (by show∀s∈yl.ns,_;rw [show yl.ns=qAo ((x.put [97,108,105,99,101] (OWS 0) y1).pub y26).kvL 0 from congrArg Hd.nodes hyt];exact qEm _) [97,108,105,99,101] xC r38.A ([(enW (OWS 0))]:List En).length r38.c [(enW (OWS 0))] (hro38.sl.mono ((hF r38.m xD).trans hl)) (λz hz=>by rw [List.mem_singleton.1 hz];exact qU7 _) xC r38.bA r38.bc _ (hr38.rb.sl.mono ((hF r38.mb xD).trans hl)) _ _ _ (qEN hkf2 (Sha.tagged_length _ _) hr38.st) (qEQ hkf2 _ _);rw [show([p]++ [yl]:List RhD).getD (2-1) qAY=yl from rfl,qZw hkf2 (Sha.tagged_length _ _) hr38.st hyt (En.hist1 (enW (OWS 0)) O O) xC O hgt] at this;exact this)))) O xD ?_
 rintro⟨A48,c48,m48⟩ h48
 try dsimp only at h48
 have hsE:qID [97,108,105,99,101] [97,108,105,99,101] 0 [] ([(enW (OWS 0))]:List En)=0:=by unfold qID;rw [if_neg (λh=>h rfl),if_neg (λh=>h rfl),if_neg xC,if_neg (λh=>h rfl)]
 have hsL:(qOc [97,108,105,99,101] [97,108,105,99,101] 0 [] ([(enW (OWS 0))]:List En))=([(enW (OWS 0))]:List En):=by unfold qOc;rw [hsE,if_pos rfl]
 have hsB:qVl [((Wo.opn (OWS 0),Xm.root (OWS 0) 0,0):Pk)] [97,108,105,99,101] [97,108,105,99,101] 0 [] ([(enW (OWS 0))]:List En)=true:=by unfold qVl;rw [hsE];simp [qCU,qPU]
 rw [hsL] at h48⊢
 rw [hsB,hsE]
 refine J.L ?_
 refine J.c7 (.bool true) ?_
 refine J.c7 (I (0:Nat)) ?_
 refine J.b7 ?_
 refine J.b7 ?_
 refine J.b0<|J.u (J.D j8 ?_)
 refine J.f λ_ j9=>J.b O<|J.g ((qAe O O O).yes xC) O<|J.p 5 O<|J.d0 (qBb O O (λF' hF=>qHI F' gm gq [97,108,105,99,101] A48 ([(enW (OWS 0))]:List En).length c48 ([(enW (OWS 0))]:List En) (h48.sl.mono (Fa hF)) xC (qAG.blk0.mono (hF (blk gm [Str [97,108,105,99,101],.map (some gq),.slice A48 ([(enW (OWS 0))]:List En).length c48] 195) xD)))) O ?_
 rintro⟨A58,c58,m58⟩ h58
 try dsimp only at h58
 exact J.G (qAO qCK O O) O<|J.G ((qAe O O O).yes (O)) O<|J.p 2 O<|J.c j9<|J.A<|J.E hw0 O () O trivial [8] O xC
end Go.Proofs.YtmemgokiolfdoaaGreatDoor